import PyProof.Rows.All
import Wide.All
import OpenK.AllK
import Wide.FinOn
import HandS.ForMost
import HandS.ForExc
import HandS.Walk
import HandS.Conv
import HandS.Strs
import HandS.TupAny
import HandS.TupMul
import HandS.Style
import HandS.Deep
import HandS.Small
import HandS.More
import HandS.SetFor
import HandS.TryOnly
import HandS.ExcOwn
import HandS.Zip
import HandS.Iter
import HandS.Zip0
import HandS.ExcInit
import HandS.HeadEnd
import HandS.Defaults
import HandS.Head0
import HandS.Head1
import HandS.Head2
import HandS.HeadHook1
import HandS.HeadHook2
import HandS.HeadHook3
import HandS.HeadHook4
import HandS.Base
import HandS.Call
import HandS.Ends
import HandS.Words
import PyProof.Rows.StrMeet
import PySem.Challenge.RW_boundcode_k91_whole_images_turns_and_rin
section
set_option Elab.async false
set_option linter.all false
set_option maxRecDepth 100000
/-! A small deterministic interpreter: values with tuples by value, a heap of lists and dicts by number. -/
namespace Ly
open PySem PySem.Spec PyProof.Rows L2

/-- a value; rol: a list that is only read -/
inductive L where
  | non | bl (b : Bool) | int (i : Int) | str (x : Str) | tup (xs : List L) | rol (xs : List L) | ref (r : Nat)
  deriving Inhabited
/-- an object; fz: a dict that is walked -/
inductive LO where
  | lst (xs : List L) | dk (kvs : List (Key × L)) | fz (kvs : List (Key × L)) | si (ns : List Int)
  deriving Inhabited
abbrev LH := List LO
abbrev LS := List (Option L)
/-- exceptions: the class's number, the field's value -/
inductive R (α : Type) where
  | ok (a : α) (h : LH) | exc (c : Nat) (v : L) (h : LH) | bad
def R.bind {α β : Type} (r : R α) (f : α → LH → R β) : R β := match r with
  | .ok a h => f a h
  | .exc c v h => .exc c v h
  | .bad => .bad
inductive RS where
  | nx (sl : LS) (h : LH) | rt (v : L) (h : LH) | bk (sl : LS) (h : LH) | ct (sl : LS) (h : LH) | exc (c : Nat) (v : L) (sl : LS) (h : LH) | bad
/-- an expression's answer used by a statement -/
def R.st {α : Type} (r : R α) (sl : LS) (f : α → LH → RS) : RS := match r with
  | .ok a h => f a h
  | .exc c v h => .exc c v sl h
  | .bad => .bad
def RS.then (r : RS) (f : LS → LH → RS) : RS := match r with
  | .nx sl h => f sl h
  | r => r

/-! ### syntax -/
inductive Blt where
  | len | max | min | abs | sum | sorted | list | tuple | set | int | repr | divmod | all | any
  deriving DecidableEq
inductive Mth where
  | append | extend | pop | index
  deriving DecidableEq
mutual
inductive E where
  | var (i : Nat) | int (i : Int) | str (x : Str) | bl (b : Bool) | non | glo (x : Str)
  | tup (es : Es) | lst (es : Es) | dict
  | bin (op : Operator) (a b : E) | neg (a : E) | not (a : E)
  | cmp (op : CmpOp) (a b : E) | chain (op op' : CmpOp) (a b c : E)
  | and (a b : E) | or (a b : E) | ife (c a b : E)
  | idx (a b : E) | slc (a lo hi : E) | gdict (x : Str) (a : E)
  | lrg (a : E)
  | call (f : Nat) (es : Es) | callk (f : Nat) (es : Es) (pm : List Nat)
  | blt (f : Blt) (es : Es) | meth (m : Mth) (o : E) (es : Es)
  | lc (own : List Nat) (tg : T) (it : I) (cond : E) (elt : E)
inductive Es where
  | nil | cons (e : E) (es : Es)
inductive T where
  | name (i : Nat) | tup (ts : Ts) | sub (o i : E)
inductive Ts where
  | nil | cons (t : T) (ts : Ts)
inductive I where
  | val (e : E) | rng1 (a : E) | rng2 (a b : E) | rng3 (a b c : E) | enum (e : E) | zip (a b : E) | keys (e : E)
end
mutual
inductive S where
  | set (i : Nat) (e : E) | asg (t : T) (e : E) | expr (e : E) | ret (e : E) | retn | pass | brk | cnt
  | ifs (c : E) (a b : Ss) | whl (c : E) (b : Ss) | fors (t : T) (it : I) (b : Ss)
  | rai (c : Nat) (e : E) | tryo (b : Ss) (c : Nat) (su : Ss) | never
inductive Ss where
  | nil | cons (s : S) (ss : Ss)
end
def E.isNon : E → Bool
  | .non => true
  | _ => false
def Es.len : Es → Nat
  | .nil => 0
  | .cons _ es => es.len + 1
def Ts.len : Ts → Nat
  | .nil => 0
  | .cons _ es => es.len + 1

/-! ### data of a value -/
def mapO {α β : Type} (f : α → Option β) : List α → Option (List β)
  | [] => some []
  | x :: xs => match f x, mapO f xs with
    | some y, some ys => some (y :: ys)
    | _, _ => none
/-- flat values -/
def L.fv : L → Option V
  | .non => some .non
  | .bl b => some (.bl b)
  | .int i => some (.int i)
  | .str x => some (.str x)
  | _ => none
def L.int? : L → Option Int
  | .int i => some i
  | _ => none
def L.str? : L → Option Str
  | .str x => some x
  | _ => none
def L.bl? : L → Option Bool
  | .bl b => some b
  | _ => none
def L.key : L → Option Key
  | .int i => some (.inl i)
  | .str x => some (.inr x)
  | _ => none
def kL : Key → L
  | .inl i => .int i
  | .inr x => .str x
def toD (h : LH) : Nat → L → Option PyData
  | 0, _ => none
  | _ + 1, .non => some .none
  | _ + 1, .bl b => some (.bool b)
  | _ + 1, .int i => some (.int i)
  | _ + 1, .str x => some (.str x)
  | n + 1, .tup xs => (mapO (toD h n) xs).map .tuple
  | n + 1, .rol xs => (mapO (toD h n) xs).map .list
  | n + 1, .ref r => match h[r]? with
    | some (.lst xs) => (mapO (toD h n) xs).map .list
    | _ => none
def deepest : Nat := 40
/-- a list that may be read -/
def lstAt (h : LH) : L → Option (List L)
  | .ref r => match h[r]? with
    | some (.lst xs) => some xs
    | _ => none
  | .rol xs => some xs
  | _ => none
/-- a list or tuple that may be read -/
def seqAt (h : LH) : L → Option (List L)
  | .tup xs => some xs
  | v => lstAt h v
def newL (h : LH) (xs : List L) : Option (L × LH) := if xs.length ≤ sizeLine then some (.ref h.length, h ++ [.lst xs]) else none

/-! ### dicts -/
def valK {α : Type} (kvs : List (Key × α)) (k : Key) : Option α := (kvs.find? fun kv => decide (kv.1 = k)).map (·.2)
def putD {α : Type} (kvs : List (Key × α)) (k : Key) (v : α) : List (Key × α) :=
  if kvs.any fun kv => decide (kv.1 = k) then kvs.map fun kv => if kv.1 = k then (kv.1, v) else kv else kvs ++ [(k, v)]

/-! ### operators -/
def mulOk (i j : Int) : Bool := (decide (-(2 ^ 64) < i) && decide (i < 2 ^ 64)) || (decide (-(2 ^ 64) < j) && decide (j < 2 ^ 64))
def binL : Operator → L → L → LH → Option (L × LH)
  | .Add, .int i, .int j, h => some (.int (i + j), h)
  | .Add, .str x, .str y, h => if x.length + y.length ≤ sizeLine then some (.str (x ++ y), h) else none
  | .Add, .tup x, .tup y, h => if x.length + y.length ≤ sizeLine then some (.tup (x ++ y), h) else none
  | .Add, .ref a, .ref b, h => match h[a]?, h[b]? with
    | some (.lst x), some (.lst y) => newL h (x ++ y)
    | _, _ => none
  | .Sub, .int i, .int j, h => some (.int (i - j), h)
  | .Mult, .int i, .int j, h => if mulOk i j = true then some (.int (i * j), h) else none
  | .Mult, .ref a, .int k, h => match h[a]? with
    | some (.lst x) => if 0 ≤ k ∧ k < 1000 ∧ x.length ≤ 1000 then newL h (List.replicate k.toNat x).flatten else none
    | _ => none
  | .Mult, .str x, .int k, h => if 0 ≤ k ∧ k < 30000 ∧ x.length = 1 then some (.str ⟨(List.replicate k.toNat x.cps.toList).flatten.toArray⟩, h) else none
  | .FloorDiv, .int i, .int j, h => if j ≠ 0 ∧ j.natAbs < 1073741824 then some (.int (i.fdiv j), h) else none
  | .Mod, .int i, .int j, h => if j ≠ 0 then some (.int (i.fmod j), h) else none
  | .Pow, .int i, .int j, h => if 0 ≤ j ∧ j ≤ 1000000 ∧ i.natAbs < 2 ^ 64 then some (.int (i ^ j.toNat), h) else none
  | _, _, _, _ => none
def eqL (x y : L) (h : LH) : Option Bool := match toD h deepest x, toD h deepest y with
  | some d, some e => if SeqAt.shaped d = true ∧ SeqAt.shaped e = true then some (PyData.eqv d e) else none
  | _, _ => none
def inL (x y : L) (h : LH) : Option Bool := match seqAt h y with
  | some xs => match x.fv, mapO L.fv xs with
    | some a, some bs => some (inV a bs)
    | _, _ => none
  | none => match y with
    | .ref r => match h[r]?, x.key with
      | some (.dk kvs), some k => some (valK kvs k).isSome
      | _, _ => none
    | _ => none
def isNon : L → Bool
  | .non => true
  | _ => false
def cmpL : CmpOp → L → L → LH → Option Bool
  | .Eq, x, y, h => eqL x y h
  | .NotEq, x, y, h => (eqL x y h).map not
  | .Lt, .int i, .int j, _ => some (decide (i < j))
  | .LtE, .int i, .int j, _ => some (decide (i ≤ j))
  | .Gt, .int i, .int j, _ => some (decide (j < i))
  | .GtE, .int i, .int j, _ => some (decide (j ≤ i))
  | .Is, x, .non, _ => some (isNon x)
  | .IsNot, x, .non, _ => some (!isNon x)
  | .In, x, y, h => inL x y h
  | .NotIn, x, y, h => (inL x y h).map not
  | _, _, _, _ => none
def okB (o : Option Bool) (h : LH) : Option (L × LH) := match o with
  | some b => some (.bl b, h)
  | none => none
def okV (o : Option L) (h : LH) : Option (L × LH) := match o with
  | some v => some (v, h)
  | none => none
def atL (xs : List L) (y : L) (h : LH) : Option (L × LH) := match y with
  | .int i => okV (atI xs i) h
  | _ => none
def atD (x y : L) (h : LH) : Option (L × LH) := match x with
  | .ref r => match h[r]?, y.key with
    | some (.dk kvs), some k => okV (valK kvs k) h
    | _, _ => none
  | _ => none
def atS (x : Str) (y : L) (h : LH) : Option (L × LH) := match y with
  | .int i => if x.length ≤ sizeLine then (match atI x.cps.toList i with
    | some c => some (.str ⟨#[c]⟩, h)
    | none => none) else none
  | _ => none
def idxL (x y : L) (h : LH) : Option (L × LH) := match x with
  | .str x => atS x y h
  | x => match seqAt h x with
    | some xs => atL xs y h
    | none => atD x y h
def cut {α : Type} (xs : List α) (lo hi : Option Int) : List α := (xs.drop (HT.sIx xs.length 0 lo)).take (HT.sIx xs.length xs.length hi - HT.sIx xs.length 0 lo)
def slcA (x : L) (lo hi : Option Int) (h : LH) : Option (L × LH) := match x with
  | .tup xs => some (.tup (cut xs lo hi), h)
  | v => match lstAt h v with
    | some xs => newL h (cut xs lo hi)
    | none => none
def partX : Bool → L → Option (Option Int)
  | true, _ => some none
  | false, .int i => some (some i)
  | false, _ => none
def onP {α β : Type} (o : Option α) (f : α → R β) : R β := match o with
  | some a => f a
  | none => .bad

/-! ### built-ins -/
def maxI : List Int → Int
  | [] => 0
  | [x] => x
  | x :: xs => let m := maxI xs; if m > x then m else x
def minI : List Int → Int
  | [] => 0
  | [x] => x
  | x :: xs => let m := minI xs; if m < x then m else x
def insI (x : Int) : List Int → List Int
  | [] => [x]
  | y :: ys => if x ≤ y then x :: y :: ys else y :: insI x ys
def sortI : List Int → List Int
  | [] => []
  | x :: xs => insI x (sortI xs)
def insS (x : Str) : List Str → List Str
  | [] => [x]
  | y :: ys => if ltCps y.cps.toList x.cps.toList = true then y :: insS x ys else x :: y :: ys
def sortS : List Str → List Str
  | [] => []
  | x :: xs => insS x (sortS xs)
def dedI : List Int → List Int
  | [] => []
  | x :: xs => if x ∈ xs then dedI xs else x :: dedI xs
def refO (h : LH) : L → Option LO
  | .ref r => h[r]?
  | _ => none
def catR (h : LH) : List L → Option (List L)
  | [] => some []
  | x :: xs => (match refO h x with
    | some (.lst zs) => (catR h xs).map (zs ++ ·)
    | _ => none)
def intK : Key → Option Int
  | .inl i => some i
  | .inr _ => none
def gotI (h : LH) (v : L) : Option (List Int) := (lstAt h v).bind (mapO L.int?)
def gotB (h : LH) (v : L) : Option (List Bool) := (lstAt h v).bind (mapO L.bl?)
def one (f : L → LH → Option (L × LH)) : List L → LH → Option (L × LH)
  | [v], h => f v h
  | _, _ => none
def two (f : L → L → LH → Option (L × LH)) : List L → LH → Option (L × LH)
  | [v, w], h => f v w h
  | _, _ => none
def ot (f : L → LH → Option (L × LH)) (g : L → L → LH → Option (L × LH)) : List L → LH → Option (L × LH)
  | [v], h => f v h
  | [v, w], h => g v w h
  | _, _ => none
def lenO (h : LH) (o : Option (List L)) : Option (L × LH) := o.bind fun xs => some (.int xs.length, h)
def len1 : L → LH → Option (L × LH)
  | .str x, h => if x.length ≤ sizeLine then some (.int x.length, h) else none
  | v, h => lenO h (seqAt h v)
def maxN (h : LH) : List Int → Option (L × LH)
  | [] => none
  | n :: ns => some (.int (maxI (n :: ns)), h)
def minN (h : LH) : List Int → Option (L × LH)
  | [] => none
  | n :: ns => some (.int (minI (n :: ns)), h)
def max1 (v : L) (h : LH) : Option (L × LH) := (gotI h v).bind (maxN h)
def min1 (v : L) (h : LH) : Option (L × LH) := (gotI h v).bind (minN h)
def max2 : L → L → LH → Option (L × LH)
  | .int i, .int j, h => some (.int (if j > i then j else i), h)
  | _, _, _ => none
def min2 : L → L → LH → Option (L × LH)
  | .int i, .int j, h => some (.int (if j < i then j else i), h)
  | _, _, _ => none
def abs1 : L → LH → Option (L × LH)
  | .int i, h => some (.int (if i < 0 then -i else i), h)
  | _, _ => none
def sum1 (v : L) (h : LH) : Option (L × LH) := (gotI h v).bind fun ns => some (.int ns.sum, h)
def sumX (h : LH) (w : L) : List L → List L → Option (L × LH)
  | [], _ => some (w, h)
  | _ :: _, ys => newL h ys
def sumW (h : LH) (w : L) (xs : List L) : Option LO → Option (L × LH)
  | some (.lst []) => (catR h xs).bind fun ys => sumX h w xs ys
  | _ => none
def sum2 (v w : L) (h : LH) : Option (L × LH) := (lstAt h v).bind fun xs => sumW h w xs (refO h w)
def srtS (h : LH) (xs : List L) : Option (L × LH) := (mapO L.str? xs).bind fun zs => newL h ((sortS zs).map .str)
def srtI (h : LH) (xs : List L) : Option (List Int) → Option (L × LH)
  | some ns => newL h ((sortI ns).map .int)
  | none => srtS h xs
def srtL (h : LH) (xs : List L) : Option (L × LH) := if xs.length < 64 then srtI h xs (mapO L.int? xs) else none
def srtO (h : LH) : Option LO → Option (L × LH)
  | some (.si ns) => if ns.length < 64 then newL h ((sortI ns).map .int) else none
  | some (.dk kvs) => if kvs.length < 64 then (mapO intK (kvs.map (·.1))).bind fun ns => newL h ((sortI ns).map .int) else none
  | _ => none
def srt1 (v : L) (h : LH) : Option (L × LH) := match lstAt h v with
  | some xs => srtL h xs
  | none => srtO h (refO h v)
def keysO (h : LH) : Option LO → Option (L × LH)
  | some (.dk kvs) => newL h (kvs.map fun kv => kL kv.1)
  | _ => none
def lst1 (v : L) (h : LH) : Option (L × LH) := match seqAt h v with
  | some xs => newL h xs
  | none => keysO h (refO h v)
def tup1 (v : L) (h : LH) : Option (L × LH) := (seqAt h v).bind fun xs => some (.tup xs, h)
def set1 (v : L) (h : LH) : Option (L × LH) := (gotI h v).bind fun ns => if ns.length ≤ 1000 then some (.ref h.length, h ++ [.si (dedI ns)]) else none
def int1 : L → LH → Option (L × LH)
  | .int i, h => some (.int i, h)
  | .bl b, h => some (.int (if b then 1 else 0), h)
  | _, _ => none
def isHeap : L → Bool
  | .ref _ => true
  | .tup _ => true
  | .rol _ => true
  | _ => false
def rep1 (v : L) (h : LH) : Option (L × LH) := if isHeap v = true then (toD h deepest v).bind fun d => if d.showable = true ∧ d.hasDict = false ∧ d.shown.length ≤ sizeLine then some (.str d.shown, h) else none else none
def dvm2 : L → L → LH → Option (L × LH)
  | .int i, .int j, h => if 0 < j ∧ j < 1073741824 then some (.tup [.int (i / j), .int (i % j)], h) else none
  | _, _, _ => none
def all1 (v : L) (h : LH) : Option (L × LH) := (gotB h v).bind fun bs => some (.bl (bs.all id), h)
def any1 (v : L) (h : LH) : Option (L × LH) := (gotB h v).bind fun bs => some (.bl (bs.any id), h)
def bltL : Blt → List L → LH → Option (L × LH)
  | .len => one len1
  | .max => ot max1 max2
  | .min => ot min1 min2
  | .abs => one abs1
  | .sum => ot sum1 sum2
  | .sorted => one srt1
  | .list => one lst1
  | .tuple => one tup1
  | .set => one set1
  | .int => one int1
  | .repr => one rep1
  | .divmod => two dvm2
  | .all => one all1
  | .any => one any1
def firstEq (a : V) : List V → Option Nat
  | [] => none
  | b :: bs => if eqV b a = true then some 0 else (firstEq a bs).map (· + 1)
def appO (h : LH) (r : Nat) (v : L) : Option LO → Option (L × LH)
  | some (.lst xs) => if xs.length < sizeLine then some (.non, h.set r (.lst (xs ++ [v]))) else none
  | _ => none
def extO (h : LH) (r : Nat) : Option LO → Option LO → Option (L × LH)
  | some (.lst xs), some (.lst ys) => if xs.length + ys.length ≤ sizeLine then some (.non, h.set r (.lst (xs ++ ys))) else none
  | _, _ => none
def popN (h : LH) (r : Nat) (xs : List L) : Option (L × LH) := xs.getLast?.bind fun y => some (y, h.set r (.lst xs.dropLast))
def popO (h : LH) (r : Nat) : Option LO → Option (L × LH)
  | some (.lst xs) => popN h r xs
  | _ => none
def idx2 (v y : L) (h : LH) : Option (L × LH) := (lstAt h v).bind fun xs => y.fv.bind fun a => (mapO L.fv xs).bind fun bs => (firstEq a bs).bind fun j => some (.int (j : Nat), h)
def methL : Mth → L → List L → LH → Option (L × LH)
  | .append, .ref r, [v], h => appO h r v h[r]?
  | .extend, .ref r, [.ref q], h => extO h r h[r]? h[q]?
  | .pop, .ref r, [], h => popO h r h[r]?
  | .index, v, [y], h => idx2 v y h
  | _, _, _, _ => none
/-- o[i] = v -/
def putA (h : LH) (r : Nat) (xs : List L) (v : L) : L → Option LH
  | .int k => (ixN xs.length k).map fun j => h.set r (.lst (xs.set j v))
  | _ => none
def putK' (h : LH) (r : Nat) (kvs : List (Key × L)) (v : L) : Option Key → Option LH
  | some k => if kvs.length < sizeLine then some (h.set r (.dk (putD kvs k v))) else none
  | none => none
def putO (h : LH) (r : Nat) (i v : L) : Option LO → Option LH
  | some (.lst xs) => putA h r xs v i
  | some (.dk kvs) => putK' h r kvs v i.key
  | _ => none
def putL (o i v : L) (h : LH) : Option LH := match o with
  | .ref r => putO h r i v h[r]?
  | _ => none

/-! ### what is walked -/
inductive LIt where
  | lst (r : Nat) | vals (xs : List L) | enl (r : Nat) | zll (r q : Nat) | kys (r : Nat)
/-- the i-th: none: it cannot be said; some none: the end -/
def lstO (o : Option LO) : Option (List L) := match o with
  | some (.lst xs) => some xs
  | _ => none
def fzO (o : Option LO) : Option (List (Key × L)) := match o with
  | some (.fz kvs) => some kvs
  | _ => none
def pairAt : Option L → Option L → Option L
  | some x, some y => some (.tup [x, y])
  | _, _ => none
def LIt.at : LIt → LH → Nat → Option (Option L)
  | .lst r, h, i => (lstO h[r]?).map fun xs => xs[i]?
  | .vals xs, _, i => some xs[i]?
  | .enl r, h, i => (lstO h[r]?).map fun xs => xs[i]?.map fun x => .tup [.int i, x]
  | .kys r, h, i => (fzO h[r]?).map fun kvs => kvs[i]?.map fun kv => kL kv.1
  | .zll r q, h, i => (lstO h[r]?).bind fun xs => (lstO h[q]?).map fun ys => pairAt xs[i]? ys[i]?
/-- how many turns at most -/
def whileFuel : Nat := 1000000000000
def zipV : List L → List L → List L
  | x :: xs, y :: ys => .tup [x, y] :: zipV xs ys
  | _, _ => []
def enumV (i : Nat) : List L → List L
  | [] => []
  | x :: xs => .tup [.int i, x] :: enumV (i + 1) xs
def rngV (lo c : Int) (n : Nat) : List L := (List.range n).map fun i => .int (lo + (i : Nat) * c)
def near62 (i : Int) : Bool := decide (-(2 ^ 62) ≤ i) && decide (i < 2 ^ 62)
def walkOf (v : L) (h : LH) : Option LIt := match v with
  | .ref r => (match h[r]? with
    | some (.lst _) => some (.lst r)
    | _ => none)
  | .tup xs => some (.vals xs)
  | .rol xs => some (.vals xs)
  | .str x => some (.vals (x.cps.toList.map fun c => .str ⟨#[c]⟩))
  | _ => none

/-! ### the interpreter -/
/-- an operator's answer -/
def ofO (o : Option (L × LH)) : R L := match o with
  | some p => .ok p.1 p.2
  | none => .bad
abbrev Cl := Nat → List L → LH → R L
/-- the module's constants, its dicts of texts, how a def is called -/
structure Gm where
  gl : List (Str × L)
  gd : List (Str × List (Str × L))
  cl : Cl
def wipeL (sl : LS) : List Nat → LS
  | [] => sl
  | v :: vs => (wipeL sl vs).set v none
def kwPut (pm : List Nat) (vs : List L) : Option (List L) := mapO (fun i => vs[i]?) pm
/-- [elt for tg in it if cond] -/
def lcGo (nx : LH → Nat → Option (Option L)) (tg : L → LS → LH → RS) (cond elt : LS → LH → R L) (sl : LS) : Nat → Nat → List L → LH → R (List L)
  | 0, _, _, _ => .bad
  | f + 1, i, acc, h => match nx h i with
    | none => .bad
    | some none => .ok acc h
    | some (some x) => match tg x sl h with
      | .nx sl1 h1 => (cond sl1 h1).bind fun c h2 => match c with
        | .bl true => (elt sl1 h2).bind fun y h3 => if acc.length < sizeLine then lcGo nx tg cond elt sl f (i + 1) (acc ++ [y]) h3 else .bad
        | .bl false => lcGo nx tg cond elt sl f (i + 1) acc h2
        | _ => .bad
      | _ => .bad
def noexc {α : Type} (r : R α) : R α := match r with
  | .exc _ _ _ => .bad
  | r => r
def enumL (v : L) (h1 : LH) : R LIt := match v with
    | .ref r => (match h1[r]? with
      | some (.lst _) => .ok (.enl r) h1
      | _ => .bad)
    | .tup xs => .ok (.vals (enumV 0 xs)) h1
    | _ => .bad
def zipL (v u : L) (h2 : LH) : R LIt := match v, u with
    | .ref r, .ref q => (match h2[r]?, h2[q]? with
      | some (.lst _), some (.lst _) => .ok (.zll r q) h2
      | _, _ => .bad)
    | .tup xs, .tup ys => .ok (.vals (zipV xs ys)) h2
    | _, _ => .bad
/-- a dict is walked by its keys: it is locked from here on -/
def keysL (v : L) (h : LH) : R LIt := match v with
  | .ref r => (match h[r]? with
    | some (.dk kvs) => .ok (.kys r) (h.set r (.fz kvs))
    | _ => .bad)
  | _ => .bad
def RS.only : RS → RS
  | .nx sl h => .nx sl h
  | _ => .bad
mutual
def evE (G : Gm) : E → LS → LH → R L
  | .var i, sl, h => (match sl[i]? with
    | some (some v) => .ok v h
    | _ => .bad)
  | .int i, _, h => .ok (.int i) h
  | .str x, _, h => .ok (.str x) h
  | .bl b, _, h => .ok (.bl b) h
  | .non, _, h => .ok .non h
  | .glo x, _, h => ofO (okV (G.gl.lookup x) h)
  | .tup es, sl, h => (evEs G es sl h).bind fun vs h1 => if vs.length ≤ sizeLine then .ok (.tup vs) h1 else .bad
  | .lst es, sl, h => (evEs G es sl h).bind fun vs h1 => ofO (newL h1 vs)
  | .dict, _, h => .ok (.ref h.length) (h ++ [.dk []])
  | .bin op a b, sl, h => (evE G a sl h).bind fun x h1 => (evE G b sl h1).bind fun y h2 => ofO (binL op x y h2)
  | .neg a, sl, h => (evE G a sl h).bind fun x h1 => (match x with
    | .int i => .ok (.int (-i)) h1
    | _ => .bad)
  | .not a, sl, h => (evE G a sl h).bind fun x h1 => (match x with
    | .bl b => .ok (.bl (!b)) h1
    | _ => .bad)
  | .cmp op a b, sl, h => (evE G a sl h).bind fun x h1 => (evE G b sl h1).bind fun y h2 => ofO (okB (cmpL op x y h2) h2)
  | .chain op op' a b c, sl, h => (evE G a sl h).bind fun x h1 => (evE G b sl h1).bind fun y h2 => (match cmpL op x y h2 with
    | some true => (evE G c sl h2).bind fun z h3 => ofO (okB (cmpL op' y z h3) h3)
    | some false => .ok (.bl false) h2
    | none => .bad)
  | .and a b, sl, h => (evE G a sl h).bind fun x h1 => (match x with
    | .bl true => evE G b sl h1
    | .bl false => .ok (.bl false) h1
    | _ => .bad)
  | .or a b, sl, h => (evE G a sl h).bind fun x h1 => (match x with
    | .bl true => .ok (.bl true) h1
    | .bl false => evE G b sl h1
    | _ => .bad)
  | .ife c a b, sl, h => (evE G c sl h).bind fun x h1 => (match x with
    | .bl true => evE G a sl h1
    | .bl false => evE G b sl h1
    | _ => .bad)
  | .idx a b, sl, h => (evE G a sl h).bind fun x h1 => (evE G b sl h1).bind fun y h2 => ofO (idxL x y h2)
  | .slc a l u, sl, h => (evE G a sl h).bind fun x h1 => (evE G l sl h1).bind fun y h2 => onP (partX l.isNon y) fun lo => (evE G u sl h2).bind fun z h3 => onP (partX u.isNon z) fun hi => ofO (slcA x lo hi h3)
  | .gdict x a, sl, h => (evE G a sl h).bind fun y h1 => (match G.gd.lookup x, y with
    | some kvs, .str k => ofO (okV (kvs.lookup k) h1)
    | _, _ => .bad)
  | .lrg a, sl, h => (evE G a sl h).bind fun v h1 => (match v with
    | .int j => if -1000000 < j ∧ j < 1000000 then ofO (newL h1 (rngV 0 1 j.toNat)) else .bad
    | _ => .bad)
  | .call f es, sl, h => (evEs G es sl h).bind fun vs h1 => G.cl f vs h1
  | .callk f es pm, sl, h => (evEs G es sl h).bind fun vs h1 => (match kwPut pm vs with
    | some ws => G.cl f ws h1
    | none => .bad)
  | .blt f es, sl, h => (evEs G es sl h).bind fun vs h1 => ofO (bltL f vs h1)
  | .meth m o es, sl, h => (evE G o sl h).bind fun x h1 => if (lstAt h1 x).isSome = true then (evEs G es sl h1).bind fun vs h2 => ofO (methL m x vs h2) else .bad
  | .lc own tg it cond elt, sl, h => (evI G it sl h).bind fun w h1 =>
    (noexc (lcGo w.at (evT G tg) (evE G cond) (evE G elt) (wipeL sl own) whileFuel 0 [] h1)).bind fun ys h2 => .ok (.ref h2.length) (h2 ++ [.lst ys])
def evEs (G : Gm) : Es → LS → LH → R (List L)
  | .nil, _, h => .ok [] h
  | .cons e es, sl, h => (evE G e sl h).bind fun v h1 => (evEs G es sl h1).bind fun vs h2 => .ok (v :: vs) h2
def evT (G : Gm) : T → L → LS → LH → RS
  | .name i, v, sl, h => .nx (sl.set i (some v)) h
  | .tup ts, v, sl, h => (match v with
    | .tup xs => if xs.length = ts.len then evTs G ts xs sl h else .bad
    | _ => .bad)
  | .sub o i, v, sl, h => (noexc (evE G o sl h)).st sl fun x h1 => (noexc (evE G i sl h1)).st sl fun y h2 => (match putL x y v h2 with
    | some h3 => .nx sl h3
    | none => .bad)
def evTs (G : Gm) : Ts → List L → LS → LH → RS
  | .nil, [], sl, h => .nx sl h
  | .cons t ts, v :: vs, sl, h => (evT G t v sl h).then fun sl1 h1 => evTs G ts vs sl1 h1
  | _, _, _, _ => .bad
def evI (G : Gm) : I → LS → LH → R LIt
  | .val e, sl, h => (evE G e sl h).bind fun v h1 => (match walkOf v h1 with
    | some w => .ok w h1
    | none => .bad)
  | .rng1 a, sl, h => (evE G a sl h).bind fun v h1 => (match v with
    | .int j => if near62 j = true then .ok (.vals (rngV 0 1 j.toNat)) h1 else .bad
    | _ => .bad)
  | .rng2 a b, sl, h => (evE G a sl h).bind fun v h1 => (evE G b sl h1).bind fun u h2 => (match v, u with
    | .int i, .int j => if near62 i = true ∧ near62 j = true then .ok (.vals (rngV i 1 (j - i).toNat)) h2 else .bad
    | _, _ => .bad)
  | .rng3 a b c, sl, h => (evE G a sl h).bind fun v h1 => (evE G b sl h1).bind fun u h2 => (evE G c sl h2).bind fun z h3 => (match v, u, z with
    | .int i, .int j, .int k => if 0 < k ∧ k < 1000000 ∧ -1000000000 < i ∧ i < 1000000000 ∧ -1000000000 < j ∧ j < 1000000000 then .ok (.vals (rngV i k ((j - i + k - 1) / k).toNat)) h3 else .bad
    | _, _, _ => .bad)
  | .enum e, sl, h => (evE G e sl h).bind enumL
  | .keys e, sl, h => (evE G e sl h).bind keysL
  | .zip a b, sl, h => (evE G a sl h).bind fun v h1 => (evE G b sl h1).bind fun u h2 => zipL v u h2
end
def whileGo (c : LS → LH → R L) (b : LS → LH → RS) : Nat → LS → LH → RS
  | 0, _, _ => .bad
  | n + 1, sl, h => (c sl h).st sl fun x h1 => match x with
    | .bl true => (match b sl h1 with
      | .nx sl2 h2 => whileGo c b n sl2 h2
      | .ct sl2 h2 => whileGo c b n sl2 h2
      | .bk sl2 h2 => .nx sl2 h2
      | r => r)
    | .bl false => .nx sl h1
    | _ => .bad
def forGo (nx : LH → Nat → Option (Option L)) (tg : L → LS → LH → RS) (b : LS → LH → RS) : Nat → Nat → LS → LH → RS
  | 0, _, _, _ => .bad
  | n + 1, i, sl, h => match nx h i with
    | none => .bad
    | some none => .nx sl h
    | some (some x) => match tg x sl h with
      | .nx sl1 h1 => (match b sl1 h1 with
        | .nx sl2 h2 => forGo nx tg b n (i + 1) sl2 h2
        | .ct sl2 h2 => forGo nx tg b n (i + 1) sl2 h2
        | .bk sl2 h2 => .nx sl2 h2
        | r => r)
      | _ => .bad
mutual
def evS (G : Gm) : S → LS → LH → RS
  | .set i e, sl, h => (evE G e sl h).st sl fun v h1 => .nx (sl.set i (some v)) h1
  | .asg t e, sl, h => (evE G e sl h).st sl fun v h1 => (evT G t v sl h1).only
  | .expr e, sl, h => (evE G e sl h).st sl fun _ h1 => .nx sl h1
  | .ret e, sl, h => (evE G e sl h).st sl fun v h1 => .rt v h1
  | .retn, _, h => .rt .non h
  | .pass, sl, h => .nx sl h
  | .brk, sl, h => .bk sl h
  | .cnt, sl, h => .ct sl h
  | .ifs c a b, sl, h => (evE G c sl h).st sl fun x h1 => (match x with
    | .bl true => evSs G a sl h1
    | .bl false => evSs G b sl h1
    | _ => .bad)
  | .whl c b, sl, h => whileGo (evE G c) (evSs G b) whileFuel sl h
  | .fors t it b, sl, h => (evI G it sl h).st sl fun w h1 => forGo w.at (evT G t) (evSs G b) whileFuel 0 sl h1
  | .rai c e, sl, h => (evE G e sl h).st sl fun v h1 => .exc c v sl h1
  | .never, _, _ => .bad
  | .tryo b c su, sl, h => (match evSs G b sl h with
    | .exc d v sl1 h1 => if d = c then evSs G su sl1 h1 else .bad
    | r => r)
def evSs (G : Gm) : Ss → LS → LH → RS
  | .nil, sl, h => .nx sl h
  | .cons s ss, sl, h => (evS G s sl h).then fun sl1 h1 => evSs G ss sl1 h1
end
/-- a def: its number of slots, of parameters, its body -/
structure Df where
  n : Nat
  np : Nat
  body : Ss
def startL (n : Nat) (vs : List L) : LS := vs.map some ++ List.replicate (n - vs.length) none
def endR : RS → R L
  | .nx _ h => .ok .non h
  | .rt v h => .ok v h
  | .exc c v _ h => .exc c v h
  | _ => .bad
def runD (gl : List (Str × L)) (gd : List (Str × List (Str × L))) (P : List Df) : Nat → Cl
  | 0, _, _, _ => .bad
  | d + 1, f, vs, h => match P[f]? with
    | some df => if vs.length = df.np then endR (evSs ⟨gl, gd, runD gl gd P d⟩ df.body (startL df.n vs) h) else .bad
    | none => .bad
end Ly
end
section
set_option Elab.async false
set_option linter.all false
set_option autoImplicit false
set_option maxRecDepth 100000
/-! How the interpreter's values and objects stand in the hand layer's abstract heap. -/
namespace Ly
open PySem PySem.Spec PyProof.Rows L2

/-! ### values -/
/-- a list that nothing writes -/
def RoL (K : PySem.W.Frag) (H : Hp) (a : Addr) (xs : List V) : Prop := (∃ o, H a = some (.frz o (.lst xs))) ∨
  ∃ (o : Obj) (its : Array Value) (n : Nat), K.lookup a = some o ∧ o.cls = .type "list" ∧ o.dict = none ∧ o.data = .seq its n ∧ its.size ≤ sizeLine ∧ Vals xs its.toList
theorem RoL.sq {K : PySem.W.Frag} {H : Hp} {a : Addr} {xs : List V} (h : RoL K H a xs) : SqL K H a xs := by
  rcases h with ⟨o, h⟩ | h
  · exact .inl (.inr ⟨o, h⟩)
  · exact .inr h
mutual
inductive RelL (K : PySem.W.Frag) (H : Hp) (θ : List Addr) : L → V → Prop
  | non : RelL K H θ .non .non
  | bl (b : Bool) : RelL K H θ (.bl b) (.bl b)
  | int (i : Int) : RelL K H θ (.int i) (.int i)
  | str (x : Str) : RelL K H θ (.str x) (.str x)
  | tup {xs : List L} {a : Addr} {vs : List V} : SqT K H a vs → RelLs K H θ xs vs → RelL K H θ (.tup xs) (.ref a)
  | rol {xs : List L} {a : Addr} {vs : List V} : RoL K H a vs → RelLs K H θ xs vs → RelL K H θ (.rol xs) (.ref a)
  | ref {r : Nat} {a : Addr} : θ[r]? = some a → RelL K H θ (.ref r) (.ref a)
inductive RelLs (K : PySem.W.Frag) (H : Hp) (θ : List Addr) : List L → List V → Prop
  | nil : RelLs K H θ [] []
  | cons {x : L} {v : V} {xs : List L} {vs : List V} : RelL K H θ x v → RelLs K H θ xs vs → RelLs K H θ (x :: xs) (v :: vs)
end
inductive RelK (K : PySem.W.Frag) (H : Hp) (θ : List Addr) : List (Key × L) → List (Key × V) → Prop
  | nil : RelK K H θ [] []
  | cons {k : Key} {x : L} {v : V} {xs : List (Key × L)} {vs : List (Key × V)} : RelL K H θ x v → RelK K H θ xs vs → RelK K H θ ((k, x) :: xs) ((k, v) :: vs)
/-- tuples and frozen lists stay -/
structure Grow (H H' : Hp) : Prop where
  tup : ∀ a xs, H a = some (.tup xs) → H' a = some (.tup xs)
  frt : ∀ a o xs, H a = some (.frz o (.tup xs)) → H' a = some (.frz o (.tup xs))
  frl : ∀ a o xs, H a = some (.frz o (.lst xs)) → H' a = some (.frz o (.lst xs))
  frz : ∀ a o xs, H a = some (.frz o (.dK xs)) → H' a = some (.frz o (.dK xs))
theorem Grow.refl (H : Hp) : Grow H H := ⟨fun _ _ h => h, fun _ _ _ h => h, fun _ _ _ h => h, fun _ _ _ h => h⟩
theorem Grow.trans {H H1 H2 : Hp} (a : Grow H H1) (b : Grow H1 H2) : Grow H H2 := ⟨fun c xs h => b.tup c xs (a.tup c xs h), fun c o xs h => b.frt c o xs (a.frt c o xs h), fun c o xs h => b.frl c o xs (a.frl c o xs h), fun c o xs h => b.frz c o xs (a.frz c o xs h)⟩
theorem Grow.new {H : Hp} {p : Addr} {o : HO} (h : H p = none) : Grow H (upd H p o) :=
  ⟨fun a xs q => by rw [upd_ne (ne_of_none q h)]; exact q, fun a ob xs q => by rw [upd_ne (ne_of_none q h)]; exact q, fun a ob xs q => by rw [upd_ne (ne_of_none q h)]; exact q, fun a ob xs q => by rw [upd_ne (ne_of_none q h)]; exact q⟩
/-- what an update of a list or a dict leaves -/
def Loose (o : HO) : Prop := (∀ xs, o ≠ .tup xs) ∧ (∀ ob xs, o ≠ .frz ob (.tup xs)) ∧ (∀ ob xs, o ≠ .frz ob (.lst xs)) ∧ ∀ ob xs, o ≠ .frz ob (.dK xs)
theorem Grow.upd {H : Hp} {p : Addr} {o u : HO} (h : H p = some u) (l : Loose u) : Grow H (upd H p o) :=
  ⟨fun a xs q => by rw [upd_ne (ne_of q h (fun e => l.1 xs e.symm))]; exact q, fun a ob xs q => by rw [upd_ne (ne_of q h (fun e => l.2.1 ob xs e.symm))]; exact q,
    fun a ob xs q => by rw [upd_ne (ne_of q h (fun e => l.2.2.1 ob xs e.symm))]; exact q, fun a ob xs q => by rw [upd_ne (ne_of q h (fun e => l.2.2.2 ob xs e.symm))]; exact q⟩
theorem loose_lst {xs : List V} : Loose (.lst xs) := ⟨fun _ => nofun, fun _ _ => nofun, fun _ _ => nofun, fun _ _ => nofun⟩
theorem loose_dK {xs : List (Key × V)} : Loose (.dK xs) := ⟨fun _ => nofun, fun _ _ => nofun, fun _ _ => nofun, fun _ _ => nofun⟩
section
variable {K : PySem.W.Frag} {w : World} {H H' : Hp} {θ θ' : List Addr}
theorem Grow.sqT (g : Grow H H') {a : Addr} {xs : List V} (h : SqT K H a xs) : SqT K H' a xs := by
  rcases h with (h | ⟨o, h⟩) | h
  · exact .inl (.inl (g.tup _ _ h))
  · exact .inl (.inr ⟨o, g.frt _ _ _ h⟩)
  · exact .inr h
theorem Grow.roL (g : Grow H H') {a : Addr} {xs : List V} (h : RoL K H a xs) : RoL K H' a xs := by
  rcases h with ⟨o, h⟩ | h
  · exact .inl ⟨o, g.frl _ _ _ h⟩
  · exact .inr h
theorem pre_get {α : Type} {l l' : List α} (p : l <+: l') {i : Nat} {a : α} (h : l[i]? = some a) : l'[i]? = some a := by
  obtain ⟨m, rfl⟩ := p
  rw [List.getElem?_append_left (List.getElem?_eq_some_iff.mp h).1]
  exact h
mutual
theorem RelL.mono (g : Grow H H') (p : θ <+: θ') : ∀ {x : L} {v : V}, RelL K H θ x v → RelL K H' θ' x v
  | _, _, .non => .non
  | _, _, .bl b => .bl b
  | _, _, .int i => .int i
  | _, _, .str x => .str x
  | _, _, .tup s r => .tup (g.sqT s) (RelLs.mono g p r)
  | _, _, .rol s r => .rol (g.roL s) (RelLs.mono g p r)
  | _, _, .ref e => .ref (pre_get p e)
theorem RelLs.mono (g : Grow H H') (p : θ <+: θ') : ∀ {x : List L} {v : List V}, RelLs K H θ x v → RelLs K H' θ' x v
  | _, _, .nil => .nil
  | _, _, .cons a b => .cons (RelL.mono g p a) (RelLs.mono g p b)
end
theorem RelK.mono (g : Grow H H') (p : θ <+: θ') : ∀ {x : List (Key × L)} {v : List (Key × V)}, RelK K H θ x v → RelK K H' θ' x v
  | _, _, .nil => .nil
  | _, _, .cons a b => .cons (RelL.mono g p a) (RelK.mono g p b)
theorem RelLs.length : ∀ {xs : List L} {vs : List V}, RelLs K H θ xs vs → xs.length = vs.length
  | _, _, .nil => rfl
  | _, _, .cons _ b => congrArg (· + 1) (RelLs.length b)
theorem RelK.length : ∀ {xs : List (Key × L)} {vs : List (Key × V)}, RelK K H θ xs vs → xs.length = vs.length
  | _, _, .nil => rfl
  | _, _, .cons _ b => congrArg (· + 1) (RelK.length b)
theorem RelLs.get : ∀ {xs : List L} {vs : List V}, RelLs K H θ xs vs → ∀ {i : Nat} {x : L}, xs[i]? = some x → ∃ v, vs[i]? = some v ∧ RelL K H θ x v
  | _, _, .nil, _, _, e => by simp at e
  | _, _, .cons a b, 0, x, e => by simp at e; subst e; exact ⟨_, rfl, a⟩
  | _, _, .cons a b, i + 1, x, e => by
    obtain ⟨v, h1, h2⟩ := RelLs.get b (i := i) (x := x) (by simpa using e)
    exact ⟨v, by simpa using h1, h2⟩
theorem RelLs.get' : ∀ {xs : List L} {vs : List V}, RelLs K H θ xs vs → ∀ {i : Nat} {v : V}, vs[i]? = some v → ∃ x, xs[i]? = some x ∧ RelL K H θ x v
  | _, _, .nil, _, _, e => by simp at e
  | _, _, .cons a b, 0, x, e => by simp at e; subst e; exact ⟨_, rfl, a⟩
  | _, _, .cons a b, i + 1, x, e => by
    obtain ⟨v, h1, h2⟩ := RelLs.get' b (i := i) (v := x) (by simpa using e)
    exact ⟨v, by simpa using h1, h2⟩
theorem RelLs.append : ∀ {xs ys : List L} {vs ws : List V}, RelLs K H θ xs vs → RelLs K H θ ys ws → RelLs K H θ (xs ++ ys) (vs ++ ws)
  | _, _, _, _, .nil, s => s
  | _, _, _, _, .cons a b, s => .cons a (RelLs.append b s)
theorem RelLs.one {x : L} {v : V} (h : RelL K H θ x v) : RelLs K H θ [x] [v] := .cons h .nil
theorem RelLs.drop : ∀ {xs : List L} {vs : List V} (n : Nat), RelLs K H θ xs vs → RelLs K H θ (xs.drop n) (vs.drop n)
  | _, _, 0, r => r
  | _, _, _ + 1, .nil => .nil
  | _, _, n + 1, .cons _ t => RelLs.drop n t
theorem RelLs.take : ∀ {xs : List L} {vs : List V} (n : Nat), RelLs K H θ xs vs → RelLs K H θ (xs.take n) (vs.take n)
  | _, _, 0, _ => .nil
  | _, _, _ + 1, .nil => .nil
  | _, _, n + 1, .cons r t => .cons r (RelLs.take n t)
theorem RelLs.set {x : L} {v : V} (r : RelL K H θ x v) : ∀ {xs : List L} {vs : List V} (i : Nat), RelLs K H θ xs vs → RelLs K H θ (xs.set i x) (vs.set i v)
  | _, _, _, .nil => .nil
  | _, _, 0, .cons _ t => .cons r t
  | _, _, i + 1, .cons q t => .cons q (RelLs.set r i t)
theorem RelLs.rep {xs : List L} {vs : List V} (r : RelLs K H θ xs vs) : ∀ n : Nat, RelLs K H θ (List.replicate n xs).flatten (List.replicate n vs).flatten
  | 0 => .nil
  | n + 1 => by
    rw [List.replicate_succ, List.replicate_succ, List.flatten_cons, List.flatten_cons]
    exact RelLs.append r (RelLs.rep r n)
theorem RelLs.dropLast {xs : List L} {vs : List V} (r : RelLs K H θ xs vs) : RelLs K H θ xs.dropLast vs.dropLast := by
  rw [List.dropLast_eq_take, List.dropLast_eq_take, r.length]
  exact r.take _
theorem RelLs.cut {xs : List L} {vs : List V} (r : RelLs K H θ xs vs) (lo hi : Option Int) : RelLs K H θ (cut xs lo hi) (cutV vs lo hi) := by
  unfold Ly.cut cutV
  rw [r.length]
  exact (r.drop _).take _
/-! flat values -/
theorem RelL.fv {x : L} {v u : V} (r : RelL K H θ x v) (e : x.fv = some u) : v = u := by
  cases r <;> first | (cases e; rfl) | cases e
theorem RelLs.fvs : ∀ {xs : List L} {vs us : List V}, RelLs K H θ xs vs → mapO L.fv xs = some us → vs = us
  | _, _, _, .nil, e => by cases e; rfl
  | x :: xs, v :: vs, us, .cons a b, e => by
    unfold mapO at e
    cases h1 : x.fv with
    | none => rw [h1] at e; cases e
    | some u =>
      cases h2 : mapO L.fv xs with
      | none => rw [h1, h2] at e; cases e
      | some us' =>
        rw [h1, h2] at e
        cases e
        rw [a.fv h1, RelLs.fvs b h2]
theorem flatV_fv {x : L} {u : V} (e : x.fv = some u) : flatV u = true := by
  cases x <;> first | (cases e; rfl) | cases e
theorem flatV_fvs : ∀ {xs : List L} {us : List V}, mapO L.fv xs = some us → us.all flatV = true
  | [], _, e => by cases e; rfl
  | x :: xs, us, e => by
    unfold mapO at e
    cases h1 : x.fv with
    | none => rw [h1] at e; cases e
    | some u =>
      cases h2 : mapO L.fv xs with
      | none => rw [h1, h2] at e; cases e
      | some us' =>
        rw [h1, h2] at e
        cases e
        rw [List.all_cons, flatV_fv h1, flatV_fvs h2]; rfl
theorem RelLs.ints : ∀ {xs : List L} {vs : List V} {ns : List Int}, RelLs K H θ xs vs → mapO L.int? xs = some ns → vs = ns.map V.int
  | _, _, _, .nil, e => by cases e; rfl
  | x :: xs, v :: vs, us, .cons a b, e => by
    unfold mapO at e
    cases h1 : x.int? with
    | none => rw [h1] at e; cases e
    | some u =>
      cases h2 : mapO L.int? xs with
      | none => rw [h1, h2] at e; cases e
      | some us' =>
        rw [h1, h2] at e
        cases e
        cases a <;> first | (cases h1; rw [RelLs.ints b h2]; rfl) | cases h1
theorem RelLs.strs : ∀ {xs : List L} {vs : List V} {ns : List Str}, RelLs K H θ xs vs → mapO L.str? xs = some ns → vs = ns.map V.str
  | _, _, _, .nil, e => by cases e; rfl
  | x :: xs, v :: vs, us, .cons a b, e => by
    unfold mapO at e
    cases h1 : x.str? with
    | none => rw [h1] at e; cases e
    | some u =>
      cases h2 : mapO L.str? xs with
      | none => rw [h1, h2] at e; cases e
      | some us' =>
        rw [h1, h2] at e
        cases e
        cases a <;> first | (cases h1; rw [RelLs.strs b h2]; rfl) | cases h1
theorem RelLs.bls : ∀ {xs : List L} {vs : List V} {ns : List Bool}, RelLs K H θ xs vs → mapO L.bl? xs = some ns → vs = ns.map V.bl
  | _, _, _, .nil, e => by cases e; rfl
  | x :: xs, v :: vs, us, .cons a b, e => by
    unfold mapO at e
    cases h1 : x.bl? with
    | none => rw [h1] at e; cases e
    | some u =>
      cases h2 : mapO L.bl? xs with
      | none => rw [h1, h2] at e; cases e
      | some us' =>
        rw [h1, h2] at e
        cases e
        cases a <;> first | (cases h1; rw [RelLs.bls b h2]; rfl) | cases h1
theorem rel_ints : ∀ ns : List Int, RelLs K H θ (ns.map .int) (ns.map V.int)
  | [] => .nil
  | n :: ns => .cons (.int n) (rel_ints ns)
theorem rel_strs : ∀ ns : List Str, RelLs K H θ (ns.map .str) (ns.map V.str)
  | [] => .nil
  | n :: ns => .cons (.str n) (rel_strs ns)
theorem RelL.key {x : L} {v : V} {k : Key} (r : RelL K H θ x v) (e : x.key = some k) : v = kV k := by
  cases r <;> first | (cases e; rfl) | cases e
theorem rel_key (k : Key) : RelL K H θ (kL k) (kV k) := by
  cases k with
  | inl i => exact .int i
  | inr x => exact .str x
def RelOL (K : PySem.W.Frag) (H : Hp) (θ : List Addr) : Option L → Option V → Prop
  | some x, some v => RelL K H θ x v
  | none, none => True
  | _, _ => False
theorem RelK.val : ∀ {xs : List (Key × L)} {vs : List (Key × V)}, RelK K H θ xs vs → ∀ k : Key, RelOL K H θ (valK xs k) (valV vs k)
  | _, _, .nil, k => trivial
  | (k', x) :: xs, (_, v) :: vs, .cons a b, k => by
    by_cases e : k' = k
    · have e1 : valK ((k', x) :: xs) k = some x := by simp [valK, List.find?_cons, e]
      have e2 : valV ((k', v) :: vs) k = some v := by simp [valV, List.find?_cons, e]
      rw [e1, e2]
      exact a
    · have e1 : valK ((k', x) :: xs) k = valK xs k := by simp [valK, List.find?_cons, e]
      have e2 : valV ((k', v) :: vs) k = valV vs k := by simp [valV, List.find?_cons, e]
      rw [e1, e2]
      exact RelK.val b k
theorem RelK.some_ {xs : List (Key × L)} {vs : List (Key × V)} (r : RelK K H θ xs vs) {k : Key} {x : L} (e : valK xs k = some x) : ∃ v, valV vs k = some v ∧ RelL K H θ x v := by
  have h := r.val k
  rw [e] at h
  cases q : valV vs k with
  | none => rw [q] at h; exact False.elim h
  | some v => rw [q] at h; exact ⟨v, rfl, h⟩
theorem RelK.isSome {xs : List (Key × L)} {vs : List (Key × V)} (r : RelK K H θ xs vs) (k : Key) : (valV vs k).isSome = (valK xs k).isSome := by
  have h := r.val k
  cases q : valV vs k <;> cases q' : valK xs k <;> rw [q, q'] at h <;> first | rfl | exact False.elim h
theorem RelK.any : ∀ {xs : List (Key × L)} {vs : List (Key × V)}, RelK K H θ xs vs → ∀ k : Key, (xs.any fun kv => decide (kv.1 = k)) = vs.any fun kv => decide (kv.1 = k)
  | _, _, .nil, _ => rfl
  | _, _, .cons _ b, k => by rw [List.any_cons, List.any_cons, RelK.any b k]
theorem RelK.repl {x : L} {v : V} (r : RelL K H θ x v) (k : Key) : ∀ {xs : List (Key × L)} {vs : List (Key × V)}, RelK K H θ xs vs → RelK K H θ (xs.map fun kv => if kv.1 = k then (kv.1, x) else kv) (vs.map fun kv => if kv.1 = k then (kv.1, v) else kv)
  | _, _, .nil => .nil
  | (k', _) :: xs, _ :: vs, .cons a b => by
    rw [List.map_cons, List.map_cons]
    by_cases e : k' = k
    · simp only [e, if_true]
      exact .cons r (RelK.repl r k b)
    · simp only [e, if_false]
      exact .cons a (RelK.repl r k b)
theorem RelK.snoc {x : L} {v : V} (r : RelL K H θ x v) (k : Key) : ∀ {xs : List (Key × L)} {vs : List (Key × V)}, RelK K H θ xs vs → RelK K H θ (xs ++ [(k, x)]) (vs ++ [(k, v)])
  | _, _, .nil => .cons r .nil
  | _, _, .cons a b => .cons a (RelK.snoc r k b)
theorem RelK.put {x : L} {v : V} (r : RelL K H θ x v) (k : Key) {xs : List (Key × L)} {vs : List (Key × V)} (h : RelK K H θ xs vs) : RelK K H θ (putD xs k x) (putK vs k v) := by
  unfold putD putK
  rw [h.any k]
  by_cases q : (vs.any fun kv => decide (kv.1 = k)) = true
  · rw [if_pos q, if_pos q]; exact RelK.repl r k h
  · rw [if_neg q, if_neg q]; exact RelK.snoc r k h
theorem RelK.get : ∀ {xs : List (Key × L)} {vs : List (Key × V)}, RelK K H θ xs vs → ∀ {i : Nat} {k : Key} {v : V}, vs[i]? = some (k, v) → ∃ x, xs[i]? = some (k, x) ∧ RelL K H θ x v
  | _, _, .nil, _, _, _, e => by simp at e
  | _, _, .cons a b, 0, k, x, e => by
    simp at e
    obtain ⟨rfl, rfl⟩ := e
    exact ⟨_, rfl, a⟩
  | _, _, .cons a b, i + 1, k, x, e => by
    obtain ⟨v, h1, h2⟩ := RelK.get b (i := i) (k := k) (v := x) (by simpa using e)
    exact ⟨v, by simpa using h1, h2⟩
theorem RelK.keys : ∀ {xs : List (Key × L)} {vs : List (Key × V)}, RelK K H θ xs vs → xs.map (·.1) = vs.map (·.1)
  | _, _, .nil => rfl
  | _, _, .cons _ b => by rw [List.map_cons, List.map_cons, RelK.keys b]

/-! ### the heap -/
def ObR (K : PySem.W.Frag) (w : World) (H : Hp) (θ : List Addr) : LO → Addr → Prop
  | .lst xs, a => ∃ vs, H a = some (.lst vs) ∧ RelLs K H θ xs vs
  | .dk kvs, a => ∃ ws, H a = some (.dK ws) ∧ RelK K H θ kvs ws
  | .fz kvs, a => ∃ o ws, H a = some (.frz o (.dK ws)) ∧ RelK K H θ kvs ws
  | .si ns, a => ∃ S, H a = some (SetO w a S ns.length) ∧ ns.Nodup ∧ ∀ k : Int, S k = true ↔ k ∈ ns
structure HR (K : PySem.W.Frag) (w : World) (H : Hp) (θ : List Addr) (h : LH) : Prop where
  len : θ.length = h.length
  nd : θ.Nodup
  ob : ∀ (r : Nat) (a : Addr) (o : LO), θ[r]? = some a → h[r]? = some o → ObR K w H θ o a
theorem ObR.there {a : Addr} : ∀ {o : LO}, ObR K w H θ o a → ∃ u, H a = some u
  | .lst _, ⟨_, e, _⟩ => ⟨_, e⟩
  | .dk _, ⟨_, e, _⟩ => ⟨_, e⟩
  | .fz _, ⟨_, _, e, _⟩ => ⟨_, e⟩
  | .si _, ⟨_, e, _⟩ => ⟨_, e⟩
theorem ObR.mono (g : Grow H H') (p : θ <+: θ') {a : Addr} (e : ∀ u, H a = some u → H' a = some u) : ∀ {o : LO}, ObR K w H θ o a → ObR K w H' θ' o a
  | .lst _, ⟨_, h, r⟩ => ⟨_, e _ h, r.mono g p⟩
  | .dk _, ⟨_, h, r⟩ => ⟨_, e _ h, r.mono g p⟩
  | .fz _, ⟨_, _, h, r⟩ => ⟨_, _, e _ h, r.mono g p⟩
  | .si _, ⟨_, h, r⟩ => ⟨_, e _ h, r⟩
theorem HR.at {h : LH} (x : HR K w H θ h) {r : Nat} {o : LO} (e : h[r]? = some o) : ∃ a, θ[r]? = some a ∧ ObR K w H θ o a := by
  have hl := (List.getElem?_eq_some_iff.mp e).1
  have ht : r < θ.length := by rw [x.len]; exact hl
  exact ⟨θ[r], by rw [List.getElem?_eq_getElem ht], x.ob r _ o (by rw [List.getElem?_eq_getElem ht]) e⟩
theorem HR.there {h : LH} (x : HR K w H θ h) {r : Nat} {a : Addr} (e : θ[r]? = some a) : ∃ u, H a = some u := by
  have hl := (List.getElem?_eq_some_iff.mp e).1
  have ht : r < h.length := by rw [← x.len]; exact hl
  exact (x.ob r a h[r] e (by rw [List.getElem?_eq_getElem ht])).there
theorem HR.ref {h : LH} (x : HR K w H θ h) {r : Nat} {o : LO} {v : V} (e : h[r]? = some o) (q : RelL K H θ (.ref r) v) : ∃ a, v = .ref a ∧ θ[r]? = some a ∧ ObR K w H θ o a := by
  cases q with
  | ref q => exact ⟨_, rfl, q, x.ob r _ o q e⟩
/-- a new object that is not told -/
theorem HR.skip {h : LH} (x : HR K w H θ h) {p : Addr} {o : HO} (n : H p = none) : HR K w (upd H p o) θ h :=
  ⟨x.len, x.nd, fun r a ob e1 e2 => (x.ob r a ob e1 e2).mono (Grow.new n) (List.prefix_refl _) fun u q => by rw [upd_ne (ne_of_none q n)]; exact q⟩
/-- a new object -/
theorem HR.new {h : LH} (x : HR K w H θ h) {p : Addr} {o : HO} {lo : LO} (n : H p = none) (q : ObR K w (upd H p o) (θ ++ [p]) lo p) : HR K w (upd H p o) (θ ++ [p]) (h ++ [lo]) := by
  have hp : θ <+: θ ++ [p] := List.prefix_append _ _
  refine ⟨by simp [x.len], ?_, fun r a ob e1 e2 => ?_⟩
  · rw [List.nodup_append]
    refine ⟨x.nd, by simp, fun a ha b hb e => ?_⟩
    have hb' : b = p := by simpa using hb
    subst hb' e
    obtain ⟨i, hi, q⟩ := List.mem_iff_getElem.mp ha
    obtain ⟨u, hu⟩ := x.there (r := i) (a := a) (by rw [List.getElem?_eq_getElem hi, q])
    rw [n] at hu; cases hu
  · by_cases hr : r < θ.length
    · rw [List.getElem?_append_left hr] at e1
      rw [List.getElem?_append_left (by rw [← x.len]; exact hr)] at e2
      exact (x.ob r a ob e1 e2).mono (Grow.new n) hp fun u z => by rw [upd_ne (ne_of_none z n)]; exact z
    · have hr' : r = θ.length := by
        have := (List.getElem?_eq_some_iff.mp e1).1
        simp at this
        omega
      subst hr'
      rw [List.getElem?_append_right (Nat.le_refl _)] at e1
      rw [List.getElem?_append_right (by rw [x.len] <;> exact Nat.le_refl _)] at e2
      simp at e1
      rw [x.len] at e2
      simp at e2
      subst e1 e2
      exact q
/-- an object is written -/
theorem HR.set {h : LH} (x : HR K w H θ h) {r : Nat} {a : Addr} {o u : HO} {lo : LO} (e : θ[r]? = some a) (hu : H a = some u) (l : Loose u) (q : ObR K w (upd H a o) θ lo a) : HR K w (upd H a o) θ (h.set r lo) := by
  refine ⟨by simp [x.len], x.nd, fun i b ob e1 e2 => ?_⟩
  by_cases hi : i = r
  · subst hi
    rw [e] at e1
    cases e1
    have hl : i < h.length := by rw [← x.len]; exact (List.getElem?_eq_some_iff.mp e).1
    rw [List.getElem?_set_self hl] at e2
    cases e2
    exact q
  · rw [List.getElem?_set_ne (fun z => hi z.symm)] at e2
    have nb : b ≠ a := fun z => by
      subst z
      obtain ⟨h1, g1⟩ := List.getElem?_eq_some_iff.mp e1
      obtain ⟨h2, g2⟩ := List.getElem?_eq_some_iff.mp e
      exact hi ((List.getElem_inj x.nd).mp (g1.trans g2.symm))
    exact (x.ob i b ob e1 e2).mono (Grow.upd hu l) (List.prefix_refl _) fun v z => by rw [upd_ne nb]; exact z
theorem HR.lst {h : LH} (x : HR K w H θ h) {v : L} {xs : List L} {y : V} (e : lstAt h v = some xs) (r : RelL K H θ v y) : ∃ a vs, y = .ref a ∧ SqL K H a vs ∧ RelLs K H θ xs vs := by
  cases r with
  | rol s r =>
    cases e
    exact ⟨_, _, rfl, s.sq, r⟩
  | @ref i a q =>
    have e : (match h[i]? with
      | some (.lst xs) => some xs
      | _ => none) = some xs := e
    cases q2 : h[i]? with
    | none => rw [q2] at e; cases e
    | some o =>
      rw [q2] at e
      cases o with
      | lst ys =>
        cases e
        obtain ⟨vs, h1, h2⟩ := x.ob i a _ q q2
        exact ⟨a, vs, rfl, SqL.of h1, h2⟩
      | _ => cases e
  | _ => cases e
theorem seq_cases {h : LH} {v : L} {xs : List L} (e : seqAt h v = some xs) : v = .tup xs ∨ lstAt h v = some xs := by
  cases v with
  | tup ys => cases e; exact .inl rfl
  | non => exact .inr e
  | bl _ => exact .inr e
  | int _ => exact .inr e
  | str _ => exact .inr e
  | rol _ => exact .inr e
  | ref _ => exact .inr e
theorem HR.sq {h : LH} (x : HR K w H θ h) {v : L} {xs : List L} {y : V} (e : seqAt h v = some xs) (r : RelL K H θ v y) : ∃ a vs, y = .ref a ∧ (SqL K H a vs ∨ SqT K H a vs) ∧ RelLs K H θ xs vs := by
  rcases seq_cases e with rfl | e
  · cases r with
    | tup s r => exact ⟨_, _, rfl, .inr s, r⟩
  · obtain ⟨a, vs, h1, h2, h3⟩ := x.lst e r
    exact ⟨a, vs, h1, .inl h2, h3⟩
/-! ### data -/
theorem HR.dpAll {h : LH} {n : Nat} (ih : ∀ {v : L} {y : V} {d : PyData}, toD h n v = some d → RelL K H θ v y → Dp K H y d) : ∀ {xs : List L} {ys : List V} {ds : List PyData}, mapO (toD h n) xs = some ds → RelLs K H θ xs ys → DpAll K H ys ds
  | [], _, _, e, .nil => by cases e; exact .nil
  | x :: xs, _ :: ys, ds, e, .cons a b => by
    unfold mapO at e
    cases h1 : toD h n x with
    | none => rw [h1] at e; cases e
    | some d =>
      cases h2 : mapO (toD h n) xs with
      | none => rw [h1, h2] at e; cases e
      | some es =>
        rw [h1, h2] at e
        cases e
        exact .cons (ih h1 a) (HR.dpAll ih h2 b)
theorem HR.dp {h : LH} (x : HR K w H θ h) : ∀ {n : Nat} {v : L} {y : V} {d : PyData}, toD h n v = some d → RelL K H θ v y → Dp K H y d
  | 0, _, _, _, e, _ => by cases e
  | n + 1, v, y, d, e, r => by
    cases r with
    | non => cases e; exact .non
    | bl b => cases e; exact .bl b
    | int i => cases e; exact .int i
    | str z => cases e; exact .str z
    | @tup xs a vs s r =>
      have e' : (mapO (toD h n) xs).map .tuple = some d := e
      cases q : mapO (toD h n) xs with
      | none => rw [q] at e'; cases e'
      | some ds =>
        rw [q] at e'
        cases e'
        exact .tup s (HR.dpAll (fun h1 h2 => HR.dp x h1 h2) q r)
    | @rol xs a vs s r =>
      have e' : (mapO (toD h n) xs).map .list = some d := e
      cases q : mapO (toD h n) xs with
      | none => rw [q] at e'; cases e'
      | some ds =>
        rw [q] at e'
        cases e'
        exact .lst s.sq (HR.dpAll (fun h1 h2 => HR.dp x h1 h2) q r)
    | @ref i a q =>
      have e' : (match h[i]? with
        | some (.lst xs) => (mapO (toD h n) xs).map PyData.list
        | _ => none) = some d := e
      cases q2 : h[i]? with
      | none => rw [q2] at e'; cases e'
      | some o =>
        rw [q2] at e'
        cases o with
        | lst xs =>
          obtain ⟨vs, h1, h2⟩ := x.ob i a _ q q2
          cases q3 : mapO (toD h n) xs with
          | none => simp only [q3] at e'; cases e'
          | some ds =>
            simp only [q3] at e'
            cases e'
            exact .lst (SqL.of h1) (HR.dpAll (fun h1 h2 => HR.dp x h1 h2) q3 h2)
        | _ => cases e'
end
end Ly
end
section
set_option Elab.async false
set_option linter.all false
set_option autoImplicit false
set_option maxRecDepth 100000
/-! Operators: what the interpreter answers is what the machine answers. -/
namespace Ly
open PySem PySem.Spec PyProof.Rows L2

structure Ev (H H' : Hp) (θ θ' : List Addr) : Prop where
  g : Grow H H'
  p : θ <+: θ'
  ot : ∀ a o, H a = some o → a ∉ θ → H' a = some o
  fr : ∀ a ∈ θ', a ∈ θ ∨ H a = none
  th : ∀ a o, H a = some o → ∃ u, H' a = some u
theorem Ev.refl (H : Hp) (θ : List Addr) : Ev H H θ θ := ⟨Grow.refl H, List.prefix_refl θ, fun _ _ e _ => e, fun _ h => .inl h, fun _ o e => ⟨o, e⟩⟩
theorem Ev.trans {H H1 H2 : Hp} {θ θ1 θ2 : List Addr} (a : Ev H H1 θ θ1) (b : Ev H1 H2 θ1 θ2) : Ev H H2 θ θ2 := by
  refine ⟨a.g.trans b.g, a.p.trans b.p, fun c o e n => ?_, fun c hc => ?_, fun c o e => ?_⟩
  · refine b.ot c o (a.ot c o e n) fun m => ?_
    rcases a.fr c m with q | q
    · exact n q
    · rw [e] at q; cases q
  · rcases b.fr c hc with q | q
    · exact a.fr c q
    · refine .inr ?_
      cases z : H c with
      | none => rfl
      | some o =>
        obtain ⟨u, hu⟩ := a.th c o z
        rw [q] at hu; cases hu
  · obtain ⟨u, hu⟩ := a.th c o e
    exact b.th c u hu
theorem Ev.new {H : Hp} {θ : List Addr} {p : Addr} {o : HO} (h : H p = none) : Ev H (upd H p o) θ (θ ++ [p]) := by
  refine ⟨Grow.new h, List.prefix_append _ _, fun a u e _ => ?_, fun a m => ?_, fun a u e => ⟨u, ?_⟩⟩
  · rw [upd_ne (ne_of_none e h)]; exact e
  · rcases List.mem_append.mp m with m | m
    · exact .inl m
    · rw [List.mem_singleton.mp m]; exact .inr h
  · rw [upd_ne (ne_of_none e h)]; exact e
theorem Ev.skip {H : Hp} {θ : List Addr} {p : Addr} {o : HO} (h : H p = none) : Ev H (upd H p o) θ θ := by
  refine ⟨Grow.new h, List.prefix_refl _, fun a u e _ => ?_, fun a m => .inl m, fun a u e => ⟨u, ?_⟩⟩
  · rw [upd_ne (ne_of_none e h)]; exact e
  · rw [upd_ne (ne_of_none e h)]; exact e
theorem Ev.upd {H : Hp} {θ : List Addr} {p : Addr} {o u : HO} (h : H p = some u) (l : Loose u) (hp : p ∈ θ) : Ev H (upd H p o) θ θ := by
  refine ⟨Grow.upd h l, List.prefix_refl _, fun a v e n => ?_, fun a m => .inl m, fun a v e => ?_⟩
  · rw [upd_ne (fun z => n (by rw [z]; exact hp))]; exact e
  · by_cases z : a = p
    · subst z; exact ⟨_, upd_same⟩
    · rw [upd_ne z]; exact ⟨v, e⟩
theorem RelL.ev {K : PySem.W.Frag} {H H' : Hp} {θ θ' : List Addr} {x : L} {v : V} (r : RelL K H θ x v) (e : Ev H H' θ θ') : RelL K H' θ' x v := r.mono e.g e.p
theorem RelLs.ev {K : PySem.W.Frag} {H H' : Hp} {θ θ' : List Addr} {x : List L} {v : List V} (r : RelLs K H θ x v) (e : Ev H H' θ θ') : RelLs K H' θ' x v := r.mono e.g e.p
theorem RelK.ev {K : PySem.W.Frag} {H H' : Hp} {θ θ' : List Addr} {x : List (Key × L)} {v : List (Key × V)} (r : RelK K H θ x v) (e : Ev H H' θ θ') : RelK K H' θ' x v := r.mono e.g e.p

/-- what an operator's answer hands on -/
def PostO (K : PySem.W.Frag) (w : World) (H : Hp) (θ : List Addr) (o : Option (L × LH)) (Q : VK) : Prop := match o with
  | some (v, h') => ∀ θ' H' x, Ev H H' θ θ' → HR K w H' θ' h' → RelL K H' θ' v x → Q x H'
  | none => False
section
variable {K : PySem.W.Frag} {w : World} {H : Hp} {θ : List Addr} {h : LH} {Q : VK}
theorem PostO.same {v : L} {x : V} (P : PostO K w H θ (some (v, h)) Q) (R : HR K w H θ h) (r : RelL K H θ v x) : Q x H := P θ H x (Ev.refl H θ) R r
/-- a new list -/
theorem PostO.newL {xs : List L} {vs : List V} (P : PostO K w H θ (newL h xs) Q) (R : HR K w H θ h) (r : RelLs K H θ xs vs) : vs.length ≤ sizeLine ∧ ∀ p, H p = none → Q (.ref p) (upd H p (.lst vs)) := by
  unfold Ly.newL at P
  by_cases hz : xs.length ≤ sizeLine
  · rw [if_pos hz] at P
    refine ⟨by rw [← r.length]; exact hz, fun p hp => P (θ ++ [p]) _ _ (Ev.new hp) (R.new hp ⟨vs, upd_same, r.mono (Grow.new hp) (List.prefix_append _ _)⟩) ?_⟩
    refine .ref ?_
    rw [← R.len, List.getElem?_append_right (Nat.le_refl _)]
    simp
  · rw [if_neg hz] at P
    exact P.elim
/-- a new tuple -/
theorem PostO.tup {xs : List L} {vs : List V} (P : PostO K w H θ (some (.tup xs, h)) Q) (R : HR K w H θ h) (r : RelLs K H θ xs vs) : ∀ p, H p = none → Q (.ref p) (upd H p (.tup vs)) :=
  fun p hp => P θ _ _ (Ev.skip hp) (R.skip hp) (.tup (SqT.of upd_same) (r.mono (Grow.new hp) (List.prefix_refl _)))
end
/-- a binary operator by the interpreter's answer -/
def rB (K : PySem.W.Frag) (w : World) (f : L → L → LH → Option (L × LH)) : R2 := fun x y H Q => ∃ a b θ h, HR K w H θ h ∧ RelL K H θ a x ∧ RelL K H θ b y ∧ PostO K w H θ (f a b h) Q
section
variable {X : Cx}
theorem or_add : OpR X (binaryOp .Add) (rB X.K X.w (binL .Add)) := by
  intro pins s σ H x y v u Q I rx ry hh
  obtain ⟨a, b, θ, h, R, ra, rb, P⟩ := hh
  cases ra with
  | int i =>
    cases rb with
    | int j => exact op_add pins s σ H _ _ v u Q I rx ry ⟨i, j, rfl, rfl, P.same R (.int _)⟩
    | _ => exact P.elim
  | str i =>
    cases rb with
    | str j =>
      have P : PostO X.K X.w H θ (if i.length + j.length ≤ sizeLine then some (.str (i ++ j), h) else none) Q := P
      by_cases hz : i.length + j.length ≤ sizeLine
      · rw [if_pos hz] at P
        exact op_add_str pins s σ H _ _ v u Q I rx ry ⟨i, j, rfl, rfl, hz, P.same R (.str _)⟩
      · rw [if_neg hz] at P
        exact P.elim
    | _ => exact P.elim
  | @tup xs p vs s1 r1 =>
    cases rb with
    | @tup ys q ws s2 r2 =>
      have P : PostO X.K X.w H θ (if xs.length + ys.length ≤ sizeLine then some (.tup (xs ++ ys), h) else none) Q := P
      by_cases hz : xs.length + ys.length ≤ sizeLine
      · rw [if_pos hz] at P
        refine op_catA pins s σ H _ _ v u Q I rx ry ⟨p, q, vs, ws, rfl, rfl, s1, s2, by rw [← r1.length, ← r2.length]; exact hz, fun e => ?_, fun _ e => ?_, fun _ _ => P.tup R (r1.append r2)⟩
        · subst e
          cases r1
          exact P.same R (.tup s2 r2)
        · subst e
          cases r2
          rw [List.append_nil] at P
          exact P.same R (.tup s1 r1)
      · rw [if_neg hz] at P
        exact P.elim
    | _ => exact P.elim
  | @ref i p q =>
    cases rb with
    | @ref j p2 q2 =>
      have P : PostO X.K X.w H θ (match h[i]?, h[j]? with
        | some (.lst x), some (.lst y) => newL h (x ++ y)
        | _, _ => none) Q := P
      cases e1 : h[i]? with
      | none => rw [e1] at P; exact P.elim
      | some o1 =>
        cases e2 : h[j]? with
        | none => rw [e1, e2] at P; cases o1 <;> exact P.elim
        | some o2 =>
          rw [e1, e2] at P
          cases o1 with
          | lst xs =>
            cases o2 with
            | lst ys =>
              obtain ⟨vs, h1, r1⟩ := R.ob i p _ q e1
              obtain ⟨ws, h2, r2⟩ := R.ob j p2 _ q2 e2
              obtain ⟨hz, hq⟩ := PostO.newL P R (r1.append r2)
              rw [List.length_append] at hz
              exact op_cat pins s σ H _ _ v u Q I rx ry ⟨p, p2, vs, ws, rfl, rfl, h1, h2, hz, hq⟩
            | _ => exact P.elim
          | _ => exact P.elim
    | _ => exact P.elim
  | _ => exact P.elim
theorem or_sub : OpR X (binaryOp .Sub) (rB X.K X.w (binL .Sub)) := by
  intro pins s σ H x y v u Q I rx ry hh
  obtain ⟨a, b, θ, h, R, ra, rb, P⟩ := hh
  cases ra with
  | int i =>
    cases rb with
    | int j => exact op_sub pins s σ H _ _ v u Q I rx ry ⟨i, j, rfl, rfl, P.same R (.int _)⟩
    | _ => exact P.elim
  | _ => exact P.elim
theorem mulOk_ok {i j : Int} (h : mulOk i j = true) : CMul i j := by
  unfold mulOk at h
  simp only [Bool.or_eq_true, Bool.and_eq_true, decide_eq_true_eq] at h
  exact h
theorem or_mul : OpR X (binaryOp .Mult) (rB X.K X.w (binL .Mult)) := by
  intro pins s σ H x y v u Q I rx ry hh
  obtain ⟨a, b, θ, h, R, ra, rb, P⟩ := hh
  cases ra with
  | int i =>
    cases rb with
    | int j =>
      have P : PostO X.K X.w H θ (if mulOk i j = true then some (.int (i * j), h) else none) Q := P
      by_cases hz : mulOk i j = true
      · rw [if_pos hz] at P
        exact op_mul pins s σ H _ _ v u Q I rx ry ⟨i, j, rfl, rfl, mulOk_ok hz, P.same R (.int _)⟩
      · rw [if_neg hz] at P
        exact P.elim
    | _ => exact P.elim
  | @ref i p q =>
    cases rb with
    | int k =>
      have P : PostO X.K X.w H θ (match h[i]? with
        | some (.lst x) => if 0 ≤ k ∧ k < 1000 ∧ x.length ≤ 1000 then newL h (List.replicate k.toNat x).flatten else none
        | _ => none) Q := P
      cases e1 : h[i]? with
      | none => rw [e1] at P; exact P.elim
      | some o1 =>
        rw [e1] at P
        cases o1 with
        | lst xs =>
          simp only at P
          by_cases hz : 0 ≤ k ∧ k < 1000 ∧ xs.length ≤ 1000
          · rw [if_pos hz] at P
            obtain ⟨vs, h1, r1⟩ := R.ob i p _ q e1
            obtain ⟨_, hq⟩ := PostO.newL P R (r1.rep k.toNat)
            refine op_rep pins s σ H _ _ v u Q I rx ry ⟨p, k, vs, rfl, rfl, h1, by omega, by omega, ?_, hq⟩
            rw [← r1.length, sizeLine_eq]
            have a1 : xs.length * k.toNat ≤ 1000 * 1000 := Nat.mul_le_mul hz.2.2 (by omega)
            omega
          · rw [if_neg hz] at P
            exact P.elim
        | _ => exact P.elim
    | _ => exact P.elim
  | str z =>
    cases rb with
    | int k =>
      have P : PostO X.K X.w H θ (if 0 ≤ k ∧ k < 30000 ∧ z.length = 1 then some (.str ⟨(List.replicate k.toNat z.cps.toList).flatten.toArray⟩, h) else none) Q := P
      by_cases hz : 0 ≤ k ∧ k < 30000 ∧ z.length = 1
      · rw [if_pos hz] at P
        have q := P.same R (.str _)
        obtain ⟨tx, rfl⟩ := rx
        obtain ⟨ty, rfl⟩ := ry
        have fl : ∀ m : Nat, (⟨(List.replicate m z.cps.toList).flatten.toArray⟩ : Str) = ⟨(List.replicate m z.cps).foldl (· ++ ·) #[]⟩ := fun m => by
          congr 1
          have aux : ∀ (m : Nat) (acc : List Nat), (List.replicate m z.cps).foldl (· ++ ·) acc.toArray = (acc ++ (List.replicate m z.cps.toList).flatten).toArray := by
            intro m
            induction m with
            | zero => intro acc; simp
            | succ m ih =>
              intro acc
              rw [List.replicate_succ, List.replicate_succ, List.foldl_cons, List.flatten_cons]
              have e : acc.toArray ++ z.cps = (acc ++ z.cps.toList).toArray := by
                apply Array.ext'
                simp
              rw [e, ih, List.append_assoc]
          have q := aux m []
          rw [List.nil_append] at q
          exact q.symm
        rw [fl] at q
        refine PySem.P.mul_str (by
          have a1 : ¬ k < -(2 ^ 63 : Int) := by omega
          have a2 : ¬ k ≥ 2 ^ 63 := by omega
          rw [decide_eq_false a1, decide_eq_false a2]; rfl) (fun h1 _ => ?_) (fun h1 _ => ?_) ?_
        · rw [hz.2.2]
          have h2 : (1 : Int) ≤ (2 ^ 63 - 1) / k := by
            rw [Int.le_ediv_iff_mul_le (by omega)]
            omega
          omega
        · rw [hz.2.2]
          exact decide_eq_false (by rw [Nat.one_mul, sizeLine_eq]; omega)
        · have sz : (⟨(List.replicate k.toNat z.cps).foldl (· ++ ·) #[]⟩ : Str).length ≤ sizeLine := by
            rw [← fl]
            show (List.replicate k.toNat z.cps.toList).flatten.toArray.size ≤ _
            rw [List.size_toArray, List.length_flatten, List.map_replicate, List.sum_replicate_nat]
            have : z.cps.toList.length = 1 := hz.2.2
            rw [this, sizeLine_eq]
            omega
          by_cases h1 : k < 1
          · rw [if_pos h1]
            have e0 : k.toNat = 0 := by omega
            rw [e0] at q
            exact ⟨by decide, ⟨.str _, H, I.tok _, ⟨_, rfl⟩, q⟩⟩
          · rw [if_neg h1]
            by_cases h2 : (k == 1 || z.length == 0) = true
            · rw [if_pos h2]
              have ek : k = 1 := by
                rw [hz.2.2] at h2
                simpa using h2
              subst ek
              have ez : (⟨(List.replicate (1 : Int).toNat z.cps).foldl (· ++ ·) #[]⟩ : Str) = z := by
                show (⟨#[] ++ z.cps⟩ : Str) = z
                simp
              rw [ez] at q
              exact ⟨.str _, H, I, ⟨_, rfl⟩, q⟩
            · rw [if_neg h2]
              exact ⟨sz, ⟨.str _, H, I.tok _, ⟨_, rfl⟩, q⟩⟩
      · rw [if_neg hz] at P
        exact P.elim
    | _ => exact P.elim
  | _ => exact P.elim
theorem or_fdiv : OpR X (binaryOp .FloorDiv) (rB X.K X.w (binL .FloorDiv)) := by
  intro pins s σ H x y v u Q I rx ry hh
  obtain ⟨a, b, θ, h, R, ra, rb, P⟩ := hh
  cases ra with
  | int i =>
    cases rb with
    | int j =>
      have P : PostO X.K X.w H θ (if j ≠ 0 ∧ j.natAbs < 1073741824 then some (.int (i.fdiv j), h) else none) Q := P
      by_cases hz : j ≠ 0 ∧ j.natAbs < 1073741824
      · rw [if_pos hz] at P
        exact op_fdivN pins s σ H _ _ v u Q I rx ry ⟨i, j, rfl, rfl, hz, P.same R (.int _)⟩
      · rw [if_neg hz] at P
        exact P.elim
    | _ => exact P.elim
  | _ => exact P.elim
theorem or_mod : OpR X (binaryOp .Mod) (rB X.K X.w (binL .Mod)) := by
  intro pins s σ H x y v u Q I rx ry hh
  obtain ⟨a, b, θ, h, R, ra, rb, P⟩ := hh
  cases ra with
  | int i =>
    cases rb with
    | int j =>
      have P : PostO X.K X.w H θ (if j ≠ 0 then some (.int (i.fmod j), h) else none) Q := P
      by_cases hz : j ≠ 0
      · rw [if_pos hz] at P
        exact op_modN pins s σ H _ _ v u Q I rx ry ⟨i, j, rfl, rfl, hz, P.same R (.int _)⟩
      · rw [if_neg hz] at P
        exact P.elim
    | _ => exact P.elim
  | _ => exact P.elim
theorem or_pow : OpR X (binaryOp .Pow) (rB X.K X.w (binL .Pow)) := by
  intro pins s σ H x y v u Q I rx ry hh
  obtain ⟨a, b, θ, h, R, ra, rb, P⟩ := hh
  cases ra with
  | int i =>
    cases rb with
    | int j =>
      have P : PostO X.K X.w H θ (if 0 ≤ j ∧ j ≤ 1000000 ∧ i.natAbs < 2 ^ 64 then some (.int (i ^ j.toNat), h) else none) Q := P
      by_cases hz : 0 ≤ j ∧ j ≤ 1000000 ∧ i.natAbs < 2 ^ 64
      · rw [if_pos hz] at P
        exact op_pow pins s σ H _ _ v u Q I rx ry ⟨i, j, rfl, rfl, hz, P.same R (.int _)⟩
      · rw [if_neg hz] at P
        exact P.elim
    | _ => exact P.elim
  | _ => exact P.elim
theorem or_bin : ∀ op : Operator, OpR X (binaryOp op) (rB X.K X.w (binL op))
  | .Add => or_add
  | .Sub => or_sub
  | .Mult => or_mul
  | .FloorDiv => or_fdiv
  | .Mod => or_mod
  | .Pow => or_pow
  | .MatMult => fun _ _ _ _ _ _ _ _ _ _ _ _ ⟨_, _, _, _, _, _, _, P⟩ => P.elim
  | .Div => fun _ _ _ _ _ _ _ _ _ _ _ _ ⟨_, _, _, _, _, _, _, P⟩ => P.elim
  | .LShift => fun _ _ _ _ _ _ _ _ _ _ _ _ ⟨_, _, _, _, _, _, _, P⟩ => P.elim
  | .RShift => fun _ _ _ _ _ _ _ _ _ _ _ _ ⟨_, _, _, _, _, _, _, P⟩ => P.elim
  | .BitOr => fun _ _ _ _ _ _ _ _ _ _ _ _ ⟨_, _, _, _, _, _, _, P⟩ => P.elim
  | .BitXor => fun _ _ _ _ _ _ _ _ _ _ _ _ ⟨_, _, _, _, _, _, _, P⟩ => P.elim
  | .BitAnd => fun _ _ _ _ _ _ _ _ _ _ _ _ ⟨_, _, _, _, _, _, _, P⟩ => P.elim
end
end Ly
end
section
set_option Elab.async false
set_option linter.all false
set_option autoImplicit false
set_option maxRecDepth 100000
/-! Comparisons, subscripts, slices, stores. -/
namespace Ly
open PySem PySem.Spec PyProof.Rows L2

def rC (K : PySem.W.Frag) (w : World) (op : CmpOp) : R2 := rB K w fun x y h => okB (cmpL op x y h) h
section
variable {X : Cx}
theorem okB_some {K : PySem.W.Frag} {w : World} {H : Hp} {θ : List Addr} {o : Option Bool} {h : LH} {Q : VK} (P : PostO K w H θ (okB o h) Q) : ∃ b, o = some b ∧ PostO K w H θ (some (.bl b, h)) Q := by
  cases o with
  | none => exact P.elim
  | some b => exact ⟨b, rfl, P⟩
theorem okV_some {K : PySem.W.Frag} {w : World} {H : Hp} {θ : List Addr} {o : Option L} {h : LH} {Q : VK} (P : PostO K w H θ (okV o h) Q) : ∃ b, o = some b ∧ PostO K w H θ (some (b, h)) Q := by
  cases o with
  | none => exact P.elim
  | some b => exact ⟨b, rfl, P⟩
theorem eqL_some {x y : L} {h : LH} {b : Bool} (e : eqL x y h = some b) : ∃ d d', toD h deepest x = some d ∧ toD h deepest y = some d' ∧ SeqAt.shaped d = true ∧ SeqAt.shaped d' = true ∧ b = PyData.eqv d d' := by
  unfold eqL at e
  cases h1 : toD h deepest x with
  | none => rw [h1] at e; cases e
  | some d =>
    cases h2 : toD h deepest y with
    | none => rw [h1, h2] at e; cases e
    | some d' =>
      rw [h1, h2] at e
      simp only at e
      by_cases hz : SeqAt.shaped d = true ∧ SeqAt.shaped d' = true
      · rw [if_pos hz] at e
        cases e
        exact ⟨d, d', rfl, rfl, hz.1, hz.2, rfl⟩
      · rw [if_neg hz] at e; cases e
theorem or_eq (hu : X.A.units + 64 < cLine) : OpR X (compareOp .Eq) (rC X.K X.w .Eq) := by
  intro pins s σ H x y v u Q I rx ry hh
  obtain ⟨a, b, θ, h, R, ra, rb, P⟩ := hh
  obtain ⟨c, e, P⟩ := okB_some P
  obtain ⟨d, d', h1, h2, h3, h4, rfl⟩ := eqL_some e
  exact op_eqD hu pins s σ H _ _ v u Q I rx ry ⟨d, d', R.dp h1 ra, R.dp h2 rb, h3, h4, P.same R (.bl _)⟩
theorem or_ne (hu : X.A.units + 64 < cLine) : OpR X (compareOp .NotEq) (rC X.K X.w .NotEq) := by
  intro pins s σ H x y v u Q I rx ry hh
  obtain ⟨a, b, θ, h, R, ra, rb, P⟩ := hh
  obtain ⟨c, e, P⟩ := okB_some P
  obtain ⟨c', e', rfl⟩ := Option.map_eq_some_iff.mp (show (eqL a b h).map not = some c from e)
  have e := e'
  obtain ⟨d, d', h1, h2, h3, h4, rfl⟩ := eqL_some e
  exact op_neD hu pins s σ H _ _ v u Q I rx ry ⟨d, d', R.dp h1 ra, R.dp h2 rb, h3, h4, P.same R (.bl _)⟩
theorem or_lt : OpR X (compareOp .Lt) (rC X.K X.w .Lt) := by
  intro pins s σ H x y v u Q I rx ry hh
  obtain ⟨a, b, θ, h, R, ra, rb, P⟩ := hh
  cases ra with
  | int i =>
    cases rb with
    | int j => exact op_lt pins s σ H _ _ v u Q I rx ry ⟨i, j, rfl, rfl, P.same R (.bl _)⟩
    | _ => exact P.elim
  | _ => exact P.elim
theorem or_le : OpR X (compareOp .LtE) (rC X.K X.w .LtE) := by
  intro pins s σ H x y v u Q I rx ry hh
  obtain ⟨a, b, θ, h, R, ra, rb, P⟩ := hh
  cases ra with
  | int i =>
    cases rb with
    | int j => exact op_le pins s σ H _ _ v u Q I rx ry ⟨i, j, rfl, rfl, P.same R (.bl _)⟩
    | _ => exact P.elim
  | _ => exact P.elim
theorem or_gt : OpR X (compareOp .Gt) (rC X.K X.w .Gt) := by
  intro pins s σ H x y v u Q I rx ry hh
  obtain ⟨a, b, θ, h, R, ra, rb, P⟩ := hh
  cases ra with
  | int i =>
    cases rb with
    | int j => exact op_gt pins s σ H _ _ v u Q I rx ry ⟨i, j, rfl, rfl, P.same R (.bl _)⟩
    | _ => exact P.elim
  | _ => exact P.elim
theorem or_ge : OpR X (compareOp .GtE) (rC X.K X.w .GtE) := by
  intro pins s σ H x y v u Q I rx ry hh
  obtain ⟨a, b, θ, h, R, ra, rb, P⟩ := hh
  cases ra with
  | int i =>
    cases rb with
    | int j => exact op_ge pins s σ H _ _ v u Q I rx ry ⟨i, j, rfl, rfl, P.same R (.bl _)⟩
    | _ => exact P.elim
  | _ => exact P.elim
theorem isNon_v {K : PySem.W.Frag} {H : Hp} {θ : List Addr} {x : L} {v : V} (r : RelL K H θ x v) : isNon x = decide (v = .non) := by
  cases r <;> rfl
theorem or_is : OpR X (compareOp .Is) (rC X.K X.w .Is) := by
  intro pins s σ H x y v u Q I rx ry hh
  obtain ⟨a, b, θ, h, R, ra, rb, P⟩ := hh
  cases rb with
  | non =>
    have P : PostO X.K X.w H θ (some (.bl (isNon a), h)) Q := P
    rw [isNon_v ra] at P
    exact op_isN pins s σ H _ _ v u Q I rx ry ⟨rfl, P.same R (.bl _)⟩
  | _ => exact P.elim
theorem or_isnot : OpR X (compareOp .IsNot) (rC X.K X.w .IsNot) := by
  intro pins s σ H x y v u Q I rx ry hh
  obtain ⟨a, b, θ, h, R, ra, rb, P⟩ := hh
  cases rb with
  | non =>
    have P : PostO X.K X.w H θ (some (.bl (!isNon a), h)) Q := P
    rw [isNon_v ra] at P
    exact op_notN pins s σ H _ _ v u Q I rx ry ⟨rfl, P.same R (.bl _)⟩
  | _ => exact P.elim
theorem inL_some {K : PySem.W.Frag} {w : World} {H : Hp} {θ : List Addr} {h : LH} {a b : L} {x y : V} {c : Bool} (R : HR K w H θ h) (ra : RelL K H θ a x) (rb : RelL K H θ b y) (e : inL a b h = some c) :
    (∃ p xs, y = .ref p ∧ (SqL K H p xs ∨ SqT K H p xs) ∧ flatV x = true ∧ xs.all flatV = true ∧ c = inV x xs) ∨ ∃ p o, y = .ref p ∧ DGet H p x o ∧ c = o.isSome := by
  unfold inL at e
  cases h1 : seqAt h b with
  | some xs =>
    rw [h1] at e
    simp only at e
    cases h2 : a.fv with
    | none => rw [h2] at e; cases e
    | some a' =>
      cases h3 : mapO L.fv xs with
      | none => rw [h2, h3] at e; cases e
      | some bs =>
        rw [h2, h3] at e
        cases e
        obtain ⟨p, vs, e1, e2, e3⟩ := R.sq h1 rb
        have e4 := ra.fv h2
        have e5 := e3.fvs h3
        subst e4 e5
        exact .inl ⟨p, vs, e1, e2, flatV_fv h2, flatV_fvs h3, rfl⟩
  | none =>
    rw [h1] at e
    simp only at e
    cases rb with
    | @ref i p q =>
      simp only at e
      cases h2 : h[i]? with
      | none => rw [h2] at e; cases e
      | some o =>
        rw [h2] at e
        cases h3 : a.key with
        | none => rw [h3] at e; cases o <;> cases e
        | some k =>
          rw [h3] at e
          cases o with
          | dk kvs =>
            cases e
            obtain ⟨ws, g1, g2⟩ := R.ob i p _ q h2
            have e4 := ra.key h3
            subst e4
            exact .inr ⟨p, _, rfl, DGet.k g1, (g2.isSome k).symm⟩
          | _ => cases e
    | _ => cases e
theorem or_in (hu : X.A.units + 64 < cLine) : OpR X (compareOp .In) (rC X.K X.w .In) := by
  intro pins s σ H x y v u Q I rx ry hh
  obtain ⟨a, b, θ, h, R, ra, rb, P⟩ := hh
  obtain ⟨c, e, P⟩ := okB_some P
  rcases inL_some R ra rb e with ⟨p, xs, rfl, h1, h2, h3, rfl⟩ | ⟨p, o, rfl, g, rfl⟩
  · exact op_in_seq pins s σ H _ _ v u Q I rx ry ⟨p, xs, rfl, h1, h2, h3, P.same R (.bl _)⟩
  · obtain rfl : u = Value.ref p := ry
    exact d_in (by omega) I g rx fun s3 I3 => ⟨.bl o.isSome, H, I3, rfl, P.same R (.bl _)⟩
theorem or_notin (hu : X.A.units + 64 < cLine) : OpR X (compareOp .NotIn) (rC X.K X.w .NotIn) := by
  intro pins s σ H x y v u Q I rx ry hh
  obtain ⟨a, b, θ, h, R, ra, rb, P⟩ := hh
  obtain ⟨c, e, P⟩ := okB_some P
  obtain ⟨c', e', rfl⟩ := Option.map_eq_some_iff.mp (show (inL a b h).map not = some c from e)
  have e := e'
  rcases inL_some R ra rb e with ⟨p, xs, rfl, h1, h2, h3, rfl⟩ | ⟨p, o, rfl, g, rfl⟩
  · exact op_notIn_seq pins s σ H _ _ v u Q I rx ry ⟨p, xs, rfl, h1, h2, h3, P.same R (.bl _)⟩
  · obtain rfl : u = Value.ref p := ry
    exact d_notIn (by omega) I g rx fun s3 I3 => ⟨.bl (!o.isSome), H, I3, rfl, P.same R (.bl _)⟩
theorem or_cmp (hu : X.A.units + 64 < cLine) : ∀ op : CmpOp, OpR X (compareOp op) (rC X.K X.w op)
  | .Eq => or_eq hu
  | .NotEq => or_ne hu
  | .Lt => or_lt
  | .LtE => or_le
  | .Gt => or_gt
  | .GtE => or_ge
  | .Is => or_is
  | .IsNot => or_isnot
  | .In => or_in hu
  | .NotIn => or_notin hu

/-! ### subscripts -/
theorem rel_atI {K : PySem.W.Frag} {H : Hp} {θ : List Addr} {xs : List L} {vs : List V} (r : RelLs K H θ xs vs) {i : Int} {x : L} (e : atI xs i = some x) : ∃ v, atI vs i = some v ∧ RelL K H θ x v := by
  unfold atI at e ⊢
  rw [← r.length]
  cases q : ixN xs.length i with
  | none => rw [q] at e; cases e
  | some j =>
    rw [q] at e
    exact r.get e
theorem ix_dk (hu : X.A.units + 1 < cLine) : IxR X (fun x y H Q => ∃ a v, x = .ref a ∧ DGet H a y (some v) ∧ Q v H) := by
  intro value slice pins s σ H x y v u Q I rx ry h hs
  obtain ⟨a, z, rfl, g, q⟩ := h
  obtain rfl : v = Value.ref a := rx
  exact tail_any (dict_typeIs I g) PySem.F.slot_dict_getitem.lookup (d_getItem hu I g ry fun w' s3 I3 rw' => ⟨z, H, I3, rw', q⟩) hs
def rIdx (K : PySem.W.Frag) (w : World) : R2 := rB K w idxL
theorem ix_idx (hu : X.A.units + 64 < cLine) : IxR X (rIdx X.K X.w) := by
  intro value slice pins s σ H x y v u Q I rx ry hh hs
  obtain ⟨a, b, θ, h, R, ra, rb, P⟩ := hh
  have seq : ∀ xs, seqAt h a = some xs → PostO X.K X.w H θ (atL xs b h) Q → wpAny (model X.prog X.w) X.A (subscriptTail value slice v u) (EP X pins σ Q) X.xe s := fun xs e P => by
    cases rb with
    | int i =>
      obtain ⟨z, e2, P⟩ := okV_some (o := atI xs i) P
      obtain ⟨p, vs, rfl, hq, r⟩ := R.sq e ra
      obtain ⟨y', e3, r3⟩ := rel_atI r e2
      have q := P.same R r3
      rcases hq with hq | hq
      · exact ix_list value slice pins s σ H _ _ v u Q I rx ry ⟨p, vs, i, y', rfl, rfl, hq, e3, q⟩ hs
      · exact ix_tup value slice pins s σ H _ _ v u Q I rx ry ⟨p, vs, i, y', rfl, rfl, hq, e3, q⟩ hs
    | _ => exact P.elim
  have dic : PostO X.K X.w H θ (atD a b h) Q → wpAny (model X.prog X.w) X.A (subscriptTail value slice v u) (EP X pins σ Q) X.xe s := fun P => by
    cases ra with
    | @ref i p q =>
      unfold atD at P
      simp only at P
      cases h2 : h[i]? with
      | none => rw [h2] at P; exact P.elim
      | some o =>
        cases h3 : b.key with
        | none => rw [h2, h3] at P; cases o <;> exact P.elim
        | some k =>
          rw [h2, h3] at P
          cases o with
          | dk kvs =>
            obtain ⟨z, e2, P⟩ := okV_some P
            obtain ⟨ws, g1, g2⟩ := R.ob i p _ q h2
            obtain ⟨zv, e5, r5⟩ := g2.some_ e2
            have e4 := rb.key h3
            subst e4
            refine ix_dk (by omega) value slice pins s σ H _ _ v u Q I rx ry ⟨p, zv, rfl, ?_, P.same R r5⟩ hs
            rw [← e5]
            exact DGet.k g1
          | _ => exact P.elim
    | _ => exact P.elim
  have both : (match seqAt h a with
    | some xs => PostO X.K X.w H θ (atL xs b h) Q
    | none => PostO X.K X.w H θ (atD a b h) Q) → wpAny (model X.prog X.w) X.A (subscriptTail value slice v u) (EP X pins σ Q) X.xe s := fun P => by
    cases e : seqAt h a with
    | some xs => rw [e] at P; exact seq xs e P
    | none => rw [e] at P; exact dic P
  cases a with
  | str z =>
    cases ra
    cases rb with
    | int i =>
      unfold idxL atS at P
      simp only at P
      by_cases hz : z.length ≤ sizeLine
      · rw [if_pos hz] at P
        cases e : atI z.cps.toList i with
        | none => rw [e] at P; exact P.elim
        | some c =>
          rw [e] at P
          exact ix_str value slice pins s σ H _ _ v u Q I rx ry ⟨z, i, c, rfl, rfl, hz, e, PostO.same P R (.str _)⟩ hs
      · rw [if_neg hz] at P
        exact P.elim
    | _ => exact P.elim
  | non => exact dic P
  | bl _ => exact dic P
  | int _ => exact dic P
  | tup xs => exact seq xs rfl P
  | rol xs => exact seq xs rfl P
  | ref r =>
    refine both ?_
    have P : PostO X.K X.w H θ (match seqAt h (.ref r) with
      | some xs => atL xs b h
      | none => atD (.ref r) b h) Q := P
    cases e : seqAt h (.ref r) with
    | some xs => rw [e] at P; exact P
    | none => rw [e] at P; exact P
theorem sl_slc : SlR X (fun x lo hi H Q => ∃ (a : L) (θ : List Addr) (h : LH), HR X.K X.w H θ h ∧ RelL X.K H θ a x ∧ PostO X.K X.w H θ (slcA a lo hi h) Q) := by
  intro pins s σ H x v vl vu lo hi sl Q I rx hs pl pu hh
  obtain ⟨a, θ, h, R, ra, P⟩ := hh
  have lst2 : PostO X.K X.w H θ (match lstAt h a with
    | some xs => newL h (cut xs lo hi)
    | none => none) Q → ∃ T id, typeLookup (.type T) "__getitem__" = pure (some (.builtin id)) ∧ s.TypeIs v T ∧ wpAny (model X.prog X.w) X.A (getItem v (.ref sl)) (EP X pins σ Q) X.xe s := by
    cases e : lstAt h a with
    | none => exact fun P => P.elim
    | some xs =>
      intro P
      obtain ⟨p, vs, rfl, hq, r⟩ := R.lst e ra
      obtain ⟨_, hn⟩ := PostO.newL P R (r.cut lo hi)
      exact sl_list pins s σ H _ v vl vu lo hi sl Q I rx hs pl pu ⟨p, vs, rfl, hq, hn⟩
  cases a with
  | tup xs =>
    cases ra with
    | @tup _ p vs s1 r1 =>
      have P : PostO X.K X.w H θ (some (.tup (cut xs lo hi), h)) Q := P
      refine sl_tupA pins s σ H _ v vl vu lo hi sl Q I rx hs pl pu ⟨p, vs, rfl, s1, fun hw => ?_, fun _ => PostO.tup P R (r1.cut lo hi)⟩
      have e : cut xs lo hi = xs := by
        have hl := r1.length
        unfold Ly.cut
        rw [hl, hw.1, hw.2, List.drop_zero, Nat.sub_zero, ← hl, List.take_length]
      rw [e] at P
      exact P.same R (.tup s1 r1)
  | non => exact lst2 P
  | bl _ => exact lst2 P
  | int _ => exact lst2 P
  | str _ => exact lst2 P
  | rol xs => exact lst2 P
  | ref r => exact lst2 P
/-! ### o[i] = v -/
def rPut (K : PySem.W.Frag) (w : World) : TSet := fun o i v H Q => ∃ a b c θ h h', HR K w H θ h ∧ RelL K H θ a o ∧ RelL K H θ b i ∧ RelL K H θ c v ∧ putL a b c h = some h' ∧ ∀ H', Ev H H' θ θ → HR K w H' θ h' → Q H'
theorem set_put (hu : X.A.units + 64 < cLine) : PSet X (rPut X.K X.w) := by
  intro pins s σ H o i v ov iv u Q I ro ri rv hh
  obtain ⟨a, b, c, θ, h, h', R, ra, rb, rc, e, q⟩ := hh
  cases a with
  | ref r =>
    cases ra with
    | @ref _ p t =>
      have e : putO h r b c h[r]? = some h' := e
      cases h2 : h[r]? with
      | none => rw [h2] at e; cases e
      | some ob =>
        rw [h2] at e
        cases ob with
        | lst xs =>
          have e : putA h r xs c b = some h' := e
          obtain ⟨vs, g1, g2⟩ := R.ob r p _ t h2
          cases b with
          | int k =>
            cases rb
            obtain ⟨j, e1, rfl⟩ := Option.map_eq_some_iff.mp (show (ixN xs.length k).map _ = some h' from e)
            refine set_list pins s σ H _ _ v ov iv u Q I ro ri rv ⟨p, vs, k, j, rfl, rfl, g1, by rw [← g2.length]; exact e1, ?_⟩
            have g : Grow H (upd H p (.lst (vs.set j v))) := Grow.upd g1 loose_lst
            exact q _ (Ev.upd g1 (by first | exact loose_lst | exact loose_dK) (List.mem_of_getElem? t)) (R.set t g1 loose_lst ⟨_, upd_same, (g2.set rc j).mono g (List.prefix_refl _)⟩)
          | _ => cases e
        | dk kvs =>
          have e : putK' h r kvs c b.key = some h' := e
          obtain ⟨ws, g1, g2⟩ := R.ob r p _ t h2
          cases h3 : b.key with
          | none => rw [h3] at e; cases e
          | some k =>
            rw [h3] at e
            unfold putK' at e
            simp only at e
            by_cases hz : kvs.length < sizeLine
            · rw [if_pos hz] at e
              cases e
              have e4 := rb.key h3
              subst e4
              refine set_dict (by omega) pins s σ H _ _ v ov iv u Q I ro ri rv ⟨p, _, rfl, DPut.k g1 (by rw [← g2.length]; exact hz), ?_⟩
              have g : Grow H (upd H p (.dK (putK ws k v))) := Grow.upd g1 loose_dK
              exact q _ (Ev.upd g1 (by first | exact loose_lst | exact loose_dK) (List.mem_of_getElem? t)) (R.set t g1 loose_dK ⟨_, upd_same, (g2.put rc k).mono g (List.prefix_refl _)⟩)
            · rw [if_neg hz] at e; cases e
        | _ => cases e
  | _ => cases e
end
end Ly
end
section
set_option Elab.async false
set_option linter.all false
set_option autoImplicit false
set_option maxRecDepth 100000
/-! Built-in functions: what the interpreter answers is what the machine answers. -/
namespace Ly
open PySem PySem.Spec PyProof.Rows L2

/-! ### sorting, by hand -/
theorem insI_perm (x : Int) : ∀ ys : List Int, (insI x ys).Perm (x :: ys)
  | [] => .refl _
  | y :: ys => by
    unfold insI
    by_cases h : x ≤ y
    · rw [if_pos h]
    · rw [if_neg h]
      exact ((insI_perm x ys).cons y).trans (.swap x y ys)
theorem sortI_perm : ∀ xs : List Int, (sortI xs).Perm xs
  | [] => .refl _
  | x :: xs => (insI_perm x (sortI xs)).trans ((sortI_perm xs).cons x)
theorem insI_up (x : Int) : ∀ {ys : List Int}, ys.Pairwise (· ≤ ·) → (insI x ys).Pairwise (· ≤ ·)
  | [], _ => by simp [insI]
  | y :: ys, h => by
    unfold insI
    have h' := List.pairwise_cons.mp h
    by_cases e : x ≤ y
    · rw [if_pos e]
      refine List.pairwise_cons.mpr ⟨fun z hz => ?_, h⟩
      rcases List.mem_cons.mp hz with rfl | hz
      · exact e
      · exact Int.le_trans e (h'.1 z hz)
    · rw [if_neg e]
      refine List.pairwise_cons.mpr ⟨fun z hz => ?_, insI_up x h'.2⟩
      rcases List.mem_cons.mp ((insI_perm x ys).mem_iff.mp hz) with rfl | hz
      · omega
      · exact h'.1 z hz
theorem sortI_up : ∀ xs : List Int, (sortI xs).Pairwise (· ≤ ·)
  | [] => .nil
  | x :: xs => insI_up x (sortI_up xs)
theorem sortI_uni {xs ys : List Int} (p : ys.Perm xs) (h : ys.Pairwise (· ≤ ·)) : ys = sortI xs :=
  List.Perm.eq_of_pairwise (le := (· ≤ ·)) (fun a b _ _ h1 h2 => Int.le_antisymm h1 h2) h (sortI_up xs) (p.trans (sortI_perm xs).symm)
theorem insS_perm (x : Str) : ∀ ys : List Str, (insS x ys).Perm (x :: ys)
  | [] => .refl _
  | y :: ys => by
    unfold insS
    by_cases h : ltCps y.cps.toList x.cps.toList = true
    · rw [if_pos h]
      exact ((insS_perm x ys).cons y).trans (.swap x y ys)
    · rw [if_neg h]
theorem sortS_perm : ∀ xs : List Str, (sortS xs).Perm xs
  | [] => .refl _
  | x :: xs => (insS_perm x (sortS xs)).trans ((sortS_perm xs).cons x)
def leS (a b : Str) : Prop := ltCps b.cps.toList a.cps.toList = false
theorem leS_iff {a b : Str} : leS a b ↔ a.cps.toList ≤ b.cps.toList := by
  unfold leS
  rw [ltCps_eq, decide_eq_false_iff_not, List.not_lt]
theorem leS_tr {a b c : Str} (h1 : leS a b) (h2 : leS b c) : leS a c := by
  rw [leS_iff] at *
  exact List.le_trans h1 h2
theorem leS_as {a b : Str} (h1 : leS a b) (h2 : leS b a) : a = b := by
  rw [leS_iff] at *
  exact Str.ext' (Array.toList_inj.mp (List.le_antisymm h1 h2))
theorem leS_tot {a b : Str} (h : ¬ leS a b) : leS b a := by
  rw [leS_iff] at *
  rcases List.le_total a.cps.toList b.cps.toList with x | x
  · exact (h x).elim
  · exact x
theorem insS_up (x : Str) : ∀ {ys : List Str}, ys.Pairwise leS → (insS x ys).Pairwise leS
  | [], _ => by simp [insS]
  | y :: ys, h => by
    unfold insS
    have h' := List.pairwise_cons.mp h
    by_cases e : ltCps y.cps.toList x.cps.toList = true
    · rw [if_pos e]
      refine List.pairwise_cons.mpr ⟨fun z hz => ?_, insS_up x h'.2⟩
      rcases List.mem_cons.mp ((insS_perm x ys).mem_iff.mp hz) with rfl | hz
      · exact leS_tot (fun q => by unfold leS at q; rw [q] at e; cases e)
      · exact h'.1 z hz
    · rw [if_neg e]
      have e' : leS x y := by
        unfold leS
        exact Bool.eq_false_iff.mpr e
      refine List.pairwise_cons.mpr ⟨fun z hz => ?_, h⟩
      rcases List.mem_cons.mp hz with rfl | hz
      · exact e'
      · exact leS_tr e' (h'.1 z hz)
theorem sortS_up : ∀ xs : List Str, (sortS xs).Pairwise leS
  | [] => .nil
  | x :: xs => insS_up x (sortS_up xs)
theorem rising_up : ∀ {xs : List Str} {p : Str}, risingS p xs = true → (p :: xs).Pairwise leS
  | [], _, _ => by simp
  | x :: r, p, h => by
    have h : (!ltCps x.cps.toList p.cps.toList && risingS x r) = true := h
    rw [Bool.and_eq_true] at h
    have h1 : leS p x := by
      unfold leS
      simpa using h.1
    have h2 := rising_up h.2
    refine List.pairwise_cons.mpr ⟨fun z hz => ?_, h2⟩
    rcases List.mem_cons.mp hz with rfl | hz
    · exact h1
    · exact leS_tr h1 ((List.pairwise_cons.mp h2).1 z hz)
theorem sortedS_up : ∀ {xs : List Str}, sortedS xs = true → xs.Pairwise leS
  | [], _ => .nil
  | _ :: _, h => rising_up h
theorem sortS_uni {xs ys : List Str} (p : ys.Perm xs) (h : sortedS ys = true) : ys = sortS xs :=
  List.Perm.eq_of_pairwise (le := leS) (fun a b _ _ h1 h2 => leS_as h1 h2) (sortedS_up h) (sortS_up xs) (p.trans (sortS_perm xs).symm)
theorem maxI_most : ∀ (x : Int) (xs : List Int), maxI (x :: xs) ∈ x :: xs ∧ ∀ y, y ∈ x :: xs → y ≤ maxI (x :: xs)
  | x, [] => ⟨List.mem_cons_self, fun y hy => by simp at hy; subst hy; exact Int.le_refl _⟩
  | x, z :: xs => by
    obtain ⟨h1, h2⟩ := maxI_most z xs
    have e : maxI (x :: z :: xs) = if maxI (z :: xs) > x then maxI (z :: xs) else x := rfl
    rw [e]
    by_cases hg : maxI (z :: xs) > x
    · rw [if_pos hg]
      refine ⟨List.mem_cons_of_mem _ h1, fun y hy => ?_⟩
      rcases List.mem_cons.mp hy with rfl | hy
      · omega
      · exact h2 y hy
    · rw [if_neg hg]
      refine ⟨List.mem_cons_self, fun y hy => ?_⟩
      rcases List.mem_cons.mp hy with rfl | hy
      · exact Int.le_refl _
      · have := h2 y hy
        omega
theorem minI_least : ∀ (x : Int) (xs : List Int), minI (x :: xs) ∈ x :: xs ∧ ∀ y, y ∈ x :: xs → minI (x :: xs) ≤ y
  | x, [] => ⟨List.mem_cons_self, fun y hy => by simp at hy; subst hy; exact Int.le_refl _⟩
  | x, z :: xs => by
    obtain ⟨h1, h2⟩ := minI_least z xs
    have e : minI (x :: z :: xs) = if minI (z :: xs) < x then minI (z :: xs) else x := rfl
    rw [e]
    by_cases hg : minI (z :: xs) < x
    · rw [if_pos hg]
      refine ⟨List.mem_cons_of_mem _ h1, fun y hy => ?_⟩
      rcases List.mem_cons.mp hy with rfl | hy
      · omega
      · exact h2 y hy
    · rw [if_neg hg]
      refine ⟨List.mem_cons_self, fun y hy => ?_⟩
      rcases List.mem_cons.mp hy with rfl | hy
      · exact Int.le_refl _
      · have := h2 y hy
        omega

/-! ### reading -/
section
variable {K : PySem.W.Frag} {w : World} {H : Hp} {θ : List Addr} {h : LH} {Q : VK}
theorem post_bind {α : Type} {o : Option α} {f : α → Option (L × LH)} (P : PostO K w H θ (o.bind f) Q) : ∃ a, o = some a ∧ PostO K w H θ (f a) Q := by
  cases o with
  | none => exact P.elim
  | some a => exact ⟨a, rfl, P⟩
theorem post_if {p : Prop} [Decidable p] {o : Option (L × LH)} (P : PostO K w H θ (if p then o else none) Q) : p ∧ PostO K w H θ o Q := by
  by_cases hp : p
  · rw [if_pos hp] at P; exact ⟨hp, P⟩
  · rw [if_neg hp] at P; exact P.elim
theorem HR.refO {v : L} {o : LO} {y : V} (R : HR K w H θ h) (e : refO h v = some o) (r : RelL K H θ v y) : ∃ a, y = .ref a ∧ ObR K w H θ o a := by
  cases v with
  | ref i =>
    cases r with
    | ref t => exact ⟨_, rfl, R.ob i _ _ t e⟩
  | _ => cases e
theorem HR.gotI {v : L} {ns : List Int} {y : V} (R : HR K w H θ h) (e : gotI h v = some ns) (r : RelL K H θ v y) : ∃ a, y = .ref a ∧ SqL K H a (ns.map V.int) := by
  obtain ⟨xs, e1, e2⟩ := Option.bind_eq_some_iff.mp (show (lstAt h v).bind (mapO L.int?) = some ns from e)
  obtain ⟨a, vs, rfl, h1, h2⟩ := R.lst e1 r
  have e3 := h2.ints e2
  subst e3
  exact ⟨a, rfl, h1⟩
theorem HR.gotB {v : L} {ns : List Bool} {y : V} (R : HR K w H θ h) (e : gotB h v = some ns) (r : RelL K H θ v y) : ∃ a, y = .ref a ∧ SqL K H a (ns.map V.bl) := by
  obtain ⟨xs, e1, e2⟩ := Option.bind_eq_some_iff.mp (show (lstAt h v).bind (mapO L.bl?) = some ns from e)
  obtain ⟨a, vs, rfl, h1, h2⟩ := R.lst e1 r
  have e3 := h2.bls e2
  subst e3
  exact ⟨a, rfl, h1⟩
theorem mapO_length {α β : Type} {f : α → Option β} : ∀ {xs : List α} {ys : List β}, mapO f xs = some ys → xs.length = ys.length
  | [], _, e => by cases e; rfl
  | x :: xs, ys, e => by
    unfold mapO at e
    cases h1 : f x with
    | none => rw [h1] at e; cases e
    | some u =>
      cases h2 : mapO f xs with
      | none => rw [h1, h2] at e; cases e
      | some us' =>
        rw [h1, h2] at e
        cases e
        exact congrArg (· + 1) (mapO_length h2)
theorem intK_keys : ∀ {ks : List Key} {ns : List Int}, mapO intK ks = some ns → ks = ns.map Sum.inl
  | [], _, e => by cases e; rfl
  | k :: ks, ns, e => by
    unfold mapO at e
    cases k with
    | inr x => cases e
    | inl i =>
      cases h2 : mapO intK ks with
      | none => rw [h2] at e; cases e
      | some us =>
        rw [h2] at e
        cases e
        rw [intK_keys h2]; rfl
theorem keys_rel : ∀ {kvs : List (Key × L)} {ws : List (Key × V)}, RelK K H θ kvs ws → RelLs K H θ (kvs.map fun kv => kL kv.1) (ws.map fun kv => kV kv.1)
  | _, _, .nil => .nil
  | _, _, .cons _ b => .cons (rel_key _) (keys_rel b)
/-- depth and shape of data -/
theorem toD_depthAll {n : Nat} (ih : ∀ {v : L} {d : PyData}, toD h n v = some d → d.depth ≤ n) : ∀ {xs : List L} {ds : List PyData}, mapO (toD h n) xs = some ds → PyData.depthAll ds ≤ n
  | [], ds, e => by cases e; exact Nat.zero_le _
  | x :: xs, ds, e => by
    unfold mapO at e
    cases h1 : toD h n x with
    | none => rw [h1] at e; cases e
    | some u =>
      cases h2 : mapO (toD h n) xs with
      | none => rw [h1, h2] at e; cases e
      | some us =>
        rw [h1, h2] at e
        cases e
        have a := ih h1
        have b := toD_depthAll ih h2
        simp only [PyData.depthAll]
        omega
theorem toD_depth : ∀ {n : Nat} {v : L} {d : PyData}, toD h n v = some d → d.depth ≤ n
  | 0, _, _, e => by cases e
  | n + 1, v, d, e => by
    cases v with
    | non => cases e; simp [PyData.depth]
    | bl b => cases e; simp [PyData.depth]
    | int i => cases e; simp [PyData.depth]
    | str z => cases e; simp [PyData.depth]
    | tup xs =>
      obtain ⟨ds, e1, rfl⟩ := Option.map_eq_some_iff.mp (show (mapO (toD h n) xs).map PyData.tuple = some d from e)
      have := toD_depthAll (fun q => toD_depth q) e1
      simp only [PyData.depth]; omega
    | rol xs =>
      obtain ⟨ds, e1, rfl⟩ := Option.map_eq_some_iff.mp (show (mapO (toD h n) xs).map PyData.list = some d from e)
      have := toD_depthAll (fun q => toD_depth q) e1
      simp only [PyData.depth]; omega
    | ref r =>
      have e : (match h[r]? with
        | some (.lst xs) => (mapO (toD h n) xs).map PyData.list
        | _ => none) = some d := e
      cases h2 : h[r]? with
      | none => rw [h2] at e; cases e
      | some o =>
        rw [h2] at e
        cases o with
        | lst xs =>
          obtain ⟨ds, e1, rfl⟩ := Option.map_eq_some_iff.mp (show (mapO (toD h n) xs).map PyData.list = some d from e)
          have := toD_depthAll (fun q => toD_depth q) e1
          simp only [PyData.depth]; omega
        | _ => cases e
end

/-! ### the rules -/
def rCs (K : PySem.W.Frag) (w : World) (f : List L → LH → Option (L × LH)) : List V → Hp → VK → Prop := fun xs H Q => ∃ as θ h, HR K w H θ h ∧ RelLs K H θ as xs ∧ PostO K w H θ (f as h) Q
def rC1 (K : PySem.W.Frag) (w : World) (f : L → LH → Option (L × LH)) : List V → Hp → VK → Prop := fun xs H Q => ∃ a x θ h, xs = [x] ∧ HR K w H θ h ∧ RelL K H θ a x ∧ PostO K w H θ (f a h) Q
def rC2 (K : PySem.W.Frag) (w : World) (f : L → L → LH → Option (L × LH)) : List V → Hp → VK → Prop := fun xs H Q => ∃ a b x y θ h, xs = [x, y] ∧ HR K w H θ h ∧ RelL K H θ a x ∧ RelL K H θ b y ∧ PostO K w H θ (f a b h) Q
section
variable {X : Cx} {f : Value} {g : L → LH → Option (L × LH)} {g2 : L → L → LH → Option (L × LH)}
theorem c_one (c : CallR X f (rC1 X.K X.w g)) : CallR X f (rCs X.K X.w (one g)) := by
  intro pins s σ H xs us Q I r hh
  obtain ⟨as, θ, h, R, ra, P⟩ := hh
  cases ra with
  | nil => exact P.elim
  | cons r1 rs =>
    cases rs with
    | nil => exact c pins s σ H _ us Q I r ⟨_, _, θ, h, rfl, R, r1, P⟩
    | cons r2 rs => exact P.elim
theorem c_two (c : CallR X f (rC2 X.K X.w g2)) : CallR X f (rCs X.K X.w (two g2)) := by
  intro pins s σ H xs us Q I r hh
  obtain ⟨as, θ, h, R, ra, P⟩ := hh
  cases ra with
  | nil => exact P.elim
  | cons r1 rs =>
    cases rs with
    | nil => exact P.elim
    | cons r2 rs =>
      cases rs with
      | nil => exact c pins s σ H _ us Q I r ⟨_, _, _, _, θ, h, rfl, R, r1, r2, P⟩
      | cons r3 rs => exact P.elim
theorem c_ot (c : CallR X f (rC1 X.K X.w g)) (c2 : CallR X f (rC2 X.K X.w g2)) : CallR X f (rCs X.K X.w (ot g g2)) := by
  intro pins s σ H xs us Q I r hh
  obtain ⟨as, θ, h, R, ra, P⟩ := hh
  cases ra with
  | nil => exact P.elim
  | cons r1 rs =>
    cases rs with
    | nil => exact c pins s σ H _ us Q I r ⟨_, _, θ, h, rfl, R, r1, P⟩
    | cons r2 rs =>
      cases rs with
      | nil => exact c2 pins s σ H _ us Q I r ⟨_, _, _, _, θ, h, rfl, R, r1, r2, P⟩
      | cons r3 rs => exact P.elim
theorem c_len : CallR X (.builtin "len") (rC1 X.K X.w len1) := by
  intro pins s σ H xs us Q I r hh
  obtain ⟨a, x, θ, h, rfl, R, ra, P⟩ := hh
  have go : PostO X.K X.w H θ (lenO h (seqAt h a)) Q → wpAny (model X.prog X.w) X.A (call (.builtin "len") us) (EP X pins σ Q) X.xe s := fun P => by
    obtain ⟨xs, e, P⟩ := post_bind P
    obtain ⟨p, vs, rfl, h1, h2⟩ := R.sq e ra
    refine call_len_seq pins s σ H _ us Q I r ⟨p, vs, rfl, h1, ?_⟩
    have q := P.same R (.int _)
    rw [h2.length] at q
    exact q
  cases a with
  | str z =>
    cases ra
    obtain ⟨hz, P⟩ := post_if (show PostO X.K X.w H θ (if z.length ≤ sizeLine then some (.int z.length, h) else none) Q from P)
    exact call_len_str pins s σ H _ us Q I r ⟨z, rfl, hz, P.same R (.int _)⟩
  | non => exact go P
  | bl _ => exact go P
  | int _ => exact go P
  | tup _ => exact go P
  | rol _ => exact go P
  | ref _ => exact go P
theorem c_max1 (hc : X.calm = true) : CallR X (.builtin "max") (rC1 X.K X.w max1) := by
  intro pins s σ H xs us Q I r hh
  obtain ⟨a, x, θ, h, rfl, R, ra, P⟩ := hh
  obtain ⟨ns, e, P⟩ := post_bind P
  obtain ⟨p, rfl, hs⟩ := R.gotI e ra
  cases ns with
  | nil => exact P.elim
  | cons n ns =>
    refine cr_max hc pins s σ H _ us Q I r ⟨p, _, rfl, hs, Nat.succ_pos _, fun m h1 h2 => ?_⟩
    obtain ⟨g1, g2⟩ := maxI_most n ns
    have e : m = maxI (n :: ns) := Int.le_antisymm (g2 m h1) (h2 _ g1)
    rw [e]
    exact PostO.same (v := .int (maxI (n :: ns))) P R (.int _)
theorem c_min1 (hc : X.calm = true) : CallR X (.builtin "min") (rC1 X.K X.w min1) := by
  intro pins s σ H xs us Q I r hh
  obtain ⟨a, x, θ, h, rfl, R, ra, P⟩ := hh
  obtain ⟨ns, e, P⟩ := post_bind P
  obtain ⟨p, rfl, hs⟩ := R.gotI e ra
  cases ns with
  | nil => exact P.elim
  | cons n ns =>
    refine cr_min hc pins s σ H _ us Q I r ⟨p, _, rfl, hs, Nat.succ_pos _, fun m h1 h2 => ?_⟩
    obtain ⟨g1, g2⟩ := minI_least n ns
    have e : m = minI (n :: ns) := Int.le_antisymm (h2 _ g1) (g2 m h1)
    rw [e]
    exact PostO.same (v := .int (minI (n :: ns))) P R (.int _)
theorem c_max2 (hc : X.calm = true) : CallR X (.builtin "max") (rC2 X.K X.w max2) := by
  intro pins s σ H xs us Q I r hh
  obtain ⟨a, b, x, y, θ, h, rfl, R, ra, rb, P⟩ := hh
  cases ra with
  | int i =>
    cases rb with
    | int j => exact call_max2 hc pins s σ H _ us Q I r ⟨i, j, rfl, P.same R (.int _)⟩
    | _ => exact P.elim
  | _ => exact P.elim
theorem c_min2 (hc : X.calm = true) : CallR X (.builtin "min") (rC2 X.K X.w min2) := by
  intro pins s σ H xs us Q I r hh
  obtain ⟨a, b, x, y, θ, h, rfl, R, ra, rb, P⟩ := hh
  cases ra with
  | int i =>
    cases rb with
    | int j => exact call_min2 hc pins s σ H _ us Q I r ⟨i, j, rfl, P.same R (.int _)⟩
    | _ => exact P.elim
  | _ => exact P.elim
theorem c_abs : CallR X (.builtin "abs") (rC1 X.K X.w abs1) := by
  intro pins s σ H xs us Q I r hh
  obtain ⟨a, x, θ, h, rfl, R, ra, P⟩ := hh
  cases ra with
  | int i => exact call_abs pins s σ H _ us Q I r ⟨i, rfl, P.same R (.int _)⟩
  | _ => exact P.elim
theorem c_sum1 (hc : X.calm = true) : CallR X (.builtin "sum") (rC1 X.K X.w sum1) := by
  intro pins s σ H xs us Q I r hh
  obtain ⟨a, x, θ, h, rfl, R, ra, P⟩ := hh
  obtain ⟨ns, e, P⟩ := post_bind P
  obtain ⟨p, rfl, hs⟩ := R.gotI e ra
  exact cr_sum hc pins s σ H _ us Q I r ⟨p, _, rfl, hs, P.same R (.int _)⟩
theorem c_sorted (hc : X.calm = true) : CallR X (.builtin "sorted") (rC1 X.K X.w srt1) := by
  intro pins s σ H xs us Q I r hh
  obtain ⟨a, x, θ, h, rfl, R, ra, P⟩ := hh
  unfold srt1 at P
  cases e : lstAt h a with
  | some xs =>
    rw [e] at P
    obtain ⟨hz, P⟩ := post_if (show PostO X.K X.w H θ (if xs.length < 64 then srtI h xs (mapO L.int? xs) else none) Q from P)
    obtain ⟨p, vs, rfl, h1, h2⟩ := R.lst e ra
    cases e2 : mapO L.int? xs with
    | some ns =>
      rw [e2] at P
      have e3 := h2.ints e2
      subst e3
      obtain ⟨_, hq⟩ := PostO.newL P R (rel_ints (sortI ns))
      refine cr_sorted pins s σ H _ us Q I r ⟨p, ns, rfl, h1, by rw [← mapO_length e2]; exact hz, fun ns' p' q1 q2 hp => ?_⟩
      rw [sortI_uni q1 q2]
      exact hq p' hp
    | none =>
      rw [e2] at P
      obtain ⟨zs, e3, P⟩ := post_bind P
      have e4 := h2.strs e3
      subst e4
      obtain ⟨_, hq⟩ := PostO.newL P R (rel_strs (sortS zs))
      refine cr_sortedS pins s σ H _ us Q I r ⟨p, zs, rfl, h1, by rw [← mapO_length e3]; exact hz, fun ns' p' q1 q2 hp => ?_⟩
      rw [sortS_uni q1 q2]
      exact hq p' hp
  | none =>
    rw [e] at P
    cases e2 : refO h a with
    | none => rw [e2] at P; exact P.elim
    | some o =>
      rw [e2] at P
      obtain ⟨p, rfl, ob⟩ := R.refO e2 ra
      cases o with
      | si ns =>
        obtain ⟨hz, P⟩ := post_if (show PostO X.K X.w H θ (if ns.length < 64 then newL h ((sortI ns).map .int) else none) Q from P)
        obtain ⟨S, g1, g2, g3⟩ := ob
        obtain ⟨_, hq⟩ := PostO.newL P R (rel_ints (sortI ns))
        refine cr_sortedSet hc pins s σ H _ us Q I r ⟨p, S, ns.length, rfl, g1, hz, fun ns' p' q1 q2 q3 hp => ?_⟩
        have n1 : ns'.Nodup := q1.imp fun {a b} h e => by omega
        have pm : ns'.Perm ns := (List.perm_ext_iff_of_nodup n1 g2).mpr fun k => (q2 k).trans (g3 k)
        rw [sortI_uni pm (q1.imp fun {a b} h => Int.le_of_lt h)]
        exact hq p' hp
      | dk kvs =>
        obtain ⟨hz, P⟩ := post_if (show PostO X.K X.w H θ (if kvs.length < 64 then (mapO intK (kvs.map (·.1))).bind fun ns => newL h ((sortI ns).map .int) else none) Q from P)
        obtain ⟨ns, e3, P⟩ := post_bind P
        obtain ⟨ws, g1, g2⟩ := ob
        obtain ⟨_, hq⟩ := PostO.newL P R (rel_ints (sortI ns))
        have e4 := intK_keys e3
        refine call_sortedDI hc pins s σ H _ us Q I r ⟨p, ws, ns, rfl, Rd.of g1, by rw [← g2.keys]; exact e4, by rw [← mapO_length e3, List.length_map]; exact hz, fun ns' p' q1 q2 hp => ?_⟩
        rw [sortI_uni q1 q2]
        exact hq p' hp
      | _ => exact P.elim
theorem c_list (hc : X.calm = true) : CallR X (.type "list") (rC1 X.K X.w lst1) := by
  intro pins s σ H xs us Q I r hh
  obtain ⟨a, x, θ, h, rfl, R, ra, P⟩ := hh
  unfold lst1 at P
  cases e : seqAt h a with
  | some xs =>
    rw [e] at P
    obtain ⟨p, vs, rfl, h1, h2⟩ := R.sq e ra
    exact call_list_of pins s σ H _ us Q I r ⟨p, vs, rfl, h1, (PostO.newL P R h2).2⟩
  | none =>
    rw [e] at P
    cases e2 : refO h a with
    | none => rw [e2] at P; exact P.elim
    | some o =>
      rw [e2] at P
      obtain ⟨p, rfl, ob⟩ := R.refO e2 ra
      cases o with
      | dk kvs =>
        obtain ⟨ws, g1, g2⟩ := ob
        exact call_list_dK hc pins s σ H _ us Q I r ⟨p, ws, rfl, g1, (PostO.newL P R (keys_rel g2)).2⟩
      | _ => exact P.elim
theorem c_tuple : CallR X (.type "tuple") (rC1 X.K X.w tup1) := by
  intro pins s σ H xs us Q I r hh
  obtain ⟨a, x, θ, h, rfl, R, ra, P⟩ := hh
  obtain ⟨xs, e, P⟩ := post_bind P
  obtain ⟨p, vs, rfl, h1, h2⟩ := R.sq e ra
  refine call_tuple_of pins s σ H _ us Q I r ⟨p, vs, rfl, ?_⟩
  rcases h1 with h1 | h1
  · exact .inl ⟨h1, PostO.tup P R h2⟩
  · exact .inr ⟨h1, P.same R (.tup h1 h2)⟩
theorem c_int : CallR X (.type "int") (rC1 X.K X.w int1) := by
  intro pins s σ H xs us Q I r hh
  obtain ⟨a, x, θ, h, rfl, R, ra, P⟩ := hh
  cases ra with
  | int i => exact call_int1 pins s σ H _ us Q I r (.inl ⟨i, rfl, P.same R (.int _)⟩)
  | bl b => exact call_int1 pins s σ H _ us Q I r (.inr ⟨b, rfl, P.same R (.int _)⟩)
  | _ => exact P.elim
theorem c_divmod : CallR X (.builtin "divmod") (rC2 X.K X.w dvm2) := by
  intro pins s σ H xs us Q I r hh
  obtain ⟨a, b, x, y, θ, h, rfl, R, ra, rb, P⟩ := hh
  cases ra with
  | int i =>
    cases rb with
    | int j =>
      obtain ⟨hz, P⟩ := post_if (show PostO X.K X.w H θ (if 0 < j ∧ j < 1073741824 then some (.tup [.int (i / j), .int (i % j)], h) else none) Q from P)
      exact call_divmod pins s σ H _ us Q I r ⟨i, j, rfl, hz, PostO.tup P R (.cons (.int _) (.cons (.int _) .nil))⟩
    | _ => exact P.elim
  | _ => exact P.elim
theorem c_all (hc : X.calm = true) : CallR X (.builtin "all") (rC1 X.K X.w all1) := by
  intro pins s σ H xs us Q I r hh
  obtain ⟨a, x, θ, h, rfl, R, ra, P⟩ := hh
  obtain ⟨bs, e, P⟩ := post_bind P
  obtain ⟨p, rfl, hs⟩ := R.gotB e ra
  exact cr_all hc pins s σ H _ us Q I r ⟨p, _, rfl, hs, P.same R (.bl _)⟩
theorem c_any (hc : X.calm = true) : CallR X (.builtin "any") (rC1 X.K X.w any1) := by
  intro pins s σ H xs us Q I r hh
  obtain ⟨a, x, θ, h, rfl, R, ra, P⟩ := hh
  obtain ⟨bs, e, P⟩ := post_bind P
  obtain ⟨p, rfl, hs⟩ := R.gotB e ra
  exact cr_any hc pins s σ H _ us Q I r ⟨p, _, rfl, hs, P.same R (.bl _)⟩
theorem c_repr (hu : X.A.units + 64 < cLine) (hg : X.A.guards = some []) : CallR X (.builtin "repr") (rC1 X.K X.w rep1) := by
  intro pins s σ H xs us Q I r hh
  obtain ⟨a, x, θ, h, rfl, R, ra, P⟩ := hh
  obtain ⟨hp, P⟩ := post_if P
  obtain ⟨d, e, P⟩ := post_bind P
  obtain ⟨⟨z1, z2, z3⟩, P⟩ := post_if P
  obtain ⟨u, rfl, ru⟩ := vals1 r
  have hx : ∃ p, x = .ref p := by
    cases ra <;> first | exact ⟨_, rfl⟩ | cases hp
  obtain ⟨p, rfl⟩ := hx
  obtain ⟨as, hr⟩ := Dp.reads I d (.ref p) u (R.dp e ra) ru
  obtain rfl : u = Value.ref p := ru
  have hd := toD_depth e
  refine repr_of_reads' hr z1 (fun q => by rw [z2] at q; cases q) hg (by unfold deepest at hd; omega) (fun _ _ q => q) (fun h' t tk hk => ?_) z3
  exact ⟨.str d.shown, H, I.kept hk, ⟨_, rfl⟩, P.same R (.str _)⟩
end
end Ly
end
section
set_option Elab.async false
set_option linter.all false
set_option autoImplicit false
set_option maxRecDepth 100000
/-! sum of a list of lists. -/
namespace Ly
open PySem PySem.Spec PyProof.Rows L2

def catV (its : Nat → List Value) : Nat → List Value
  | 0 => []
  | n + 1 => catV its n ++ its n
def lobj (xs : List Value) (n : Nat) : Obj := { cls := .type "list", data := .seq xs.toArray n }
def Holds (g h : Heap) : Prop := ∀ b o, g.get? b = some o → h.get? b = some o
theorem Holds.trans {a b c : Heap} (x : Holds a b) (y : Holds b c) : Holds a c := fun d o e => y d o (x d o e)
section
variable {prog : Program} {w : World} {A : Around} {R : Result → Shared → Prop} {I : Addr} {fp wr : List Addr} {n : Nat} {P : Nat → Value → Prop} {St : Nat → Heap → Prop} {its : Nat → List Value} {ad : Nat → Addr} {g : Heap} {S : Addr}
theorem sumL_loop (W : Walks prog w A.in1 I fp wr n P St) (hval : ∀ i v, P i v → v = .ref (ad i)) (hb : ∀ i, i < n → ∃ m, g.get? (ad i) = some (lobj (its i) m))
    (hfp : ∀ b ∈ fp, b < S) (hg : ∀ b o, g.get? b = some o → b ∉ wr ∧ b < S) (hz : ∀ i, i ≤ n → (catV its i).length ≤ sizeLine) :
    ∀ (k i : Nat) (s : Shared) (t : Addr) (m c : Nat), n - i = k → i ≤ n → St i s.heap → Holds g s.heap → t ∉ S :: wr → s.heap.get? t = some (lobj (catV its i) m) →
    s.heap.get? S = some { cls := .type "list", dict := none, data := .seq #[.ref t] c, slots := #[] } →
    (∀ h' tk t' m', Holds g h' → h'.get? t' = some (lobj (catV its n) m') → (i = n → t' = t) → (i < n → S < t') → R (.ok (.ret (.ref t'))) { s with heap := h', toks := tk }) →
    codeAny (model prog w) A (.builtin "sum.loop" ⟨[.ref I, .ref S, rawInt 2, rawInt 0], []⟩) R s := by
  have hSf : S ∉ fp := fun h => Nat.lt_irrefl _ (hfp S h)
  have hSw : S ∉ wr := fun h => hSf (W.sub _ h)
  intro k
  induction k with
  | zero =>
    intro i s t m c hk hi hst hh ht hT hS hR
    have hin : i = n := by omega
    subst hin
    refine codeAny_builtin F.entry_sum_loop ?_
    rw [Around.under_plainId F.plain_sum_loop _]
    show wpAny _ A.in1 (seqItems? (.ref S) >>= _) _ _ s
    refine wpAny_bind (wpAny_seqItems hS rfl ?_)
    show wpAny _ A.in1 (tryCatch (pyNext (.ref I)) _ >>= _) _ _ s
    refine wpAny_bind (wpAny_tryCatch (W.done s _ _ hst fun h' tk hk' => ?_))
    have htw : t ∉ wr := fun q => ht (List.mem_cons_of_mem _ q)
    exact wpAny_pure (hR h' tk t m (fun b o e => hk' b o (hg b o e).1 (hh b o e)) (hk' t _ htw hT) (fun _ => rfl) fun q => absurd q (Nat.lt_irrefl _))
  | succ k ih =>
    intro i s t m c hk hi hst hh ht hT hS hR
    have hlt : i < n := by omega
    refine codeAny_builtin F.entry_sum_loop ?_
    rw [Around.under_plainId F.plain_sum_loop _]
    show wpAny _ A.in1 (seqItems? (.ref S) >>= _) _ _ s
    refine wpAny_bind (wpAny_seqItems hS rfl ?_)
    show wpAny _ A.in1 (tryCatch (pyNext (.ref I)) _ >>= _) _ _ s
    refine wpAny_bind (wpAny_tryCatch (W.item i s _ _ hlt hst fun v h' tk hP hst' hk' => ?_))
    obtain rfl := hval i v hP
    have htw : t ∉ wr := fun q => ht (List.mem_cons_of_mem _ q)
    have hS' := hk' S _ hSw hS
    have hT' := hk' t _ htw hT
    have hh' : Holds g h' := fun b o e => hk' b o (hg b o e).1 (hh b o e)
    obtain ⟨m2, hi2⟩ := hb i hlt
    have hi3 := hh' _ _ hi2
    have hzi : (catV its i ++ its i).length ≤ sizeLine := hz (i + 1) hlt
    have hSl : S < h'.objs.size := Heap.lt_size hS'
    show wpAny _ A.in1 ((holding [Value.ref (ad i)] (binaryOp .Add (.ref t) (.ref (ad i)))).attempt >>= _) _ _ _
    refine wpAny_bind (wpAny_attempt (wpAny_holding (PySem.P.add_list (hl := hT') (hb := hi3) ?_ (by rw [List.size_toArray, List.size_toArray, ← List.length_append]; exact hzi))))
    have ea : (catV its i).toArray ++ (its i).toArray = (catV its (i + 1)).toArray := by simp [catV]
    rw [ea]
    let h1 : Heap := h'.push (lobj (catV its (i + 1)) 0)
    have hp1 : ∀ b o, h'.get? b = some o → h1.get? b = some o := fun b o e => Heap.get?_push_of_some _ e
    have hN : h1.get? h'.objs.size = some (lobj (catV its (i + 1)) 0) := Heap.get?_push_size _ rfl
    have hS1 := hp1 _ _ hS'
    show wpAny _ A.in1 (updateSeq S (fun _ => #[.ref h'.objs.size]) >>= _) _ _ _
    refine wpAny_bind (wpAny_updateSeq hS1 rfl ?_)
    have hS₂ := Heap.get?_update_self (Obj.mapSeq fun _ => #[Value.ref h'.objs.size]) hS1 rfl
    refine wpAny_bind (wpAny_letGo ?_)
    refine wpAny_bind (wpAny_updateSeq hS₂ rfl (wpAny_pure ⟨plainId_quiet F.plain_sum_loop _, ih (i + 1) _ h'.objs.size 0 _ (by omega) hlt
      (W.frame _ _ _ hst' fun b hb' o e => ?_) (fun b o e => ?_) ?_ ?_ (Heap.get?_update_self _ hS₂ rfl) fun h'' tk'' t'' m'' z1 z2 z3 z4 => ?_⟩))
    · exact (Heap.get?_update_other _ _ (fun h : S = b => hSf (by rw [h]; exact hb'))).trans ((Heap.get?_update_other _ _ (fun h : S = b => hSf (by rw [h]; exact hb'))).trans (hp1 _ _ e))
    · have hne : S ≠ b := fun q => Nat.lt_irrefl _ (by have := (hg b o e).2; rw [← q] at this; exact this)
      exact (Heap.get?_update_other _ _ hne).trans ((Heap.get?_update_other _ _ hne).trans (hp1 _ _ (hh' b o e)))
    · intro q
      rcases List.mem_cons.mp q with q | q
      · exact absurd (show h'.objs.size = S from q) (Nat.ne_of_gt hSl)
      · have := hfp _ (W.sub _ (show h'.objs.size ∈ wr from q))
        exact absurd this (Nat.not_lt_of_gt hSl)
    · have hne : S ≠ h'.objs.size := Nat.ne_of_lt hSl
      exact (Heap.get?_update_other _ _ hne).trans ((Heap.get?_update_other _ _ hne).trans hN)
    · refine hR h'' tk'' t'' m'' z1 z2 (fun q => absurd q (Nat.ne_of_lt hlt)) fun _ => ?_
      by_cases q : i + 1 = n
      · rw [z3 q]; exact hSl
      · exact z4 (by omega)
end
namespace FF
theorem args_sum2 (a b : Value) : argsOk "sum" ⟨[a, b], []⟩ := by unfold argsOk; kernel_rfl
theorem sub_list_str : isSubtype (.type "list") (.type "str") = pure false := by rw [isSubtype_type]; kernel_rfl
theorem sub_list_bytes : isSubtype (.type "list") (.type "bytes") = pure false := by rw [isSubtype_type]; kernel_rfl
theorem sub_list_bytearray : isSubtype (.type "list") (.type "bytearray") = pure false := by rw [isSubtype_type]; kernel_rfl
end FF
section
variable {prog : Program} {w : World} {A : Around} {E : Value → Shared → Prop} {s : Shared} {its : Nat → List Value} {ad : Nat → Addr}
theorem call_sumL {l b : Addr} {items : Array Value} {m0 : Nat} {Q : Value → Shared → Prop} (hh : A.handled = none) (hl : s.heap.IsList l items) (hval : ∀ (i : Nat) (v : Value), items[i]? = some v → v = .ref (ad i))
    (hb : ∀ i, i < items.size → ∃ m, s.heap.get? (ad i) = some (lobj (its i) m)) (hB : s.heap.get? b = some (lobj [] m0)) (hz : ∀ i, i ≤ items.size → (catV its i).length ≤ sizeLine)
    (hQ : ∀ h' tk t' m', Holds s.heap h' → h'.get? t' = some (lobj (catV its items.size) m') → (items.size = 0 → t' = b) → (0 < items.size → s.heap.objs.size ≤ t') → Q (.ref t') { s with heap := h', toks := tk }) :
    wpAny (model prog w) A (call (.builtin "sum") [.ref l, .ref b]) Q E s := by
  refine call_function_tree F.kind_sum F.plain_sum F.entry_sum (FF.args_sum2 _ _) ?_
  unfold Builtin.«sum»
  simp only [List.length_cons, List.length_nil]
  rw [if_neg (by decide)]
  refine wpAny_bind (wpAny_of_eq (show Builtin.Builtins.bindParams "sum" ["start"] 0 ⟨[Value.ref b], []⟩ = pure [some (Value.ref b)] from rfl) ?_)
  refine wpAny_bind (wpAny_pyIter_list hl ?_)
  refine wpAny_bind (wpAny_pure ?_)
  have hb2 : (s.heap.push { cls := .type "list_iterator", data := .fields #[.ref l, .int 0 0] }).get? b = some (lobj [] m0) := Heap.get?_push_of_some _ hB
  have ht : Shared.TypeIs { s with heap := s.heap.push { cls := .type "list_iterator", data := .fields #[.ref l, .int 0 0] } } (.ref b) "list" := ⟨_, hb2, rfl⟩
  simp only [List.forIn_cons, List.forIn_nil]
  refine wpAny_bind (wpAny_bind (wpAny_bind (wpAny_isInstance (T := "list") (b := false) ht FF.sub_list_str ?_)))
  simp only [Bool.false_eq_true, if_false]
  refine wpAny_pure (wpAny_bind (wpAny_bind (wpAny_isInstance (T := "list") (b := false) ht FF.sub_list_bytes ?_)))
  simp only [Bool.false_eq_true, if_false]
  refine wpAny_pure (wpAny_bind (wpAny_bind (wpAny_isInstance (T := "list") (b := false) ht FF.sub_list_bytearray ?_)))
  simp only [Bool.false_eq_true, if_false]
  refine wpAny_pure (wpAny_pure ?_)
  refine wpAny_bind (wpAny_newObj_type ?_)
  have hls : l < s.heap.objs.size := let ⟨_, ho, _⟩ := id hl; Heap.lt_size ho
  have hbs : b < s.heap.objs.size := Heap.lt_size hB
  have W := Walks.list (prog := prog) (w := w) (A := A.in1) (by simp [hh]) s.heap.objs.size l (Nat.ne_of_lt hls) items
  have hsz : (s.heap.push { cls := .type "list_iterator", data := .fields #[.ref l, .int 0 0] }).objs.size = s.heap.objs.size + 1 := Heap.size_push ..
  refine wpAny_pure ⟨plainId_quiet F.plain_sum_loop _, sumL_loop (its := its) (ad := ad) (g := s.heap) (S := (s.heap.push { cls := .type "list_iterator", data := .fields #[.ref l, .int 0 0] }).objs.size) W hval hb ?_ ?_ hz items.size 0 _ b m0 0 (by omega) (Nat.zero_le _) ?_ ?_ ?_ ?_ (Heap.get?_push_size _ rfl) fun h' tk t' m' z1 z2 z3 z4 => ?_⟩
  · intro c hc
    rw [hsz]
    rcases List.mem_cons.mp hc with rfl | hc
    · exact Nat.lt_succ_self _
    · rw [List.mem_singleton.mp hc]; exact Nat.lt_succ_of_lt hls
  · intro c o e
    have h1 := Heap.lt_size e
    rw [hsz]
    refine ⟨fun q => ?_, Nat.lt_succ_of_lt h1⟩
    rw [List.mem_singleton.mp q] at h1
    exact Nat.lt_irrefl _ h1
  · exact ⟨⟨_, Heap.get?_push_of_some _ (Heap.get?_push_size _ rfl), rfl, rfl⟩, (hl.push _).push _⟩
  · exact fun c o e => Heap.get?_push_of_some _ (Heap.get?_push_of_some _ e)
  · intro q
    rw [hsz] at q
    rcases List.mem_cons.mp q with q | q
    · rw [q] at hbs; exact Nat.lt_irrefl _ (Nat.lt_trans (Nat.lt_succ_self _) hbs)
    · rw [List.mem_singleton.mp q] at hbs; exact Nat.lt_irrefl _ hbs
  · exact Heap.get?_push_of_some _ hb2
  · refine hQ h' tk t' m' z1 z2 (fun q => z3 q.symm) fun q => ?_
    have h1 := z4 q
    rw [hsz] at h1
    exact Nat.le_trans (Nat.le_succ _) (Nat.le_of_lt h1)
end
section
variable {X : Cx}
theorem catR_at {pins : List (Addr × Obj)} {σ : L2.St} {H : Hp} {s : Shared} {θ : List Addr} {h : LH} (I : Inv X pins σ H s) (R : HR X.K X.w H θ h) : ∀ {xs : List L} {vs : List V} {ys : List L}, RelLs X.K H θ xs vs → catR h xs = some ys →
    ∃ us : List (Addr × List Value), vs = us.map (fun u => V.ref u.1) ∧ (∀ u ∈ us, ∃ m, s.heap.get? u.1 = some (lobj u.2 m)) ∧ ∃ ws, Vals ws (us.map (·.2)).flatten ∧ RelLs X.K H θ ys ws
  | _, _, ys, .nil, e => by
    cases e
    exact ⟨[], rfl, (fun u hu => by cases hu), [], .nil, .nil⟩
  | x :: xs, v :: vs, ys, .cons a b, e => by
    unfold catR at e
    cases h1 : refO h x with
    | none => rw [h1] at e; cases e
    | some o =>
      rw [h1] at e
      cases o with
      | lst zs =>
        obtain ⟨ys', e2, rfl⟩ := Option.map_eq_some_iff.mp (show (catR h xs).map (zs ++ ·) = some ys from e)
        obtain ⟨p, rfl, ws1, g1, g2⟩ := R.refO h1 a
        obtain ⟨z, its, n, r, hl, q⟩ := I.lstM g1
        obtain ⟨us, q1, q2, ws, q3, q4⟩ := catR_at I R b e2
        refine ⟨(p, its) :: us, by rw [q1]; rfl, fun u hu => ?_, ws1 ++ ws, ?_, g2.append q4⟩
        · rcases List.mem_cons.mp hu with rfl | hu
          · exact ⟨n, q⟩
          · exact q2 u hu
        · rw [List.map_cons, List.flatten_cons]
          exact r.append q3
      | _ => cases e
theorem catV_take (L : List (List Value)) : ∀ i : Nat, i ≤ L.length → catV (fun i => L.getD i []) i = (L.take i).flatten
  | 0, _ => rfl
  | i + 1, hi => by
    unfold catV
    rw [catV_take L i (by omega), List.take_add_one, List.flatten_append, List.getD_eq_getElem?_getD, List.getElem?_eq_getElem (by omega)]
    simp
theorem c_sum2 (hc : X.calm = true) : CallR X (.builtin "sum") (rC2 X.K X.w sum2) := by
  intro pins s σ H xs us Q I r hh
  obtain ⟨a, b, x, y, θ, h, rfl, R, ra, rb, P⟩ := hh
  obtain ⟨xs, e, P⟩ := post_bind P
  cases e2 : refO h b with
  | none => rw [e2] at P; exact P.elim
  | some o =>
    rw [e2] at P
    cases o with
    | lst ls =>
      cases ls with
      | cons _ _ => exact P.elim
      | nil =>
        obtain ⟨ys, e3, P⟩ := post_bind P
        obtain ⟨p, vs, rfl, h1, h2⟩ := R.lst e ra
        obtain ⟨q, rfl, ws1, g1, g2⟩ := R.refO e2 rb
        cases g2
        obtain ⟨us', q1, q2, ws, q3, q4⟩ := catR_at I R h2 e3
        obtain ⟨its, rv, hl, hz⟩ := I.list h1
        obtain ⟨z, its0, m0, r0, hl0, hB⟩ := I.lstM g1
        cases r0
        obtain ⟨u, u', rfl, ru, ru'⟩ := vals2 r
        obtain rfl : u = Value.ref p := ru
        obtain rfl : u' = Value.ref q := ru'
        have hlen : its.length = us'.length := by rw [← rv.length, q1, List.length_map]
        let L := us'.map (·.2)
        have hL : L.length = its.length := by rw [hlen, List.length_map]
        have hval : ∀ (i : Nat) (v : Value), its.toArray[i]? = some v → v = .ref (us'.getD i default).1 := fun i v hv => by
          have hv : its[i]? = some v := by simpa using hv
          have hi := (List.getElem?_eq_some_iff.mp hv).1
          have hi2 : i < us'.length := by omega
          have hw : vs[i]? = some (V.ref (us'.getD i default).1) := by
            rw [q1, List.getElem?_map, List.getD_eq_getElem?_getD, List.getElem?_eq_getElem hi2]; rfl
          obtain ⟨t, ht, rt⟩ := rv.get hw
          rw [ht] at hv
          cases hv
          exact rt
        have hb : ∀ i, i < its.toArray.size → ∃ m, s.heap.get? (us'.getD i default).1 = some (lobj (L.getD i []) m) := fun i hi => by
          rw [List.size_toArray] at hi
          have hi2 : i < us'.length := by omega
          obtain ⟨m, hm⟩ := q2 us'[i] (List.getElem_mem hi2)
          refine ⟨m, ?_⟩
          rw [List.getD_eq_getElem?_getD, List.getElem?_eq_getElem hi2, List.getD_eq_getElem?_getD, List.getElem?_map, List.getElem?_eq_getElem hi2]
          exact hm
        have hsum : L.flatten.length = ys.length := by rw [← q3.length, ← q4.length]
        have hfull : catV (fun i => L.getD i []) its.length = L.flatten := by
          rw [catV_take L _ (by omega), ← hL, List.take_length]
        have hzz : xs = [] ∨ ys.length ≤ sizeLine := by
          cases xs with
          | nil => exact .inl rfl
          | cons x xs =>
            refine .inr ?_
            by_cases hy : ys.length ≤ sizeLine
            · exact hy
            · have P : PostO X.K X.w H θ (newL h ys) Q := P
              unfold newL at P
              rw [if_neg hy] at P
              exact P.elim
        have hxl : xs.length = its.length := by rw [h2.length]; exact rv.length
        have hcap : ∀ i, i ≤ its.toArray.size → (catV (fun i => L.getD i []) i).length ≤ sizeLine := fun i hi => by
          rw [List.size_toArray] at hi
          rw [catV_take L _ (by omega)]
          have h3 : ((L.take i).flatten).length ≤ L.flatten.length := by
            rw [← List.take_append_drop i L, List.flatten_append, List.length_append, List.take_append_drop]
            exact Nat.le_add_right _ _
          rcases hzz with rfl | hzz
          · have : its.length = 0 := hxl.symm
            have : i = 0 := by omega
            subst this
            simp
          · omega
        refine call_sumL (its := fun i => L.getD i []) (ad := fun i => (us'.getD i default).1) (m0 := m0) (I.ok.hd hc) hl.isList hval hb hB hcap fun h' tk t' m' z1 z2 z3 z4 => ?_
        rw [List.size_toArray, hfull] at z2
        rw [List.size_toArray] at z3 z4
        cases xs with
        | nil =>
          have e0 : its.length = 0 := hxl.symm
          rw [z3 e0]
          exact ⟨.ref q, H, I.kept z1, rfl, PostO.same (v := b) P R rb⟩
        | cons x0 xs0 =>
          have hpos : 0 < its.length := by rw [← hxl]; exact Nat.succ_pos _
          have hq := (PostO.newL (xs := ys) (vs := ws) P R q4).2
          have hwz : ws.length ≤ sizeLine := by
            rw [← q4.length]
            rcases hzz with hzz | hzz
            · cases hzz
            · exact hzz
          exact ⟨.ref t', upd H t' (.lst ws), I.laid z1 (z4 hpos) ⟨hwz, _, m', q3, z2⟩, rfl, hq t' (I.hok.fresh (z4 hpos))⟩
    | _ => exact P.elim
end
end Ly
end
section
set_option Elab.async false
set_option linter.all false
set_option maxRecDepth 100000
/-! set of a list of ints: turned from the kit's rule for a tuple (HandS.SetFor). -/
namespace Ly
open PySem PySem.Spec PyProof.Rows L2
section
variable {P : Program} {w : World} {A : Around} {E : Value → Shared → Prop} {s : Shared}
set_option maxHeartbeats 3200000 in
theorem call_set_lstI {l : Addr} {items : Array Value} (ns : List Int) {Q : Value → Shared → Prop} (hh : A.handled = none) (hl : s.heap.IsList l items) (hit : IntsAre items.toList ns) (hb : ns.length + 1 < scanBound)
    (h : ∀ (h' : Heap) (tk c : Nat), SetR w h' s.heap.objs.size (fun j => decide (j ∈ ns)) c → c ≤ ns.length → (∀ b o, s.heap.get? b = some o → h'.get? b = some o) → Q (.ref s.heap.objs.size) { s with heap := h', toks := tk }) :
    wpAny (model P w) A (call (.type "set") [.ref l]) Q E s := by
  have hisz : items.size = ns.length := by
    have q := IntsAre.length hit
    rw [Array.length_toList] at q
    exact q
  obtain ⟨c, tl, hmro⟩ := F.called_set.mro
  have hmade := F.called_set.made
  have hsub := F.called_set.sub
  refine wpAny_call (codeAny_of_tree ?_)
  show wpAny _ _ (callAny (.type "set") _) _ _ _
  refine wpAny_pure ⟨Code.quiet_builtin _ (by decide +kernel), codeAny_builtin F.entry_type_call ?_⟩
  rw [Around.under_plain (weight_type_call_type "set" [.ref l] []) rfl]
  have h1 := F.called_set.notType
  have h2 := F.called_set.canCreate
  have hct := F.typeCall_set_1 (.ref l)
  repeat (any_goals (first | assumption | wp_step))

  refine codeAny_mono (code_set_led1 (.ref l) (E := E) (Q₁ := fun obj s₁ => obj = .ref s.heap.objs.size ∧ s₁ = { s with heap := s.heap.push { cls := .type "set", dict := none, data := .set #[] 0 (.fresh 0 0 (!w.params.followText "set-order")) } }) ⟨rfl, rfl⟩) fun r s₁ hr => ?_
  cases r with
  | error e => exact hr
  | ok fl =>
    cases fl with
    | ret obj =>
      obtain ⟨rfl, rfl⟩ := hr
      have hS : (s.heap.push { cls := .type "set", dict := none, data := .set #[] 0 (.fresh 0 0 (!w.params.followText "set-order")) }).get? s.heap.objs.size = some { cls := .type "set", dict := none, data := .set #[] 0 (.fresh 0 0 (!w.params.followText "set-order")) } := Heap.get?_push_size _ rfl
      have hT : Shared.TypeIs { s with heap := s.heap.push { cls := .type "set", dict := none, data := .set #[] 0 (.fresh 0 0 (!w.params.followText "set-order")) } } (.ref s.heap.objs.size) "set" := ⟨_, hS, rfl⟩
      have hli := F.called_set.init.lookup
      have hbi := F.called_set.init.bind (.ref s.heap.objs.size)
      repeat (any_goals (first | assumption | wp_step))

      refine codeAny_mono (codeAny_call_builtin (R := wants (fun r s₂ => r = .none ∧ ∃ h' tk c, s₂ = { s with heap := h', toks := tk } ∧ SetR w h' s.heap.objs.size (fun j => decide (j ∈ ns)) c ∧ c ≤ ns.length ∧
          (∀ b o, s.heap.get? b = some o → h'.get? b = some o)) E) F.called_set.init.plain F.entry_set_init (check_set_init_1 hT ?_)) fun r₂ s₂ hr₂ => ?_
      · obtain ⟨ol, hol, hcl, nl, hdl⟩ := hl
        obtain ⟨ocls, odict, odata, oslots⟩ := ol
        simp only at hcl hdl
        subst hcl; subst hdl
        have hol' : (s.heap.push { cls := .type "set", dict := none, data := .set #[] 0 (.fresh 0 0 (!w.params.followText "set-order")) }).get? l = some { cls := .type "list", dict := odict, data := .seq items nl, slots := oslots } := Heap.get?_push_of_some _ hol
        have hsls := F.sub_list_set
        have hslf := F.sub_list_frozenset
        have hne : (Value.type "list" == Value.type "dict") = false := by decide
        have hl1 : (s.heap.push { cls := .type "set", dict := none, data := .set #[] 0 (.fresh 0 0 (!w.params.followText "set-order")) }).IsList l items := ⟨_, hol', rfl, nl, rfl⟩
        unfold Builtin.«set.__init__» noKeywords Builtin.Frozenset.updateFrom
        generalize hPI : pyIter = PI
        wp_walk
        subst hPI

        refine wpAny_pyIter_list hl1 ?_
        refine wpAny_bind (wpAny_runValue ?_)
        have hlS : l < s.heap.objs.size := Heap.lt_size hol
        have hh3 : A.in1.in1.in1.handled = none := by simp [hh]
        have hz1 : (s.heap.push { cls := .type "set", dict := none, data := .set #[] 0 (.fresh 0 0 (!w.params.followText "set-order")) }).objs.size = s.heap.objs.size + 1 := Heap.size_push ..
        have hneI : l ≠ (s.heap.push { cls := .type "set", dict := none, data := .set #[] 0 (.fresh 0 0 (!w.params.followText "set-order")) }).objs.size := by
          rw [Heap.size_push]; exact Nat.ne_of_lt (Nat.lt_succ_of_lt hlS)
        have hSf : s.heap.objs.size ∉ [(s.heap.push { cls := .type "set", dict := none, data := .set #[] 0 (.fresh 0 0 (!w.params.followText "set-order")) }).objs.size, l] := by
          rw [Heap.size_push]; simp only [List.mem_cons, List.mem_singleton, List.not_mem_nil, or_false, not_or]
          exact ⟨Nat.ne_of_lt (Nat.lt_succ_self _), Nat.ne_of_gt hlS⟩
        have hval : ∀ (i : Nat) (v : Value), items[i]? = some v → ∃ k t, ns[i]? = some k ∧ v = .int k t := fun i v hv => by
          have hi : i < ns.length := by rw [← hisz]; exact (Array.getElem?_eq_some_iff.mp hv).1
          obtain ⟨t, e⟩ := PyProof.Rows.IntsAre.int_at hit i v (by rw [Array.getElem?_toList]; exact hv)
          refine ⟨ns[i], t, List.getElem?_eq_getElem hi, ?_⟩
          rw [e, List.getD_eq_getElem?_getD, List.getElem?_eq_getElem hi] <;> rfl
        refine set_update_ints ((Walks.list hh3 _ l hneI items).toS) s.heap.objs.size
          hSf ns hisz hb hval (items.size - 0) 0 _ (by omega) (Nat.zero_le _)
          ⟨⟨_, Heap.get?_push_size _ rfl, rfl, rfl⟩, (hl1.push _)⟩ ?hS0 ?hR
        case hS0 =>
          have hget : ((s.heap.push { cls := .type "set", dict := none, data := .set #[] 0 (.fresh 0 0 (!w.params.followText "set-order")) }).push { cls := .type "list_iterator", data := .fields #[.ref l, .int 0 0] }).get? s.heap.objs.size
              = some { cls := .type "set", dict := none, data := .set #[] 0 (.fresh 0 0 (!w.params.followText "set-order")) } := Heap.get?_push_of_some _ hS
          exact ⟨0, Nat.le_refl 0, setR_new_at hget⟩
        case hR =>
          intro s' c' hm hc' hS'
          obtain ⟨h', g2, d', tk', os'⟩ := s'
          have eg : g2 = s.gens := hm.gens
          have ed : d' = s.drawn := hm.drawn
          have eo : os' = s.os := hm.os
          subst eg; subst ed; subst eo
          show wpAny _ _ _ _ _ _
          refine wpAny_pure ?_
          show wpAny _ _ (ret Value.none) _ _ _
          rw [hisz] at hc'
          refine wpAny_pure ⟨rfl, h', tk', c', rfl, hS', hc', fun b o e => ?_⟩
          have hb0 : b < s.heap.objs.size := Heap.lt_size e
          have hb1 : b ≠ s.heap.objs.size := Nat.ne_of_lt hb0
          have hb2 : b ≠ (s.heap.push { cls := .type "set", dict := none, data := .set #[] 0 (.fresh 0 0 (!w.params.followText "set-order")) }).objs.size := by
            rw [Heap.size_push]; exact Nat.ne_of_lt (Nat.lt_succ_of_lt hb0)
          exact hm.heap b o (by simp only [List.mem_cons, List.mem_singleton, List.not_mem_nil, or_false, not_or]; exact ⟨hb1, hb2⟩) (Heap.get?_push_of_some _ (Heap.get?_push_of_some _ e))

      · cases r₂ with
        | error e => exact hr₂
        | ok fl₂ =>
          cases fl₂ with
          | ret r =>
            obtain ⟨rfl, h', tk, c', rfl, hS', hc', hk'⟩ := hr₂
            repeat (any_goals (first | assumption | wp_step))
            exact h _ _ _ hS' hc' hk'
          | _ => exact hr₂.elim
    | _ => exact hr.elim


end
theorem dedI_mem : ∀ (xs : List Int) (k : Int), k ∈ dedI xs ↔ k ∈ xs
  | [], k => Iff.rfl
  | x :: xs, k => by
    unfold dedI
    by_cases h : x ∈ xs
    · rw [if_pos h, dedI_mem xs k, List.mem_cons]
      exact ⟨.inr, fun q => q.elim (fun e => e ▸ h) id⟩
    · rw [if_neg h, List.mem_cons, List.mem_cons, dedI_mem xs k]
theorem dedI_nodup : ∀ xs : List Int, (dedI xs).Nodup
  | [] => .nil
  | x :: xs => by
    unfold dedI
    by_cases h : x ∈ xs
    · rw [if_pos h]; exact dedI_nodup xs
    · rw [if_neg h]
      exact List.nodup_cons.mpr ⟨fun q => h ((dedI_mem xs x).mp q), dedI_nodup xs⟩
section
variable {X : Cx}
theorem setR_len {w : World} {h : Heap} {a : Addr} {ns : List Int} {c : Nat} (R : SetR w h a (fun j => decide (j ∈ ns)) c) : c = (dedI ns).length := by
  obtain ⟨o, es, ep, t, ho, hx, hd, g, nd, hm, hb, hf, hn, _⟩ := R
  have pm : (es.toList.map keyOf).Perm (dedI ns) := (List.perm_ext_iff_of_nodup nd (dedI_nodup ns)).mpr fun k => by
    rw [dedI_mem, ← hm k, decide_eq_true_eq]
  rw [← pm.length_eq, List.length_map, Array.length_toList, hn]
theorem c_set (hc : X.calm = true) : CallR X (.type "set") (rC1 X.K X.w set1) := by
  intro pins s σ H xs us Q I r hh
  obtain ⟨a, x, θ, h, rfl, R, ra, P⟩ := hh
  obtain ⟨ns, e, P⟩ := post_bind P
  obtain ⟨hz, P⟩ := post_if P
  obtain ⟨p, rfl, hs⟩ := R.gotI e ra
  obtain ⟨its, rv, hl, _⟩ := I.list hs
  rw [Vals.ref1 r]
  refine call_set_lstI ns (I.ok.hd hc) hl.isList rv.ints (by unfold scanBound; omega) fun h' tk c hS hc' hk => ?_
  have ec := setR_len hS
  subst ec
  have hn : H s.heap.objs.size = none := I.hok.fresh (Nat.le_refl _)
  refine ⟨.ref s.heap.objs.size, upd H s.heap.objs.size (SetO X.w s.heap.objs.size (fun j => decide (j ∈ ns)) (dedI ns).length), I.laid (t' := tk) hk (Nat.le_refl _) (setO_new hS), rfl, ?_⟩
  refine P (θ ++ [s.heap.objs.size]) _ _ (Ev.new hn) (R.new hn ⟨_, upd_same, dedI_nodup ns, fun k => ?_⟩) (.ref ?_)
  · rw [decide_eq_true_eq, dedI_mem]
  · rw [← R.len, List.getElem?_append_right (Nat.le_refl _)]
    simp
/-- the built-ins -/
def bltV : Blt → Value
  | .len => .builtin "len"
  | .max => .builtin "max"
  | .min => .builtin "min"
  | .abs => .builtin "abs"
  | .sum => .builtin "sum"
  | .sorted => .builtin "sorted"
  | .list => .type "list"
  | .tuple => .type "tuple"
  | .set => .type "set"
  | .int => .type "int"
  | .repr => .builtin "repr"
  | .divmod => .builtin "divmod"
  | .all => .builtin "all"
  | .any => .builtin "any"
theorem c_blt (hc : X.calm = true) (hu : X.A.units + 64 < cLine) (hg : X.A.guards = some []) : ∀ b : Blt, CallR X (bltV b) (rCs X.K X.w (bltL b))
  | .len => c_one c_len
  | .max => c_ot (c_max1 hc) (c_max2 hc)
  | .min => c_ot (c_min1 hc) (c_min2 hc)
  | .abs => c_one c_abs
  | .sum => c_ot (c_sum1 hc) (c_sum2 hc)
  | .sorted => c_one (c_sorted hc)
  | .list => c_one (c_list hc)
  | .tuple => c_one c_tuple
  | .set => c_one (c_set hc)
  | .int => c_one c_int
  | .repr => c_one (c_repr hu hg)
  | .divmod => c_two c_divmod
  | .all => c_one (c_all hc)
  | .any => c_one (c_any hc)
end
end Ly
end
section
set_option Elab.async false
set_option linter.all false
set_option autoImplicit false
set_option maxRecDepth 100000
/-! Methods of lists. -/
namespace Ly
open PySem PySem.Spec PyProof.Rows L2
theorem firstEq_at {a : V} : ∀ {bs : List V} {j : Nat}, firstEq a bs = some j → ∃ z, bs[j]? = some z ∧ eqV z a = true ∧ ∀ (m : Nat) (z' : V), m < j → bs[m]? = some z' → eqV z' a = false
  | [], j, e => by cases e
  | b :: bs, j, e => by
    have e : (if eqV b a = true then some 0 else (firstEq a bs).map (· + 1)) = some j := e
    by_cases h : eqV b a = true
    · rw [if_pos h] at e
      cases e
      exact ⟨b, rfl, h, fun m z' hm => absurd hm (Nat.not_lt_zero m)⟩
    · rw [if_neg h] at e
      obtain ⟨i, e2, rfl⟩ := Option.map_eq_some_iff.mp e
      obtain ⟨z, h1, h2, h3⟩ := firstEq_at e2
      refine ⟨z, by simpa using h1, h2, fun m z' hm hz => ?_⟩
      cases m with
      | zero =>
        have hz : b = z' := by simpa using hz
        subst hz
        exact Bool.eq_false_iff.mpr h
      | succ m => exact h3 m z' (Nat.lt_of_succ_lt_succ hm) (by simpa using hz)
def rM (K : PySem.W.Frag) (w : World) (f : L → List L → LH → Option (L × LH)) : V → List V → Hp → VK → Prop := fun x xs H Q => ∃ a as θ h, HR K w H θ h ∧ RelL K H θ a x ∧ RelLs K H θ as xs ∧ PostO K w H θ (f a as h) Q
section
variable {X : Cx}
theorem RelLs.last {K : PySem.W.Frag} {H : Hp} {θ : List Addr} {xs : List L} {vs : List V} (r : RelLs K H θ xs vs) {x : L} (e : xs.getLast? = some x) : ∃ v, vs[vs.length - 1]? = some v ∧ RelL K H θ x v := by
  rw [List.getLast?_eq_getElem?] at e
  rw [← r.length]
  exact r.get e
theorem m_append : MtR X "list.append" (rM X.K X.w (methL .append)) := by
  intro pins s σ H x xs v us Q I rx rxs hh
  obtain ⟨a, as, θ, h, R, ra, rs, P⟩ := hh
  cases a with
  | ref r =>
    cases rs with
    | nil => exact P.elim
    | cons r1 r2 =>
      cases r2 with
      | cons _ _ => exact P.elim
      | nil =>
        rename_i y yv
        cases ra with
        | @ref _ p t =>
          have P : PostO X.K X.w H θ (appO h r y h[r]?) Q := P
          cases e : h[r]? with
          | none => rw [e] at P; exact P.elim
          | some o =>
            rw [e] at P
            cases o with
            | lst zs =>
              obtain ⟨hz, P⟩ := post_if (show PostO X.K X.w H θ (if zs.length < sizeLine then some (.non, h.set r (.lst (zs ++ [y]))) else none) Q from P)
              obtain ⟨vs, g1, g2⟩ := R.ob r p _ t e
              have g : Grow H (upd H p (.lst (vs ++ [yv]))) := Grow.upd g1 loose_lst
              refine mt_append pins s σ H _ _ v us Q I rx rxs ⟨p, vs, yv, rfl, rfl, g1, by rw [← g2.length]; exact hz, P θ _ _ (Ev.upd g1 loose_lst (List.mem_of_getElem? t)) ?_ .non⟩
              exact R.set t g1 loose_lst ⟨_, upd_same, (g2.append (.cons r1 .nil)).mono g (List.prefix_refl _)⟩
            | _ => exact P.elim
  | _ => exact P.elim
theorem m_extend : MtR X "list.extend" (rM X.K X.w (methL .extend)) := by
  intro pins s σ H x xs v us Q I rx rxs hh
  obtain ⟨a, as, θ, h, R, ra, rs, P⟩ := hh
  cases a with
  | ref r =>
    cases rs with
    | nil => exact P.elim
    | cons r1 r2 =>
      rename_i y yv _ _
      cases r2 with
      | cons _ _ => cases y <;> exact P.elim
      | nil =>
        cases y with
        | ref q =>
          cases ra with
          | @ref _ p t =>
            cases r1 with
            | @ref _ p2 t2 =>
              have P : PostO X.K X.w H θ (extO h r h[r]? h[q]?) Q := P
              cases e : h[r]? with
              | none => rw [e] at P; cases h[q]? <;> exact P.elim
              | some o =>
                cases e2 : h[q]? with
                | none => rw [e, e2] at P; cases o <;> exact P.elim
                | some o2 =>
                  rw [e, e2] at P
                  cases o with
                  | lst zs =>
                    cases o2 with
                    | lst ys =>
                      obtain ⟨hz, P⟩ := post_if (show PostO X.K X.w H θ (if zs.length + ys.length ≤ sizeLine then some (.non, h.set r (.lst (zs ++ ys))) else none) Q from P)
                      obtain ⟨vs, g1, g2⟩ := R.ob r p _ t e
                      obtain ⟨ws, k1, k2⟩ := R.ob q p2 _ t2 e2
                      have g : Grow H (upd H p (.lst (vs ++ ws))) := Grow.upd g1 loose_lst
                      refine mt_extend pins s σ H _ _ v us Q I rx rxs ⟨p, p2, vs, ws, rfl, rfl, g1, k1, by rw [← g2.length, ← k2.length]; exact hz, P θ _ _ (Ev.upd g1 loose_lst (List.mem_of_getElem? t)) ?_ .non⟩
                      exact R.set t g1 loose_lst ⟨_, upd_same, (g2.append k2).mono g (List.prefix_refl _)⟩
                    | _ => exact P.elim
                  | _ => cases o2 <;> exact P.elim
        | _ => exact P.elim
  | _ => exact P.elim
theorem m_pop : MtR X "list.pop" (rM X.K X.w (methL .pop)) := by
  intro pins s σ H x xs v us Q I rx rxs hh
  obtain ⟨a, as, θ, h, R, ra, rs, P⟩ := hh
  cases a with
  | ref r =>
    cases rs with
    | cons r1 r2 => exact P.elim
    | nil =>
      cases ra with
      | @ref _ p t =>
        have P : PostO X.K X.w H θ (popO h r h[r]?) Q := P
        cases e : h[r]? with
        | none => rw [e] at P; exact P.elim
        | some o =>
          rw [e] at P
          cases o with
          | lst zs =>
            obtain ⟨y, e2, P⟩ := post_bind (show PostO X.K X.w H θ (zs.getLast?.bind fun y => some (y, h.set r (.lst zs.dropLast))) Q from P)
            obtain ⟨vs, g1, g2⟩ := R.ob r p _ t e
            obtain ⟨yv, e3, ry⟩ := g2.last e2
            have g : Grow H (upd H p (.lst vs.dropLast)) := Grow.upd g1 loose_lst
            refine mt_pop pins s σ H _ _ v us Q I rx rxs ⟨p, vs, yv, rfl, rfl, g1, e3, P θ _ _ (Ev.upd g1 loose_lst (List.mem_of_getElem? t)) ?_ (ry.mono g (List.prefix_refl _))⟩
            exact R.set t g1 loose_lst ⟨_, upd_same, g2.dropLast.mono g (List.prefix_refl _)⟩
          | _ => exact P.elim
  | _ => exact P.elim
theorem m_index : MtR X "list.index" (rM X.K X.w (methL .index)) := by
  intro pins s σ H x xs v us Q I rx rxs hh
  obtain ⟨a, as, θ, h, R, ra, rs, P⟩ := hh
  cases rs with
  | nil => cases a <;> exact P.elim
  | cons r1 r2 =>
    rename_i y yv _ _
    cases r2 with
    | cons _ _ => cases a <;> exact P.elim
    | nil =>
      have P : PostO X.K X.w H θ (idx2 a y h) Q := by cases a <;> exact P
      obtain ⟨zs, e1, P⟩ := post_bind P
      obtain ⟨u, e2, P⟩ := post_bind P
      obtain ⟨bs, e3, P⟩ := post_bind P
      obtain ⟨j, e4, P9⟩ := post_bind P
      obtain ⟨p, vs, rfl, g1, g2⟩ := R.lst e1 ra
      have e5 := g2.fvs e3
      have e6 := r1.fv e2
      subst e5 e6
      obtain ⟨z, f1, f2, f3⟩ := firstEq_at e4
      exact mt_index pins s σ H _ _ v us Q I rx rxs ⟨p, vs, yv, j, z, rfl, rfl, g1, flatV_fv e2, flatV_fvs e3, f1, f2, f3, P9.same R (.int _)⟩
def mthN : Mth → Str
  | .append => "append"
  | .extend => "extend"
  | .pop => "pop"
  | .index => "index"
def mthI : Mth → String
  | .append => "list.append"
  | .extend => "list.extend"
  | .pop => "list.pop"
  | .index => "list.index"
theorem m_mth : ∀ m : Mth, MtR X (mthI m) (rM X.K X.w (methL m))
  | .append => m_append
  | .extend => m_extend
  | .pop => m_pop
  | .index => m_index
theorem mth_slot : ∀ m : Mth, Slot "list" (mthN m) (mthI m)
  | .append => F.slot_list_append
  | .extend => F.slot_list_extend
  | .pop => F.slot_list_pop
  | .index => F.slot_list_index
theorem mth_type : ∀ m : Mth, typeOf (.builtin (mthI m)) = pure (.type "method_descriptor")
  | .append => F.type_list_append
  | .extend => F.type_list_extend
  | .pop => F.type_list_pop
  | .index => F.type_list_index
end
end Ly
end
section
set_option Elab.async false
set_option linter.all false
set_option autoImplicit false
set_option maxRecDepth 100000
/-! Expressions: the judgement. -/
namespace Ly
open PySem PySem.Spec PyProof.Rows L2

/-! ### slots -/
structure Sl (K : PySem.W.Frag) (H : Hp) (θ : List Addr) (sl : LS) (σ : L2.St) : Prop where
  len : sl.length = σ.length
  val : ∀ (i : Nat) (v : L), sl[i]? = some (some v) → ∃ x, σ[i]? = some (some x) ∧ RelL K H θ v x
section
variable {K : PySem.W.Frag} {w : World} {H H' : Hp} {θ θ' : List Addr} {sl : LS} {σ : L2.St}
theorem Sl.ev (s : Sl K H θ sl σ) (e : Ev H H' θ θ') : Sl K H' θ' sl σ := ⟨s.len, fun i v q => let ⟨x, h1, h2⟩ := s.val i v q; ⟨x, h1, h2.ev e⟩⟩
theorem Sl.set (s : Sl K H θ sl σ) (i : Nat) {v : L} {x : V} (r : RelL K H θ v x) : Sl K H θ (sl.set i (some v)) (σ.set i (some x)) := by
  refine ⟨by rw [List.length_set, List.length_set]; exact s.len, fun j u q => ?_⟩
  by_cases hj : i = j
  · subst hj
    by_cases hl : i < sl.length
    · rw [List.getElem?_set_self hl] at q
      cases q
      exact ⟨x, by rw [List.getElem?_set_self (by rw [← s.len]; exact hl)], r⟩
    · rw [List.getElem?_eq_none (by rw [List.length_set]; omega)] at q; cases q
  · rw [List.getElem?_set_ne hj] at q
    rw [List.getElem?_set_ne hj]
    exact s.val j u q
theorem Sl.unset (s : Sl K H θ sl σ) (i : Nat) : Sl K H θ (sl.set i none) (σ.set i none) := by
  refine ⟨by rw [List.length_set, List.length_set]; exact s.len, fun j u q => ?_⟩
  by_cases hj : i = j
  · subst hj
    by_cases hl : i < sl.length
    · rw [List.getElem?_set_self hl] at q; cases q
    · rw [List.getElem?_eq_none (by rw [List.length_set]; omega)] at q; cases q
  · rw [List.getElem?_set_ne hj] at q
    rw [List.getElem?_set_ne hj]
    exact s.val j u q
theorem Sl.wipe (s : Sl K H θ sl σ) : ∀ vs : List Nat, Sl K H θ (wipeL sl vs) (wipe σ vs)
  | [] => s
  | v :: vs => (Sl.wipe s vs).unset v
end

/-! ### what an answer hands on -/
abbrev RelA (α β : Type) := Hp → List Addr → α → β → Prop
/-- the exceptions' classes by their numbers -/
def PostA {α β : Type} (K : PySem.W.Frag) (w : World) (xc : Nat → Value) (rel : RelA α β) (H : Hp) (θ : List Addr) (r : R α) (Q : β → Hp → Prop) (E : L2.XK) : Prop := match r with
  | .ok a h' => ∀ θ' H' x, Ev H H' θ θ' → HR K w H' θ' h' → rel H' θ' a x → Q x H'
  | .exc c _ h' => ∀ θ' H' d, Ev H H' θ θ' → HR K w H' θ' h' → E (xc c) d H'
  | .bad => False
section
variable {K : PySem.W.Frag} {w : World} {xc : Nat → Value} {α β γ δ : Type} {rel : RelA α β} {rel2 : RelA γ δ} {H H1 : Hp} {θ θ1 : List Addr} {Q Q' : β → Hp → Prop} {Q2 : δ → Hp → Prop} {E E' : L2.XK}
theorem PostA.mono {r : R α} (P : PostA K w xc rel H θ r Q E) (hQ : ∀ x H', Q x H' → Q' x H') : PostA K w xc rel H θ r Q' E := by
  cases r with
  | ok a h => exact fun θ' H' x e R q => hQ x H' (P θ' H' x e R q)
  | exc c v h => exact P
  | bad => exact P
theorem PostA.shift {r : R α} (P : PostA K w xc rel H θ r Q E) (ev : Ev H H1 θ θ1) : PostA K w xc rel H1 θ1 r Q E := by
  cases r with
  | ok a h => exact fun θ' H' x e R q => P θ' H' x (ev.trans e) R q
  | exc c v h => exact fun θ' H' d e R => P θ' H' d (ev.trans e) R
  | bad => exact P
theorem PostA.bind {r : R α} {k : α → LH → R γ} (P : PostA K w xc rel2 H θ (r.bind k) Q2 E) :
    PostA K w xc rel H θ r (fun x H1 => ∃ θ1 a h1, Ev H H1 θ θ1 ∧ HR K w H1 θ1 h1 ∧ rel H1 θ1 a x ∧ PostA K w xc rel2 H1 θ1 (k a h1) Q2 E) E := by
  cases r with
  | ok a h => exact fun θ' H' x e R q => ⟨θ', a, h, e, R, q, PostA.shift (show PostA K w xc rel2 H θ (k a h) Q2 E from P) e⟩
  | exc c v h => exact P
  | bad => exact P
theorem PostA.toO {o : Option (L × LH)} {Q : VK} (P : PostA K w xc (RelL K) H θ (ofO o) Q E) : PostO K w H θ o Q := by
  cases o with
  | none => exact P.elim
  | some p => exact P
theorem PostA.noexc {r : R α} (P : PostA K w xc rel H θ (noexc r) Q E) : PostA K w xc rel H θ r Q E' := by
  cases r with
  | ok a h => exact P
  | exc c v h => exact P.elim
  | bad => exact P
theorem PostA.here {a : α} {h : LH} {x : β} (P : PostA K w xc rel H θ (.ok a h) Q E) (R : HR K w H θ h) (q : rel H θ a x) : Q x H := P θ H x (Ev.refl H θ) R q
theorem PostA.bad (P : PostA K w xc rel H θ .bad Q E) : False := P
end
/-- a reading -/
def tA {α β : Type} (K : PySem.W.Frag) (w : World) (xc : Nat → Value) (W : L2.WX) (rel : RelA α β) (f : LS → LH → R α) : L2.St → Hp → (β → Hp → Prop) → Prop := fun σ H Q =>
  ∃ θ sl h, Sl K H θ sl σ ∧ HR K w H θ h ∧ PostA K w xc rel H θ (f sl h) Q fun c d H' => W c d σ H'
section
variable {K : PySem.W.Frag} {w : World} {xc : Nat → Value} {W : L2.WX} {α β γ δ : Type} {rel : RelA α β} {rel2 : RelA γ δ} {σ : L2.St} {H : Hp} {Q : δ → Hp → Prop}
/-- the first part of a row -/
theorem tA.seq {f : LS → LH → R α} {k : LS → α → LH → R γ} (h : tA K w xc W rel2 (fun sl h => (f sl h).bind (k sl)) σ H Q) :
    tA K w xc W rel f σ H fun x H1 => ∃ θ1 sl h1 a, Sl K H1 θ1 sl σ ∧ HR K w H1 θ1 h1 ∧ rel H1 θ1 a x ∧ PostA K w xc rel2 H1 θ1 (k sl a h1) Q fun c d H' => W c d σ H' := by
  obtain ⟨θ, sl, h, S, R, P⟩ := h
  exact ⟨θ, sl, h, S, R, PostA.mono (PostA.bind P) fun x H1 ⟨θ1, a, h1, ev, R1, q, P1⟩ => ⟨θ1, sl, h1, a, S.ev ev, R1, q, P1⟩⟩
theorem tA.mono {f : LS → LH → R α} {Q Q' : β → Hp → Prop} (h : tA K w xc W rel f σ H Q) (hQ : ∀ x H', Q x H' → Q' x H') : tA K w xc W rel f σ H Q' := by
  obtain ⟨θ, sl, h, S, R, P⟩ := h
  exact ⟨θ, sl, h, S, R, P.mono hQ⟩
end
theorem PE.imp {X : Cx} {e : Expr} {t t' : TE} (h : PE X e t) (i : ∀ σ H Q, t' σ H Q → t σ H Q) : PE X e t' := ⟨fun pins s σ H Q I q => h.run pins s σ H Q I (i _ _ _ q)⟩
theorem PT.imp {X : Cx} {e : Expr} {t t' : TT} (h : PT X e t) (i : ∀ σ H Q, t' σ H Q → t σ H Q) : PT X e t' := ⟨fun pins s σ H Q I q => h.run pins s σ H Q I (i _ _ _ q)⟩
theorem PW.imp {X : Cx} {e : Expr} {t t' : TT} (h : PW X e t) (i : ∀ σ H Q, t' σ H Q → t σ H Q) : PW X e t' := ⟨fun wh pins s σ H Q I q => h.run wh pins s σ H Q I (i _ _ _ q)⟩
theorem PA.imp {X : Cx} {e : List Expr} {t t' : TA} (h : PA X e t) (i : ∀ σ H Q, t' σ H Q → t σ H Q) : PA X e t' := ⟨fun pos pins s σ H Q I q => h.run pos pins s σ H Q I (i _ _ _ q)⟩
theorem PI.imp {X : Cx} {tg e : Expr} {t t' : TI} (h : PI X tg e t) (i : ∀ σ H Q, t' σ H Q → t σ H Q) : PI X tg e t' := ⟨fun pins s σ H Q I q => h.run pins s σ H Q I (i _ _ _ q)⟩
theorem PS.imp {X : Cx} {e : Stmt} {t t' : TS} (h : PS X e t) (i : ∀ D σ H, t' D σ H → t D σ H) : PS X e t' := ⟨fun pins s σ H D I q => h.run pins s σ H D I (i _ _ _ q)⟩
theorem PG.imp {X : Cx} {e : Expr} {t t' : TG} (h : PG X e t) (i : ∀ v σ H Q, t' v σ H Q → t v σ H Q) : PG X e t' := ⟨fun pins s σ H v u Q I r q => h.run pins s σ H v u Q I r (i _ _ _ _ q)⟩

/-! ### the rules, one construct each -/
section
variable {X : Cx} {xc : Nat → Value} {W : L2.WX} {a b c : Expr} {es : List Expr} {fa fb fc : LS → LH → R L} {fs : LS → LH → R (List L)} {pos : Pos}
abbrev eL (X : Cx) (xc : Nat → Value) (W : L2.WX) (f : LS → LH → R L) : TE := tA X.K X.w xc W (RelL X.K) f
abbrev aL (X : Cx) (xc : Nat → Value) (W : L2.WX) (f : LS → LH → R (List L)) : TA := tA X.K X.w xc W (RelLs X.K) f
abbrev bL (X : Cx) (xc : Nat → Value) (W : L2.WX) (f : LS → LH → R L) : TT := tTest (eL X xc W f)
theorem e_var {i : Nat} {x : Str} (hN : X.N[i]? = some x) (hv : Vis X.env.scope x) (hd : (x == ("__debug__" : Str)) = false) (hcd : (x == ("__classdict__" : Str)) = false) :
    PE X (.Name x pos) (eL X xc W fun sl h => match sl[i]? with
      | some (some v) => .ok v h
      | _ => .bad) := by
  refine PE.imp (pe_var hN hv hd hcd) fun σ H Q ⟨θ, sl, h, S, R, P⟩ => ?_
  cases e : sl[i]? with
  | none => simp only [e] at P; exact P.bad.elim
  | some o =>
    cases o with
    | none => simp only [e] at P; exact P.bad.elim
    | some v =>
      simp only [e] at P
      obtain ⟨x, h1, h2⟩ := S.val i v e
      exact ⟨x, h1, P.here R h2⟩
theorem e_const {e : Expr} {v : L} {x : V} (h : PE X e (tC x)) (r : ∀ H θ, RelL X.K H θ v x) : PE X e (eL X xc W fun _ h => .ok v h) :=
  PE.imp h fun σ H Q ⟨θ, sl, h, S, R, P⟩ => P.here R (r H θ)
theorem e_tup {x1 : Nat} (h : PA X es (aL X xc W fs)) : PE X (.Tuple es x1 pos) (eL X xc W fun sl h => (fs sl h).bind fun vs h1 => if vs.length ≤ sizeLine then .ok (.tup vs) h1 else .bad) := by
  refine PE.imp (pe_tup h) fun σ H Q h => ?_
  refine (tA.seq (rel := RelLs X.K) h).mono fun xs H1 ⟨θ1, sl, h1, vs, S, R, r, P⟩ => ?_
  by_cases hz : vs.length ≤ sizeLine
  · rw [if_pos hz] at P
    exact ⟨by rw [← r.length]; exact hz, PostO.tup (h := h1) P R r⟩
  · rw [if_neg hz] at P; exact P.bad.elim
theorem e_lst (h : PA X es (aL X xc W fs)) : PE X (.List es pos) (eL X xc W fun sl h => (fs sl h).bind fun vs h1 => ofO (newL h1 vs)) := by
  refine PE.imp (pe_lst h) fun σ H Q h => ?_
  refine (tA.seq (rel := RelLs X.K) h).mono fun xs H1 ⟨θ1, sl, h1, vs, S, R, r, P⟩ => ?_
  exact PostO.newL P.toO R r
theorem e_dict : PE X (.Dict [] [] pos) (eL X xc W fun _ h => .ok (.ref h.length) (h ++ [.dk []])) := by
  refine PE.imp pe_dnewK fun σ H Q ⟨θ, sl, h, S, R, P⟩ => ?_
  intro p hp
  refine P (θ ++ [p]) _ _ (Ev.new hp) (R.new hp ⟨[], upd_same, .nil⟩) (.ref ?_)
  rw [← R.len, List.getElem?_append_right (Nat.le_refl _)]
  simp
theorem e_bin {op : Operator} (ha : PE X a (eL X xc W fa)) (hb : PE X b (eL X xc W fb)) : PE X (.BinOp a op b pos) (eL X xc W fun sl h => (fa sl h).bind fun x h1 => (fb sl h1).bind fun y h2 => ofO (binL op x y h2)) := by
  refine PE.imp (pe_op (or_bin op) ha hb) fun σ H Q h => ?_
  refine (tA.seq (rel := RelL X.K) h).mono fun x H1 ⟨θ1, sl, h1, v, S, R, r, P⟩ => ?_
  exact ⟨θ1, sl, h1, S, R, PostA.mono (PostA.bind P) fun y H2 ⟨θ2, u, h2, ev, R2, r2, P2⟩ => ⟨v, u, θ2, h2, R2, r.ev ev, r2, P2.toO⟩⟩
theorem e_neg (ha : PE X a (eL X xc W fa)) : PE X (.UnaryOp .USub a pos) (eL X xc W fun sl h => (fa sl h).bind fun x h1 => match x with
    | .int i => .ok (.int (-i)) h1
    | _ => .bad) := by
  refine PE.imp (pe_un un_neg ha) fun σ H Q h => ?_
  refine (tA.seq (rel := RelL X.K) h).mono fun x H1 ⟨θ1, sl, h1, v, S, R, r, P⟩ => ?_
  cases v with
  | int i => cases r; exact ⟨i, rfl, PostA.here (a := L.int (-i)) P R (.int _)⟩
  | _ => exact (PostA.bad P).elim
theorem e_not (ha : PE X a (eL X xc W fa)) : PE X (.UnaryOp .Not a pos) (eL X xc W fun sl h => (fa sl h).bind fun x h1 => match x with
    | .bl b => .ok (.bl (!b)) h1
    | _ => .bad) := by
  refine PE.imp (pe_not ha) fun σ H Q h => ?_
  refine (tA.seq (rel := RelL X.K) h).mono fun x H1 ⟨θ1, sl, h1, v, S, R, r, P⟩ => ?_
  cases v with
  | bl i => cases r; exact ⟨i, rfl, PostA.here (a := L.bl (!i)) P R (.bl _)⟩
  | _ => exact (PostA.bad P).elim
theorem e_cmp (hu : X.A.units + 64 < cLine) {op : CmpOp} (ha : PE X a (eL X xc W fa)) (hb : PE X b (eL X xc W fb)) (hm : behindInMarks op b = false) : PE X (.Compare a [op] [b] pos) (eL X xc W fun sl h => (fa sl h).bind fun x h1 => (fb sl h1).bind fun y h2 => ofO (okB (cmpL op x y h2) h2)) := by
  refine PE.imp (pe_cmpR (or_cmp hu op) ha hb hm) fun σ H Q h => ?_
  refine (tA.seq (rel := RelL X.K) h).mono fun x H1 ⟨θ1, sl, h1, v, S, R, r, P⟩ => ?_
  exact ⟨θ1, sl, h1, S, R, PostA.mono (PostA.bind P) fun y H2 ⟨θ2, u, h2, ev, R2, r2, P2⟩ => ⟨v, u, θ2, h2, R2, r.ev ev, r2, P2.toO⟩⟩
def andL (fa fb : LS → LH → R L) : LS → LH → R L := fun sl h => (fa sl h).bind fun x h1 => match x with
  | .bl true => fb sl h1
  | .bl false => .ok (.bl false) h1
  | _ => .bad
def orL (fa fb : LS → LH → R L) : LS → LH → R L := fun sl h => (fa sl h).bind fun x h1 => match x with
  | .bl true => .ok (.bl true) h1
  | .bl false => fb sl h1
  | _ => .bad
def iteL (fc fa fb : LS → LH → R L) : LS → LH → R L := fun sl h => (fc sl h).bind fun x h1 => match x with
  | .bl true => fa sl h1
  | .bl false => fb sl h1
  | _ => .bad
def chainL (op op' : CmpOp) (fa fb fc : LS → LH → R L) : LS → LH → R L := fun sl h => (fa sl h).bind fun x h1 => (fb sl h1).bind fun y h2 => match cmpL op x y h2 with
  | some true => (fc sl h2).bind fun z h3 => ofO (okB (cmpL op' y z h3) h3)
  | some false => .ok (.bl false) h2
  | none => .bad
/-- a bool's two ways -/
theorem two_ways {K : PySem.W.Frag} {w : World} {H : Hp} {θ : List Addr} {α β : Type} {rel : RelA α β} {v : L} {x : V} {h : LH} {f g : LH → R α} {Q : β → Hp → Prop} {E : L2.XK} (r : RelL K H θ v x)
    (P : PostA K w xc rel H θ (match (generalizing := false) v with
      | .bl true => f h
      | .bl false => g h
      | _ => .bad) Q E) : ∃ k, x = .bl k ∧ v = .bl k ∧ PostA K w xc rel H θ (if k = true then f h else g h) Q E := by
  cases v with
  | bl k =>
    cases r
    cases k with
    | true => exact ⟨true, rfl, rfl, P⟩
    | false => exact ⟨false, rfl, rfl, P⟩
  | _ => exact (PostA.bad P).elim
variable {rest : List Expr}
theorem e_and (ha : PE X a (eL X xc W fa)) (hb : PE X (.BoolOp .And (b :: rest) pos) (eL X xc W fb)) : PE X (.BoolOp .And (a :: b :: rest) pos) (eL X xc W (andL fa fb)) := by
  refine PE.imp (pe_and ha hb) fun σ H Q h => ?_
  refine (tA.seq (rel := RelL X.K) h).mono fun x H1 ⟨θ1, sl, h1, v, S, R, r, P⟩ => ?_
  obtain ⟨k, e, _, P⟩ := two_ways r P
  refine ⟨k, e, ?_⟩
  cases k with
  | true => exact ⟨θ1, sl, h1, S, R, P⟩
  | false => exact P.here R (.bl _)
theorem e_or (ha : PE X a (eL X xc W fa)) (hb : PE X (.BoolOp .Or (b :: rest) pos) (eL X xc W fb)) : PE X (.BoolOp .Or (a :: b :: rest) pos) (eL X xc W (orL fa fb)) := by
  refine PE.imp (pe_or ha hb) fun σ H Q h => ?_
  refine (tA.seq (rel := RelL X.K) h).mono fun x H1 ⟨θ1, sl, h1, v, S, R, r, P⟩ => ?_
  obtain ⟨k, e, _, P⟩ := two_ways r P
  refine ⟨k, e, ?_⟩
  cases k with
  | true => exact P.here R (.bl _)
  | false => exact ⟨θ1, sl, h1, S, R, P⟩
theorem e_ite (hc : PT X c (bL X xc W fc)) (ha : PE X a (eL X xc W fa)) (hb : PE X b (eL X xc W fb)) : PE X (.IfExp c a b pos) (eL X xc W (iteL fc fa fb)) := by
  refine PE.imp (pe_ifExp hc ha hb) fun σ H Q h => ?_
  refine (tA.seq (rel := RelL X.K) h).mono fun x H1 ⟨θ1, sl, h1, v, S, R, r, P⟩ => ?_
  obtain ⟨k, e, _, P⟩ := two_ways r P
  refine ⟨k, e, ?_⟩
  cases k with
  | true => exact ⟨θ1, sl, h1, S, R, P⟩
  | false => exact ⟨θ1, sl, h1, S, R, P⟩
theorem chain_in {op op' : CmpOp} {σ : L2.St} {H : Hp} {Q : VK} (h : eL X xc W (chainL op op' fa fb fc) σ H Q) : tChain (rC X.K X.w op) (rC X.K X.w op') (eL X xc W fa) (eL X xc W fb) (eL X xc W fc) σ H Q := by
  refine (tA.seq (rel := RelL X.K) h).mono fun x H1 ⟨θ1, sl, h1, v, S, R, r, P⟩ => ?_
  refine ⟨θ1, sl, h1, S, R, PostA.mono (PostA.bind P) fun y H2 ⟨θ2, u, h2, ev, R2, r2, P2⟩ => ?_⟩
  refine ⟨v, u, θ2, h2, R2, r.ev ev, r2, ?_⟩
  show PostO X.K X.w H2 θ2 (okB (cmpL op v u h2) h2) _
  cases e : cmpL op v u h2 with
  | none => rw [e] at P2; exact P2.bad.elim
  | some k =>
    rw [e] at P2
    refine fun θ3 H3 z ev3 R3 rz => ?_
    cases rz
    refine ⟨k, rfl, ?_⟩
    cases k with
    | true =>
      have P2 : PostA X.K X.w xc (RelL X.K) H2 θ2 ((fc sl h2).bind fun z h3 => ofO (okB (cmpL op' u z h3) h3)) Q _ := P2
      exact ⟨θ3, sl, h2, (S.ev ev).ev ev3, R3, PostA.mono (PostA.bind (P2.shift ev3)) fun z H4 ⟨θ4, t, h4, ev4, R4, r4, P4⟩ => ⟨u, t, θ4, h4, R4, (r2.ev ev3).ev ev4, r4, P4.toO⟩⟩
    | false => exact PostA.here (PostA.shift (show PostA X.K X.w xc (RelL X.K) H2 θ2 (.ok (.bl false) h2) Q _ from P2) ev3) R3 (.bl _)
theorem e_chain (hu : X.A.units + 64 < cLine) {op op' : CmpOp} (ha : PE X a (eL X xc W fa)) (hb : PE X b (eL X xc W fb)) (hc : PE X c (eL X xc W fc)) (hm : lastMarks [op, op'] [b, c] = false) :
    PE X (.Compare a [op, op'] [b, c] pos) (eL X xc W (chainL op op' fa fb fc)) := PE.imp (pe_chain (or_cmp hu op) (or_cmp hu op') ha hb hc hm) fun σ H Q h => chain_in h
/-! tests -/
theorem b_val (h : PE X a (eL X xc W fa)) (he : ∀ whole, isTrue a X.env whole = (do let v ← whole; standAt a.pos; holding [v] (truthy v))) : PT X a (bL X xc W fa) := pt_val h he
theorem b_cmp (hu : X.A.units + 64 < cLine) {op : CmpOp} (ha : PE X a (eL X xc W fa)) (hb : PE X b (eL X xc W fb)) (hm : behindInMarks op b = false) : PT X (.Compare a [op] [b] pos) (bL X xc W fun sl h => (fa sl h).bind fun x h1 => (fb sl h1).bind fun y h2 => ofO (okB (cmpL op x y h2) h2)) := by
  refine PT.imp (pt_cmpR (or_cmp hu op) ha hb hm) fun σ H Q h => ?_
  refine (tA.seq (rel := RelL X.K) h).mono fun x H1 ⟨θ1, sl, h1, v, S, R, r, P⟩ => ?_
  exact ⟨θ1, sl, h1, S, R, PostA.mono (PostA.bind P) fun y H2 ⟨θ2, u, h2, ev, R2, r2, P2⟩ => ⟨v, u, θ2, h2, R2, r.ev ev, r2, P2.toO⟩⟩
theorem b_chain (hu : X.A.units + 64 < cLine) {op op' : CmpOp} (ha : PE X a (eL X xc W fa)) (hb : PE X b (eL X xc W fb)) (hc : PE X c (eL X xc W fc)) (hm : lastMarks [op, op'] [b, c] = false) :
    PT X (.Compare a [op, op'] [b, c] pos) (bL X xc W (chainL op op' fa fb fc)) := PT.imp (pt_chain (or_cmp hu op) (or_cmp hu op') ha hb hc hm) fun σ H Q h => chain_in h
theorem b_not (ha : PT X a (bL X xc W fa)) : PT X (.UnaryOp .Not a pos) (bL X xc W fun sl h => (fa sl h).bind fun x h1 => match x with
    | .bl b => .ok (.bl (!b)) h1
    | _ => .bad) := by
  refine PT.imp (pt_not ha) fun σ H Q h => ?_
  refine (tA.seq (rel := RelL X.K) h).mono fun x H1 ⟨θ1, sl, h1, v, S, R, r, P⟩ => ?_
  cases v with
  | bl i =>
    cases r
    obtain ⟨k, e, q⟩ := PostA.here (a := L.bl (!i)) P R (.bl _)
    cases e
    exact ⟨i, rfl, q⟩
  | _ => exact (PostA.bad P).elim
theorem w_and1 (ha : PT X a (bL X xc W fa)) : PW X (.BoolOp .And [a] pos) (bL X xc W fa) := pw_and1 ha
theorem w_or1 (ha : PT X a (bL X xc W fa)) : PW X (.BoolOp .Or [a] pos) (bL X xc W fa) := pw_or1 ha
theorem w_and (ha : PT X a (bL X xc W fa)) (hb : PW X (.BoolOp .And (b :: rest) pos) (bL X xc W fb)) : PW X (.BoolOp .And (a :: b :: rest) pos) (bL X xc W (andL fa fb)) := by
  refine PW.imp (pw_and ha hb) fun σ H Q h => ?_
  refine (tA.seq (rel := RelL X.K) h).mono fun x H1 ⟨θ1, sl, h1, v, S, R, r, P⟩ => ?_
  obtain ⟨k, e, _, P⟩ := two_ways r P
  refine ⟨k, e, ?_⟩
  cases k with
  | true => exact ⟨θ1, sl, h1, S, R, P⟩
  | false =>
    obtain ⟨k', e', q⟩ := P.here R (.bl _)
    cases e'
    exact q
theorem w_or (ha : PT X a (bL X xc W fa)) (hb : PW X (.BoolOp .Or (b :: rest) pos) (bL X xc W fb)) : PW X (.BoolOp .Or (a :: b :: rest) pos) (bL X xc W (orL fa fb)) := by
  refine PW.imp (pw_or ha hb) fun σ H Q h => ?_
  refine (tA.seq (rel := RelL X.K) h).mono fun x H1 ⟨θ1, sl, h1, v, S, R, r, P⟩ => ?_
  obtain ⟨k, e, _, P⟩ := two_ways r P
  refine ⟨k, e, ?_⟩
  cases k with
  | true =>
    obtain ⟨k', e', q⟩ := P.here R (.bl _)
    cases e'
    exact q
  | false => exact ⟨θ1, sl, h1, S, R, P⟩
/-! subscripts -/
theorem e_idx (hu : X.A.units + 64 < cLine) (ha : PE X a (eL X xc W fa)) (hb : PE X b (eL X xc W fb)) (hs : PlainIx b) : PE X (.Subscript a b pos) (eL X xc W fun sl h => (fa sl h).bind fun x h1 => (fb sl h1).bind fun y h2 => ofO (idxL x y h2)) := by
  refine PE.imp (pe_ix (ix_idx hu) ha hb hs) fun σ H Q h => ?_
  refine (tA.seq (rel := RelL X.K) h).mono fun x H1 ⟨θ1, sl, h1, v, S, R, r, P⟩ => ?_
  exact ⟨θ1, sl, h1, S, R, PostA.mono (PostA.bind P) fun y H2 ⟨θ2, u, h2, ev, R2, r2, P2⟩ => ⟨v, u, θ2, h2, R2, r.ev ev, r2, P2.toO⟩⟩
theorem onP_some {K : PySem.W.Frag} {w : World} {H : Hp} {θ : List Addr} {α β γ : Type} {rel : RelA α β} {o : Option γ} {f : γ → R α} {Q : β → Hp → Prop} {E : L2.XK} (P : PostA K w xc rel H θ (onP o f) Q E) : ∃ a, o = some a ∧ PostA K w xc rel H θ (f a) Q E := by
  cases o with
  | none => exact (PostA.bad P).elim
  | some a => exact ⟨a, rfl, P⟩
/-- a part of a slice -/
abbrev pL (X : Cx) (xc : Nat → Value) (W : L2.WX) (b : Bool) (f : LS → LH → R L) : TO := match b with
  | true => tNoPart
  | false => tPart (eL X xc W f)
theorem part_in {σ : L2.St} {H1 : Hp} {θ1 : List Addr} {sl : LS} {h1 : LH} {bb : Bool} {k : Option Int → LH → R L} {Q : VK} (hn : bb = true → ∀ sl h, fa sl h = .ok .non h) (S : Sl X.K H1 θ1 sl σ) (R : HR X.K X.w H1 θ1 h1)
    (P : PostA X.K X.w xc (RelL X.K) H1 θ1 ((fa sl h1).bind fun y h2 => onP (partX bb y) fun lo => k lo h2) Q fun c d H' => W c d σ H') :
    pL X xc W bb fa σ H1 fun lo H2 => ∃ θ2 h2, Ev H1 H2 θ1 θ2 ∧ HR X.K X.w H2 θ2 h2 ∧ PostA X.K X.w xc (RelL X.K) H2 θ2 (k lo h2) Q fun c d H' => W c d σ H' := by
  cases bb with
  | true =>
    rw [hn rfl] at P
    exact ⟨θ1, h1, Ev.refl _ _, R, P⟩
  | false =>
    show tPart (eL X xc W fa) σ H1 _
    refine ⟨θ1, sl, h1, S, R, PostA.mono (PostA.bind (rel := RelL X.K) P) fun x H2 ⟨θ2, v, h2, ev, R2, r, P2⟩ => ?_⟩
    obtain ⟨lo, e, P2⟩ := onP_some P2
    cases v with
    | int i =>
      cases e
      cases r
      exact ⟨i, rfl, θ2, h2, ev, R2, P2⟩
    | _ => cases e
theorem po_non : PO X none (pL X xc W true fa) := po_none
theorem po_val (h : PE X a (eL X xc W fa)) : PO X (some a) (pL X xc W false fa) := po_some h
theorem e_slc {lo hi : Option Expr} {p2 : Pos} {b1 b2 : Bool} (h1 : b1 = true → ∀ sl h, fb sl h = .ok .non h) (h2 : b2 = true → ∀ sl h, fc sl h = .ok .non h) (ha : PE X a (eL X xc W fa)) (hl : PO X lo (pL X xc W b1 fb)) (hu : PO X hi (pL X xc W b2 fc)) :
    PE X (.Subscript a (.Slice lo hi none p2) pos) (eL X xc W fun sl h => (fa sl h).bind fun x h1 => (fb sl h1).bind fun y h2 => onP (partX b1 y) fun lo => (fc sl h2).bind fun z h3 => onP (partX b2 z) fun hi => ofO (slcA x lo hi h3)) := by
  refine PE.imp (pe_slice sl_slc ha hl hu) fun σ H Q h => ?_
  refine (tA.seq (rel := RelL X.K) h).mono fun x H1 ⟨θ1, sl, g1, v, S, R, r, P⟩ => ?_
  have mono : ∀ {b : Bool} {f : LS → LH → Ly.R L} {σ : L2.St} {H : Hp} {Q Q' : Option Int → Hp → Prop}, (∀ o H, Q o H → Q' o H) → pL X xc W b f σ H Q → pL X xc W b f σ H Q' := fun {b f σ H Q Q'} hQ q => by
    cases b with
    | true => exact hQ _ _ q
    | false => exact tA.mono (show tA _ _ _ _ _ _ _ _ _ from q) fun x H' ⟨i, e, q⟩ => ⟨i, e, hQ _ _ q⟩
  refine mono (fun lo H2 ⟨θ2, g2, ev, R2, P2⟩ => ?_) (part_in h1 S R P)
  refine mono (fun hi H3 ⟨θ3, g3, ev3, R3, P3⟩ => ?_) (part_in h2 (S.ev ev) R2 P2)
  exact ⟨v, θ3, g3, R3, (r.ev ev).ev ev3, P3.toO⟩
end
end Ly
end
section
set_option Elab.async false
set_option linter.all false
set_option autoImplicit false
set_option maxRecDepth 100000
/-! Expressions: calls, built-ins, methods. -/
namespace Ly
open PySem PySem.Spec PyProof.Rows L2

/-! ### argument lists -/
def plainX : Expr → Bool
  | .Starred _ _ => false
  | _ => true
theorem star_plain {e : Expr} {es : List Expr} {env : Env} (h : plainX e = true) : starEach (e :: es) env = (false, eval e env) :: starEach es env := by
  cases e <;> first | rfl | cases h
theorem none_star {pos : Pos} {env : Env} : ∀ {es : List Expr}, es.all plainX = true → (backTo pos (starEach es env)).any (·.1) = false
  | [], _ => rfl
  | e :: es, h => by
    rw [List.all_cons, Bool.and_eq_true] at h
    rw [star_plain h.1]
    show (false || (backTo pos (starEach es env)).any (·.1)) = false
    rw [none_star h.2]; rfl
theorem few_ok {pos : Pos} {env : Env} {es : List Expr} (h : es.all plainX = true) (hl : es.length < 30) : ((backTo pos (starEach es env)).all (fun x => !x.1) && (backToKw pos (keywordEach [] env)).all (fun x => x.1.isSome)
      && decide (es.length + ([] : List Keyword).length + (if ([] : List Keyword).isEmpty then 0 else 1) < 30)) = true := by
  have h1 : (backTo pos (starEach es env)).all (fun x => !x.1) = true := by
    have q := none_star (pos := pos) (env := env) h
    rw [List.any_eq_false] at q
    exact List.all_eq_true.mpr fun x hx => by simpa using q x hx
  rw [h1]
  show (true && true && decide (es.length + 0 + 0 < 30)) = true
  simpa using hl
section
variable {X : Cx} {xc : Nat → Value} {W : L2.WX} {e : Expr} {es : List Expr} {fe : LS → LH → R L} {fs : LS → LH → R (List L)}
theorem a_nil : PA X [] (aL X xc W fun _ h => .ok [] h) := PA.imp pa_nil fun σ H Q ⟨θ, sl, h, S, R, P⟩ => P.here R .nil
theorem a_cons (ha : PE X e (eL X xc W fe)) (hr : PA X es (aL X xc W fs)) (hp : plainX e = true) : PA X (e :: es) (aL X xc W fun sl h => (fe sl h).bind fun v h1 => (fs sl h1).bind fun vs h2 => .ok (v :: vs) h2) := by
  refine PA.imp (pa_cons ha hr (star_plain hp)) fun σ H Q h => ?_
  refine (tA.seq (rel := RelL X.K) h).mono fun x H1 ⟨θ1, sl, h1, v, S, R, r, P⟩ => ?_
  exact ⟨θ1, sl, h1, S, R, PostA.mono (PostA.bind (rel := RelLs X.K) P) fun y H2 ⟨θ2, u, h2, ev, R2, r2, P2⟩ => P2.here R2 (.cons (r.ev ev) r2)⟩
theorem PK.imp {kws : List Keyword} {t t' : TA} (h : PK X kws t) (i : ∀ σ H Q, t' σ H Q → t σ H Q) : PK X kws t' := ⟨fun pos pins s σ H Q I q => h.run pos pins s σ H Q I (i _ _ _ q)⟩
theorem k_nil : PK X [] (aL X xc W fun _ h => .ok [] h) := PK.imp pk_nil fun σ H Q ⟨θ, sl, h, S, R, P⟩ => P.here R .nil
theorem k_cons {kws : List Keyword} {nm : Option Str} {kpos : Pos} (ha : PE X e (eL X xc W fe)) (hr : PK X kws (aL X xc W fs)) : PK X (⟨nm, e, kpos⟩ :: kws) (aL X xc W fun sl h => (fe sl h).bind fun v h1 => (fs sl h1).bind fun vs h2 => .ok (v :: vs) h2) := by
  refine PK.imp (pk_cons ha hr) fun σ H Q h => ?_
  refine (tA.seq (rel := RelL X.K) h).mono fun x H1 ⟨θ1, sl, h1, v, S, R, r, P⟩ => ?_
  exact ⟨θ1, sl, h1, S, R, PostA.mono (PostA.bind (rel := RelLs X.K) P) fun y H2 ⟨θ2, u, h2, ev, R2, r2, P2⟩ => P2.here R2 (.cons (r.ev ev) r2)⟩
end

/-! ### calls of defs -/
def spL (K : PySem.W.Frag) (w : World) (xc : Nat → Value) (cl : List L → LH → R L) : Sp := fun vs H Q E => ∃ as θ h, HR K w H θ h ∧ RelLs K H θ as vs ∧ PostA K w xc (RelL K) H θ (cl as h) Q E
structure FnG (P : Program) (w : World) (K : PySem.W.Frag) (mg : Str → Option Value) (base : Heap) (xc : Nat → Value) (k : Nat) (a : Addr) (fd : FuncData) (ps : List Str) (cl : List L → LH → R L) : Prop where
  len : ∀ as h, cl as h ≠ .bad → as.length = ps.length
  run : ∀ (A : Around) (outer : List Env) (s : Shared) (H : Hp) (args : Args) (us : List Value) (vs : List V) (Q : VK) (E : L2.XK), Room k A → A.guards = some [] → Env0 P w K mg base A outer s H → BindsTo s fd args (ps.zip us) → Vals vs us → spL K w xc cl vs H Q E →
    codeAny (model P w) A (.call (.ref a) args) (CR (L2.CX P w) outer P w H s Q E) s
theorem FnG.len' {P : Program} {w : World} {K : PySem.W.Frag} {mg : Str → Option Value} {base : Heap} {xc : Nat → Value} {k : Nat} {a : Addr} {fd : FuncData} {ps : List Str} {cl : List L → LH → R L} (F : FnG P w K mg base xc k a fd ps cl)
    {vs : List V} {H : Hp} {Q : VK} {E : L2.XK} (h : spL K w xc cl vs H Q E) : vs.length = ps.length := by
  obtain ⟨as, θ, g, R, r, P⟩ := h
  rw [← r.length]
  refine F.len as g fun e => ?_
  rw [e] at P
  exact P.bad
section
variable {X : Cx} {xc : Nat → Value} {W : L2.WX} {pins : List (Addr × Obj)} {σ : L2.St} {H : Hp} {s : Shared} {Q : VK} {us : List Value} {vs : List V} {k : Nat} {a : Addr} {fd : FuncData} {ps ks : List Str} {cl : List L → LH → R L} {args : Args}
theorem run_fnG (F : FnG X.prog X.w X.K X.mg X.base xc k a fd ps cl) (hr : Room k X.A) (hg : X.A.guards = some []) (tk : Takes X W) (I : Inv X pins σ H s) (hb : BindsTo s fd args (ps.zip us)) (r : Vals vs us) (h : spL X.K X.w xc cl vs H Q (WE W σ)) :
    wpAny (model X.prog X.w) X.A (call (.ref a) args.pos args.kw) (EP X pins σ Q) X.xe s := by
  refine wpAny_call (codeAny_mono (F.run X.A X.stack s H args us vs Q (WE W σ) hr hg I.env0 hb r h) fun r s' hq => ?_)
  cases r with
  | error e => exact passAt tk σ pins H s e s' I hq
  | ok fl =>
    cases fl with
    | ret u => exact I.after hq
    | next => exact False.elim hq
    | brk => exact False.elim hq
    | cont => exact False.elim hq
variable {x : Str} {p pos : Pos} {e : Expr} {es : List Expr} {kws : List Keyword} {fs : LS → LH → R (List L)} {pm : List Nat}
theorem e_call (F : FnG X.prog X.w X.K X.mg X.base xc k a fd ps cl) (hr : Room k X.A) (hg : X.A.guards = some []) (tk : Takes X W) (hgl : Gl X x) (hm : X.mg x = some (.ref a)) (hk : PySem.W.keepIn X.K (.ref a) = true) (hb : Binds X.K fd ps [])
    (ha : PA X (e :: es) (aL X xc W fs)) (hp : (e :: es).all plainX = true) (hdb : (x == ("__debug__" : Str)) = false) : PE X (.Call (.Name x p) (e :: es) [] pos) (eL X xc W fun sl h => (fs sl h).bind fun vs h1 => cl vs h1) := by
  refine ⟨fun pins s σ H Q I h => ?_⟩
  have h := tA.seq (rel := RelLs X.K) h
  rw [List.all_cons, Bool.and_eq_true] at hp
  refine wpAny_Call_Name_kw (ld_glob I hgl hm ?_ hdb)
  refine PySem.W.callWith_K (h₀ := X.base) I.ok.mod.kin hk (thn (ha.run pos pins s σ H _ I h) fun us s1 ⟨vs, H1, I1, r, θ1, sl, h1, as, S, R, ra, P⟩ => ⟨I1.kIn, ?_⟩) (star_plain hp.1) (none_star hp.2)
  have sp : spL X.K X.w xc cl vs H1 Q (WE W σ) := ⟨as, θ1, h1, R, ra, P⟩
  have b := hb s1 us I1.kIn (by rw [List.append_nil, ← r.length]; exact F.len' sp)
  rw [List.append_nil] at b
  exact run_fnG (args := ⟨us, []⟩) F hr hg tk I1 b r sp
theorem e_call0 (F : FnG X.prog X.w X.K X.mg X.base xc k a fd ps cl) (hr : Room k X.A) (hg : X.A.guards = some []) (tk : Takes X W) (hgl : Gl X x) (hm : X.mg x = some (.ref a)) (hk : PySem.W.keepIn X.K (.ref a) = true) (hb : Binds X.K fd ps [])
    (hdb : (x == ("__debug__" : Str)) = false) : PE X (.Call (.Name x p) [] [] pos) (eL X xc W fun _ h => cl [] h) := by
  refine ⟨fun pins s σ H Q I ⟨θ, sl, h, S, R, P⟩ => ?_⟩
  refine wpAny_Call_Name_kw (ld_glob I hgl hm ?_ hdb)
  have sp : spL X.K X.w xc cl [] H Q (WE W σ) := ⟨[], θ, h, R, .nil, P⟩
  have b := hb s [] I.kIn (by have := F.len' sp; simpa using this)
  exact PySem.W.callWith_K0 I.kIn hk (run_fnG (args := ⟨[], []⟩) F hr hg tk I b .nil sp)
theorem kwPut_rel {K : PySem.W.Frag} {H : Hp} {θ : List Addr} {as : List L} {vs : List V} (r : RelLs K H θ as vs) : ∀ {pm : List Nat} {bs : List L}, kwPut pm as = some bs → ∃ ws, mapO (fun i => vs[i]?) pm = some ws ∧ RelLs K H θ bs ws
  | [], bs, e => by cases e; exact ⟨[], rfl, .nil⟩
  | i :: pm, bs, e => by
    unfold kwPut mapO at e
    cases h1 : as[i]? with
    | none => rw [h1] at e; cases e
    | some u =>
      cases h2 : mapO (fun i => as[i]?) pm with
      | none => rw [h1, h2] at e; cases e
      | some us =>
        rw [h1, h2] at e
        cases e
        obtain ⟨v, g1, g2⟩ := r.get h1
        obtain ⟨ws, g3, g4⟩ := kwPut_rel r (pm := pm) (bs := us) h2
        refine ⟨v :: ws, ?_, .cons g2 g4⟩
        unfold mapO
        rw [g1, g3]
theorem mapO_vals {vs : List V} {us : List Value} (r : Vals vs us) : ∀ {pm : List Nat} {ws : List V}, mapO (fun i => vs[i]?) pm = some ws → ∃ ts, mapO (fun i => us[i]?) pm = some ts ∧ Vals ws ts
  | [], bs, e => by cases e; exact ⟨[], rfl, .nil⟩
  | i :: pm, bs, e => by
    unfold mapO at e
    cases h1 : vs[i]? with
    | none => rw [h1] at e; cases e
    | some u =>
      cases h2 : mapO (fun i => vs[i]?) pm with
      | none => rw [h1, h2] at e; cases e
      | some us' =>
        rw [h1, h2] at e
        cases e
        obtain ⟨v, g1, g2⟩ := r.get h1
        obtain ⟨ws, g3, g4⟩ := mapO_vals r (pm := pm) h2
        refine ⟨v :: ws, ?_, .cons g2 g4⟩
        unfold mapO
        rw [g1, g3]
/-- how a call with keywords alone binds -/
def KwB (K : PySem.W.Frag) (fd : FuncData) (ps ks : List Str) (pm : List Nat) : Prop := ∀ (s : Shared) (ws ts : List Value), K.In s.heap → ws.length = ks.length → mapO (fun i => ws[i]?) pm = some ts → BindsTo s fd ⟨[], ks.zip ws⟩ (ps.zip ts)
theorem e_callk (F : FnG X.prog X.w X.K X.mg X.base xc k a fd ps cl) (hr : Room k X.A) (hg : X.A.guards = some []) (tk : Takes X W) (hgl : Gl X x) (hm : X.mg x = some (.ref a)) (hk : PySem.W.keepIn X.K (.ref a) = true) (hb : KwB X.K fd ps ks pm)
    (hkw : PK X kws (aL X xc W fs)) (hl : kws.length = ks.length) (hlen : ∀ sl h vs h1, fs sl h = .ok vs h1 → vs.length = kws.length) (hall : (backToKw pos (keywordEach kws X.env)).all (·.1.isSome) = true) (hks : (backToKw pos (keywordEach kws X.env)).filterMap (·.1) = ks)
    (hany : (backToKw pos (keywordEach kws X.env)).any (·.1.isNone) = false) (hdb : (x == ("__debug__" : Str)) = false) :
    PE X (.Call (.Name x p) [] kws pos) (eL X xc W fun sl h => (fs sl h).bind fun vs h1 => match kwPut pm vs with
      | some ws => cl ws h1
      | none => .bad) := by
  refine ⟨fun pins s σ H Q I h => ?_⟩
  obtain ⟨θ, sl, h, S, R, P⟩ := h
  have q : aL X xc W fs σ H fun vs H1 => ∃ θ1 h1 as, HR X.K X.w H1 θ1 h1 ∧ RelLs X.K H1 θ1 as vs ∧ as.length = kws.length ∧ PostA X.K X.w xc (RelL X.K) H1 θ1 (match kwPut pm as with
      | some ws => cl ws h1
      | none => .bad) Q (WE W σ) := by
    refine ⟨θ, sl, h, S, R, ?_⟩
    simp only at P
    cases e : fs sl h with
    | ok vs h1 =>
      rw [e] at P
      exact fun θ' H' x ev R' r => ⟨θ', h1, vs, R', r, hlen _ _ _ _ e, PostA.shift (show PostA X.K X.w xc (RelL X.K) H θ (match kwPut pm vs with
        | some ws => cl ws h1
        | none => .bad) Q _ from P) ev⟩
    | exc c v h1 => rw [e] at P; exact P
    | bad => rw [e] at P; exact P
  refine wpAny_Call_Name_kw (ld_glob I hgl hm ?_ hdb)
  refine PySem.W.callWith_KW0 (h₀ := X.base) I.ok.mod.kin hk hall (thn (hkw.run pos pins s σ H _ I q) fun us s1 ⟨vs, H1, I1, r, θ1, h1, as, R1, ra, la, P1⟩ => ⟨I1.kIn, ?_⟩) (by
    show (false || (backToKw pos (keywordEach kws X.env)).any (·.1.isNone)) = false
    rw [hany]; rfl)
  rw [hks]
  cases e : kwPut pm as with
  | none => rw [e] at P1; exact P1.bad.elim
  | some bs =>
    rw [e] at P1
    obtain ⟨ws, g1, g2⟩ := kwPut_rel ra e
    obtain ⟨ts, g3, g4⟩ := mapO_vals r g1
    have sp : spL X.K X.w xc cl ws H1 Q (WE W σ) := ⟨bs, θ1, h1, R1, g2, P1⟩
    exact run_fnG (args := ⟨[], ks.zip us⟩) F hr hg tk I1 (hb s1 us ts I1.kIn (by rw [← r.length, ← ra.length, la, hl]) g3) g4 sp

/-! ### built-ins and methods -/
def bltN : Blt → Str
  | .len => "len"
  | .max => "max"
  | .min => "min"
  | .abs => "abs"
  | .sum => "sum"
  | .sorted => "sorted"
  | .list => "list"
  | .tuple => "tuple"
  | .set => "set"
  | .int => "int"
  | .repr => "repr"
  | .divmod => "divmod"
  | .all => "all"
  | .any => "any"
theorem boot_blt : ∀ b : Blt, bootBuiltins (bltN b) = some (bltV b) := by
  intro b
  cases b <;> decide +kernel
theorem e_cb {v : Value} {g : List L → LH → Option (L × LH)} {σ : L2.St} {H : Hp} {Q : VK} (h : eL X xc W (fun sl h => (fs sl h).bind fun vs h1 => ofO (g vs h1)) σ H Q) : tCB (rCs X.K X.w g) (aL X xc W fs) σ H Q :=
  (tA.seq (rel := RelLs X.K) h).mono fun xs H1 ⟨θ1, sl, h1, as, S, R, ra, P⟩ => ⟨as, θ1, h1, R, ra, P.toO⟩
theorem e_blt (hc : X.calm = true) (hu : X.A.units + 64 < cLine) (hg : X.A.guards = some []) (b : Blt) (hgl : Gl X (bltN b)) (hm : X.mg (bltN b) = none) (ha : PA X (e :: es) (aL X xc W fs)) (hp : (e :: es).all plainX = true) :
    PE X (.Call (.Name (bltN b) p) (e :: es) [] pos) (eL X xc W fun sl h => (fs sl h).bind fun vs h1 => ofO (bltL b vs h1)) := by
  rw [List.all_cons, Bool.and_eq_true] at hp
  refine PE.imp ?_ fun σ H Q h => e_cb (v := bltV b) h
  have cb := c_blt hc hu hg b
  have bt := boot_blt b
  cases b <;> first
    | exact pe_callB cb hgl hm bt ha (by decide) (by decide) (star_plain hp.1) (none_star hp.2)
    | exact pe_callTy cb hgl hm bt ha (by decide) (by decide) (star_plain hp.1) (none_star hp.2)
variable {o : Expr} {apos : Pos} {fo : LS → LH → R L}
theorem lst_ty {K : PySem.W.Frag} {w : World} {H : Hp} {θ : List Addr} {h : LH} {v : L} {x : V} (R : HR K w H θ h) (r : RelL K H θ v x) (e : (lstAt h v).isSome = true) : tyV K "list" x H := by
  obtain ⟨xs, e⟩ := Option.isSome_iff_exists.mp e
  obtain ⟨a, vs, rfl, h1, _⟩ := R.lst e r
  exact .inl ⟨rfl, vs, h1⟩
theorem e_meth (m : Mth) (ho : PE X o (eL X xc W fo)) (ha : PA X (e :: es) (aL X xc W fs)) (hp : (e :: es).all plainX = true) (hl : (e :: es).length < 30) (hbase : attributeBase o (mthN m) X.env (eval o X.env) = eval o X.env) (hline : (apos.endLine == pos.line) = true) :
    PE X (.Call (.Attribute o (mthN m) apos) (e :: es) [] pos) (eL X xc W fun sl h => (fo sl h).bind fun x h1 => if (lstAt h1 x).isSome = true then (fs sl h1).bind fun vs h2 => ofO (methL m x vs h2) else .bad) := by
  have hp' := hp
  rw [List.all_cons, Bool.and_eq_true] at hp'
  refine PE.imp (pe_bm F.plainAttrs_list (mth_slot m) (mth_type m) (m_mth m) ho ha hbase (few_ok hp hl) hline (star_plain hp'.1) (none_star hp'.2)) fun σ H Q h => ?_
  refine (tA.seq (rel := RelL X.K) h).mono fun x H1 ⟨θ1, sl, h1, v, S, R, r, P⟩ => ?_
  by_cases hz : (lstAt h1 v).isSome = true
  · rw [if_pos hz] at P
    exact ⟨lst_ty R r hz, θ1, sl, h1, S, R, PostA.mono (PostA.bind (rel := RelLs X.K) P) fun ys H2 ⟨θ2, us, h2, ev, R2, r2, P2⟩ => ⟨v, us, θ2, h2, R2, r.ev ev, r2, P2.toO⟩⟩
  · rw [if_neg hz] at P; exact P.bad.elim
theorem e_meth0 (m : Mth) (ho : PE X o (eL X xc W fo)) (hbase : attributeBase o (mthN m) X.env (eval o X.env) = eval o X.env) (hline : (apos.endLine == pos.line) = true) :
    PE X (.Call (.Attribute o (mthN m) apos) [] [] pos) (eL X xc W fun sl h => (fo sl h).bind fun x h1 => if (lstAt h1 x).isSome = true then ofO (methL m x [] h1) else .bad) := by
  refine PE.imp (pe_bm0 F.plainAttrs_list (mth_slot m) (mth_type m) (m_mth m) ho hbase hline) fun σ H Q h => ?_
  refine (tA.seq (rel := RelL X.K) h).mono fun x H1 ⟨θ1, sl, h1, v, S, R, r, P⟩ => ?_
  by_cases hz : (lstAt h1 v).isSome = true
  · rw [if_pos hz] at P
    exact ⟨lst_ty R r hz, v, [], θ1, h1, R, r, .nil, P.toO⟩
  · rw [if_neg hz] at P; exact P.bad.elim
/-- list(range(n)) -/
theorem e_lrg {p2 pos2 : Pos} {fe : LS → LH → R L} (hc : X.calm = true) (hgl : Gl X "list") (hm : X.mg "list" = none) (hgr : Gl X "range") (hmr : X.mg "range" = none) (he : PE X e (eL X xc W fe)) (hp : plainX e = true) :
    PE X (.Call (.Name "list" p) [.Call (.Name "range" p2) [e] [] pos2] [] pos) (eL X xc W fun sl h => (fe sl h).bind fun v h1 => match v with
      | .int j => if -1000000 < j ∧ j < 1000000 then ofO (newL h1 (rngV 0 1 j.toNat)) else .bad
      | _ => .bad) := by
  refine PE.imp (pe_listRg hc hgl hm (prg_1 hgr hmr he (star_plain hp)) rfl) fun σ H Q h => ?_
  refine (tA.seq (rel := RelL X.K) h).mono fun x H1 ⟨θ1, sl, h1, v, S, R, r, P⟩ => ?_
  cases v with
  | int j =>
    cases r
    have P : PostA X.K X.w xc (RelL X.K) H1 θ1 (if -1000000 < j ∧ j < 1000000 then ofO (newL h1 (rngV 0 1 j.toNat)) else .bad) Q _ := P
    by_cases hz : -1000000 < j ∧ j < 1000000
    · rw [if_pos hz] at P
      refine ⟨j, rfl, ⟨by omega, by omega, by omega, by omega, by omega⟩, ?_⟩
      have rel : RelLs X.K H1 θ1 (rngV 0 1 j.toNat) (rgV 0 j) := by
        unfold rngV rgV
        rw [Int.sub_zero]
        have go : ∀ ns : List Nat, RelLs X.K H1 θ1 (ns.map fun i : Nat => L.int (0 + (i : Nat) * 1)) (ns.map fun i : Nat => V.int (0 + (i : Int))) := fun ns => by
          induction ns with
          | nil => exact .nil
          | cons n ns ih => exact .cons (by simp only [Int.mul_one]; exact .int _) ih
        exact go _
      exact (PostO.newL P.toO R rel).2
    · rw [if_neg hz] at P; exact P.bad.elim
  | _ => exact (PostA.bad P).elim
end
end Ly
end
section
set_option Elab.async false
set_option linter.all false
set_option autoImplicit false
set_option maxRecDepth 100000
/-! What is walked; targets; comprehensions. -/
namespace Ly
open PySem PySem.Spec PyProof.Rows L2

/-! ### walks -/
def ItOk (K : PySem.W.Frag) (w : World) : RelA LIt It := fun H0 θ0 l J => ∀ θ H h (i : Nat), Ev H0 H θ0 θ → HR K w H θ h →
  (l.at h i = some none → J.stop i H) ∧ ∀ x, l.at h i = some (some x) → J.go i H ∧ ∀ v H', J.yld i H v H' → Ev H H' θ θ ∧ HR K w H' θ h ∧ RelL K H' θ x v
abbrev iL (X : Cx) (xc : Nat → Value) (W : L2.WX) (f : LS → LH → R LIt) : TI := tA X.K X.w xc W (ItOk X.K X.w) f
section
variable {K : PySem.W.Frag} {w : World} {H0 : Hp} {θ0 : List Addr}
theorem lstO_some {o : Option LO} {xs : List L} (e : lstO o = some xs) : o = some (.lst xs) := by
  unfold lstO at e
  split at e
  · cases e; rfl
  · cases e
theorem it_lst {r : Nat} {a : Addr} (t : θ0[r]? = some a) : ItOk K w H0 θ0 (.lst r) (Itl K a) := by
  intro θ H h i ev R
  have t' : θ[r]? = some a := pre_get ev.p t
  refine ⟨fun e => ?_, fun x e => ?_⟩
  · obtain ⟨xs, e1, e2⟩ := Option.map_eq_some_iff.mp (show (lstO h[r]?).map (fun xs => xs[i]?) = some none from e)
    obtain ⟨vs, g1, g2⟩ := R.ob r a _ t' (lstO_some e1)
    exact ⟨vs, SqL.of g1, by rw [← g2.length]; exact List.getElem?_eq_none_iff.mp e2⟩
  · obtain ⟨xs, e1, e2⟩ := Option.map_eq_some_iff.mp (show (lstO h[r]?).map (fun xs => xs[i]?) = some (some x) from e)
    obtain ⟨vs, g1, g2⟩ := R.ob r a _ t' (lstO_some e1)
    obtain ⟨y, q1, q2⟩ := g2.get e2
    refine ⟨⟨vs, y, SqL.of g1, q1⟩, fun v H' y' => ?_⟩
    obtain ⟨rfl, hy⟩ := y'
    have := hy vs (SqL.of g1)
    rw [q1] at this
    cases this
    exact ⟨Ev.refl _ _, R, q2⟩
theorem it_rol {xs : List L} {vs : List V} {a : Addr} (s : RoL K H0 a vs) (r : RelLs K H0 θ0 xs vs) : ItOk K w H0 θ0 (.vals xs) (Itl K a) := by
  intro θ H h i ev R
  have s' := (ev.g.roL s).sq
  refine ⟨fun e => ?_, fun x e => ?_⟩
  · have e : xs[i]? = none := Option.some.inj e
    exact ⟨vs, s', by rw [← r.length]; exact List.getElem?_eq_none_iff.mp e⟩
  · have e : xs[i]? = some x := Option.some.inj e
    obtain ⟨y, q1, q2⟩ := r.get e
    refine ⟨⟨vs, y, s', q1⟩, fun v H' y' => ?_⟩
    obtain ⟨rfl, hy⟩ := y'
    have := hy vs s'
    rw [q1] at this
    cases this
    exact ⟨Ev.refl _ _, R, q2.ev ev⟩
theorem it_tup {xs : List L} {vs : List V} {a : Addr} (s : SqT K H0 a vs) (r : RelLs K H0 θ0 xs vs) : ItOk K w H0 θ0 (.vals xs) (Itt K a) := by
  intro θ H h i ev R
  have s' := ev.g.sqT s
  refine ⟨fun e => ?_, fun x e => ?_⟩
  · have e : xs[i]? = none := Option.some.inj e
    exact ⟨vs, s', by rw [← r.length]; exact List.getElem?_eq_none_iff.mp e⟩
  · have e : xs[i]? = some x := Option.some.inj e
    obtain ⟨y, q1, q2⟩ := r.get e
    refine ⟨⟨vs, y, s', q1⟩, fun v H' y' => ?_⟩
    obtain ⟨rfl, hy⟩ := y'
    have := hy vs s'
    rw [q1] at this
    cases this
    exact ⟨Ev.refl _ _, R, q2.ev ev⟩
theorem it_str {z : Str} : ItOk K w H0 θ0 (.vals (z.cps.toList.map fun c => .str ⟨#[c]⟩)) (Its z) := by
  intro θ H h i ev R
  refine ⟨fun e => ?_, fun x e => ?_⟩
  · have e : (z.cps.toList.map fun c => L.str ⟨#[c]⟩)[i]? = none := Option.some.inj e
    have := List.getElem?_eq_none_iff.mp e
    rw [List.length_map, Array.length_toList] at this
    exact this
  · have e : (z.cps.toList.map fun c => L.str ⟨#[c]⟩)[i]? = some x := Option.some.inj e
    rw [List.getElem?_map, Array.getElem?_toList] at e
    obtain ⟨c, e1, rfl⟩ := Option.map_eq_some_iff.mp e
    refine ⟨(Array.getElem?_eq_some_iff.mp e1).1, fun v H' y' => ?_⟩
    obtain ⟨rfl, c', e2, rfl⟩ := y'
    rw [e1] at e2
    cases e2
    exact ⟨Ev.refl _ _, R, .str _⟩
theorem rngV_get {lo c : Int} {n i : Nat} : (rngV lo c n)[i]? = if i < n then some (.int (lo + (i : Nat) * c)) else none := by
  unfold rngV
  rw [List.getElem?_map]
  by_cases h : i < n
  · rw [if_pos h, List.getElem?_range h]; rfl
  · rw [if_neg h, List.getElem?_eq_none (by simpa using h)]; rfl
theorem it_rng {lo : Int} {n : Nat} : ItOk K w H0 θ0 (.vals (rngV lo 1 n)) (Itr lo n) := by
  intro θ H h i ev R
  refine ⟨fun e => ?_, fun x e => ?_⟩
  · have e : (rngV lo 1 n)[i]? = none := Option.some.inj e
    rw [rngV_get] at e
    by_cases hi : i < n
    · rw [if_pos hi] at e; cases e
    · exact Nat.le_of_not_lt hi
  · have e : (rngV lo 1 n)[i]? = some x := Option.some.inj e
    rw [rngV_get] at e
    by_cases hi : i < n
    · rw [if_pos hi, Int.mul_one] at e
      cases e
      refine ⟨hi, fun v H' y' => ?_⟩
      obtain ⟨rfl, rfl⟩ := y'
      exact ⟨Ev.refl _ _, R, .int _⟩
    · rw [if_neg hi] at e; cases e
theorem it_rngC {lo c : Int} {n : Nat} : ItOk K w H0 θ0 (.vals (rngV lo c n)) (Itc lo c n) := by
  intro θ H h i ev R
  refine ⟨fun e => ?_, fun x e => ?_⟩
  · have e : (rngV lo c n)[i]? = none := Option.some.inj e
    rw [rngV_get] at e
    by_cases hi : i < n
    · rw [if_pos hi] at e; cases e
    · exact Nat.le_of_not_lt hi
  · have e : (rngV lo c n)[i]? = some x := Option.some.inj e
    rw [rngV_get] at e
    by_cases hi : i < n
    · rw [if_pos hi] at e
      cases e
      refine ⟨hi, fun v H' y' => ?_⟩
      obtain ⟨rfl, rfl⟩ := y'
      exact ⟨Ev.refl _ _, R, .int _⟩
    · rw [if_neg hi] at e; cases e
/-- a new pair -/
theorem pair_new {θ : List Addr} {H : Hp} {h : LH} {x y : L} {v u : V} {T : Addr} (R : HR K w H θ h) (n : H T = none) (rx : RelL K H θ x v) (ry : RelL K H θ y u) :
    Ev H (upd H T (.tup [v, u])) θ θ ∧ HR K w (upd H T (.tup [v, u])) θ h ∧ RelL K (upd H T (.tup [v, u])) θ (.tup [x, y]) (.ref T) := by
  have ev : Ev H (upd H T (.tup [v, u])) θ θ := Ev.skip n
  exact ⟨ev, R.skip n, .tup (SqT.of upd_same) (.cons (rx.ev ev) (.cons (ry.ev ev) .nil))⟩
theorem it_enl {r : Nat} {a : Addr} (t : θ0[r]? = some a) : ItOk K w H0 θ0 (.enl r) (Ite K a) := by
  intro θ H h i ev R
  have t' : θ[r]? = some a := pre_get ev.p t
  refine ⟨fun e => ?_, fun x e => ?_⟩
  · obtain ⟨xs, e1, e2⟩ := Option.map_eq_some_iff.mp (show (lstO h[r]?).map (fun xs => xs[i]?.map fun x => L.tup [.int i, x]) = some none from e)
    obtain ⟨vs, g1, g2⟩ := R.ob r a _ t' (lstO_some e1)
    exact ⟨vs, SqL.of g1, by rw [← g2.length]; exact List.getElem?_eq_none_iff.mp (Option.map_eq_none_iff.mp e2)⟩
  · obtain ⟨xs, e1, e2⟩ := Option.map_eq_some_iff.mp (show (lstO h[r]?).map (fun xs => xs[i]?.map fun x => L.tup [.int i, x]) = some (some x) from e)
    obtain ⟨vs, g1, g2⟩ := R.ob r a _ t' (lstO_some e1)
    obtain ⟨z, e3, rfl⟩ := Option.map_eq_some_iff.mp e2
    obtain ⟨y, q1, q2⟩ := g2.get e3
    refine ⟨⟨vs, y, SqL.of g1, q1⟩, fun v H' y' => ?_⟩
    obtain ⟨T, x', rfl, hT, rfl, hy⟩ := y'
    have := hy vs (SqL.of g1)
    rw [q1] at this
    cases this
    exact pair_new R hT (.int _) q2
theorem fzO_some {o : Option LO} {xs : List (L2.Key × L)} (e : fzO o = some xs) : o = some (.fz xs) := by
  unfold fzO at e
  split at e
  · cases e; rfl
  · cases e
theorem kV_rel (k : L2.Key) (K : PySem.W.Frag) (H : Hp) (θ : List Addr) : RelL K H θ (kL k) (kV k) := by
  rcases k with i | x
  · exact .int i
  · exact .str x
theorem it_kys {r : Nat} {a : Addr} {o : Obj} {ws : List (L2.Key × V)} (t : θ0[r]? = some a) (g0 : H0 a = some (.frz o (.dK ws))) : ItOk K w H0 θ0 (.kys r) (Itk a o ws) := by
  intro θ H h i ev R
  have t' : θ[r]? = some a := pre_get ev.p t
  have lk : ∀ kvs, h[r]? = some (.fz kvs) → H a = some (.frz o (.dK ws)) ∧ kvs.map (·.1) = ws.map (·.1) := fun kvs e => by
    obtain ⟨o', ws', g1, g2⟩ := R.ob r a _ t' e
    have := ev.g.frz _ _ _ g0
    rw [g1] at this
    cases this
    exact ⟨g1, g2.keys⟩
  refine ⟨fun e => ?_, fun x e => ?_⟩
  · obtain ⟨kvs, e1, e2⟩ := Option.map_eq_some_iff.mp (show (fzO h[r]?).map (fun kvs => kvs[i]?.map fun kv => kL kv.1) = some none from e)
    obtain ⟨g1, g2⟩ := lk kvs (fzO_some e1)
    have l := congrArg List.length g2
    rw [List.length_map, List.length_map] at l
    exact ⟨g1, by rw [← l]; exact List.getElem?_eq_none_iff.mp (Option.map_eq_none_iff.mp e2)⟩
  · obtain ⟨kvs, e1, e2⟩ := Option.map_eq_some_iff.mp (show (fzO h[r]?).map (fun kvs => kvs[i]?.map fun kv => kL kv.1) = some (some x) from e)
    obtain ⟨g1, g2⟩ := lk kvs (fzO_some e1)
    obtain ⟨kv, e3, rfl⟩ := Option.map_eq_some_iff.mp e2
    have ek : (ws.map (·.1))[i]? = some kv.1 := by rw [← g2, List.getElem?_map, e3]; rfl
    rw [List.getElem?_map] at ek
    obtain ⟨wv, e4, e5⟩ := Option.map_eq_some_iff.mp ek
    refine ⟨⟨g1, (List.getElem?_eq_some_iff.mp e4).1⟩, fun v H' y' => ?_⟩
    obtain ⟨rfl, k, u, e6, rfl⟩ := y'
    rw [e4] at e6
    cases e6
    exact ⟨Ev.refl _ _, R, by rw [← e5]; exact kV_rel _ _ _ _⟩
theorem it_zll {r q : Nat} {a b : Addr} (t : θ0[r]? = some a) (t2 : θ0[q]? = some b) : ItOk K w H0 θ0 (.zll r q) (Itz K a b) := by
  intro θ H h i ev R
  have t' : θ[r]? = some a := pre_get ev.p t
  have t2' : θ[q]? = some b := pre_get ev.p t2
  refine ⟨fun e => ?_, fun x e => ?_⟩
  · obtain ⟨xs, e1, e2⟩ := Option.bind_eq_some_iff.mp (show (lstO h[r]?).bind (fun xs => (lstO h[q]?).map fun ys => pairAt xs[i]? ys[i]?) = some none from e)
    obtain ⟨ys, e3, e4⟩ := Option.map_eq_some_iff.mp e2
    obtain ⟨vs, g1, g2⟩ := R.ob r a _ t' (lstO_some e1)
    obtain ⟨ws, k1, k2⟩ := R.ob q b _ t2' (lstO_some e3)
    refine ⟨vs, ws, SqL.of g1, SqL.of k1, ?_⟩
    rw [← g2.length, ← k2.length]
    cases f1 : xs[i]? with
    | none => exact .inl (List.getElem?_eq_none_iff.mp f1)
    | some x =>
      cases f2 : ys[i]? with
      | none => exact .inr (List.getElem?_eq_none_iff.mp f2)
      | some y => rw [f1, f2] at e4; cases e4
  · obtain ⟨xs, e1, e2⟩ := Option.bind_eq_some_iff.mp (show (lstO h[r]?).bind (fun xs => (lstO h[q]?).map fun ys => pairAt xs[i]? ys[i]?) = some (some x) from e)
    obtain ⟨ys, e3, e4⟩ := Option.map_eq_some_iff.mp e2
    obtain ⟨vs, g1, g2⟩ := R.ob r a _ t' (lstO_some e1)
    obtain ⟨ws, k1, k2⟩ := R.ob q b _ t2' (lstO_some e3)
    cases f1 : xs[i]? with
    | none => rw [f1] at e4; cases e4
    | some x1 =>
      cases f2 : ys[i]? with
      | none => rw [f1, f2] at e4; cases e4
      | some y1 =>
        rw [f1, f2] at e4
        cases e4
        obtain ⟨u1, q1, q2⟩ := g2.get f1
        obtain ⟨u2, q3, q4⟩ := k2.get f2
        refine ⟨⟨vs, ws, u1, u2, SqL.of g1, SqL.of k1, q1, q3⟩, fun v H' y' => ?_⟩
        obtain ⟨T, x', y', rfl, hT, rfl, hy1, hy2⟩ := y'
        have := hy1 vs (SqL.of g1)
        rw [q1] at this
        cases this
        have := hy2 ws (SqL.of k1)
        rw [q3] at this
        cases this
        exact pair_new R hT q2 q4
end
section
variable {X : Cx} {xc : Nat → Value} {W : L2.WX} {tg e a b c : Expr} {fe fa fb fc : LS → LH → R L} {p pos : Pos}
/-- over a value -/
theorem i_val (he : PE X e (eL X xc W fe)) : PI X tg e (iL X xc W fun sl h => (fe sl h).bind fun v h1 => match walkOf v h1 with
    | some w => .ok w h1
    | none => .bad) := by
  refine ⟨fun pins s σ H Q I h => ?_⟩
  refine thn (he.run pins s σ H _ I (tA.seq (rel := RelL X.K) h)) fun u s1 ⟨x, H1, I1, r1, θ1, sl, h1, v, S, R, r, P⟩ => ?_
  cases v with
  | tup xs =>
    cases r with
    | @tup _ p vs sq rs =>
      obtain rfl : u = Value.ref p := r1
      obtain ⟨its, rv, pp, hz⟩ := I1.tuple sq
      exact wpAny_pyIter_tuple (show s1.heap.IsTuple p its.toArray from pp) (pi_one (tk := s1.toks) I1 _ (turn_tuple p _) ⟨_, Heap.get?_push_size _ rfl, rfl, rfl⟩ (PostA.here (a := LIt.vals xs) P R (it_tup sq rs)))
  | rol xs =>
    cases r with
    | @rol _ p vs sq rs =>
      obtain rfl : u = Value.ref p := r1
      obtain ⟨its, rv, pp, hz⟩ := I1.list sq.sq
      exact wpAny_pyIter_list pp.isList (pi_one (tk := s1.toks) I1 _ (turn_list p _) ⟨_, Heap.get?_push_size _ rfl, rfl, rfl⟩ (PostA.here (a := LIt.vals xs) P R (it_rol sq rs)))
  | str z =>
    cases r
    obtain ⟨t, rfl⟩ := r1
    have q := PostA.here (a := LIt.vals (z.cps.toList.map fun c => .str ⟨#[c]⟩)) P R (it_str (z := z))
    cases ha : z.cps.all (· < 128)
    · exact wpAny_pyIter_wide ha (pi_one (tk := s1.toks) I1 _ (turn_str _ z t "str_iterator" (.inr rfl)) ⟨_, Heap.get?_push_size _ rfl, rfl, rfl⟩ q)
    · exact wpAny_pyIter_ascii ha (pi_one (tk := s1.toks) I1 _ (turn_str _ z t "str_ascii_iterator" (.inl rfl)) ⟨_, Heap.get?_push_size _ rfl, rfl, rfl⟩ q)
  | ref i =>
    cases r with
    | @ref _ p t =>
      obtain rfl : u = Value.ref p := r1
      cases e2 : h1[i]? with
      | none => simp only [walkOf, e2] at P; exact P.bad.elim
      | some ob =>
        cases ob with
        | lst xs =>
          simp only [walkOf, e2] at P
          obtain ⟨vs, g1, g2⟩ := R.ob i p _ t e2
          obtain ⟨its, rv, pp, hz⟩ := I1.list (SqL.of g1)
          exact wpAny_pyIter_list pp.isList (pi_one (tk := s1.toks) I1 _ (turn_list p _) ⟨_, Heap.get?_push_size _ rfl, rfl, rfl⟩ (P.here R (it_lst t)))
        | _ => simp only [walkOf, e2] at P; exact P.bad.elim
  | _ => exact (PostA.bad P).elim
/-- over a dict's keys: it is locked -/
theorem i_keys (he : PE X e (eL X xc W fe)) : PI X tg e (iL X xc W fun sl h => (fe sl h).bind keysL) := by
  refine ⟨fun pins s σ H Q I h => ?_⟩
  refine thn (he.run pins s σ H _ I (tA.seq (rel := RelL X.K) h)) fun u s1 ⟨x, H1, I1, r1, θ1, sl, h1, v, S, R, r, P⟩ => ?_
  cases v with
  | ref i =>
    cases r with
    | @ref _ p t =>
      obtain rfl : u = Value.ref p := r1
      cases e2 : h1[i]? with
      | none => simp only [keysL, e2] at P; exact P.bad.elim
      | some ob =>
        cases ob with
        | dk kvs =>
          simp only [keysL, e2] at P
          obtain ⟨ws, g1, g2⟩ := R.ob i p _ t e2
          obtain ⟨o, I2⟩ := I1.lock g1 trivial
          have hd : (L2.upd H1 p (.frz o (.dK ws))) p = some (.frz o (.dK ws)) := upd_same
          obtain ⟨hs, hgd, hx, es, ep, vs, hdt, hsz, kv, hm⟩ := I2.frzK hd
          have ev : Ev H1 (L2.upd H1 p (.frz o (.dK ws))) θ1 θ1 := Ev.upd g1 loose_dK (List.mem_of_getElem? t)
          have R2 : HR X.K X.w (L2.upd H1 p (.frz o (.dK ws))) θ1 (h1.set i (.fz kvs)) := R.set t g1 loose_dK ⟨o, ws, upd_same, g2.mono ev.g ev.p⟩
          refine iter_keys hs hgd hx hdt (pi_one (tk := s1.toks) I2 _ (turn_keys _ hdt) ⟨_, Heap.get?_push_size _ rfl, rfl, ?_⟩ ((P.shift ev).here R2 (it_kys t hd)))
          rw [hsz] <;> rfl
        | _ => simp only [keysL, e2] at P; exact P.bad.elim
  | _ => exact (PostA.bad P).elim
theorem near62_ok {i : Int} (h : near62 i = true) : -(2 ^ 62) ≤ i ∧ i < 2 ^ 62 := by
  unfold near62 at h
  simpa using h
theorem i_rng1 (hg : Gl X "range") (hm : X.mg "range" = none) (ha : PE X a (eL X xc W fa)) (hp : plainX a = true) : PI X tg (.Call (.Name "range" p) [a] [] pos) (iL X xc W fun sl h => (fa sl h).bind fun v h1 => match v with
    | .int j => if near62 j = true then .ok (.vals (rngV 0 1 j.toNat)) h1 else .bad
    | _ => .bad) := by
  refine PI.imp (pi_range1 hg hm (pa_cons ha pa_nil (star_plain hp)) (star_plain hp)) fun σ H Q h => ?_
  refine (tA.seq (rel := RelL X.K) h).mono fun x H1 ⟨θ1, sl, h1, v, S, R, r, P⟩ => ?_
  cases v with
  | int j =>
    cases r
    have P : PostA X.K X.w xc (ItOk X.K X.w) H1 θ1 (if near62 j = true then .ok (.vals (rngV 0 1 j.toNat)) h1 else .bad) Q _ := P
    by_cases hz : near62 j = true
    · rw [if_pos hz] at P
      obtain ⟨q1, q2⟩ := near62_ok hz
      exact ⟨j, rfl, q1, q2, P.here R it_rng⟩
    · rw [if_neg hz] at P; exact P.bad.elim
  | _ => exact (PostA.bad P).elim
theorem i_rng2 (hg : Gl X "range") (hm : X.mg "range" = none) (ha : PE X a (eL X xc W fa)) (hb : PE X b (eL X xc W fb)) (hp : plainX a = true) (hp2 : plainX b = true) : PI X tg (.Call (.Name "range" p) [a, b] [] pos) (iL X xc W fun sl h => (fa sl h).bind fun v h1 => (fb sl h1).bind fun u h2 => match v, u with
    | .int i, .int j => if near62 i = true ∧ near62 j = true then .ok (.vals (rngV i 1 (j - i).toNat)) h2 else .bad
    | _, _ => .bad) := by
  refine PI.imp (pi_range2 hg hm (pa_cons ha (pa_cons hb pa_nil (star_plain hp2)) (star_plain hp)) (by rw [star_plain hp, star_plain hp2]; rfl) (star_plain hp2)) fun σ H Q h => ?_
  refine (tA.seq (rel := RelL X.K) h).mono fun x H1 ⟨θ1, sl, h1, v, S, R, r, P⟩ => ?_
  refine ⟨θ1, sl, h1, S, R, PostA.mono (PostA.bind (rel := RelL X.K) P) fun y H2 ⟨θ2, u, h2, ev, R2, r2, P2⟩ => ?_⟩
  cases v with
  | int i =>
    cases u with
    | int j =>
      cases r
      cases r2
      have P2 : PostA X.K X.w xc (ItOk X.K X.w) H2 θ2 (if near62 i = true ∧ near62 j = true then .ok (.vals (rngV i 1 (j - i).toNat)) h2 else .bad) Q _ := P2
      by_cases hz : near62 i = true ∧ near62 j = true
      · rw [if_pos hz] at P2
        obtain ⟨q1, q2⟩ := near62_ok hz.1
        obtain ⟨q3, q4⟩ := near62_ok hz.2
        exact ⟨i, j, rfl, ⟨q1, q2, q3, q4⟩, P2.here R2 it_rng⟩
      · rw [if_neg hz] at P2; exact P2.bad.elim
    | _ => exact (PostA.bad P2).elim
  | _ => exact (PostA.bad P2).elim
theorem range_up {i j c : Int} (h1 : 0 < c) (h2 : c < 1000000) (h3 : -1000000000 < i) (h4 : i < 1000000000) (h5 : -1000000000 < j) (h6 : j < 1000000000) : RgC i j c ((j - i + c - 1) / c).toNat := by
  have hs : Builtin.Range.rangeSize i j c = (((j - i + c - 1) / c).toNat : Int) := by
    unfold Builtin.Range.rangeSize
    rw [if_pos (by omega)]
    by_cases h : i < j
    · rw [if_pos h]
      have e : j - i + c - 1 = (j - i - 1) + 1 * c := by omega
      have q : 0 ≤ (j - i - 1) / c := Int.ediv_nonneg (by omega) (by omega)
      rw [e, Int.add_mul_ediv_right _ _ (by omega)]
      omega
    · rw [if_neg h]
      have q : (j - i + c - 1) / c < 1 := Int.ediv_lt_of_lt_mul h1 (by omega)
      omega
  have hb : (((j - i + c - 1) / c).toNat : Int) ≤ 3000000000 := by
    by_cases h : i < j
    · have q : (j - i + c - 1) / c ≤ j - i + c - 1 := Int.ediv_le_self _ (by omega)
      omega
    · have q : (j - i + c - 1) / c < 1 := Int.ediv_lt_of_lt_mul h1 (by omega)
      omega
  refine ⟨by omega, by omega, ?_, hs⟩
  unfold Builtin.Range.small
  rw [hs]
  simp only [Builtin.Range.rangeFitsLong, Bool.and_eq_true, Bool.or_eq_true, decide_eq_true_eq, beq_iff_eq]
  rw [if_pos (by omega)]
  refine ⟨⟨⟨⟨?_, ?_⟩, ?_⟩, ?_⟩, .inr ?_⟩
  all_goals first | omega | (rw [Bool.and_eq_true, decide_eq_true_eq, decide_eq_true_eq]; omega)
theorem i_rng3 (hg : Gl X "range") (hm : X.mg "range" = none) (ha : PE X a (eL X xc W fa)) (hb : PE X b (eL X xc W fb)) (hc : PE X c (eL X xc W fc)) (hp : plainX a = true) (hp2 : plainX b = true) (hp3 : plainX c = true) :
    PI X tg (.Call (.Name "range" p) [a, b, c] [] pos) (iL X xc W fun sl h => (fa sl h).bind fun v h1 => (fb sl h1).bind fun u h2 => (fc sl h2).bind fun z h3 => match v, u, z with
    | .int i, .int j, .int k => if 0 < k ∧ k < 1000000 ∧ -1000000000 < i ∧ i < 1000000000 ∧ -1000000000 < j ∧ j < 1000000000 then .ok (.vals (rngV i k ((j - i + k - 1) / k).toNat)) h3 else .bad
    | _, _, _ => .bad) := by
  refine PI.imp (pi_range3 hg hm (pa_cons ha (pa_cons hb (pa_cons hc pa_nil (star_plain hp3)) (star_plain hp2)) (star_plain hp)) (star_plain hp) (none_star (by simp [hp2, hp3]))) fun σ H Q h => ?_
  refine (tA.seq (rel := RelL X.K) h).mono fun x H1 ⟨θ1, sl, h1, v, S, R, r, P⟩ => ?_
  refine ⟨θ1, sl, h1, S, R, PostA.mono (PostA.bind (rel := RelL X.K) P) fun y H2 ⟨θ2, u, h2, ev, R2, r2, P2⟩ => ?_⟩
  refine ⟨θ2, sl, h2, S.ev ev, R2, PostA.mono (PostA.bind (rel := RelL X.K) P2) fun y H3 ⟨θ3, z, h3, ev3, R3, r3, P3⟩ => ?_⟩
  cases v with
  | int i =>
    cases u with
    | int j =>
      cases z with
      | int k =>
        cases r
        cases r2
        cases r3
        have P3 : PostA X.K X.w xc (ItOk X.K X.w) H3 θ3 (if 0 < k ∧ k < 1000000 ∧ -1000000000 < i ∧ i < 1000000000 ∧ -1000000000 < j ∧ j < 1000000000 then .ok (.vals (rngV i k ((j - i + k - 1) / k).toNat)) h3 else .bad) Q _ := P3
        by_cases hz : 0 < k ∧ k < 1000000 ∧ -1000000000 < i ∧ i < 1000000000 ∧ -1000000000 < j ∧ j < 1000000000
        · rw [if_pos hz] at P3
          obtain ⟨z1, z2, z3, z4, z5, z6⟩ := hz
          exact ⟨i, j, k, _, rfl, range_up z1 z2 z3 z4 z5 z6, P3.here R3 it_rngC⟩
        · rw [if_neg hz] at P3; exact P3.bad.elim
      | _ => exact (PostA.bad P3).elim
    | _ => exact (PostA.bad P3).elim
  | _ => exact (PostA.bad P3).elim
end
end Ly
end
section
set_option Elab.async false
set_option linter.all false
set_option autoImplicit false
set_option maxRecDepth 100000
/-! enumerate of a tuple. -/
namespace Ly
open PySem PySem.Spec PyProof.Rows L2
open RZ (ItzT pi_zipA)
open AutoSeq1 (wpAny_loadPart')
theorem drawsT {prog : Program} {w : World} {A : Around} (hh : A.handled = none) (it t : Addr) (hne : t ≠ it) (items : Array Value) :
    Draws prog w A it [it, t] items.size (fun i v => items[i]? = some v) (fun i h => h.IsTupleIter it t i ∧ h.IsTuple t items) where
  live := fun _ _ st => let ⟨o, ho, _⟩ := st.1; ⟨o, ho⟩
  frame := fun _ _ _ st hk => ⟨st.1.at fun o e => hk it (by simp) o e, let ⟨o, ho, r⟩ := st.2; ⟨o, hk t (by simp) o ho, r⟩⟩
  item := fun i s Q E hi st hQ => by
    refine RZ.nextOf_tuple_item st.1 st.2 (x := items[i]) (by simp [hi]) fun h' hit' hs' => ?_
    exact hQ _ h' s.toks (by simp [hi]) ⟨hit', let ⟨o, ho, r⟩ := st.2; ⟨o, (hs'.2 t hne).trans ho, r⟩⟩ hs'
  done := fun s Q E st hE => RZ.nextOf_tuple_end hh st.1 st.2 (by simp) hE
theorem meets_enumerate_newT (l : Addr) (items : Array Value) (n : Nat) (dct : Option Addr) (sl : Array (Option Value)) :
    Meets (Builtin.«enumerate.__new__» ⟨[.type "enumerate", .ref l], []⟩) (fun _ R s => s.heap.get? l = some { cls := .type "tuple", dict := dct, data := .seq items n, slots := sl } ∧
      R (.ok (.ret (.ref (s.heap.push { cls := .type "tuple_iterator", data := .fields #[.ref l, .int 0 0] }).objs.size)))
        { s with heap := (s.heap.push { cls := .type "tuple_iterator", data := .fields #[.ref l, .int 0 0] }).push { cls := .type "enumerate", data := .fields #[.none, .bool false, .ref s.heap.objs.size, rawInt 0, .none, .none] } }) :=
  .of_wp fun prog w A R s h => by
    obtain ⟨hp, g, d, tk, os⟩ := s; obtain ⟨hl, h⟩ := h
    have hsub := sub_enumerate
    have hL : Heap.IsTuple (Shared.heap ⟨hp, g, d, tk, os⟩) l items := ⟨_, hl, rfl, n, rfl⟩
    wp_walk using wpAny_loadPart' hl
    refine wpAny_stack_any fun st => wpAny_pure ?_
    split
    · rename_i c _ _ _ _ _
      cases (c == Value.type "enumerate")
      · wp_walk using wpAny_loadPart' hl, wpAny_pyIter_tuple hL
        exact ⟨_, rfl, h⟩
      · wp_walk using wpAny_loadPart' hl, wpAny_pyIter_tuple hL
        exact ⟨_, rfl, h⟩
    · wp_walk using wpAny_loadPart' hl, wpAny_pyIter_tuple hL
      exact ⟨_, rfl, h⟩
section
variable {prog : Program} {w : World} {A : Around} {E : Value → Shared → Prop} {s : Shared}
theorem call_enumerate_tuple {l : Addr} {items : Array Value} {Q : Value → Shared → Prop} (hL : s.heap.IsTuple l items)
    (h : ∀ h', IsEnum h' (s.heap.objs.size + 1) s.heap.objs.size 0 .none → h'.IsTupleIter s.heap.objs.size l 0 → h'.objs.size = s.heap.objs.size + 2 →
      (∀ b o, s.heap.get? b = some o → h'.get? b = some o) → Q (.ref (s.heap.objs.size + 1)) { s with heap := h' }) :
    wpAny (model prog w) A (call (.type "enumerate") [.ref l]) Q E s := by
  obtain ⟨⟨c, dct, dt, sl⟩, hl, hc, n, hd⟩ := hL
  replace hc : c = .type "tuple" := hc
  replace hd : dt = .seq items n := hd
  subst hc hd
  refine callType_new F.called_enumerate (by decide) (F.typeCall_enumerate_1 _) (F.newCall_enumerate_1 _) (fun obj => F.args_object_init_2 obj _) F.entry_enumerate_new
    (meets_enumerate_newT l items n dct sl) ⟨hl, ?_⟩
  have hz : (s.heap.push { cls := .type "tuple_iterator", data := .fields #[.ref l, .int 0 0] }).objs.size = s.heap.objs.size + 1 := Heap.size_push ..
  show _ ∧ _
  rw [hz]
  have he : IsEnum ((s.heap.push { cls := .type "tuple_iterator", data := .fields #[.ref l, .int 0 0] }).push
      { cls := .type "enumerate", data := .fields #[.none, .bool false, .ref s.heap.objs.size, rawInt 0, .none, .none] }) (s.heap.objs.size + 1) s.heap.objs.size 0 .none := by
    have := Heap.get?_push_size (s.heap.push { cls := .type "tuple_iterator", data := .fields #[.ref l, .int 0 0] })
      (o := { cls := .type "enumerate", data := .fields #[.none, .bool false, .ref s.heap.objs.size, rawInt 0, .none, .none] }) rfl
    rw [hz] at this; exact this
  refine ⟨⟨_, he, rfl⟩, h _ he ⟨_, Heap.get?_push_of_some _ (Heap.get?_push_size _ rfl), rfl, rfl⟩ (by rw [Heap.size_push, hz]) fun b o x => Heap.get?_push_of_some _ (Heap.get?_push_of_some _ x)⟩
end
section
variable {prog : Program} {w : World} {A : Around} {E : Value → Shared → Prop} {s : Shared}
theorem enumT_end {e it l : Addr} {i : Nat} {items : Array Value} {old : Value} {Q : Option Value → Shared → Prop} (hh : A.handled = none)
    (he : IsEnum s.heap e it i old) (hit : s.heap.IsTupleIter it l i) (hl : s.heap.IsTuple l items) (hx : items[i]? = none)
    (hQ : ∀ h', Heap.ExtBut it s.heap h' → Q none { s with heap := h' }) : wpAny (model prog w) A (pyNext (.ref e)) Q E s := by
  have hT : s.TypeIs (.ref e) "enumerate" := ⟨_, he, rfl⟩
  unfold pyNext
  refine wpAny_bind (wpAny_attempt (wpAny_callSpecial?_slot (name := Str.ofString "__next__") hT F.slot_enumerate_next
    (wpAny_call_entry F.slot_enumerate_next hT F.entry_enumerate_next ?_ (F.args_enumerate_next_1 _))))
  show wpAny _ _ (field (.ref e) 2 >>= _) _ _ _
  refine wpAny_bind (wpAny_field he rfl (x := .ref it) rfl ?_)
  refine wpAny_bind (RZ.nextOf_tuple_end (by simp [hh]) hit hl hx fun h' x he' hx' => ?_)
  obtain ⟨o, ho, hc⟩ := hx'
  refine wpAny_bind (wpAny_isInstance (T := "StopIteration") (b := true) ⟨o, ho, hc⟩ isSubtype_stop ?_)
  exact wpAny_pure (hQ _ he')
end
/-- the tuple at a, its items in new pairs -/
def IteT (K : PySem.W.Frag) (a : Addr) : It :=
  ⟨fun i H => ∃ (xs : List V) (x : V), SqT K H a xs ∧ xs[i]? = some x, fun i H v H' => ∃ T x, v = .ref T ∧ H T = none ∧ H' = upd H T (.tup [.int (i : Nat), x]) ∧ ∀ xs, SqT K H a xs → xs[i]? = some x, fun i H => ∃ xs : List V, SqT K H a xs ∧ xs.length ≤ i⟩
theorem turn_enumT {P : Program} {w : World} {K : PySem.W.Frag} {elts : List Expr} {kk : Nat} {tpos : Pos} (a e it : Addr) (hai : a ≠ it) (hae : a ≠ e) :
    Turn P w K (.Tuple elts kk tpos) (IteT K a) [e, it] e (fun i h => (∃ old, IsEnum h e it ((i : Nat) : Int) old) ∧ h.IsTupleIter it a i ∧ e ≠ it) where
  mem := by simp
  obj := fun i h st b hb => by
    obtain ⟨⟨old, he⟩, ⟨o, ho, _, d⟩, _⟩ := st
    have e' : b = e ∨ b = it := by simpa using hb
    rcases e' with q | q
    · rw [q]; exact ⟨_, he, fun v q => nomatch q⟩
    · rw [q]; exact ⟨o, ho, fun v q => by rw [d] at q; cases q⟩
  keep := fun i h h' st k => by
    obtain ⟨⟨old, he⟩, h1, hne⟩ := st
    exact ⟨⟨old, k e (by simp) _ he⟩, h1.at fun o q => k it (by simp) o q, hne⟩
  item := by
    intro X hP hw hK hc i pins s σ H E I hf st hg
    subst hP hw hK
    obtain ⟨⟨old, he⟩, hit, hne⟩ := st
    obtain ⟨xs, x, hq, hx⟩ := hg
    obtain ⟨its, rv, p, hz⟩ := I.tuple hq
    obtain ⟨u, hu, ru⟩ := rv.get hx
    have hel : e < s.heap.objs.size := Heap.lt_size he
    have hil : it < s.heap.objs.size := by obtain ⟨_, q, _⟩ := hit; exact Heap.lt_size q
    have hi : i < its.toArray.size := by
      have := (List.getElem?_eq_some_iff.mp hu).1
      simpa using this
    have D := drawsT (prog := X.prog) (w := X.w) (A := X.A.in1) (by simp [I.ok.hd hc]) it a hai its.toArray
    refine wpAny_pyNext_enum_itemD D he ⟨hit, p⟩ hi hne (by simp only [List.mem_cons, List.not_mem_nil, or_false, not_or]; exact ⟨hne, hae.symm⟩) fun y h' tk hP ho hs' hT hsz hk => ?_
    have hy : y = u := by
      have q : its[i]? = some y := by simpa using hP
      rw [hu] at q
      exact (Option.some.inj q).symm
    subst hy
    refine ⟨_, rfl, wpAny_letOwnedTupleGo_enum (s := { s with heap := h', toks := tk + 1 }) ho fun h'' he' sb => ?_⟩
    have hT2 : h''.get? s.heap.objs.size = some { cls := .type "tuple", data := .seq #[.int i tk, y] } := (sb.2 _ (Nat.ne_of_gt hel)).trans hT
    have new : ObjOk X.prog X.w (upd H s.heap.objs.size (.tup [.int (i : Nat), x])) h'' s.heap.objs.size (.tup [.int (i : Nat), x]) :=
      ⟨by show 2 ≤ sizeLine; decide, [.int i tk, y], .cons ⟨_, rfl⟩ (.cons ru .nil), ⟨_, hT2, rfl, _, rfl⟩⟩
    have I1 : Inv X pins σ (upd H s.heap.objs.size (.tup [.int (i : Nat), x])) { s with heap := h'', toks := tk + 1 } :=
      I.turnedNew (ch := [e, it]) (fun b ob hb q => (sb.2 b (fun z => hb (by simp [z]))).trans (hk b ob (fun z => hb (by simp [z])) (fun z => hb (by simp [z])) q)) hf (Nat.le_refl _) new
    refine ⟨.ref s.heap.objs.size, _, I1, rfl, ⟨_, x, rfl, I.hok.fresh (Nat.le_refl _), rfl, fun ys hy => by rw [I.tuple_inj hy hq]; exact hx⟩, ⟨⟨y, ?_⟩, hs'.1.at fun o q => (sb.2 it (Ne.symm hne)).trans q, hne⟩, fun b hb => ?_⟩
    · have e1 : ((i + 1 : Nat) : Int) = (i : Int) + 1 := by omega
      rw [e1]; exact he'
    · have hb' : b < s.heap.objs.size := by
        have e' : b = e ∨ b = it := by simpa using hb
        rcases e' with z | z
        · rw [z]; exact hel
        · rw [z]; exact hil
      rw [upd_ne (Nat.ne_of_lt hb')]
      exact (hf b hb).1
  done := by
    intro X hP hw hK hc i pins s σ H E I hf st hg
    subst hP hw hK
    obtain ⟨⟨old, he⟩, hit, hne⟩ := st
    obtain ⟨xs, hq, hx⟩ := hg
    obtain ⟨its, rv, p, hz⟩ := I.tuple hq
    obtain ⟨f0, f1, f2, f3, f4, f5⟩ := hf it (by simp)
    have hl := rv.length
    -- past the end the iterator still says that it is at its end
    refine enumT_end (I.ok.hd hc) he hit p (by simp; omega) fun h' eb => ⟨rfl, I.turned (t' := s.toks) (fun b o hb q => eb b o hb q) f0 f1 f3 f4 f5⟩
  self := fun A i s Q E st h => let ⟨⟨_, he⟩, _⟩ := st; wpAny_pyIter_enum he h
section
variable {K : PySem.W.Frag} {w : World} {H0 : Hp} {θ0 : List Addr}
theorem enumV_get : ∀ (xs : List L) (k i : Nat), (enumV k xs)[i]? = xs[i]?.map fun x => L.tup [.int ((k + i : Nat) : Int), x]
  | [], k, i => by simp [enumV]
  | x :: xs, k, 0 => by simp [enumV]
  | x :: xs, k, i + 1 => by
    have := enumV_get xs (k + 1) i
    rw [show enumV k (x :: xs) = L.tup [.int k, x] :: enumV (k + 1) xs from rfl, List.getElem?_cons_succ, List.getElem?_cons_succ, this]
    rw [show k + 1 + i = k + (i + 1) by omega]
theorem it_ent {xs : List L} {vs : List V} {a : Addr} (s : SqT K H0 a vs) (r : RelLs K H0 θ0 xs vs) : ItOk K w H0 θ0 (.vals (enumV 0 xs)) (IteT K a) := by
  intro θ H h i ev R
  have s' := ev.g.sqT s
  refine ⟨fun e => ?_, fun x e => ?_⟩
  · have e : (enumV 0 xs)[i]? = none := Option.some.inj e
    rw [enumV_get] at e
    exact ⟨vs, s', by rw [← r.length]; exact List.getElem?_eq_none_iff.mp (Option.map_eq_none_iff.mp e)⟩
  · have e : (enumV 0 xs)[i]? = some x := Option.some.inj e
    rw [enumV_get] at e
    obtain ⟨z, e3, rfl⟩ := Option.map_eq_some_iff.mp e
    obtain ⟨y, q1, q2⟩ := r.get e3
    refine ⟨⟨vs, y, s', q1⟩, fun v H' y' => ?_⟩
    obtain ⟨T, x', rfl, hT, rfl, hy⟩ := y'
    have := hy vs s'
    rw [q1] at this
    cases this
    rw [Nat.zero_add]
    exact pair_new R hT (.int _) (q2.ev ev)
theorem zipV_get : ∀ (xs ys : List L) (i : Nat), (zipV xs ys)[i]? = pairAt xs[i]? ys[i]?
  | [], ys, i => by simp [zipV, pairAt]
  | x :: xs, [], i => by
    rw [show zipV (x :: xs) [] = [] from rfl]
    cases (x :: xs)[i]? <;> rfl
  | x :: xs, y :: ys, 0 => by simp [zipV, pairAt]
  | x :: xs, y :: ys, i + 1 => by
    rw [show zipV (x :: xs) (y :: ys) = L.tup [x, y] :: zipV xs ys from rfl]
    simpa using zipV_get xs ys i
theorem it_zpt {xs ys : List L} {vs ws : List V} {a b : Addr} (s : SqT K H0 a vs) (r : RelLs K H0 θ0 xs vs) (s2 : SqT K H0 b ws) (r2 : RelLs K H0 θ0 ys ws) : ItOk K w H0 θ0 (.vals (zipV xs ys)) (ItzT K a b) := by
  intro θ H h i ev R
  have s' := ev.g.sqT s
  have s2' := ev.g.sqT s2
  refine ⟨fun e => ?_, fun x e => ?_⟩
  · have e : (zipV xs ys)[i]? = none := Option.some.inj e
    rw [zipV_get] at e
    refine ⟨vs, ws, s', s2', ?_⟩
    rw [← r.length, ← r2.length]
    cases f1 : xs[i]? with
    | none => exact .inl (List.getElem?_eq_none_iff.mp f1)
    | some x =>
      cases f2 : ys[i]? with
      | none => exact .inr (List.getElem?_eq_none_iff.mp f2)
      | some y => rw [f1, f2] at e; cases e
  · have e : (zipV xs ys)[i]? = some x := Option.some.inj e
    rw [zipV_get] at e
    cases f1 : xs[i]? with
    | none => rw [f1] at e; cases e
    | some x1 =>
      cases f2 : ys[i]? with
      | none => rw [f1, f2] at e; cases e
      | some y1 =>
        rw [f1, f2] at e
        cases e
        obtain ⟨u1, q1, q2⟩ := r.get f1
        obtain ⟨u2, q3, q4⟩ := r2.get f2
        refine ⟨⟨vs, ws, u1, u2, s', s2', q1, q3⟩, fun v H' y' => ?_⟩
        obtain ⟨T, x', y', rfl, hT, rfl, hy1, hy2⟩ := y'
        have := hy1 vs s'
        rw [q1] at this
        cases this
        have := hy2 ws s2'
        rw [q3] at this
        cases this
        exact pair_new R hT (q2.ev ev) (q4.ev ev)
end
section
variable {X : Cx} {xc : Nat → Value} {W : L2.WX} {e a b : Expr} {fe fa fb : LS → LH → R L} {p pos tpos : Pos} {elts : List Expr} {kk : Nat}
theorem i_enum (hg : Gl X "enumerate") (hm : X.mg "enumerate" = none) (he : PE X e (eL X xc W fe)) (hp : plainX e = true) :
    PI X (.Tuple elts kk tpos) (.Call (.Name "enumerate" p) [e] [] pos) (iL X xc W fun sl h => (fe sl h).bind enumL) := by
  refine ⟨fun pins s σ H Q I h => ?_⟩
  have h := tA.seq (rel := RelL X.K) (k := fun _ => enumL) h
  have q : tCons (eL X xc W fe) tNil σ H fun xs H1 => ∃ x, xs = [x] ∧ ∃ θ1 sl h1 v, Sl X.K H1 θ1 sl σ ∧ HR X.K X.w H1 θ1 h1 ∧ RelL X.K H1 θ1 v x ∧ PostA X.K X.w xc (ItOk X.K X.w) H1 θ1 (enumL v h1) Q fun c d H' => W c d σ H' := h.mono fun x H1 q => ⟨x, rfl, q⟩
  refine Call_ (ld_blt I hg hm boot_enumerate (PyProof.Rows.callWith_type1 (thn ((pa_cons he pa_nil (star_plain hp)).run pos pins s σ H _ I q) fun us s1 ⟨vs, H1, I1, r1, x, ex, θ1, sl, h1, v, S, R, r, P⟩ => ?_) (star_plain hp) rfl))
  subst ex
  obtain ⟨u, rfl, r9⟩ := vals1 r1
  cases v with
  | tup xs =>
    cases r with
    | @tup _ q vs sq rs =>
      obtain rfl : u = Value.ref q := r9
      obtain ⟨its, rv, pp, hz⟩ := I1.tuple sq
      have ql : q < s1.heap.objs.size := let ⟨_, ho, _⟩ := id pp; Heap.lt_size ho
      refine call_enumerate_tuple (show s1.heap.IsTuple q its.toArray from pp) fun h' he hit hsz hk => wpAny_pyIter_enum he ?_
      have I2 : Inv X pins σ H1 { s1 with heap := h' } := I1.kept (t' := s1.toks) hk
      refine ⟨s1.heap.objs.size + 1, [s1.heap.objs.size + 1, s1.heap.objs.size], _, _, H1, rfl, I2, turn_enumT q (s1.heap.objs.size + 1) s1.heap.objs.size (Nat.ne_of_lt ql) (Nat.ne_of_lt (Nat.lt_succ_of_lt ql)), ⟨⟨.none, he⟩, hit, Nat.succ_ne_self _⟩, fun b hb => ?_,
        PostA.here (a := LIt.vals (enumV 0 xs)) P R (it_ent sq rs)⟩
      have e' : b = s1.heap.objs.size + 1 ∨ b = s1.heap.objs.size := by simpa using hb
      have hle : s1.heap.objs.size ≤ b := by
        rcases e' with z | z
        · rw [z]; exact Nat.le_add_right _ _
        · rw [z]; exact Nat.le_refl _
      exact I1.fpOk hle (I1.hok.fresh hle)
  | ref i =>
    cases r with
    | @ref _ q t =>
      obtain rfl : u = Value.ref q := r9
      cases e2 : h1[i]? with
      | none => simp only [enumL, e2] at P; exact P.bad.elim
      | some ob =>
        cases ob with
        | lst xs =>
          simp only [enumL, e2] at P
          obtain ⟨vs, g1, g2⟩ := R.ob i q _ t e2
          obtain ⟨its, rv, pp, hz⟩ := I1.list (SqL.of g1)
          refine call_enumerate_list pp.isList fun h' he hit hsz hk => wpAny_pyIter_enum he ?_
          have I2 : Inv X pins σ H1 { s1 with heap := h' } := I1.kept (t' := s1.toks) hk
          refine ⟨s1.heap.objs.size + 1, [s1.heap.objs.size + 1, s1.heap.objs.size], _, _, H1, rfl, I2, turn_enum q (s1.heap.objs.size + 1) s1.heap.objs.size, ⟨⟨.none, he⟩, hit, Nat.succ_ne_self _⟩, fun b hb => ?_, P.here R (it_enl t)⟩
          have e' : b = s1.heap.objs.size + 1 ∨ b = s1.heap.objs.size := by simpa using hb
          have hle : s1.heap.objs.size ≤ b := by
            rcases e' with z | z
            · rw [z]; exact Nat.le_add_right _ _
            · rw [z]; exact Nat.le_refl _
          exact I1.fpOk hle (I1.hok.fresh hle)
        | _ => simp only [enumL, e2] at P; exact P.bad.elim
  | _ => exact (PostA.bad P).elim
theorem i_zip (hg : Gl X "zip") (hm : X.mg "zip" = none) (ha : PE X a (eL X xc W fa)) (hb : PE X b (eL X xc W fb)) (hp : plainX a = true) (hp2 : plainX b = true) :
    PI X (.Tuple elts kk tpos) (.Call (.Name "zip" p) [a, b] [] pos) (iL X xc W fun sl h => (fa sl h).bind fun v h1 => (fb sl h1).bind fun u h2 => zipL v u h2) := by
  refine PI.imp (pi_zipA hg hm (pa_cons ha (pa_cons hb pa_nil (star_plain hp2)) (star_plain hp)) (star_plain hp) (none_star (by simp [hp2]))) fun σ H Q h => ?_
  refine (tA.seq (rel := RelL X.K) h).mono fun x H1 ⟨θ1, sl, h1, v, S, R, r, P⟩ => ?_
  refine ⟨θ1, sl, h1, S, R, PostA.mono (PostA.bind (rel := RelL X.K) P) fun y H2 ⟨θ2, u, h2, ev, R2, r2, P2⟩ => ?_⟩
  have r := r.ev ev
  cases v with
  | tup xs =>
    cases u with
    | tup ys =>
      cases r with
      | @tup _ q vs sq rs =>
        cases r2 with
        | @tup _ q2 ws sq2 rs2 => exact ⟨q, q2, vs, ws, rfl, .inr ⟨sq, sq2, PostA.here (a := LIt.vals (zipV xs ys)) P2 R2 (it_zpt sq rs sq2 rs2)⟩⟩
    | _ => exact (PostA.bad P2).elim
  | ref i =>
    cases u with
    | ref j =>
      cases r with
      | @ref _ q t =>
        cases r2 with
        | @ref _ q2 t2 =>
          cases e1 : h2[i]? with
          | none => simp only [zipL, e1] at P2; exact P2.bad.elim
          | some o1 =>
            cases e2 : h2[j]? with
            | none => simp only [zipL, e1, e2] at P2; cases o1 <;> exact P2.bad.elim
            | some o2 =>
              cases o1 with
              | lst xs =>
                cases o2 with
                | lst ys =>
                  simp only [zipL, e1, e2] at P2
                  obtain ⟨vs, g1, g2⟩ := R2.ob i q _ t e1
                  obtain ⟨ws, k1, k2⟩ := R2.ob j q2 _ t2 e2
                  exact ⟨q, q2, vs, ws, rfl, .inl ⟨SqL.of g1, SqL.of k1, P2.here R2 (it_zll t t2)⟩⟩
                | _ => simp only [zipL, e1, e2] at P2; exact P2.bad.elim
              | _ => simp only [zipL, e1, e2] at P2; exact P2.bad.elim
    | _ => exact (PostA.bad P2).elim
  | _ => cases u <;> exact (PostA.bad P2).elim
end
end Ly
end
section
set_option Elab.async false
set_option linter.all false
set_option autoImplicit false
set_option maxRecDepth 100000
/-! Targets and comprehensions. -/
namespace Ly
open PySem PySem.Spec PyProof.Rows L2

/-! ### targets -/
structure Out (ns : List Nat) (σ σ' : L2.St) : Prop where
  ix : ∀ i, i ∉ ns → σ'[i]? = σ[i]?
  len : σ'.length = σ.length
theorem Out.refl (ns : List Nat) (σ : L2.St) : Out ns σ σ := ⟨fun _ _ => rfl, rfl⟩
theorem Out.trans {ns ms : List Nat} {σ σ1 σ2 : L2.St} (a : Out ns σ σ1) (b : Out ms σ1 σ2) : Out (ns ++ ms) σ σ2 :=
  ⟨fun i h => (b.ix i fun m => h (List.mem_append_right _ m)).trans (a.ix i fun m => h (List.mem_append_left _ m)), b.len.trans a.len⟩
theorem Out.set (σ : L2.St) (i : Nat) (x : Option V) : Out [i] σ (σ.set i x) := ⟨fun j h => List.getElem?_set_ne (fun e => h (by rw [e]; exact List.mem_singleton_self _)), List.length_set⟩
theorem Out.mono {ns ms : List Nat} {σ σ' : L2.St} (a : Out ns σ σ') (h : ∀ i ∈ ns, i ∈ ms) : Out ms σ σ' := ⟨fun i n => a.ix i fun m => n (h i m), a.len⟩
theorem wipe_in {σ : L2.St} {i : Nat} : ∀ {vs : List Nat}, i ∈ vs → i < σ.length → (wipe σ vs)[i]? = some none
  | v :: vs, h, hl => by
    unfold wipe
    by_cases e : v = i
    · subst e
      exact List.getElem?_set_self (by rw [wipe_length]; exact hl)
    · rw [List.getElem?_set_ne e]
      exact wipe_in ((List.mem_cons.mp h).resolve_left fun z => e z.symm) hl
theorem Out.wipe {ns : List Nat} {σ σ' : L2.St} (a : Out ns σ σ') : wipe σ' ns = wipe σ ns := by
  refine List.ext_getElem? fun i => ?_
  by_cases h : i ∈ ns
  · by_cases hl : i < σ.length
    · rw [wipe_in h hl, wipe_in h (by rw [a.len]; exact hl)]
    · rw [List.getElem?_eq_none (by rw [wipe_length, a.len]; omega), List.getElem?_eq_none (by rw [wipe_length]; omega)]
  · rw [wipe_out h, wipe_out h, a.ix i h]
def PostT (K : PySem.W.Frag) (w : World) (H : Hp) (θ : List Addr) (ns : List Nat) (σ : L2.St) (r : RS) (Q : L2.St → Hp → Prop) : Prop := match r with
  | .nx sl1 h1 => ∀ θ' H' σ', Ev H H' θ θ' → HR K w H' θ' h1 → Sl K H' θ' sl1 σ' → Out ns σ σ' → Q σ' H'
  | _ => False
def gL (K : PySem.W.Frag) (w : World) (ns : List Nat) (f : L → LS → LH → RS) : TG := fun v σ H Q => ∃ θ sl h a, Sl K H θ sl σ ∧ HR K w H θ h ∧ RelL K H θ a v ∧ PostT K w H θ ns σ (f a sl h) Q
def gsL (K : PySem.W.Frag) (w : World) (ns : List Nat) (f : List L → LS → LH → RS) : TGs := fun v σ H Q => ∃ θ sl h a, Sl K H θ sl σ ∧ HR K w H θ h ∧ RelLs K H θ a v ∧ PostT K w H θ ns σ (f a sl h) Q
section
variable {K : PySem.W.Frag} {w : World} {H H1 : Hp} {θ θ1 : List Addr} {ns ms : List Nat} {σ σ1 : L2.St} {r : RS} {Q Q' : L2.St → Hp → Prop}
theorem PostT.bad (P : PostT K w H θ ns σ .bad Q) : False := P
theorem PostT.mono (P : PostT K w H θ ns σ r Q) (h : ∀ σ' H', Q σ' H' → Q' σ' H') : PostT K w H θ ns σ r Q' := by
  cases r with
  | nx sl h1 => exact fun θ' H' σ' e R S o => h σ' H' (P θ' H' σ' e R S o)
  | _ => exact P
theorem PostT.shift (P : PostT K w H θ (ns ++ ms) σ r Q) (ev : Ev H H1 θ θ1) (o : Out ns σ σ1) : PostT K w H1 θ1 ms σ1 r Q := by
  cases r with
  | nx sl h1 => exact fun θ' H' σ' e R S o' => P θ' H' σ' (ev.trans e) R S (o.trans o')
  | _ => exact P
theorem PostT.then {k : LS → LH → RS} (P : PostT K w H θ (ns ++ ms) σ (r.then k) Q) :
    PostT K w H θ ns σ r fun σ1 H1 => ∃ θ1 sl1 h1, Sl K H1 θ1 sl1 σ1 ∧ HR K w H1 θ1 h1 ∧ Ev H H1 θ θ1 ∧ PostT K w H1 θ1 ms σ1 (k sl1 h1) Q := by
  cases r with
  | nx sl h1 => exact fun θ' H' σ' e R S o => ⟨θ', sl, h1, S, R, e, PostT.shift (show PostT K w H θ (ns ++ ms) σ (k sl h1) Q from P) e o⟩
  | _ => exact P
end
section
variable {X : Cx} {xc : Nat → Value} {W : L2.WX} {pos : Pos} {e : Expr} {es : List Expr} {ns ms : List Nat} {f : L → LS → LH → RS} {g : List L → LS → LH → RS}
theorem t_name {i : Nat} {x : Str} (hN : X.N.Nodup) (hi : X.N[i]? = some x) (hx : Loc X.env.scope x) (hf : X.fn x = true ∨ X.env.scope.names.lookup x = some .local) : PG X (.Name x pos) (gL X.K X.w [i] fun a sl h => .nx (sl.set i (some a)) h) := by
  refine PG.imp (pg_name hN hi hx hf) fun v σ H Q ⟨θ, sl, h, a, S, R, r, P⟩ => ?_
  exact P θ H _ (Ev.refl _ _) R (S.set i r) (Out.set σ i _)
theorem PGs.imp {t t' : TGs} (h : PGs X es t) (i : ∀ v σ H Q, t' v σ H Q → t v σ H Q) : PGs X es t' := ⟨fun pins s σ H v u Q I r q => h.run pins s σ H v u Q I r (i _ _ _ _ q)⟩
theorem t_nil : PGs X [] (gsL X.K X.w [] fun vs sl h => match vs with
    | [] => .nx sl h
    | _ => .bad) := by
  refine PGs.imp pgs_nil fun v σ H Q ⟨θ, sl, h, a, S, R, r, P⟩ => ?_
  cases r with
  | nil => exact ⟨rfl, P θ H _ (Ev.refl _ _) R S (Out.refl _ _)⟩
  | cons _ _ => exact (PostT.bad P).elim
theorem assign_star {env : Env} (hp : plainX e = true) : (assignEach (e :: es) env).map (·.2) = assign e env :: (assignEach es env).map (·.2) := by
  cases e <;> first | rfl | cases hp
theorem t_cons (h1 : PG X e (gL X.K X.w ns f)) (h2 : PGs X es (gsL X.K X.w ms g)) (hp : plainX e = true) : PGs X (e :: es) (gsL X.K X.w (ns ++ ms) fun vs sl h => match vs with
    | v :: vs => (f v sl h).then fun sl1 h1 => g vs sl1 h1
    | [] => .bad) := by
  refine PGs.imp (pgs_cons h1 h2 (assign_star hp)) fun v σ H Q ⟨θ, sl, h, a, S, R, r, P⟩ => ?_
  cases r with
  | nil => exact (PostT.bad P).elim
  | cons r rs => exact ⟨_, _, rfl, θ, sl, h, _, S, R, r, PostT.mono (PostT.then P) fun σ1 H1 ⟨θ1, sl1, h1, S1, R1, ev, P1⟩ => ⟨θ1, sl1, h1, _, S1, R1, rs.ev ev, P1⟩⟩
theorem assign_len {env : Env} : ∀ es : List Expr, (assignEach es env).length = es.length
  | [] => rfl
  | e :: es => by
    have := assign_len (env := env) es
    cases e <;> (show (assignEach es env).length + 1 = es.length + 1; rw [this])
theorem assign_nostar {env : Env} : ∀ {es : List Expr}, es.all plainX = true → (assignEach es env).findIdx? (·.1) = none
  | [], _ => rfl
  | e :: es, h => by
    rw [List.all_cons, Bool.and_eq_true] at h
    have ih := assign_nostar (env := env) h.2
    have go : ∀ t, assignEach (e :: es) env = (false, t) :: assignEach es env → (assignEach (e :: es) env).findIdx? (·.1) = none := fun t q => by
      rw [q, List.findIdx?_cons, ih]; rfl
    cases e <;> first | exact go _ rfl | cases h.1
theorem t_tup {k n : Nat} (hc : X.calm = true) (h : PGs X es (gsL X.K X.w ns g)) (hn : es.length = n) (hp : es.all plainX = true) : PG X (.Tuple es k pos) (gL X.K X.w ns fun v sl h => match v with
    | .tup xs => if xs.length = n then g xs sl h else .bad
    | _ => .bad) := by
  refine PG.imp (pg_tup hc h ((assign_len es).trans hn) (assign_nostar hp)) fun v σ H Q ⟨θ, sl, h, a, S, R, r, P⟩ => ?_
  cases a with
  | tup xs =>
    cases r with
    | @tup _ p vs sq rs =>
      have P : PostT X.K X.w H θ ns σ (if xs.length = n then g xs sl h else .bad) Q := P
      by_cases hz : xs.length = n
      · rw [if_pos hz] at P
        exact ⟨p, vs, rfl, sq, by rw [← rs.length]; exact hz, θ, sl, h, xs, S, R, rs, P⟩
      · rw [if_neg hz] at P; exact P.bad.elim
  | _ => exact (PostT.bad P).elim
def plainI : Expr → Bool
  | .Slice _ _ _ _ => false
  | _ => true
theorem plainI_ix {b : Expr} (h : plainI b = true) : PlainIx b := by
  intro o i
  cases b <;> first | rfl | cases h
variable {o i : Expr} {fo fi : LS → LH → R L}
theorem noexc_seq {α : Type} {σ : L2.St} {H : Hp} {θ : List Addr} {sl : LS} {r : R α} {k : α → LH → RS} {β : Type} {rel : RelA α β} {ns : List Nat} {Q : L2.St → Hp → Prop} {E : L2.XK} (P : PostT X.K X.w H θ ns σ ((noexc r).st sl k) Q) :
    PostA X.K X.w xc rel H θ r (fun x H1 => ∃ θ1 a h1, Ev H H1 θ θ1 ∧ HR X.K X.w H1 θ1 h1 ∧ rel H1 θ1 a x ∧ PostT X.K X.w H1 θ1 ns σ (k a h1) Q) E := by
  cases r with
  | ok a h => exact fun θ' H' x ev R q => ⟨θ', a, h, ev, R, q, PostT.shift (ns := []) (show PostT X.K X.w H θ ([] ++ ns) σ (k a h) Q from P) ev (Out.refl _ _)⟩
  | exc c v h => exact (PostT.bad P).elim
  | bad => exact (PostT.bad P).elim
theorem t_sub (hu : X.A.units + 64 < cLine) (ho : PE X o (eL X xc W fo)) (hi : PE X i (eL X xc W fi)) (hp : plainI i = true) : PG X (.Subscript o i pos) (gL X.K X.w [] fun v sl h => (noexc (fo sl h)).st sl fun x h1 => (noexc (fi sl h1)).st sl fun y h2 => match putL x y v h2 with
    | some h3 => .nx sl h3
    | none => .bad) := by
  refine PG.imp (pg_sub ho hi (set_put hu) (fun v => by cases i <;> first | rfl | cases hp)) fun v σ H Q ⟨θ, sl, h, a, S, R, r, P⟩ => ?_
  refine ⟨θ, sl, h, S, R, PostA.mono (noexc_seq (rel := RelL X.K) P) fun x H1 ⟨θ1, b, h1, ev, R1, rb, P1⟩ => ?_⟩
  refine ⟨θ1, sl, h1, S.ev ev, R1, PostA.mono (noexc_seq (rel := RelL X.K) P1) fun y H2 ⟨θ2, c, h2, ev2, R2, rc, P2⟩ => ?_⟩
  cases e : putL b c a h2 with
  | none => rw [e] at P2; exact P2.bad.elim
  | some h3 =>
    rw [e] at P2
    exact ⟨b, c, a, θ2, h2, h3, R2, rb.ev ev2, rc, (r.ev ev).ev ev2, e, fun H3 ev3 R3 => P2 θ2 H3 σ ev3 R3 (((S.ev ev).ev ev2).ev ev3) (Out.refl _ _)⟩
end

/-! ### comprehensions -/
section
variable {K : PySem.W.Frag} {w : World} {H H1 : Hp} {θ θ1 : List Addr} {h : LH} {D : Addr}
/-- an object beside ours is written -/
theorem HR.other (R : HR K w H θ h) {u o : HO} (n : D ∉ θ) (e : H D = some u) (l : Loose u) : HR K w (upd H D o) θ h :=
  ⟨R.len, R.nd, fun r a ob e1 e2 => (R.ob r a ob e1 e2).mono (Grow.upd e l) (List.prefix_refl _) fun v q => by
    rw [upd_ne (fun z => n (by rw [← z]; exact List.mem_of_getElem? e1))]; exact q⟩
theorem Ev.touch (ev : Ev H H1 θ θ1) {o : HO} (n : H D = none) {u : HO} (e : H1 D = some u) (l : Loose u) : Ev H (L2.upd H1 D o) θ θ1 := by
  refine ⟨ev.g.trans (Grow.upd e l), ev.p, fun a v q m => ?_, ev.fr, fun a v q => ?_⟩
  · rw [upd_ne (fun z => by rw [z, n] at q; cases q)]
    exact ev.ot a v q m
  · by_cases z : a = D
    · subst z; exact ⟨_, upd_same⟩
    · rw [upd_ne z]; exact ev.th a v q
/-- an object beside ours becomes ours -/
theorem HR.join (R : HR K w H θ h) (n : D ∉ θ) {lo : LO} (q : ObR K w H (θ ++ [D]) lo D) : HR K w H (θ ++ [D]) (h ++ [lo]) := by
  refine ⟨by simp [R.len], ?_, fun r a ob e1 e2 => ?_⟩
  · rw [List.nodup_append]
    exact ⟨R.nd, by simp, fun a ha b hb e => n (by rw [← List.mem_singleton.mp hb, ← e]; exact ha)⟩
  · by_cases hr : r < θ.length
    · rw [List.getElem?_append_left hr] at e1
      rw [List.getElem?_append_left (by rw [← R.len]; exact hr)] at e2
      exact (R.ob r a ob e1 e2).mono (Grow.refl H) (List.prefix_append _ _) fun _ z => z
    · have hr' : r = θ.length := by
        have := (List.getElem?_eq_some_iff.mp e1).1
        simp at this
        omega
      subst hr'
      rw [List.getElem?_append_right (Nat.le_refl _)] at e1
      rw [List.getElem?_append_right (by rw [R.len] <;> exact Nat.le_refl _)] at e2
      simp at e1
      rw [R.len] at e2
      simp at e2
      subst e1 e2
      exact q
theorem Ev.join (ev : Ev H H1 θ θ1) (n : H D = none) : Ev H H1 θ (θ1 ++ [D]) := by
  refine ⟨ev.g, ev.p.trans (List.prefix_append _ _), ev.ot, fun a m => ?_, ev.th⟩
  rcases List.mem_append.mp m with m | m
  · exact ev.fr a m
  · rw [List.mem_singleton.mp m]; exact .inr n
theorem Ev.apart (ev : Ev H H1 θ θ1) (n : D ∉ θ) {u : HO} (e : H D = some u) : D ∉ θ1 := fun m => by
  rcases ev.fr D m with q | q
  · exact n q
  · rw [e] at q; cases q
end
section
variable {X : Cx} {xc : Nat → Value} {W : L2.WX} {tg iter elt : Expr} {ifs : List Expr} {scope : Scope} {own : List (Str × Nat)} {pos : Pos} {fi : LS → LH → R LIt} {ft : L → LS → LH → RS} {fc fe : LS → LH → R L} {ns : List Nat}
abbrev W0 : L2.WX := fun _ _ _ _ => False
theorem lc_in {σ : L2.St} {H : Hp} {Q : VK} {vs : List Nat} {tt : TT} (hns : ∀ i ∈ ns, i ∈ vs) (ht : ∀ σ H Q, tTest (tA X.K X.w xc W0 (RelL X.K) fc) σ H Q → tt σ H Q)
    (h : eL X xc W (fun sl h => (fi sl h).bind fun w h1 => (noexc (lcGo w.at ft fc fe (wipeL sl vs) whileFuel 0 [] h1)).bind fun ys h2 => .ok (.ref h2.length) (h2 ++ [.lst ys])) σ H Q) :
    tLc (iL X xc W fi) (gL X.K X.w ns ft) tt (tA X.K X.w xc W0 (RelL X.K) fe) vs σ H Q := by
  refine (tA.seq (rel := ItOk X.K X.w) h).mono fun J H1 ⟨θ1, sl, h1, l, S1, R1, it, P1⟩ D hD => ?_
  let slw := wipeL sl vs
  have P1 : PostA X.K X.w xc (RelL X.K) H1 θ1 ((noexc (lcGo l.at ft fc fe slw whileFuel 0 [] h1)).bind fun ys h2 => .ok (.ref h2.length) (h2 ++ [.lst ys])) Q fun c d H' => W c d σ H' := P1
  generalize hr0 : lcGo l.at ft fc fe slw whileFuel 0 [] h1 = r0 at P1
  have nbad : ∀ {r : R (List L)}, r = r0 → r ≠ .bad ∧ ∀ c v h, r ≠ .exc c v h := fun {r} e => by
    subst e
    refine ⟨fun e => ?_, fun c v h e => ?_⟩ <;> (rw [e] at P1; exact PostA.bad P1)
  have hD1 : D ∉ θ1 := fun m => by
    obtain ⟨r, hr, e⟩ := List.mem_iff_getElem.mp m
    obtain ⟨u, hu⟩ := R1.there (r := r) (a := D) (by rw [List.getElem?_eq_getElem hr, e])
    rw [hD] at hu; cases hu
  refine ⟨fun i m H2 => ∃ θ h acc vals, r0 = lcGo l.at ft fc fe slw m i acc h ∧ Sl X.K H2 θ slw (wipe σ vs) ∧ HR X.K X.w H2 θ h ∧ H2 D = some (.lst vals) ∧ D ∉ θ ∧ RelLs X.K H2 θ acc vals ∧ Ev H1 H2 θ1 θ,
    ⟨whileFuel, θ1, h1, [], [], hr0.symm, (S1.wipe vs).ev (Ev.skip hD), R1.skip hD, upd_same, hD1, .nil, Ev.skip hD⟩, ?_⟩
  rintro i m H2 ⟨θ, h, acc, vals, e0, S, R, hDv, hDn, ra, ev⟩
  cases m with
  | zero => exact absurd e0.symm (fun z => (nbad z).1 rfl)
  | succ m =>
    obtain ⟨stop, go⟩ := it θ H2 h i ev R
    cases e1 : l.at h i with
    | none =>
      refine absurd ?_ (nbad e0.symm).1
      show (match l.at h i with | none => _ | some none => _ | some (some x) => _) = _
      rw [e1]
    | some o =>
      cases o with
      | none =>
        refine .inl ⟨stop e1, ?_⟩
        have e2 : lcGo l.at ft fc fe slw (m + 1) i acc h = .ok acc h := by
          show (match l.at h i with | none => _ | some none => _ | some (some x) => _) = _
          rw [e1]
        rw [e2] at e0
        subst e0
        refine P1 (θ ++ [D]) H2 (.ref D) (ev.join hD) (R.join hDn ⟨vals, hDv, ra.mono (Grow.refl _) (List.prefix_append _ _)⟩) (.ref ?_)
        rw [← R.len, List.getElem?_append_right (Nat.le_refl _)]
        simp
      | some x =>
        obtain ⟨hgo, hy⟩ := go x e1
        refine .inr ⟨hgo, fun H' => ∃ θ h acc vals, r0 = lcGo l.at ft fc fe slw m (i + 1) acc h ∧ Sl X.K H' θ slw (wipe σ vs) ∧ HR X.K X.w H' θ h ∧ H' D = some (.lst vals) ∧ D ∉ θ ∧ RelLs X.K H' θ acc vals ∧ Ev H1 H' θ1 θ, fun H' q => ⟨m, Nat.lt_succ_self m, q⟩, fun v H3 y => ?_⟩
        obtain ⟨ev3, R3, rx⟩ := hy v H3 y
        have e2 : r0 = (match ft x slw h with
          | .nx sl1 h1 => (fc sl1 h1).bind fun c h2 => (match c with
            | .bl true => (fe sl1 h2).bind fun y h3 => if acc.length < sizeLine then lcGo l.at ft fc fe slw m (i + 1) (acc ++ [y]) h3 else .bad
            | .bl false => lcGo l.at ft fc fe slw m (i + 1) acc h2
            | _ => .bad)
          | _ => .bad) := by
          rw [e0]
          show (match l.at h i with | none => _ | some none => _ | some (some x) => _) = _
          rw [e1]
          all_goals rfl
        have hD3 : H3 D = some (.lst vals) := ev3.ot D _ hDv hDn
        refine ⟨θ, slw, h, x, S.ev ev3, R3, rx, ?_⟩
        cases e3 : ft x slw h with
        | nx sl1 g1 =>
          rw [e3] at e2
          have e2 : r0 = ((fc sl1 g1).bind fun c h2 => (match c with
            | .bl true => (fe sl1 h2).bind fun y h3 => if acc.length < sizeLine then lcGo l.at ft fc fe slw m (i + 1) (acc ++ [y]) h3 else .bad
            | .bl false => lcGo l.at ft fc fe slw m (i + 1) acc h2
            | _ => .bad)) := e2
          intro θ4 H4 σ4 ev4 R4 S4 o4
          have hD4 : H4 D = some (.lst vals) := ev4.ot D _ hD3 hDn
          have hDn4 := ev4.apart hDn hD3
          refine ⟨?_, ht _ _ _ ⟨θ4, sl1, g1, S4, R4, ?_⟩⟩
          · rw [(o4.mono hns).wipe]
            refine List.ext_getElem? fun j => ?_
            by_cases hj : j ∈ vs
            · by_cases hl : j < σ.length
              · rw [wipe_in hj (by rw [wipe_length]; exact hl), wipe_in hj hl]
              · rw [List.getElem?_eq_none (by rw [wipe_length, wipe_length]; omega), List.getElem?_eq_none (by rw [wipe_length]; omega)]
            · rw [wipe_out hj]
          cases e4 : fc sl1 g1 with
          | ok c g2 =>
            rw [e4] at e2
            intro θ5 H5 z ev5 R5 rz
            have hD5 : H5 D = some (.lst vals) := ev5.ot D _ hD4 hDn4
            have hDn5 := ev5.apart hDn4 hD4
            have ev15 : Ev H1 H5 θ1 θ5 := ((ev.trans ev3).trans ev4).trans ev5
            have e2 : r0 = (match (generalizing := false) c with
              | .bl true => (fe sl1 g2).bind fun y h3 => if acc.length < sizeLine then lcGo l.at ft fc fe slw m (i + 1) (acc ++ [y]) h3 else .bad
              | .bl false => lcGo l.at ft fc fe slw m (i + 1) acc g2
              | _ => .bad) := e2
            cases c with
            | bl k =>
              cases rz
              refine ⟨k, rfl, ?_⟩
              cases k with
              | false => exact ⟨θ5, g2, acc, vals, e2, (((S.ev ev3).ev ev4).ev ev5), R5, hD5, hDn5, ((ra.ev ev3).ev ev4).ev ev5, ev15⟩
              | true =>
                refine ⟨θ5, sl1, g2, S4.ev ev5, R5, ?_⟩
                have e2 : r0 = ((fe sl1 g2).bind fun y h3 => if acc.length < sizeLine then lcGo l.at ft fc fe slw m (i + 1) (acc ++ [y]) h3 else .bad) := e2
                cases e5 : fe sl1 g2 with
                | ok y g3 =>
                  rw [e5] at e2
                  intro θ6 H6 yv ev6 R6 ry
                  have hD6 : H6 D = some (.lst vals) := ev6.ot D _ hD5 hDn5
                  have hDn6 := ev6.apart hDn5 hD5
                  have e2 : r0 = (if acc.length < sizeLine then lcGo l.at ft fc fe slw m (i + 1) (acc ++ [y]) g3 else .bad) := e2
                  have hz : acc.length < sizeLine := by
                    by_cases hz : acc.length < sizeLine
                    · exact hz
                    · rw [if_neg hz] at e2
                      exact absurd e2.symm (fun z => (nbad z).1 rfl)
                  rw [if_pos hz] at e2
                  have hg : Grow H6 (upd H6 D (.lst (vals ++ [yv]))) := Grow.upd hD6 loose_lst
                  have ra6 : RelLs X.K H6 θ6 acc vals := (((ra.ev ev3).ev ev4).ev ev5).ev ev6
                  refine ⟨vals, hD6, by rw [← ra.length]; exact hz, θ6, g3, acc ++ [y], vals ++ [yv], e2, ?_, R6.other hDn6 hD6 loose_lst, upd_same, hDn6, (ra6.append (.cons ry .nil)).mono hg (List.prefix_refl _), (ev15.trans ev6).touch hD hD6 loose_lst⟩
                  have S6 := (((S.ev ev3).ev ev4).ev ev5).ev ev6
                  exact ⟨S6.len, fun j v q => let ⟨x, h1, h2⟩ := S6.val j v q; ⟨x, h1, h2.mono hg (List.prefix_refl _)⟩⟩
                | exc c v g => rw [e5] at e2; exact absurd e2.symm fun z => (nbad z).2 _ _ _ rfl
                | bad => rw [e5] at e2; exact absurd e2.symm fun z => (nbad z).1 rfl
            | _ => exact absurd e2.symm fun z => (nbad z).1 rfl
          | exc c v g => rw [e4] at e2; exact absurd e2.symm fun z => (nbad z).2 _ _ _ rfl
          | bad => rw [e4] at e2; exact absurd e2.symm fun z => (nbad z).1 rfl
        | _ => rw [e3] at e2; exact absurd e2.symm fun z => (nbad z).1 rfl
end
end Ly
end
section
set_option Elab.async false
set_option linter.all false
set_option autoImplicit false
set_option maxRecDepth 100000
/-! Statements. -/
namespace Ly
open PySem PySem.Spec PyProof.Rows L2

def PostS (K : PySem.W.Frag) (w : World) (xc : Nat → Value) (W : L2.WX) (H : Hp) (θ : List Addr) (r : RS) (D : Ends) : Prop := match r with
  | .nx sl h => ∀ θ' H' σ', Ev H H' θ θ' → HR K w H' θ' h → Sl K H' θ' sl σ' → D.nx σ' H'
  | .rt v h => ∀ θ' H' x, Ev H H' θ θ' → HR K w H' θ' h → RelL K H' θ' v x → D.rt x H'
  | .bk sl h => ∀ θ' H' σ', Ev H H' θ θ' → HR K w H' θ' h → Sl K H' θ' sl σ' → D.bk σ' H'
  | .ct sl h => ∀ θ' H' σ', Ev H H' θ θ' → HR K w H' θ' h → Sl K H' θ' sl σ' → D.ct σ' H'
  | .exc c _ sl h => ∀ θ' H' σ' d, Ev H H' θ θ' → HR K w H' θ' h → Sl K H' θ' sl σ' → W (xc c) d σ' H'
  | .bad => False
abbrev sL (X : Cx) (xc : Nat → Value) (W : L2.WX) (f : LS → LH → RS) : TS := fun D σ H => ∃ θ sl h, Sl X.K H θ sl σ ∧ HR X.K X.w H θ h ∧ PostS X.K X.w xc W H θ (f sl h) D
section
variable {K : PySem.W.Frag} {w : World} {xc : Nat → Value} {W : L2.WX} {H H1 : Hp} {θ θ1 : List Addr} {r : RS} {D D' : Ends} {α β : Type} {rel : RelA α β}
theorem PostS.bad (P : PostS K w xc W H θ .bad D) : False := P
theorem PostS.shift (P : PostS K w xc W H θ r D) (ev : Ev H H1 θ θ1) : PostS K w xc W H1 θ1 r D := by
  cases r with
  | nx sl h => exact fun θ' H' x e R q => P θ' H' x (ev.trans e) R q
  | rt sl h => exact fun θ' H' x e R q => P θ' H' x (ev.trans e) R q
  | bk sl h => exact fun θ' H' x e R q => P θ' H' x (ev.trans e) R q
  | ct sl h => exact fun θ' H' x e R q => P θ' H' x (ev.trans e) R q
  | exc c v sl h => exact fun θ' H' σ' d e R q => P θ' H' σ' d (ev.trans e) R q
  | bad => exact P
theorem PostS.st {q : R α} {sl : LS} {σ : L2.St} {k : α → LH → RS} (S : Sl K H θ sl σ) (P : PostS K w xc W H θ (q.st sl k) D) :
    PostA K w xc rel H θ q (fun x H1 => ∃ θ1 a h1, Ev H H1 θ θ1 ∧ HR K w H1 θ1 h1 ∧ rel H1 θ1 a x ∧ PostS K w xc W H1 θ1 (k a h1) D) fun c d H' => W c d σ H' := by
  cases q with
  | ok a h => exact fun θ' H' x e R q => ⟨θ', a, h, e, R, q, PostS.shift (show PostS K w xc W H θ (k a h) D from P) e⟩
  | exc c v h => exact fun θ' H' d e R => P θ' H' σ d e R (S.ev e)
  | bad => exact P
theorem PostS.then {k : LS → LH → RS} (P : PostS K w xc W H θ (r.then k) D) :
    PostS K w xc W H θ r { D with nx := fun σ1 H1 => ∃ θ1 sl1 h1, Sl K H1 θ1 sl1 σ1 ∧ HR K w H1 θ1 h1 ∧ PostS K w xc W H1 θ1 (k sl1 h1) D } := by
  cases r with
  | nx sl h => exact fun θ' H' x e R q => ⟨θ', sl, h, q, R, PostS.shift (show PostS K w xc W H θ (k sl h) D from P) e⟩
  | _ => exact P
theorem PostS.only {ns : List Nat} {σ : L2.St} (P : PostS K w xc W H θ r.only D) : PostT K w H θ ns σ r D.nx := by
  cases r with
  | nx sl h => exact fun θ' H' x e R q _ => P θ' H' x e R q
  | _ => exact (PostS.bad P).elim
end
theorem PSs.imp {X : Cx} {e : List Stmt} {t t' : TS} (h : PSs X e t) (i : ∀ D σ H, t' D σ H → t D σ H) : PSs X e t' := ⟨fun pins s σ H D I q => h.run pins s σ H D I (i _ _ _ q)⟩
section
variable {X : Cx} {xc : Nat → Value} {W : L2.WX} {pos : Pos} {e c : Expr} {st : Stmt} {a b rest : List Stmt} {fe fc : LS → LH → R L} {f g : LS → LH → RS} {ft : L → LS → LH → RS} {ns : List Nat}
theorem s_nil : PSs X [] (sL X xc W fun sl h => .nx sl h) := PSs.imp pss_nil fun D σ H ⟨θ, sl, h, S, R, P⟩ => P θ H σ (Ev.refl _ _) R S
theorem s_cons (h1 : PS X st (sL X xc W f)) (h2 : PSs X rest (sL X xc W g)) : PSs X (st :: rest) (sL X xc W fun sl h => (f sl h).then g) :=
  PSs.imp (pss_cons h1 h2) fun D σ H ⟨θ, sl, h, S, R, P⟩ => ⟨θ, sl, h, S, R, PostS.then P⟩
theorem s_one (h1 : PS X st (sL X xc W f)) : PSs X [st] (sL X xc W f) := pss_one h1
theorem s_pass : PS X (.Pass pos) (sL X xc W fun sl h => .nx sl h) := PS.imp ps_pass fun D σ H ⟨θ, sl, h, S, R, P⟩ => P θ H σ (Ev.refl _ _) R S
theorem s_brk : PS X (.Break pos) (sL X xc W fun sl h => .bk sl h) := PS.imp ps_break fun D σ H ⟨θ, sl, h, S, R, P⟩ => P θ H σ (Ev.refl _ _) R S
theorem s_cnt : PS X (.Continue pos) (sL X xc W fun sl h => .ct sl h) := PS.imp ps_continue fun D σ H ⟨θ, sl, h, S, R, P⟩ => P θ H σ (Ev.refl _ _) R S
theorem s_retn : PS X (.Return none pos) (sL X xc W fun _ h => .rt .non h) := PS.imp ps_retN fun D σ H ⟨θ, sl, h, S, R, P⟩ => P θ H _ (Ev.refl _ _) R .non
theorem s_ret (he : PE X e (eL X xc W fe)) : PS X (.Return (some e) pos) (sL X xc W fun sl h => (fe sl h).st sl fun v h1 => .rt v h1) :=
  PS.imp (ps_ret he) fun D σ H ⟨θ, sl, h, S, R, P⟩ => ⟨θ, sl, h, S, R, PostA.mono (PostS.st S P) fun x H1 ⟨θ1, v, h1, ev, R1, r, P1⟩ => P1 θ1 H1 x (Ev.refl _ _) R1 r⟩
theorem s_expr (he : PE X e (eL X xc W fe)) (hs : swapsWith e none pos.line X.env = pure false) : PS X (.Expr e pos) (sL X xc W fun sl h => (fe sl h).st sl fun _ h1 => .nx sl h1) :=
  PS.imp (ps_expr he hs) fun D σ H ⟨θ, sl, h, S, R, P⟩ => ⟨θ, sl, h, S, R, PostA.mono (PostS.st (rel := RelL X.K) S P) fun x H1 ⟨θ1, v, h1, ev, R1, r, P1⟩ => P1 θ1 H1 σ (Ev.refl _ _) R1 (S.ev ev)⟩
theorem s_set {i : Nat} {x : Str} {pos' : Pos} (hN : X.N.Nodup) (hi : X.N[i]? = some x) (hx : Loc X.env.scope x) (he : PE X e (eL X xc W fe)) (hs : swapsWith e (some (.Name x pos')) pos.line X.env = pure false) (hf : X.fn x = true ∨ X.env.scope.names.lookup x = some .local) :
    PS X (.Assign [.Name x pos'] e pos) (sL X xc W fun sl h => (fe sl h).st sl fun v h1 => .nx (sl.set i (some v)) h1) :=
  PS.imp (ps_set hN hi hx he hs hf) fun D σ H ⟨θ, sl, h, S, R, P⟩ => ⟨θ, sl, h, S, R, PostA.mono (PostS.st (rel := RelL X.K) S P) fun x H1 ⟨θ1, v, h1, ev, R1, r, P1⟩ => P1 θ1 H1 _ (Ev.refl _ _) R1 ((S.ev ev).set i r)⟩
theorem s_asg {tg : Expr} (he : PE X e (eL X xc W fe)) (hg : PG X tg (gL X.K X.w ns ft)) (hs : swapsWithSole [tg] e pos.line X.env = pure false) (hw : swappedStores [tg] e X.env = pure none) (hp : plainX tg = true) :
    PS X (.Assign [tg] e pos) (sL X xc W fun sl h => (fe sl h).st sl fun v h1 => (ft v sl h1).only) :=
  PS.imp (ps_asg he hg hs hw (assign_star hp)) fun D σ H ⟨θ, sl, h, S, R, P⟩ => ⟨θ, sl, h, S, R, PostA.mono (PostS.st (rel := RelL X.K) S P) fun x H1 ⟨θ1, v, h1, ev, R1, r, P1⟩ => ⟨θ1, sl, h1, v, S.ev ev, R1, r, PostS.only P1⟩⟩
theorem s_if (hc : PT X c (bL X xc W fc)) (ha : PSs X a (sL X xc W f)) (hb : PSs X b (sL X xc W g)) : PS X (.If c a b pos) (sL X xc W fun sl h => (fc sl h).st sl fun x h1 => match x with
    | .bl true => f sl h1
    | .bl false => g sl h1
    | _ => .bad) :=
  PS.imp (ps_if hc ha hb) fun D σ H ⟨θ, sl, h, S, R, P⟩ => ⟨θ, sl, h, S, R, PostA.mono (PostS.st (rel := RelL X.K) S P) fun x H1 ⟨θ1, v, h1, ev, R1, r, P1⟩ => by
    cases v with
    | bl k =>
      cases r
      refine ⟨k, rfl, ?_⟩
      cases k with
      | true => exact ⟨θ1, sl, h1, S.ev ev, R1, P1⟩
      | false => exact ⟨θ1, sl, h1, S.ev ev, R1, P1⟩
    | _ => exact (PostS.bad P1).elim⟩
/-- one turn of a loop: what the body's answer makes of the rest -/
def after (go : LS → LH → RS) (r : RS) : RS := match r with
  | .nx sl2 h2 => go sl2 h2
  | .ct sl2 h2 => go sl2 h2
  | .bk sl2 h2 => .nx sl2 h2
  | r => r
theorem turn_end {H0 H1 : Hp} {θ0 θ1 : List Addr} {go : LS → LH → RS} {q : RS} {r0 : RS} {D : Ends} {N : L2.St → Hp → Prop} (P0 : PostS X.K X.w xc W H0 θ0 r0 D) (e : r0 = after go q) (ev : Ev H0 H1 θ0 θ1)
    (hN : ∀ sl2 h2 θ' H' σ', r0 = go sl2 h2 → Ev H0 H' θ0 θ' → HR X.K X.w H' θ' h2 → Sl X.K H' θ' sl2 σ' → N σ' H') : PostS X.K X.w xc W H1 θ1 q { D with nx := N, ct := N, bk := D.nx } := by
  cases q with
  | nx sl2 h2 => exact fun θ' H' σ' ev' R S => hN sl2 h2 θ' H' σ' e (ev.trans ev') R S
  | ct sl2 h2 => exact fun θ' H' σ' ev' R S => hN sl2 h2 θ' H' σ' e (ev.trans ev') R S
  | bk sl2 h2 =>
    have e : r0 = .nx sl2 h2 := e
    rw [e] at P0
    exact fun θ' H' σ' ev' R S => P0 θ' H' σ' (ev.trans ev') R S
  | rt v h =>
    have e : r0 = .rt v h := e
    rw [e] at P0
    exact fun θ' H' σ' ev' R S => P0 θ' H' σ' (ev.trans ev') R S
  | exc c v sl h =>
    have e : r0 = .exc c v sl h := e
    rw [e] at P0
    exact fun θ' H' σ' d ev' R S => P0 θ' H' σ' d (ev.trans ev') R S
  | bad =>
    have e : r0 = .bad := e
    rw [e] at P0
    exact P0
theorem while_eq {c : LS → LH → R L} {b : LS → LH → RS} {n : Nat} {sl : LS} {h : LH} : whileGo c b (n + 1) sl h = (c sl h).st sl fun x h1 => match x with
    | .bl true => after (whileGo c b n) (b sl h1)
    | .bl false => .nx sl h1
    | _ => .bad := by
  show (c sl h).st sl _ = _
  congr 1
theorem for_eq {nx : LH → Nat → Option (Option L)} {tg : L → LS → LH → RS} {b : LS → LH → RS} {n i : Nat} {sl : LS} {h : LH} : forGo nx tg b (n + 1) i sl h = match nx h i with
    | none => .bad
    | some none => .nx sl h
    | some (some x) => match tg x sl h with
      | .nx sl1 h1 => after (forGo nx tg b n (i + 1)) (b sl1 h1)
      | _ => .bad := by
  show (match nx h i with | none => _ | some none => _ | some (some x) => _) = _
  cases nx h i with
  | none => rfl
  | some o =>
    cases o with
    | none => rfl
    | some x =>
      show (match tg x sl h with | .nx sl1 h1 => _ | _ => _) = (match tg x sl h with | .nx sl1 h1 => _ | _ => _)
      cases tg x sl h with
      | nx sl1 h1 =>
        show (match b sl1 h1 with | .nx sl2 h2 => _ | .ct sl2 h2 => _ | .bk sl2 h2 => _ | r => r) = after _ _
        cases b sl1 h1 <;> rfl
      | _ => rfl
theorem s_while {body : List Stmt} (hp : PassesOwn (model X.prog X.w) X.A X.env X.xe) (hc : PT X c (bL X xc W fc)) (hb : PSs X body (sL X xc W f)) : PS X (.While c body [] pos) (sL X xc W fun sl h => whileGo fc f whileFuel sl h) := by
  refine PS.imp (ps_while hp hc hb) fun D σ H ⟨θ, sl, h, S, R, P⟩ => ?_
  have P : PostS X.K X.w xc W H θ (whileGo fc f whileFuel sl h) D := P
  generalize hr0 : whileGo fc f whileFuel sl h = r0 at P
  refine ⟨fun m σ' H' => ∃ θ' sl' h', r0 = whileGo fc f m sl' h' ∧ Sl X.K H' θ' sl' σ' ∧ HR X.K X.w H' θ' h' ∧ Ev H H' θ θ', ⟨whileFuel, θ, sl, h, hr0.symm, S, R, Ev.refl _ _⟩, ?_⟩
  rintro m σ1 H1 ⟨θ1, sl1, h1, e0, S1, R1, ev1⟩
  cases m with
  | zero =>
    have e0 : r0 = .bad := e0
    rw [e0] at P
    exact P.bad.elim
  | succ m =>
    rw [while_eq] at e0
    refine ⟨θ1, sl1, h1, S1, R1, ?_⟩
    cases e1 : fc sl1 h1 with
    | bad => rw [e1] at e0; rw [show r0 = .bad from e0] at P; exact P.bad.elim
    | exc c v h2 =>
      rw [e1] at e0
      rw [show r0 = .exc c v sl1 h2 from e0] at P
      exact fun θ' H' d ev R => P θ' H' σ1 d (ev1.trans ev) R (S1.ev ev)
    | ok x h2 =>
      rw [e1] at e0
      intro θ2 H2 v ev2 R2 r
      cases x with
      | bl k =>
        cases r
        refine ⟨k, rfl, ?_⟩
        cases k with
        | true =>
          refine ⟨fun σ' H' => ∃ θ' sl' h', r0 = whileGo fc f m sl' h' ∧ Sl X.K H' θ' sl' σ' ∧ HR X.K X.w H' θ' h' ∧ Ev H H' θ θ', fun σ' H' q => ⟨m, Nat.lt_succ_self m, q⟩, θ2, sl1, h2, S1.ev ev2, R2, ?_⟩
          exact turn_end P (show r0 = after (whileGo fc f m) (f sl1 h2) from e0) (ev1.trans ev2) fun sl2 h2 θ' H' σ' e ev R S => ⟨θ', sl2, h2, e, S, R, ev⟩
        | false =>
          rw [show r0 = .nx sl1 h2 from e0] at P
          exact P θ2 H2 σ1 (ev1.trans ev2) R2 (S1.ev ev2)
      | _ => rw [show r0 = .bad from e0] at P; exact P.bad.elim
theorem s_for {tg iter : Expr} {body : List Stmt} {fi : LS → LH → R LIt} (hp : PassesOwn (model X.prog X.w) X.A X.env X.xe) (hc : X.calm = true) (hi : PI X tg iter (iL X xc W fi)) (hg : PG X tg (gL X.K X.w ns ft)) (hb : PSs X body (sL X xc W f))
    (hs : ∀ x, foldedSetIterable iter X.env x = pure x) : PS X (.For tg iter body [] pos) (sL X xc W fun sl h => (fi sl h).st sl fun w h1 => forGo w.at ft f whileFuel 0 sl h1) := by
  refine PS.imp (ps_for hp hc hi hg hb hs) fun D σ H ⟨θ, sl, h, S, R, P⟩ => ?_
  refine ⟨θ, sl, h, S, R, PostA.mono (PostS.st (rel := ItOk X.K X.w) S P) fun J H1 ⟨θ1, l, h1, ev1, R1, it, P1⟩ => ?_⟩
  generalize hr0 : forGo l.at ft f whileFuel 0 sl h1 = r0 at P1
  refine ⟨fun i m σ' H' => ∃ θ' sl' h', r0 = forGo l.at ft f m i sl' h' ∧ Sl X.K H' θ' sl' σ' ∧ HR X.K X.w H' θ' h' ∧ Ev H1 H' θ1 θ', ⟨whileFuel, θ1, sl, h1, hr0.symm, S.ev ev1, R1, Ev.refl _ _⟩, ?_⟩
  rintro i m σ2 H2 ⟨θ2, sl2, h2, e0, S2, R2, ev2⟩
  cases m with
  | zero =>
    rw [show r0 = .bad from e0] at P1
    exact P1.bad.elim
  | succ m =>
    rw [for_eq] at e0
    obtain ⟨stop, go⟩ := it θ2 H2 h2 i ev2 R2
    cases e1 : l.at h2 i with
    | none => rw [e1] at e0; rw [show r0 = .bad from e0] at P1; exact P1.bad.elim
    | some o =>
      rw [e1] at e0
      cases o with
      | none =>
        rw [show r0 = .nx sl2 h2 from e0] at P1
        exact .inl ⟨stop e1, P1 θ2 H2 σ2 ev2 R2 S2⟩
      | some x =>
        obtain ⟨hgo, hy⟩ := go x e1
        refine .inr ⟨hgo, fun σ' H' => ∃ θ' sl' h', r0 = forGo l.at ft f m (i + 1) sl' h' ∧ Sl X.K H' θ' sl' σ' ∧ HR X.K X.w H' θ' h' ∧ Ev H1 H' θ1 θ', fun σ' H' q => ⟨m, Nat.lt_succ_self m, q⟩, fun v H3 y => ?_⟩
        obtain ⟨ev3, R3, rx⟩ := hy v H3 y
        refine ⟨θ2, sl2, h2, x, S2.ev ev3, R3, rx, ?_⟩
        cases e3 : ft x sl2 h2 with
        | nx sl4 h4 =>
          intro θ4 H4 σ4 ev4 R4 S4 _
          have e0 : r0 = (match ft x sl2 h2 with
            | .nx sl1 h1 => after (forGo l.at ft f m (i + 1)) (f sl1 h1)
            | _ => .bad) := e0
          rw [e3] at e0
          exact ⟨θ4, sl4, h4, S4, R4, turn_end P1 (show r0 = after (forGo l.at ft f m (i + 1)) (f sl4 h4) from e0) ((ev2.trans ev3).trans ev4) fun sl5 h5 θ' H' σ' e ev R S => ⟨θ', sl5, h5, e, S, R, ev⟩⟩
        | _ =>
          have e0 : r0 = (match ft x sl2 h2 with
            | .nx sl1 h1 => after (forGo l.at ft f m (i + 1)) (f sl1 h1)
            | _ => .bad) := e0
          rw [e3] at e0
          rw [show r0 = .bad from e0] at P1
          exact P1.bad.elim
end
end Ly
end
section
set_option Elab.async false
set_option linter.all false
set_option autoImplicit false
set_option maxRecDepth 100000
/-! Comprehensions as values and as statements; pairs stored; raise, try. -/
namespace Ly
open PySem PySem.Spec PyProof.Rows L2
section
variable {X : Cx} {xc : Nat → Value} {W : L2.WX} {tg iter elt : Expr} {ifs : List Expr} {scope : Scope} {own : List (Str × Nat)} {pos : Pos} {fi : LS → LH → R LIt} {ft : L → LS → LH → RS} {fc fe : LS → LH → R L} {ns : List Nat}
def lcL (fi : LS → LH → R LIt) (ft : L → LS → LH → RS) (fc fe : LS → LH → R L) (vs : List Nat) : LS → LH → R L := fun sl h =>
  (fi sl h).bind fun w h1 => (noexc (lcGo w.at ft fc fe (wipeL sl vs) whileFuel 0 [] h1)).bind fun ys h2 => .ok (.ref h2.length) (h2 ++ [.lst ys])
/-- the condition of a comprehension -/
def TestOk (X : Cx) (scope : Scope) (ifs : List Expr) (fc : LS → LH → R L) (xc : Nat → Value) (tt : TT) : Prop :=
  (∀ (s : Shared) (H : Hp) (C : Addr) (cl : List (Str × Addr)) (fp : List Addr), PTs (X.blk s H scope (compEnvC scope cl C X.env) fp) ifs tt) ∧ ∀ σ H Q, tTest (tA X.K X.w xc W0 (RelL X.K) fc) σ H Q → tt σ H Q
theorem test_none : TestOk X scope [] (fun _ h => .ok (.bl true) h) xc tYes := ⟨fun _ _ _ _ _ => pts_nil, fun σ H Q ⟨θ, sl, h, S, R, P⟩ => by
  obtain ⟨k, e, q⟩ := P.here R (.bl _)
  cases e
  exact q⟩
theorem test_one {c : Expr} (h : ∀ (s : Shared) (H : Hp) (C : Addr) (cl : List (Str × Addr)) (fp : List Addr), PT (X.blk s H scope (compEnvC scope cl C X.env) fp) c (tTest (tA X.K X.w xc W0 (RelL X.K) fc))) : TestOk X scope [c] fc xc (tTest (tA X.K X.w xc W0 (RelL X.K) fc)) :=
  ⟨fun s H C cl fp => pts_one (h s H C cl fp), fun _ _ _ q => q⟩
theorem e_lc {tt : TT} (hc : X.calm = true) (hN : X.N.Nodup) (hi : PI X tg iter (iL X xc W fi)) (ok : BlkOk X.N X.env.scope scope own) (hns : ∀ i ∈ ns, i ∈ own.map (·.2))
    (hg : ∀ (s : Shared) (H : Hp) (C : Addr) (cl : List (Str × Addr)) (fp : List Addr), PG (X.blk s H scope (compEnvC scope cl C X.env) fp) tg (gL X.K X.w ns ft)) (ht : TestOk X scope ifs fc xc tt)
    (he : ∀ (s : Shared) (H : Hp) (C : Addr) (cl : List (Str × Addr)) (fp : List Addr), PE (X.blk s H scope (compEnvC scope cl C X.env) fp) elt (tA X.K X.w xc W0 (RelL X.K) fe)) (hs : ∀ x, foldedSetIterable iter X.env x = pure x) :
    PE X (.ListComp elt [⟨tg, iter, ifs, 0⟩] scope pos) (eL X xc W (lcL fi ft fc fe (own.map (·.2)))) :=
  PE.imp (pe_lc hc hN hi ok hg ht.1 he hs) fun σ H Q h => lc_in hns ht.2 h
theorem s_setLc {i : Nat} {y : Str} {py spos : Pos} {tt : TT} (hc : X.calm = true) (hN : X.N.Nodup) (hy : X.N[i]? = some y) (hyl : X.env.scope.names.lookup y = some .local)
    (hsw : swapsWith (.ListComp elt [⟨tg, iter, ifs, 0⟩] scope pos) (some (.Name y py)) spos.line X.env = pure true) (hi : PI X tg iter (iL X xc W fi)) (ok : BlkOk X.N X.env.scope scope own) (hns : ∀ i ∈ ns, i ∈ own.map (·.2))
    (hg : ∀ (s : Shared) (H : Hp) (C : Addr) (cl : List (Str × Addr)) (fp : List Addr), PG (X.blk s H scope (compEnvC scope cl C X.env) fp) tg (gL X.K X.w ns ft)) (ht : TestOk X scope ifs fc xc tt)
    (he : ∀ (s : Shared) (H : Hp) (C : Addr) (cl : List (Str × Addr)) (fp : List Addr), PE (X.blk s H scope (compEnvC scope cl C X.env) fp) elt (tA X.K X.w xc W0 (RelL X.K) fe)) (hs : ∀ x, foldedSetIterable iter X.env x = pure x) :
    PS X (.Assign [.Name y py] (.ListComp elt [⟨tg, iter, ifs, 0⟩] scope pos) spos) (sL X xc W fun sl h => (lcL fi ft fc fe (own.map (·.2)) sl h).st sl fun v h1 => .nx (sl.set i (some v)) h1) :=
  PS.imp (ps_setLc hc hN hy hyl hsw hi ok hg ht.1 he hs) fun D σ H ⟨θ, sl, h, S, R, P⟩ => lc_in hns ht.2 ⟨θ, sl, h, S, R, PostA.mono (PostS.st (rel := RelL X.K) S P) fun x H1 ⟨θ1, v, h1, ev, R1, r, P1⟩ => P1 θ1 H1 _ (Ev.refl _ _) R1 ((S.ev ev).set i r)⟩
end

/-! ### pairs stored -/
section
variable {X : Cx} {xc : Nat → Value} {W : L2.WX} {pos : Pos} {es : List Expr} {fs : LS → LH → R (List L)} {f : LS → LH → RS}
def tupL (fs : LS → LH → R (List L)) : LS → LH → R L := fun sl h => (fs sl h).bind fun vs h1 => if vs.length ≤ sizeLine then .ok (.tup vs) h1 else .bad
theorem st_tup {K : PySem.W.Frag} {w : World} {H : Hp} {θ : List Addr} {sl : LS} {h : LH} {σ : L2.St} {k : L → LH → RS} {D : Ends} (S : Sl K H θ sl σ) (P : PostS K w xc W H θ ((tupL fs sl h).st sl k) D) :
    PostA K w xc (RelLs K) H θ (fs sl h) (fun x H1 => ∃ θ1 a h1, Ev H H1 θ θ1 ∧ HR K w H1 θ1 h1 ∧ RelLs K H1 θ1 a x ∧ PostS K w xc W H1 θ1 (k (.tup a) h1) D) fun c d H' => W c d σ H' := by
  refine PostS.st S (k := fun vs h1 => k (.tup vs) h1) ?_
  unfold tupL at P
  cases e : fs sl h with
  | ok vs h1 =>
    rw [e] at P
    have P : PostS K w xc W H θ (R.st (if vs.length ≤ sizeLine then .ok (.tup vs) h1 else .bad) sl k) D := P
    by_cases hz : vs.length ≤ sizeLine
    · rw [if_pos hz] at P; exact P
    · rw [if_neg hz] at P; exact (PostS.bad P).elim
  | exc c v h1 => rw [e] at P; exact P
  | bad => rw [e] at P; exact P
def two2 (i j : Nat) (v : L) (sl : LS) (h : LH) : RS := match v with
  | .tup [a, b] => .nx ((sl.set i (some a)).set j (some b)) h
  | _ => .bad
def three3 (i j l : Nat) (v : L) (sl : LS) (h : LH) : RS := match v with
  | .tup [a, b, c] => .nx (((sl.set i (some a)).set j (some b)).set l (some c)) h
  | _ => .bad
theorem s_par {i j : Nat} {x y : Str} {a b : Expr} {px py pt : Pos} {kt k2 pt2} (hc : X.calm = true) (hN : X.N.Nodup) (hi : X.N[i]? = some x) (hj : X.N[j]? = some y) (hij : i ≠ j)
    (hx : X.env.scope.names.lookup x = some .local) (hy : X.env.scope.names.lookup y = some .local) (ha : PA X [a, b] (aL X xc W fs))
    (hw : swappedStores [.Tuple [.Name x px, .Name y py] kt pt] (.Tuple [a, b] k2 pt2) X.env = pure (some [x, y])) :
    PS X (.Assign [.Tuple [.Name x px, .Name y py] kt pt] (.Tuple [a, b] k2 pt2) pos) (sL X xc W fun sl h => (tupL fs sl h).st sl fun v h1 => two2 i j v sl h1) := by
  refine PS.imp (ps_par hc hN hi hj hij hx hy ha hw) fun D σ H ⟨θ, sl, h, S, R, P⟩ => ?_
  refine ⟨θ, sl, h, S, R, PostA.mono (st_tup S P) fun vs H1 ⟨θ1, as, h1, ev, R1, r, P1⟩ => ?_⟩
  cases r with
  | nil => exact (PostS.bad P1).elim
  | cons r1 r =>
    cases r with
    | nil => exact (PostS.bad P1).elim
    | cons r2 r =>
      cases r with
      | nil => exact ⟨_, _, rfl, P1 θ1 H1 _ (Ev.refl _ _) R1 (((S.ev ev).set i r1).set j r2)⟩
      | cons _ _ => exact (PostS.bad P1).elim
theorem s_par3 {i j l : Nat} {x y z : Str} {a b c : Expr} {px py pz pt : Pos} {kt k2 pt2} (hc : X.calm = true) (hN : X.N.Nodup) (hi : X.N[i]? = some x) (hj : X.N[j]? = some y) (hl : X.N[l]? = some z) (hij : i ≠ j) (hil : i ≠ l) (hjl : j ≠ l)
    (hx : X.env.scope.names.lookup x = some .local) (hy : X.env.scope.names.lookup y = some .local) (hz : X.env.scope.names.lookup z = some .local) (ha : PA X [a, b, c] (aL X xc W fs))
    (hw : swappedStores [.Tuple [.Name x px, .Name y py, .Name z pz] kt pt] (.Tuple [a, b, c] k2 pt2) X.env = pure (some [x, y, z])) :
    PS X (.Assign [.Tuple [.Name x px, .Name y py, .Name z pz] kt pt] (.Tuple [a, b, c] k2 pt2) pos) (sL X xc W fun sl h => (tupL fs sl h).st sl fun v h1 => three3 i j l v sl h1) := by
  refine PS.imp (ps_par3 hc hN hi hj hl hij hil hjl hx hy hz ha hw) fun D σ H ⟨θ, sl, h, S, R, P⟩ => ?_
  refine ⟨θ, sl, h, S, R, PostA.mono (st_tup S P) fun vs H1 ⟨θ1, as, h1, ev, R1, r, P1⟩ => ?_⟩
  cases r with
  | nil => exact (PostS.bad P1).elim
  | cons r1 r =>
    cases r with
    | nil => exact (PostS.bad P1).elim
    | cons r2 r =>
      cases r with
      | nil => exact (PostS.bad P1).elim
      | cons r3 r =>
        cases r with
        | nil => exact ⟨_, _, _, rfl, P1 θ1 H1 _ (Ev.refl _ _) R1 ((((S.ev ev).set i r1).set j r2).set l r3)⟩
        | cons _ _ => exact (PostS.bad P1).elim
end

/-! ### raise, try -/
/-- an exception's own __init__(self, y): self.f = y -/
def spI (K : PySem.W.Frag) (f : Str) : Sp := fun vs H Q _ => ∃ a C y, vs = [.ref a, y] ∧ OexC K C ∧ PySem.W.findIn K (.ref C) f = some none ∧ H a = some (exo a C none) ∧
  ∀ dx, H dx = none → dx ≠ a → Q .non (upd (upd H dx (exd dx [(f, y)])) a (exo a C (some dx)))
/-- the exception class at C, called by the name x -/
def ExcAt (X : Cx) (x : Str) (C : Addr) : Prop := ∃ (fI : Addr) (k : Nat) (fd : FuncData) (ps : List Str) (f : Str), OexC X.K C ∧ PySem.W.findIn X.K (.ref C) "__init__" = some (some (.ref fI)) ∧ PySem.W.typeIn X.K (.ref fI) = some (.type "function") ∧
  PySem.W.findIn X.K (.ref C) f = some none ∧ FnOk X.prog X.w X.K X.mg X.base (L2.CX X.prog X.w) k fI fd ps (spI X.K f) ∧ Room (k + 1) X.A ∧ Binds X.K fd ps [] ∧ X.mg x = some (.ref C)
section
variable {X : Cx} {xc : Nat → Value} {W : L2.WX} {pos p cpos : Pos} {e : Expr} {fe : LS → LH → R L} {x : Str} {C : Addr} {c : Nat}
theorem pass_none : Passes (L2.CX X.prog X.w) X (fun _ _ _ => False) := fun _ _ _ _ _ _ _ h => by
  obtain ⟨_, _, _, _, _, _, _, _, _, _, _, _, z⟩ := h
  exact z.elim
theorem s_rai (hc : X.calm = true) (tk : Takes X W) (E : ExcAt X x C) (hx : xc c = .ref C) (hg : Gl X x) (he : PE X e (eL X xc W fe)) (hp : plainX e = true) (hdb : (x == ("__debug__" : Str)) = false) :
    PS X (.Raise (some (.Call (.Name x p) [e] [] cpos)) none pos) (sL X xc W fun sl h => (fe sl h).st sl fun v h1 => .exc c v sl h1) := by
  obtain ⟨fI, k, fd, ps, f, T, iC, tI, hno, F1, hr, hb, hm⟩ := E
  refine PS.imp (ps_raise hc tk (pmk_oex (dvs := []) (ds := []) T iC tI F1 hr hb .nil pass_none hg hm (pa_cons he pa_nil (star_plain hp)) hdb (star_plain hp) rfl)) fun D σ H ⟨θ, sl, h, S, R, P⟩ => ?_
  refine ⟨θ, sl, h, S, R, PostA.mono (PostS.st (rel := RelL X.K) S P) fun v H1 ⟨θ1, y, h1, ev, R1, r, P1⟩ => ?_⟩
  refine ⟨by simp, fun a ha => ⟨a, C, v, rfl, T, hno, upd_same, fun dx hdx hda => ⟨rfl, dx, [(f, v)], upd_same, ?_, ?_, ?_⟩⟩⟩
  · rw [upd_ne hda, upd_same]
  · rw [upd_ne hda] at hdx; exact hdx
  · have hd1 : H1 dx = none := by rw [upd_ne hda] at hdx; exact hdx
    have e : upd (del (upd (upd (upd H1 a (exo a C none)) dx (exd dx [(f, v)])) a (exo a C (some dx))) a) dx (.xd [(f, v)]) = upd H1 dx (.xd [(f, v)]) := by
      funext b
      by_cases hb : b = dx
      · rw [hb, upd_same, upd_same]
      · rw [upd_ne hb, upd_ne hb]
        by_cases hba : b = a
        · rw [hba, del_same, ha]
        · rw [del_ne hba, upd_ne hba, upd_ne hb, upd_ne hba]
    rw [e, ← hx]
    exact P1 θ1 _ σ (some dx) (Ev.skip hd1) (R1.skip hd1) ((S.ev ev).ev (Ev.skip hd1))
variable {body : List Stmt} {b₀ : Stmt} {suite : List Stmt} {np pos' : Pos} {fb fsu : LS → LH → RS} {cv : Value}
def tryL (c : Nat) (fb fsu : LS → LH → RS) : LS → LH → RS := fun sl h => match fb sl h with
  | .exc d v sl1 h1 => if d = c then fsu sl1 h1 else .bad
  | r => r
theorem s_try (hs : X.stack = X.env :: X.outer) (hf : X.env.frame = some X.env.locals) (hc : Names X x cv) (hx : xc c = cv) (hm : PySem.W.exmOne X.K cv cv = some true) (tk : Takes X W)
    (hb : ∀ (W : L2.WX) (pn : List (Addr × Obj)) (xe : Value → Shared → Prop), Takes (X.tr pn xe) W → PassesOwn (model X.prog X.w) X.A X.env xe → PSs (X.tr pn xe) body (sL X xc W fb))
    (hsu : ∀ (a : Addr) (pn : List (Addr × Obj)), PSs (X.suite a pn) (b₀ :: suite) (sL X xc W fsu)) :
    PS X (.Try body [.ExceptHandler (some (.Name x np)) none (b₀ :: suite) pos'] [] [] pos) (sL X xc W (tryL c fb fsu)) := by
  refine PS.imp (ps_try_only hs hf hc tk hb (fun a oe _ _ pn _ _ => hsu a ((a, oe) :: pn))) fun D σ H ⟨θ, sl, h, S, R, P⟩ => ?_
  refine ⟨θ, sl, h, S, R, ?_⟩
  unfold tryL at P
  cases e : fb sl h with
  | exc d v sl1 h1 =>
    rw [e] at P
    intro θ' H' σ' dd ev R' S'
    have P2 : PostS X.K X.w xc W H θ (if d = c then fsu sl1 h1 else .bad) D := P
    by_cases hd : d = c
    · rw [if_pos hd] at P2
      exact ⟨true, by rw [hd, hx]; exact hm, fun _ a _ => ⟨θ', sl1, h1, S', R', P2.shift ev⟩, fun z => nomatch z⟩
    · rw [if_neg hd] at P2; exact P2.bad.elim
  | nx _ _ => rw [e] at P; exact P
  | rt _ _ => rw [e] at P; exact P
  | bk _ _ => rw [e] at P; exact P
  | ct _ _ => rw [e] at P; exact P
  | bad => rw [e] at P; exact P
end
end Ly
end
section
set_option Elab.async false
set_option linter.all false
set_option autoImplicit false
set_option maxRecDepth 100000
/-! Terms against the tree: expressions. -/
namespace Ly
open PySem PySem.Spec PyProof.Rows L2

/-! ### shapes -/
def notSuper : Expr → Bool
  | .Call _ [] [] _ => false
  | _ => true
theorem attr_plain {o : Expr} {n : Str} {env : Env} {m : Sem Value} (h : notSuper o = true) : attributeBase o n env m = m := by
  cases o with
  | Call f as ks p =>
    cases as with
    | nil =>
      cases ks with
      | nil => cases h
      | cons _ _ => cases f <;> rfl
    | cons _ _ => cases f <;> rfl
  | _ => rfl
def plainT : Expr → Bool
  | .UnaryOp _ _ _ => false
  | .BoolOp _ _ _ => false
  | .IfExp _ _ _ _ => false
  | .Compare _ _ _ _ => false
  | _ => true
theorem test_plain {a : Expr} {env : Env} (h : plainT a = true) (whole : Sem Value) : isTrue a env whole = (do let v ← whole; standAt a.pos; holding [v] (truthy v)) := by
  cases a <;> first | rfl | cases h
def plainW : Expr → Bool
  | .Set _ _ _ => false
  | _ => true
theorem walk_plain {a : Expr} {env : Env} (h : plainW a = true) (x : Value) : foldedSetIterable a env x = pure x := by
  cases a <;> first | rfl | cases h
def notComp : Expr → Bool
  | .ListComp _ _ _ _ => false
  | .SetComp _ _ _ _ => false
  | .DictComp _ _ _ _ _ => false
  | _ => true
theorem swaps_plain {a : Expr} {t : Option Expr} {l : Nat} {env : Env} (h : notComp a = true) : swapsWith a t l env = pure false := by
  cases a <;> first | rfl | cases h

/-! ### the static part -/
structure Sg where
  fns : List Str
  kws : List (Nat × List Str × List Nat)
  exs : List Str
  gls : List Str
  gds : List Str
structure Lc where
  N : List Str
  sc : Scope
  st : Str → Bool
def vis (sc : Scope) (x : Str) : Bool := match sc.names.lookup x with
  | some .local => true
  | some .cell => true
  | some .free => true
  | _ => false
theorem vis_ok {sc : Scope} {x : Str} (h : vis sc x = true) : Vis sc x := by
  unfold vis at h
  unfold Vis
  split at h <;> first | (exact .inl (by assumption)) | (exact .inr (.inl (by assumption))) | (exact .inr (.inr (by assumption))) | cases h
def gl? (sc : Scope) (x : Str) : Bool := (match sc.names.lookup x with
  | some .globalImplicit => true
  | _ => false) && !(x == ("__debug__" : Str))
theorem gl_ok {X : Cx} {x : Str} (h : gl? X.env.scope x = true) : Gl X x ∧ (x == ("__debug__" : Str)) = false := by
  unfold gl? at h
  rw [Bool.and_eq_true] at h
  obtain ⟨h1, h2⟩ := h
  refine ⟨?_, by simpa using h2⟩
  show X.env.scope.names.lookup x = some .globalImplicit
  split at h1
  · assumption
  · cases h1
/-- may be stored -/
def sto (l : Lc) (x : Str) : Bool := match l.sc.names.lookup x with
  | some .local => true
  | some .cell => l.st x
  | _ => false
def name? (x : Str) (a : Expr) : Bool := match a with
  | .Name y _ => decide (x = y)
  | _ => false
def kwNames (kws : List Keyword) : List Str := kws.filterMap (·.arg)
def ownP (N : List Str) (own : List Nat) : List (Str × Nat) := own.map fun i => (N.getD i "", i)
theorem ownP_snd (N : List Str) (own : List Nat) : (ownP N own).map (·.2) = own := by
  unfold ownP
  rw [List.map_map]
  exact (List.map_congr_left fun _ _ => rfl).trans (List.map_id own)
mutual
def T.names : T → List Nat
  | .name i => [i]
  | .tup ts => Ts.names ts
  | .sub _ _ => []
def Ts.names : Ts → List Nat
  | .nil => []
  | .cons t ts => T.names t ++ Ts.names ts
end
def E.isTrue : E → Bool
  | .bl true => true
  | _ => false
mutual
/-- t: as a test -/
def chkX (g : Sg) (l : Lc) (t : Bool) : E → Expr → Bool
  | .var i, a => (match a with
    | .Name x _ => decide (l.N[i]? = some x) && vis l.sc x && !(x == ("__debug__" : Str)) && !(x == ("__classdict__" : Str))
    | _ => false)
  | .int i, a => !t && (match a with
    | .Constant (.int j) _ _ => decide (i = j)
    | _ => false)
  | .str x, a => !t && (match a with
    | .Constant (.str y) _ _ => decide (x = y)
    | _ => false)
  | .bl x, a => (match a with
    | .Constant (.bool y) _ _ => decide (x = y)
    | _ => false)
  | .non, a => !t && (match a with
    | .Constant .none _ _ => true
    | _ => false)
  | .glo x, a => !t && (match a with
    | .Name y _ => decide (x = y) && gl? l.sc x && g.gls.contains x
    | _ => false)
  | .tup es, a => !t && (match a with
    | .Tuple as _ _ => chkEs g l es as
    | _ => false)
  | .lst es, a => !t && (match a with
    | .List as _ => chkEs g l es as
    | _ => false)
  | .dict, a => !t && (match a with
    | .Dict [] [] _ => true
    | _ => false)
  | .bin op x y, a => !t && (match a with
    | .BinOp a op' b _ => decide (op = op') && chkX g l false x a && chkX g l false y b
    | _ => false)
  | .neg x, a => !t && (match a with
    | .UnaryOp .USub a _ => chkX g l false x a
    | _ => false)
  | .not x, a => (match a with
    | .UnaryOp .Not a _ => chkX g l t x a
    | _ => false)
  | .cmp op x y, a => (match a with
    | .Compare a [op'] [b] _ => decide (op = op') && chkX g l false x a && chkX g l false y b && !behindInMarks op b
    | _ => false)
  | .chain op op2 x y z, a => (match a with
    | .Compare a [op', op2'] [b, c] _ => decide (op = op') && decide (op2 = op2') && chkX g l false x a && chkX g l false y b && chkX g l false z c && !lastMarks [op, op2] [b, c]
    | _ => false)
  | .and x y, a => (match a with
    | .BoolOp .And (a :: b :: rest) p => chkX g l t x a && (match rest with
      | [] => chkX g l t y b
      | c :: r => chkX g l t y (.BoolOp .And (b :: c :: r) p))
    | _ => false)
  | .or x y, a => (match a with
    | .BoolOp .Or (a :: b :: rest) p => chkX g l t x a && (match rest with
      | [] => chkX g l t y b
      | c :: r => chkX g l t y (.BoolOp .Or (b :: c :: r) p))
    | _ => false)
  | .ife c x y, a => !t && (match a with
    | .IfExp c' a b _ => chkX g l true c c' && chkX g l false x a && chkX g l false y b
    | _ => false)
  | .idx x y, a => (match a with
    | .Subscript a b _ => plainI b && chkX g l false x a && chkX g l false y b
    | _ => false)
  | .slc x y z, a => !t && (match a with
    | .Subscript a (.Slice lo hi none _) _ => chkX g l false x a && (match lo with
      | none => y.isNon
      | some b => !y.isNon && chkX g l false y b) && (match hi with
      | none => z.isNon
      | some b => !z.isNon && chkX g l false z b)
    | _ => false)
  | .gdict x y, a => !t && (match a with
    | .Subscript (.Name x' _) b _ => decide (x = x') && gl? l.sc x && g.gds.contains x && plainI b && chkX g l false y b
    | _ => false)
  | .lrg x, a => !t && (match a with
    | .Call (.Name n1 _) [.Call (.Name n2 _) [b] [] _] [] _ => decide (n1 = "list") && decide (n2 = "range") && gl? l.sc "list" && gl? l.sc "range" && plainX b && chkX g l false x b
    | _ => false)
  | .call f es, a => (match a with
    | .Call (.Name x _) as [] _ => decide (g.fns[f]? = some x) && gl? l.sc x && chkEs g l es as
    | _ => false)
  | .callk f es pm, a => !t && (match a with
    | .Call (.Name x _) [] kws _ => decide (g.fns[f]? = some x) && gl? l.sc x && kws.all (·.arg.isSome) && decide ((f, kwNames kws, pm) ∈ g.kws) && chkKw g l es kws
    | _ => false)
  | .blt f es, a => (match a with
    | .Call (.Name x _) (b :: bs) [] _ => decide (x = bltN f) && gl? l.sc x && chkEs g l es (b :: bs)
    | _ => false)
  | .meth m x es, a => !t && (match a with
    | .Call (.Attribute o n apos) as [] pos => decide (n = mthN m) && notSuper o && (apos.endLine == pos.line) && decide (as.length < 30) && chkX g l false x o && chkEs g l es as
    | _ => false)
  | .lc own t' i c e, a => !t && (match a with
    | .ListComp elt [⟨tg, iter, ifs, 0⟩] scope _ => blkC l.N l.sc scope (ownP l.N own) && (T.names t').all (fun i => own.contains i) && chkT g ⟨l.N, relS scope l.sc, fun x => scope.names.lookup x == some .cell⟩ t' tg && chkI g l i tg iter && plainW iter &&
      chkX g ⟨l.N, relS scope l.sc, fun x => scope.names.lookup x == some .cell⟩ false e elt && (match ifs with
        | [] => c.isTrue
        | [b] => chkX g ⟨l.N, relS scope l.sc, fun x => scope.names.lookup x == some .cell⟩ true c b
        | _ => false)
    | _ => false)
def chkEs (g : Sg) (l : Lc) : Es → List Expr → Bool
  | .nil, as => as.isEmpty
  | .cons e es, as => (match as with
    | a :: as => plainX a && chkX g l false e a && chkEs g l es as
    | [] => false)
def chkKw (g : Sg) (l : Lc) : Es → List Keyword → Bool
  | .nil, ks => ks.isEmpty
  | .cons e es, ks => (match ks with
    | k :: ks => chkX g l false e k.value && chkKw g l es ks
    | [] => false)
def chkT (g : Sg) (l : Lc) : T → Expr → Bool
  | .name i, a => (match a with
    | .Name x _ => decide (l.N[i]? = some x) && sto l x
    | _ => false)
  | .tup ts, a => (match a with
    | .Tuple as _ _ => decide (as.length = ts.len) && as.all plainX && chkTs g l ts as
    | _ => false)
  | .sub o i, a => (match a with
    | .Subscript o' i' _ => plainI i' && chkX g l false o o' && chkX g l false i i'
    | _ => false)
def chkTs (g : Sg) (l : Lc) : Ts → List Expr → Bool
  | .nil, as => as.isEmpty
  | .cons t ts, as => (match as with
    | a :: as => plainX a && chkT g l t a && chkTs g l ts as
    | [] => false)
def chkI (g : Sg) (l : Lc) : I → Expr → Expr → Bool
  | .val e, _, a => chkX g l false e a
  | .keys e, _, a => chkX g l false e a
  | .rng1 x, _, a => (match a with
    | .Call (.Name n _) [b] [] _ => decide (n = "range") && gl? l.sc "range" && plainX b && chkX g l false x b
    | _ => false)
  | .rng2 x y, _, a => (match a with
    | .Call (.Name n _) [b, c] [] _ => decide (n = "range") && gl? l.sc "range" && plainX b && plainX c && chkX g l false x b && chkX g l false y c
    | _ => false)
  | .rng3 x y z, _, a => (match a with
    | .Call (.Name n _) [b, c, d] [] _ => decide (n = "range") && gl? l.sc "range" && plainX b && plainX c && plainX d && chkX g l false x b && chkX g l false y c && chkX g l false z d
    | _ => false)
  | .enum x, tg, a => (match tg, a with
    | .Tuple _ _ _, .Call (.Name n _) [b] [] _ => decide (n = "enumerate") && gl? l.sc "enumerate" && plainX b && chkX g l false x b
    | _, _ => false)
  | .zip x y, tg, a => (match tg, a with
    | .Tuple _ _ _, .Call (.Name n _) [b, c] [] _ => decide (n = "zip") && gl? l.sc "zip" && plainX b && plainX c && chkX g l false x b && chkX g l false y c
    | _, _ => false)
end
abbrev chkE (g : Sg) (l : Lc) (e : E) (a : Expr) : Bool := chkX g l false e a
abbrev chkB (g : Sg) (l : Lc) (e : E) (a : Expr) : Bool := chkX g l true e a
end Ly
end
section
set_option Elab.async false
set_option linter.all false
set_option autoImplicit false
set_option maxRecDepth 100000
/-! Terms against the tree: what the check of expressions says. -/
namespace Ly
open PySem PySem.Spec PyProof.Rows L2

def GloAt (X : Cx) (x : Str) (v : L) : Prop := ∃ u y, X.mg x = some u ∧ RelV y u ∧ ∀ H θ, RelL X.K H θ v y
def GdAt (X : Cx) (x : Str) (kvs : List (Str × L)) : Prop := ∃ d es n, X.mg x = some (.ref d) ∧ KDict X.K X.w d es n ∧ ∀ k v, kvs.lookup k = some v → ∃ u0 v0, PySem.W.nsIn X.K d k = some (some u0) ∧ RelV v0 u0 ∧ ∀ H θ, RelL X.K H θ v v0
def FnAt (X : Cx) (xc : Nat → Value) (g : Sg) (f : Nat) (x : Str) (cl : List L → LH → R L) : Prop := ∃ k a fd ps, FnG X.prog X.w X.K X.mg X.base xc k a fd ps cl ∧ Room k X.A ∧ X.mg x = some (.ref a) ∧ PySem.W.keepIn X.K (.ref a) = true ∧ Binds X.K fd ps [] ∧
  ∀ ks pm, (f, ks, pm) ∈ g.kws → KwB X.K fd ps ks pm
structure CtxOk (X : Cx) (xc : Nat → Value) (W : L2.WX) (g : Sg) (G : Gm) (l : Lc) : Prop where
  calm : X.calm = true
  nd : X.N.Nodup
  units : X.A.units + 64 < cLine
  grd : X.A.guards = some []
  tk : Takes X W
  hN : X.N = l.N
  hs : X.env.scope = l.sc
  hst : ∀ x, X.fn x = l.st x
  kind : X.env.scope.kind = .function
  glo : ∀ x v, G.gl.lookup x = some v → GloAt X x v
  gd : ∀ x, g.gds.contains x = true → ∃ kvs, G.gd.lookup x = some kvs ∧ GdAt X x kvs
  blt : ∀ b, X.mg (bltN b) = none
  rng : X.mg "range" = none
  enm : X.mg "enumerate" = none
  zp : X.mg "zip" = none
  fn : ∀ f x, g.fns[f]? = some x → FnAt X xc g f x (G.cl f)
theorem takes0' {X : Cx} : Takes X W0 := fun _ _ x => by
  obtain ⟨_, _, _, _, _, _, _, _, _, _, _, _, _, _, _, _, z⟩ := x
  exact z.elim
section
variable {X : Cx} {xc : Nat → Value} {W : L2.WX} {g : Sg} {G : Gm} {l : Lc}
theorem CtxOk.blk (O : CtxOk X xc W g G l) {scope : Scope} (hk : scope.kind = .function) (s : Shared) (H : Hp) (C : Addr) (cl : List (Str × Addr)) (fp : List Addr) :
    CtxOk (X.blk s H scope (compEnvC scope cl C X.env) fp) xc W0 g G ⟨l.N, relS scope l.sc, fun x => scope.names.lookup x == some .cell⟩ :=
  ⟨O.calm, O.nd, O.units, O.grd, takes0', O.hN, by show relabel scope X.env = relS scope l.sc; rw [← O.hs]; rfl, fun _ => rfl, hk, O.glo, O.gd, O.blt, O.rng, O.enm, O.zp, O.fn⟩
/-! ### small rules -/
theorem e_glo {v : L} {x : Str} {pos : Pos} (h : GloAt X x v) (hg : Gl X x) (hd : (x == ("__debug__" : Str)) = false) : PE X (.Name x pos) (eL X xc W fun _ h => .ok v h) := by
  obtain ⟨u, y, hm, r, q⟩ := h
  exact e_const (pe_glob hg hm r hd) q
theorem e_gloN {x : Str} {pos : Pos} (O : CtxOk X xc W g G l) (hg : Gl X x) (hd : (x == ("__debug__" : Str)) = false) : PE X (.Name x pos) (eL X xc W fun _ h => ofO (okV (G.gl.lookup x) h)) := by
  cases e : G.gl.lookup x with
  | none => exact ⟨fun pins s σ H Q I ⟨θ, sl, h, S, R, P⟩ => P.bad.elim⟩
  | some v => exact e_glo (O.glo x v e) hg hd
theorem e_gdict {x : Str} {b : Expr} {fb : LS → LH → R L} {p pos : Pos} (O : CtxOk X xc W g G l) (hx : g.gds.contains x = true) (hg : Gl X x) (hd : (x == ("__debug__" : Str)) = false) (hb : PE X b (eL X xc W fb)) (hp : plainI b = true) :
    PE X (.Subscript (.Name x p) b pos) (eL X xc W fun sl h => (fb sl h).bind fun y h1 => match G.gd.lookup x, y with
      | some kvs, .str k => ofO (okV (kvs.lookup k) h1)
      | _, _ => .bad) := by
  obtain ⟨kvs, e, d, es, n, hm, D, hk⟩ := O.gd x hx
  rw [e]
  refine PE.imp (t := tOp (fun x y H Q => ∃ (z : Str) (u0 : Value) (v0 : V), x = .ref d ∧ y = .str z ∧ PySem.W.nsIn X.K d z = some (some u0) ∧ RelV v0 u0 ∧ Q v0 H) (tC (.ref d)) (eL X xc W fb))
    (pe_ix (fun value slice pins s σ H x y v u Q I rx ry h hs => tail_any (by
      obtain ⟨_, _, _, e1, _⟩ := h
      subst e1
      obtain rfl : v = Value.ref d := rx
      exact kd_type D I) PySem.F.slot_dict_getitem.lookup (op_item_kd D pins s σ H x y v u Q I rx ry h) hs) (pe_glob hg hm rfl hd) hb (plainI_ix hp)) fun σ H Q h => ?_
  refine (tA.seq (rel := RelL X.K) h).mono fun y H1 ⟨θ1, sl, h1, v, S, R, r, P⟩ => ?_
  cases v with
  | str k =>
    cases r
    have P : PostA X.K X.w xc (RelL X.K) H1 θ1 (ofO (okV (kvs.lookup k) h1)) Q _ := P
    cases e2 : kvs.lookup k with
    | none => rw [e2] at P; exact P.bad.elim
    | some v =>
      rw [e2] at P
      obtain ⟨u0, v0, g1, g2, g3⟩ := hk k v e2
      exact ⟨k, u0, v0, rfl, rfl, g1, g2, PostA.here (a := v) P R (g3 _ _)⟩
  | _ => exact (PostA.bad P).elim
variable {a : Expr}
/-- what a check says -/
theorem and2 {a b : Bool} (h : (a && b) = true) : a = true ∧ b = true := by simpa using h
theorem bl_const {b : Bool} {j : Nat} {pos : Pos} : PE X (.Constant (.bool b) j pos) (eL X xc W fun _ h => .ok (.bl b) h) := e_const pe_bl fun _ _ => .bl b
theorem E.isNon_ok {e : E} {G : Gm} (h : e.isNon = true) : ∀ sl h, evE G e sl h = .ok .non h := by
  cases e <;> first | (intro sl h; rfl) | cases h
theorem evEs_len {G : Gm} : ∀ (es : Es) (sl : LS) (h : LH) (vs : List L) (h1 : LH), evEs G es sl h = .ok vs h1 → vs.length = es.len
  | .nil, sl, h, vs, h1, e => by
    have e : R.ok [] h = .ok vs h1 := e
    cases e; rfl
  | .cons a es, sl, h, vs, h1, e => by
    have e : ((evE G a sl h).bind fun v h1 => (evEs G es sl h1).bind fun vs h2 => .ok (v :: vs) h2) = .ok vs h1 := e
    cases e1 : evE G a sl h with
    | ok v g1 =>
      rw [e1] at e
      have e : ((evEs G es sl g1).bind fun vs h2 => .ok (v :: vs) h2) = .ok vs h1 := e
      cases e2 : evEs G es sl g1 with
      | ok us g2 =>
        rw [e2] at e
        have e : R.ok (v :: us) g2 = .ok vs h1 := e
        cases e
        exact congrArg (· + 1) (evEs_len es sl g1 us _ e2)
      | exc c v g => rw [e2] at e; cases e
      | bad => rw [e2] at e; cases e
    | exc c v g => rw [e1] at e; cases e
    | bad => rw [e1] at e; cases e
theorem kw_all {pos : Pos} {env : Env} : ∀ {kws : List Keyword}, kws.all (·.arg.isSome) = true → (backToKw pos (keywordEach kws env)).all (·.1.isSome) = true ∧ (backToKw pos (keywordEach kws env)).filterMap (·.1) = kwNames kws ∧ (backToKw pos (keywordEach kws env)).any (·.1.isNone) = false ∧ kws.length = (kwNames kws).length
  | [], _ => ⟨rfl, rfl, rfl, rfl⟩
  | ⟨nm, e, p⟩ :: kws, h => by
    rw [List.all_cons, Bool.and_eq_true] at h
    obtain ⟨h1, h2, h3, h4⟩ := kw_all (pos := pos) (env := env) h.2
    cases nm with
    | none => cases h.1
    | some n =>
      refine ⟨?_, ?_, ?_, ?_⟩
      · show (true && _) = true
        exact h1
      · show n :: _ = n :: _
        exact congrArg (n :: ·) h2
      · show (false || _) = false
        exact h3
      · show kws.length + 1 = (kwNames kws).length + 1
        rw [h4]
end
end Ly
end
section
set_option Elab.async false
set_option linter.all false
set_option autoImplicit false
set_option maxRecDepth 100000
/-! Terms against the tree: the check of expressions is sound. -/
namespace Ly
open PySem PySem.Spec PyProof.Rows L2

theorem env_sc {X : Cx} {xc : Nat → Value} {W : L2.WX} {g : Sg} {G : Gm} {l : Lc} (O : CtxOk X xc W g G l) {x : Str} (h : gl? l.sc x = true) : Gl X x ∧ (x == ("__debug__" : Str)) = false := gl_ok (by rw [O.hs]; exact h)
theorem sto_ok {X : Cx} {xc : Nat → Value} {W : L2.WX} {g : Sg} {G : Gm} {l : Lc} (O : CtxOk X xc W g G l) {x : Str} (h : sto l x = true) : Loc X.env.scope x ∧ (X.fn x = true ∨ X.env.scope.names.lookup x = some .local) := by
  rw [O.hs, O.hst]
  unfold sto at h
  split at h
  · rename_i e; exact ⟨.inl e, .inr e⟩
  · rename_i e; exact ⟨.inr e, .inl h⟩
  · cases h
theorem plain_all {g : Sg} {l : Lc} : ∀ {es : Es} {as : List Expr}, chkEs g l es as = true → as.all plainX = true
  | .nil, [], _ => rfl
  | .nil, _ :: _, h => by cases h
  | .cons e es, [], h => by cases h
  | .cons e es, a :: as, h => by
    have h : (plainX a && chkE g l e a && chkEs g l es as) = true := h
    rw [Bool.and_eq_true, Bool.and_eq_true] at h
    rw [List.all_cons, h.1.1, plain_all h.2]; rfl
theorem kw_len {g : Sg} {l : Lc} : ∀ {es : Es} {as : List Keyword}, chkKw g l es as = true → as.length = es.len
  | .nil, [], _ => rfl
  | .nil, _ :: _, h => by cases h
  | .cons e es, [], h => by cases h
  | .cons e es, a :: as, h => by
    have h : (chkE g l e a.value && chkKw g l es as) = true := h
    rw [Bool.and_eq_true] at h
    exact congrArg (· + 1) (kw_len h.2)
def SE (g : Sg) (G : Gm) (xc : Nat → Value) (e : E) : Prop := ∀ (X : Cx) (W : L2.WX) (l : Lc), CtxOk X xc W g G l → ∀ a, chkE g l e a = true → PE X a (eL X xc W (evE G e))
def SB (g : Sg) (G : Gm) (xc : Nat → Value) (e : E) : Prop := ∀ (X : Cx) (W : L2.WX) (l : Lc), CtxOk X xc W g G l → ∀ a, chkB g l e a = true → PT X a (bL X xc W (evE G e)) ∧ ∀ op vs p, a = .BoolOp op vs p → PW X a (bL X xc W (evE G e))
def SEs (g : Sg) (G : Gm) (xc : Nat → Value) (es : Es) : Prop := ∀ (X : Cx) (W : L2.WX) (l : Lc), CtxOk X xc W g G l → (∀ as, chkEs g l es as = true → PA X as (aL X xc W (evEs G es))) ∧ ∀ ks, chkKw g l es ks = true → PK X ks (aL X xc W (evEs G es))
def ST (g : Sg) (G : Gm) (xc : Nat → Value) (t : T) : Prop := ∀ (X : Cx) (W : L2.WX) (l : Lc), CtxOk X xc W g G l → ∀ a, chkT g l t a = true → PG X a (gL X.K X.w t.names (evT G t))
def STs (g : Sg) (G : Gm) (xc : Nat → Value) (t : Ts) : Prop := ∀ (X : Cx) (W : L2.WX) (l : Lc), CtxOk X xc W g G l → ∀ a, chkTs g l t a = true → PGs X a (gsL X.K X.w t.names (evTs G t))
def SI (g : Sg) (G : Gm) (xc : Nat → Value) (i : I) : Prop := ∀ (X : Cx) (W : L2.WX) (l : Lc), CtxOk X xc W g G l → ∀ tg a, chkI g l i tg a = true → PI X tg a (iL X xc W (evI G i))
section
variable {g : Sg} {G : Gm} {xc : Nat → Value}
theorem q_var (i : Nat) : SE g G xc (.var i) := fun X W l O a h => by
  cases a with
  | Name x p =>
    have h : (decide (l.N[i]? = some x) && vis l.sc x && !(x == ("__debug__" : Str)) && !(x == ("__classdict__" : Str))) = true := h
    simp only [Bool.and_eq_true, decide_eq_true_eq, Bool.not_eq_true'] at h
    obtain ⟨⟨⟨h1, h2⟩, h3⟩, h4⟩ := h
    exact e_var (by rw [O.hN]; exact h1) (by rw [O.hs]; exact vis_ok h2) h3 h4
  | _ => cases h
theorem q_int (i : Int) : SE g G xc (.int i) := fun X W l O a h => by
  cases a with
  | Constant c k p =>
    cases c with
    | int j =>
      have h : decide (i = j) = true := h
      cases of_decide_eq_true h
      exact e_const pe_int fun _ _ => .int i
    | _ => cases h
  | _ => cases h
theorem q_str (i : Str) : SE g G xc (.str i) := fun X W l O a h => by
  cases a with
  | Constant c k p =>
    cases c with
    | str j =>
      have h : decide (i = j) = true := h
      cases of_decide_eq_true h
      exact e_const pe_str fun _ _ => .str i
    | _ => cases h
  | _ => cases h
theorem q_bl (i : Bool) : SE g G xc (.bl i) := fun X W l O a h => by
  cases a with
  | Constant c k p =>
    cases c with
    | bool j =>
      have h : decide (i = j) = true := h
      cases of_decide_eq_true h
      exact e_const pe_bl fun _ _ => .bl i
    | _ => cases h
  | _ => cases h
theorem q_non : SE g G xc .non := fun X W l O a h => by
  cases a with
  | Constant c k p =>
    cases c with
    | none => exact e_const pe_non fun _ _ => .non
    | _ => cases h
  | _ => cases h
theorem q_glo (x : Str) : SE g G xc (.glo x) := fun X W l O a h => by
  cases a with
  | Name y p =>
    have h : (decide (x = y) && gl? l.sc x && g.gls.contains x) = true := h
    simp only [Bool.and_eq_true, decide_eq_true_eq] at h
    obtain ⟨⟨rfl, h2⟩, h3⟩ := h
    obtain ⟨h4, h5⟩ := env_sc O h2
    exact e_gloN O h4 h5
  | _ => cases h
theorem q_tup {es : Es} (s : SEs g G xc es) : SE g G xc (.tup es) := fun X W l O a h => by
  cases a with
  | Tuple as k p => exact e_tup ((s X W l O).1 as h)
  | _ => cases h
theorem q_lst {es : Es} (s : SEs g G xc es) : SE g G xc (.lst es) := fun X W l O a h => by
  cases a with
  | List as p => exact e_lst ((s X W l O).1 as h)
  | _ => cases h
theorem q_dict : SE g G xc .dict := fun X W l O a h => by
  cases a with
  | Dict ks vs p =>
    cases ks with
    | nil =>
      cases vs with
      | nil => exact e_dict
      | cons _ _ => cases h
    | cons _ _ => cases h
  | _ => cases h
theorem q_bin {op : Operator} {x y : E} (s1 : SE g G xc x) (s2 : SE g G xc y) : SE g G xc (.bin op x y) := fun X W l O a h => by
  cases a with
  | BinOp a op' b p =>
    have h : (decide (op = op') && chkE g l x a && chkE g l y b) = true := h
    simp only [Bool.and_eq_true, decide_eq_true_eq] at h
    obtain ⟨⟨rfl, h2⟩, h3⟩ := h
    exact e_bin (s1 X W l O a h2) (s2 X W l O b h3)
  | _ => cases h
theorem q_neg {x : E} (s : SE g G xc x) : SE g G xc (.neg x) := fun X W l O a h => by
  cases a with
  | UnaryOp op a p =>
    cases op with
    | USub => exact e_neg (s X W l O a h)
    | _ => cases h
  | _ => cases h
theorem q_not {x : E} (s : SE g G xc x) : SE g G xc (.not x) := fun X W l O a h => by
  cases a with
  | UnaryOp op a p =>
    cases op with
    | Not => exact e_not (s X W l O a h)
    | _ => cases h
  | _ => cases h
theorem cmp_shape {g : Sg} {l : Lc} {op : CmpOp} {x y : E} {a : Expr} (h : (match a with
    | .Compare a [op'] [b] _ => decide (op = op') && chkE g l x a && chkE g l y b && !behindInMarks op b
    | _ => false) = true) : ∃ a' b p, a = .Compare a' [op] [b] p ∧ chkE g l x a' = true ∧ chkE g l y b = true ∧ behindInMarks op b = false := by
  split at h
  · simp only [Bool.and_eq_true, decide_eq_true_eq, Bool.not_eq_true'] at h
    obtain ⟨⟨⟨rfl, h2⟩, h3⟩, h4⟩ := h
    exact ⟨_, _, _, rfl, h2, h3, h4⟩
  · cases h
theorem q_cmp {op : CmpOp} {x y : E} (s1 : SE g G xc x) (s2 : SE g G xc y) : SE g G xc (.cmp op x y) := fun X W l O a h => by
  obtain ⟨a', b, p, rfl, h2, h3, h4⟩ := cmp_shape h
  exact e_cmp O.units (s1 X W l O _ h2) (s2 X W l O _ h3) h4
theorem r_cmp {op : CmpOp} {x y : E} (s1 : SE g G xc x) (s2 : SE g G xc y) : SB g G xc (.cmp op x y) := fun X W l O a h => by
  obtain ⟨a', b, p, rfl, h2, h3, h4⟩ := cmp_shape h
  exact ⟨b_cmp O.units (s1 X W l O _ h2) (s2 X W l O _ h3) h4, fun _ _ _ e => by cases e⟩
theorem chain_shape {g : Sg} {l : Lc} {op op2 : CmpOp} {x y z : E} {a : Expr} (h : (match a with
    | .Compare a [op', op2'] [b, c] _ => decide (op = op') && decide (op2 = op2') && chkE g l x a && chkE g l y b && chkE g l z c && !lastMarks [op, op2] [b, c]
    | _ => false) = true) : ∃ a' b c p, a = .Compare a' [op, op2] [b, c] p ∧ chkE g l x a' = true ∧ chkE g l y b = true ∧ chkE g l z c = true ∧ lastMarks [op, op2] [b, c] = false := by
  split at h
  · simp only [Bool.and_eq_true, decide_eq_true_eq, Bool.not_eq_true'] at h
    obtain ⟨⟨⟨⟨⟨rfl, rfl⟩, h2⟩, h3⟩, h4⟩, h5⟩ := h
    exact ⟨_, _, _, _, rfl, h2, h3, h4, h5⟩
  · cases h
theorem q_chain {op op2 : CmpOp} {x y z : E} (s1 : SE g G xc x) (s2 : SE g G xc y) (s3 : SE g G xc z) : SE g G xc (.chain op op2 x y z) := fun X W l O a h => by
  obtain ⟨a', b, c, p, rfl, h2, h3, h4, h5⟩ := chain_shape h
  exact e_chain O.units (s1 X W l O _ h2) (s2 X W l O _ h3) (s3 X W l O _ h4) h5
theorem r_chain {op op2 : CmpOp} {x y z : E} (s1 : SE g G xc x) (s2 : SE g G xc y) (s3 : SE g G xc z) : SB g G xc (.chain op op2 x y z) := fun X W l O a h => by
  obtain ⟨a', b, c, p, rfl, h2, h3, h4, h5⟩ := chain_shape h
  exact ⟨b_chain O.units (s1 X W l O _ h2) (s2 X W l O _ h3) (s3 X W l O _ h4) h5, fun _ _ _ e => by cases e⟩
theorem q_and {x y : E} (s1 : SE g G xc x) (s2 : SE g G xc y) : SE g G xc (.and x y) := fun X W l O a h => by
  cases a with
  | BoolOp op vs p =>
    cases op with
    | Or => cases h
    | And =>
      match vs, h with
      | a :: b :: rest, h =>
        have h : (chkE g l x a && (match (generalizing := false) rest with
          | [] => chkE g l y b
          | c :: r => chkE g l y (.BoolOp .And (b :: c :: r) p))) = true := h
        rw [Bool.and_eq_true] at h
        refine e_and (s1 X W l O a h.1) ?_
        cases rest with
        | nil => exact pe_one (s2 X W l O b h.2)
        | cons c r => exact s2 X W l O _ h.2
  | _ => cases h
theorem q_or {x y : E} (s1 : SE g G xc x) (s2 : SE g G xc y) : SE g G xc (.or x y) := fun X W l O a h => by
  cases a with
  | BoolOp op vs p =>
    cases op with
    | And => cases h
    | Or =>
      match vs, h with
      | a :: b :: rest, h =>
        have h : (chkE g l x a && (match (generalizing := false) rest with
          | [] => chkE g l y b
          | c :: r => chkE g l y (.BoolOp .Or (b :: c :: r) p))) = true := h
        rw [Bool.and_eq_true] at h
        refine e_or (s1 X W l O a h.1) ?_
        cases rest with
        | nil => exact pe_one (s2 X W l O b h.2)
        | cons c r => exact s2 X W l O _ h.2
  | _ => cases h
theorem r_and {x y : E} (s1 : SB g G xc x) (s2 : SB g G xc y) : SB g G xc (.and x y) := fun X W l O a h => by
  cases a with
  | BoolOp op vs p =>
    cases op with
    | Or => cases h
    | And =>
      match vs, h with
      | a :: b :: rest, h =>
        have h : (chkB g l x a && (match (generalizing := false) rest with
          | [] => chkB g l y b
          | c :: r => chkB g l y (.BoolOp .And (b :: c :: r) p))) = true := h
        rw [Bool.and_eq_true] at h
        have q : PW X (.BoolOp .And (a :: b :: rest) p) (bL X xc W (evE G (.and x y))) := by
          refine w_and (s1 X W l O a h.1).1 ?_
          cases rest with
          | nil => exact w_and1 (s2 X W l O b h.2).1
          | cons c r => exact (s2 X W l O _ h.2).2 _ _ _ rfl
        exact ⟨q.pt, fun _ _ _ _ => q⟩
  | _ => cases h
theorem r_or {x y : E} (s1 : SB g G xc x) (s2 : SB g G xc y) : SB g G xc (.or x y) := fun X W l O a h => by
  cases a with
  | BoolOp op vs p =>
    cases op with
    | And => cases h
    | Or =>
      match vs, h with
      | a :: b :: rest, h =>
        have h : (chkB g l x a && (match (generalizing := false) rest with
          | [] => chkB g l y b
          | c :: r => chkB g l y (.BoolOp .Or (b :: c :: r) p))) = true := h
        rw [Bool.and_eq_true] at h
        have q : PW X (.BoolOp .Or (a :: b :: rest) p) (bL X xc W (evE G (.or x y))) := by
          refine w_or (s1 X W l O a h.1).1 ?_
          cases rest with
          | nil => exact w_or1 (s2 X W l O b h.2).1
          | cons c r => exact (s2 X W l O _ h.2).2 _ _ _ rfl
        exact ⟨q.pt, fun _ _ _ _ => q⟩
  | _ => cases h
theorem r_not {x : E} (s : SB g G xc x) : SB g G xc (.not x) := fun X W l O a h => by
  cases a with
  | UnaryOp op a p =>
    cases op with
    | Not => exact ⟨b_not (s X W l O a h).1, fun _ _ _ e => by cases e⟩
    | _ => cases h
  | _ => cases h
theorem r_val {e : E} (s : SE g G xc e) (h : ∀ l a, chkB g l e a = true → plainT a = true ∧ chkE g l e a = true) : SB g G xc e := fun X W l O a hb => by
  obtain ⟨h1, h2⟩ := h l a hb
  refine ⟨b_val (s X W l O a h2) (test_plain h1), fun _ _ _ e => ?_⟩
  subst e
  cases h1
theorem q_ife {c x y : E} (s0 : SB g G xc c) (s1 : SE g G xc x) (s2 : SE g G xc y) : SE g G xc (.ife c x y) := fun X W l O a h => by
  cases a with
  | IfExp c' a b p =>
    have h : (chkB g l c c' && chkE g l x a && chkE g l y b) = true := h
    simp only [Bool.and_eq_true] at h
    obtain ⟨⟨h1, h2⟩, h3⟩ := h
    exact e_ite (s0 X W l O c' h1).1 (s1 X W l O a h2) (s2 X W l O b h3)
  | _ => cases h
theorem q_idx {x y : E} (s1 : SE g G xc x) (s2 : SE g G xc y) : SE g G xc (.idx x y) := fun X W l O a h => by
  cases a with
  | Subscript a b p =>
    have h : (plainI b && chkE g l x a && chkE g l y b) = true := h
    simp only [Bool.and_eq_true] at h
    obtain ⟨⟨h1, h2⟩, h3⟩ := h
    exact e_idx O.units (s1 X W l O a h2) (s2 X W l O b h3) (plainI_ix h1)
  | _ => cases h
theorem po_chk {y : E} (s : SE g G xc y) {X : Cx} {W : L2.WX} {l : Lc} (O : CtxOk X xc W g G l) {lo : Option Expr} (h : (match lo with
      | none => y.isNon
      | some b => !y.isNon && chkE g l y b) = true) : PO X lo (pL X xc W y.isNon (evE G y)) := by
  cases lo with
  | none =>
    have h : y.isNon = true := h
    rw [h]
    exact po_non
  | some b =>
    have h : (!y.isNon && chkE g l y b) = true := h
    rw [Bool.and_eq_true] at h
    have h1 : y.isNon = false := by simpa using h.1
    rw [h1]
    exact po_val (s X W l O b h.2)
theorem q_slc {x y z : E} (s1 : SE g G xc x) (s2 : SE g G xc y) (s3 : SE g G xc z) : SE g G xc (.slc x y z) := fun X W l O a h => by
  cases a with
  | Subscript a b p =>
    cases b with
    | Slice lo hi st p2 =>
      cases st with
      | some _ => cases h
      | none =>
        have h : (chkE g l x a && (match (generalizing := false) lo with
          | none => y.isNon
          | some b => !y.isNon && chkE g l y b) && (match (generalizing := false) hi with
          | none => z.isNon
          | some b => !z.isNon && chkE g l z b)) = true := h
        rw [Bool.and_eq_true, Bool.and_eq_true] at h
        obtain ⟨⟨h1, h2⟩, h3⟩ := h
        exact e_slc (fun q => E.isNon_ok q) (fun q => E.isNon_ok q) (s1 X W l O a h1) (po_chk s2 O h2) (po_chk s3 O h3)
    | _ => cases h
  | _ => cases h
theorem q_gdict {x : Str} {y : E} (s : SE g G xc y) : SE g G xc (.gdict x y) := fun X W l O a h => by
  cases a with
  | Subscript a b p =>
    cases a with
    | Name x' p2 =>
      have h : (decide (x = x') && gl? l.sc x && g.gds.contains x && plainI b && chkE g l y b) = true := h
      simp only [Bool.and_eq_true, decide_eq_true_eq] at h
      obtain ⟨⟨⟨⟨rfl, h2⟩, h3⟩, h4⟩, h5⟩ := h
      obtain ⟨h6, h7⟩ := env_sc O h2
      exact e_gdict O h3 h6 h7 (s X W l O b h5) h4
    | _ => cases h
  | _ => cases h
theorem q_lrg {x : E} (s : SE g G xc x) : SE g G xc (.lrg x) := fun X W l O a h => by
  have h : (match (generalizing := false) a with
    | .Call (.Name n1 _) [.Call (.Name n2 _) [b] [] _] [] _ => decide (n1 = "list") && decide (n2 = "range") && gl? l.sc "list" && gl? l.sc "range" && plainX b && chkE g l x b
    | _ => false) = true := h
  split at h
  · simp only [Bool.and_eq_true, decide_eq_true_eq] at h
    obtain ⟨⟨⟨⟨⟨rfl, rfl⟩, h2⟩, h3⟩, h4⟩, h5⟩ := h
    exact e_lrg O.calm (env_sc O h2).1 (O.blt .list) (env_sc O h3).1 O.rng (s X W l O _ h5) h4
  · cases h
theorem call_shape {g : Sg} {l : Lc} {f : Nat} {es : Es} {a : Expr} (h : (match a with
    | .Call (.Name x _) as [] _ => decide (g.fns[f]? = some x) && gl? l.sc x && chkEs g l es as
    | _ => false) = true) : ∃ x p1 as p2, a = .Call (.Name x p1) as [] p2 ∧ g.fns[f]? = some x ∧ gl? l.sc x = true ∧ chkEs g l es as = true := by
  split at h
  · simp only [Bool.and_eq_true, decide_eq_true_eq] at h
    obtain ⟨⟨h1, h2⟩, h3⟩ := h
    exact ⟨_, _, _, _, rfl, h1, h2, h3⟩
  · cases h
theorem q_call {f : Nat} {es : Es} (s : SEs g G xc es) : SE g G xc (.call f es) := fun X W l O a h => by
  obtain ⟨x, p1, as, p2, rfl, h1, h2, h3⟩ := call_shape h
  obtain ⟨k, a, fd, ps, F, hr, hm, hk, hb, _⟩ := O.fn f _ h1
  obtain ⟨h4, h5⟩ := env_sc O h2
  have hp := plain_all h3
  cases es with
  | nil =>
    cases as with
    | nil => exact e_call0 F hr O.grd O.tk h4 hm hk hb h5
    | cons _ _ => cases h3
  | cons e es =>
    cases as with
    | nil => cases h3
    | cons a as => exact e_call F hr O.grd O.tk h4 hm hk hb ((s X W l O).1 _ h3) hp h5
theorem q_callk {f : Nat} {es : Es} {pm : List Nat} (s : SEs g G xc es) : SE g G xc (.callk f es pm) := fun X W l O a h => by
  have h : (match (generalizing := false) a with
    | .Call (.Name x _) [] kws _ => decide (g.fns[f]? = some x) && gl? l.sc x && kws.all (·.arg.isSome) && decide ((f, kwNames kws, pm) ∈ g.kws) && chkKw g l es kws
    | _ => false) = true := h
  split at h
  · simp only [Bool.and_eq_true, decide_eq_true_eq] at h
    obtain ⟨⟨⟨⟨h1, h2⟩, h3⟩, h4⟩, h5⟩ := h
    obtain ⟨k, a, fd, ps, F, hr, hm, hk, hb, hkw⟩ := O.fn f _ h1
    obtain ⟨h6, h7⟩ := env_sc O h2
    rename_i x p1 kws p2
    obtain ⟨g1, g2, g3, g4⟩ := kw_all (pos := p2) (env := X.env) h3
    exact e_callk F hr O.grd O.tk h6 hm hk (hkw _ _ h4) ((s X W l O).2 _ h5) g4 (fun sl h vs h1 e => by rw [evEs_len es sl h vs h1 e, kw_len h5]) g1 g2 g3 h7
  · cases h
theorem q_blt {f : Blt} {es : Es} (s : SEs g G xc es) : SE g G xc (.blt f es) := fun X W l O a h => by
  have h : (match (generalizing := false) a with
    | .Call (.Name x _) (b :: bs) [] _ => decide (x = bltN f) && gl? l.sc x && chkEs g l es (b :: bs)
    | _ => false) = true := h
  split at h
  · simp only [Bool.and_eq_true, decide_eq_true_eq] at h
    obtain ⟨⟨rfl, h2⟩, h3⟩ := h
    exact e_blt O.calm O.units O.grd f (env_sc O h2).1 (O.blt f) ((s X W l O).1 _ h3) (plain_all h3)
  · cases h
theorem q_meth {m : Mth} {x : E} {es : Es} (s1 : SE g G xc x) (s : SEs g G xc es) : SE g G xc (.meth m x es) := fun X W l O a h => by
  have h : (match (generalizing := false) a with
    | .Call (.Attribute o n apos) as [] pos => decide (n = mthN m) && notSuper o && (apos.endLine == pos.line) && decide (as.length < 30) && chkE g l x o && chkEs g l es as
    | _ => false) = true := h
  split at h
  · simp only [Bool.and_eq_true, decide_eq_true_eq] at h
    obtain ⟨⟨⟨⟨⟨rfl, h1⟩, h2⟩, h3⟩, h4⟩, h5⟩ := h
    have hp := plain_all h5
    rename_i o apos as pos
    cases es with
    | nil =>
      cases as with
      | nil => exact e_meth0 m (s1 X W l O o h4) (attr_plain h1) h2
      | cons _ _ => cases h5
    | cons e es =>
      cases as with
      | nil => cases h5
      | cons a as => exact e_meth m (s1 X W l O o h4) ((s X W l O).1 _ h5) hp h3 (attr_plain h1) h2
  · cases h
theorem E.isTrue_ok {c : E} (h : c.isTrue = true) : c = .bl true := by
  cases c with
  | bl b => cases b <;> first | rfl | cases h
  | _ => cases h
theorem q_lc {own : List Nat} {t : T} {i : I} {c e : E} (st : ST g G xc t) (si : SI g G xc i) (sc : SB g G xc c) (se : SE g G xc e) : SE g G xc (.lc own t i c e) := fun X W l O a h => by
  have h : (match (generalizing := false) a with
    | .ListComp elt [⟨tg, iter, ifs, 0⟩] scope _ => blkC l.N l.sc scope (ownP l.N own) && (T.names t).all (fun i => own.contains i) && chkT g ⟨l.N, relS scope l.sc, fun x => scope.names.lookup x == some .cell⟩ t tg && chkI g l i tg iter && plainW iter &&
      chkE g ⟨l.N, relS scope l.sc, fun x => scope.names.lookup x == some .cell⟩ e elt && (match (generalizing := false) ifs with
        | [] => c.isTrue
        | [b] => chkB g ⟨l.N, relS scope l.sc, fun x => scope.names.lookup x == some .cell⟩ c b
        | _ => false)
    | _ => false) = true := h
  split at h
  · simp only [Bool.and_eq_true] at h
    obtain ⟨⟨⟨⟨⟨⟨h1, h2⟩, h3⟩, h4⟩, h5⟩, h6⟩, h7⟩ := h
    rename_i elt tg iter ifs scope p
    have ok : BlkOk X.N X.env.scope scope (ownP l.N own) := by rw [O.hN, O.hs]; exact blkOk_by h1
    have B := fun s H C cl fp => O.blk (scope := scope) ok.kind s H C cl fp
    have hns : ∀ i ∈ t.names, i ∈ (ownP l.N own).map (·.2) := fun i hi => by
      rw [ownP_snd]
      simpa using List.all_eq_true.mp h2 i hi
    have hl : evE G (.lc own t i c e) = lcL (evI G i) (evT G t) (evE G c) (evE G e) ((ownP l.N own).map (·.2)) := by rw [ownP_snd]; rfl
    rw [hl]
    match ifs, h7 with
    | [], h7 =>
      have h7 := E.isTrue_ok h7
      subst h7
      exact e_lc O.calm O.nd (si X W l O tg iter h4) ok hns (fun s H C cl fp => st _ _ _ (B s H C cl fp) tg h3) test_none (fun s H C cl fp => se _ _ _ (B s H C cl fp) elt h6) (walk_plain h5)
    | [b], h7 =>
      exact e_lc O.calm O.nd (si X W l O tg iter h4) ok hns (fun s H C cl fp => st _ _ _ (B s H C cl fp) tg h3) (test_one fun s H C cl fp => (sc _ _ _ (B s H C cl fp) b h7).1) (fun s H C cl fp => se _ _ _ (B s H C cl fp) elt h6) (walk_plain h5)
  · cases h
theorem q_nil : SEs g G xc .nil := fun X W l O => by
  refine ⟨fun as h => ?_, fun ks h => ?_⟩
  · cases as with
    | nil => exact a_nil
    | cons _ _ => cases h
  · cases ks with
    | nil => exact k_nil
    | cons _ _ => cases h
theorem q_cons {e : E} {es : Es} (s1 : SE g G xc e) (s2 : SEs g G xc es) : SEs g G xc (.cons e es) := fun X W l O => by
  refine ⟨fun as h => ?_, fun ks h => ?_⟩
  · cases as with
    | nil => cases h
    | cons a as =>
      have h : (plainX a && chkE g l e a && chkEs g l es as) = true := h
      simp only [Bool.and_eq_true] at h
      obtain ⟨⟨h1, h2⟩, h3⟩ := h
      exact a_cons (s1 X W l O a h2) ((s2 X W l O).1 as h3) h1
  · cases ks with
    | nil => cases h
    | cons k ks =>
      obtain ⟨nm, v, p⟩ := k
      have h : (chkE g l e v && chkKw g l es ks) = true := h
      simp only [Bool.and_eq_true] at h
      exact k_cons (s1 X W l O v h.1) ((s2 X W l O).2 ks h.2)
theorem q_name (i : Nat) : ST g G xc (.name i) := fun X W l O a h => by
  cases a with
  | Name x p =>
    have h : (decide (l.N[i]? = some x) && sto l x) = true := h
    simp only [Bool.and_eq_true, decide_eq_true_eq] at h
    obtain ⟨h1, h2⟩ := sto_ok O h.2
    exact t_name O.nd (by rw [O.hN]; exact h.1) h1 h2
  | _ => cases h
theorem q_ttup {ts : Ts} (s : STs g G xc ts) : ST g G xc (.tup ts) := fun X W l O a h => by
  cases a with
  | Tuple as k p =>
    have h : (decide (as.length = ts.len) && as.all plainX && chkTs g l ts as) = true := h
    simp only [Bool.and_eq_true, decide_eq_true_eq] at h
    obtain ⟨⟨h1, h2⟩, h3⟩ := h
    exact t_tup O.calm (s X W l O as h3) h1 h2
  | _ => cases h
theorem q_sub {o i : E} (s1 : SE g G xc o) (s2 : SE g G xc i) : ST g G xc (.sub o i) := fun X W l O a h => by
  cases a with
  | Subscript a b p =>
    have h : (plainI b && chkE g l o a && chkE g l i b) = true := h
    simp only [Bool.and_eq_true] at h
    obtain ⟨⟨h1, h2⟩, h3⟩ := h
    exact t_sub O.units (s1 X W l O a h2) (s2 X W l O b h3) h1
  | _ => cases h
theorem evTs_nil : evTs G .nil = fun vs sl h => match vs with
    | [] => .nx sl h
    | _ => .bad := by
  funext vs sl h
  cases vs <;> rfl
theorem evTs_cons {t : T} {ts : Ts} : evTs G (.cons t ts) = fun vs sl h => match vs with
    | v :: vs => (evT G t v sl h).then fun sl1 h1 => evTs G ts vs sl1 h1
    | [] => .bad := by
  funext vs sl h
  cases vs <;> rfl
theorem q_tnil : STs g G xc .nil := fun X W l O a h => by
  cases a with
  | nil =>
    rw [evTs_nil]
    exact t_nil
  | cons _ _ => cases h
theorem q_tcons {t : T} {ts : Ts} (s1 : ST g G xc t) (s2 : STs g G xc ts) : STs g G xc (.cons t ts) := fun X W l O a h => by
  cases a with
  | nil => cases h
  | cons a as =>
    have h : (plainX a && chkT g l t a && chkTs g l ts as) = true := h
    simp only [Bool.and_eq_true] at h
    obtain ⟨⟨h1, h2⟩, h3⟩ := h
    rw [evTs_cons]
    exact t_cons (s1 X W l O a h2) (s2 X W l O as h3) h1
theorem q_val {e : E} (s : SE g G xc e) : SI g G xc (.val e) := fun X W l O tg a h => i_val (s X W l O a h)
theorem q_keys {e : E} (s : SE g G xc e) : SI g G xc (.keys e) := fun X W l O tg a h => i_keys (s X W l O a h)
theorem q_rng1 {x : E} (s : SE g G xc x) : SI g G xc (.rng1 x) := fun X W l O tg a h => by
  have h : (match (generalizing := false) a with
    | .Call (.Name n _) [b] [] _ => decide (n = "range") && gl? l.sc "range" && plainX b && chkE g l x b
    | _ => false) = true := h
  split at h
  · simp only [Bool.and_eq_true, decide_eq_true_eq] at h
    obtain ⟨⟨⟨rfl, h1⟩, h2⟩, h3⟩ := h
    exact i_rng1 (env_sc O h1).1 O.rng (s X W l O _ h3) h2
  · cases h
theorem q_rng2 {x y : E} (s : SE g G xc x) (s2 : SE g G xc y) : SI g G xc (.rng2 x y) := fun X W l O tg a h => by
  have h : (match (generalizing := false) a with
    | .Call (.Name n _) [b, c] [] _ => decide (n = "range") && gl? l.sc "range" && plainX b && plainX c && chkE g l x b && chkE g l y c
    | _ => false) = true := h
  split at h
  · simp only [Bool.and_eq_true, decide_eq_true_eq] at h
    obtain ⟨⟨⟨⟨⟨rfl, h1⟩, h2⟩, h3⟩, h4⟩, h5⟩ := h
    exact i_rng2 (env_sc O h1).1 O.rng (s X W l O _ h4) (s2 X W l O _ h5) h2 h3
  · cases h
theorem q_rng3 {x y z : E} (s : SE g G xc x) (s2 : SE g G xc y) (s3 : SE g G xc z) : SI g G xc (.rng3 x y z) := fun X W l O tg a h => by
  have h : (match (generalizing := false) a with
    | .Call (.Name n _) [b, c, d] [] _ => decide (n = "range") && gl? l.sc "range" && plainX b && plainX c && plainX d && chkE g l x b && chkE g l y c && chkE g l z d
    | _ => false) = true := h
  split at h
  · simp only [Bool.and_eq_true, decide_eq_true_eq] at h
    obtain ⟨⟨⟨⟨⟨⟨⟨rfl, h1⟩, h2⟩, h3⟩, h4⟩, h5⟩, h6⟩, h7⟩ := h
    exact i_rng3 (env_sc O h1).1 O.rng (s X W l O _ h5) (s2 X W l O _ h6) (s3 X W l O _ h7) h2 h3 h4
  · cases h
theorem q_enum {x : E} (s : SE g G xc x) : SI g G xc (.enum x) := fun X W l O tg a h => by
  have h : (match (generalizing := false) tg, a with
    | .Tuple _ _ _, .Call (.Name n _) [b] [] _ => decide (n = "enumerate") && gl? l.sc "enumerate" && plainX b && chkE g l x b
    | _, _ => false) = true := h
  split at h
  · simp only [Bool.and_eq_true, decide_eq_true_eq] at h
    obtain ⟨⟨⟨rfl, h1⟩, h2⟩, h3⟩ := h
    exact i_enum (env_sc O h1).1 O.enm (s X W l O _ h3) h2
  · cases h
theorem q_zip {x y : E} (s : SE g G xc x) (s2 : SE g G xc y) : SI g G xc (.zip x y) := fun X W l O tg a h => by
  have h : (match (generalizing := false) tg, a with
    | .Tuple _ _ _, .Call (.Name n _) [b, c] [] _ => decide (n = "zip") && gl? l.sc "zip" && plainX b && plainX c && chkE g l x b && chkE g l y c
    | _, _ => false) = true := h
  split at h
  · simp only [Bool.and_eq_true, decide_eq_true_eq] at h
    obtain ⟨⟨⟨⟨⟨rfl, h1⟩, h2⟩, h3⟩, h4⟩, h5⟩ := h
    exact i_zip (env_sc O h1).1 O.zp (s X W l O _ h4) (s2 X W l O _ h5) h2 h3
  · cases h
theorem no_test {e : E} (h : ∀ l a, chkX g l true e a = false) : SB g G xc e := fun X W l O a hb => by
  have hb : chkX g l true e a = true := hb
  rw [h] at hb
  cases hb
theorem s_var (i : Nat) : SB g G xc (.var i) := r_val (q_var i) fun l a h => by
  refine ⟨?_, h⟩
  cases a with
  | Name _ _ => rfl
  | _ => cases h
theorem s_bl (i : Bool) : SB g G xc (.bl i) := r_val (q_bl i) fun l a h => by
  refine ⟨?_, h⟩
  cases a with
  | Constant _ _ _ => rfl
  | _ => cases h
theorem s_idx {x y : E} (s1 : SE g G xc x) (s2 : SE g G xc y) : SB g G xc (.idx x y) := r_val (q_idx s1 s2) fun l a h => by
  refine ⟨?_, h⟩
  cases a with
  | Subscript _ _ _ => rfl
  | _ => cases h
theorem s_call {f : Nat} {es : Es} (s : SEs g G xc es) : SB g G xc (.call f es) := r_val (q_call s) fun l a h => by
  refine ⟨?_, h⟩
  cases a with
  | Call _ _ _ _ => rfl
  | _ => cases h
theorem s_blt {f : Blt} {es : Es} (s : SEs g G xc es) : SB g G xc (.blt f es) := r_val (q_blt s) fun l a h => by
  refine ⟨?_, h⟩
  cases a with
  | Call _ _ _ _ => rfl
  | _ => cases h
mutual
theorem soE : ∀ e : E, SE g G xc e ∧ SB g G xc e
  | .var i => ⟨q_var i, s_var i⟩
  | .int i => ⟨q_int i, no_test fun _ _ => rfl⟩
  | .str x => ⟨q_str x, no_test fun _ _ => rfl⟩
  | .bl b => ⟨q_bl b, s_bl b⟩
  | .non => ⟨q_non, no_test fun _ _ => rfl⟩
  | .glo x => ⟨q_glo x, no_test fun _ _ => rfl⟩
  | .tup es => ⟨q_tup (soEs es), no_test fun _ _ => rfl⟩
  | .lst es => ⟨q_lst (soEs es), no_test fun _ _ => rfl⟩
  | .dict => ⟨q_dict, no_test fun _ _ => rfl⟩
  | .bin _ a b => ⟨q_bin (soE a).1 (soE b).1, no_test fun _ _ => rfl⟩
  | .neg a => ⟨q_neg (soE a).1, no_test fun _ _ => rfl⟩
  | .not a => ⟨q_not (soE a).1, r_not (soE a).2⟩
  | .cmp _ a b => ⟨q_cmp (soE a).1 (soE b).1, r_cmp (soE a).1 (soE b).1⟩
  | .chain _ _ a b c => ⟨q_chain (soE a).1 (soE b).1 (soE c).1, r_chain (soE a).1 (soE b).1 (soE c).1⟩
  | .and a b => ⟨q_and (soE a).1 (soE b).1, r_and (soE a).2 (soE b).2⟩
  | .or a b => ⟨q_or (soE a).1 (soE b).1, r_or (soE a).2 (soE b).2⟩
  | .ife c a b => ⟨q_ife (soE c).2 (soE a).1 (soE b).1, no_test fun _ _ => rfl⟩
  | .idx a b => ⟨q_idx (soE a).1 (soE b).1, s_idx (soE a).1 (soE b).1⟩
  | .slc a b c => ⟨q_slc (soE a).1 (soE b).1 (soE c).1, no_test fun _ _ => rfl⟩
  | .gdict _ a => ⟨q_gdict (soE a).1, no_test fun _ _ => rfl⟩
  | .lrg a => ⟨q_lrg (soE a).1, no_test fun _ _ => rfl⟩
  | .call _ es => ⟨q_call (soEs es), s_call (soEs es)⟩
  | .callk _ es _ => ⟨q_callk (soEs es), no_test fun _ _ => rfl⟩
  | .blt _ es => ⟨q_blt (soEs es), s_blt (soEs es)⟩
  | .meth _ o es => ⟨q_meth (soE o).1 (soEs es), no_test fun _ _ => rfl⟩
  | .lc _ t i c e => ⟨q_lc (soT t) (soI i) (soE c).2 (soE e).1, no_test fun _ _ => rfl⟩
theorem soEs : ∀ es : Es, SEs g G xc es
  | .nil => q_nil
  | .cons e es => q_cons (soE e).1 (soEs es)
theorem soT : ∀ t : T, ST g G xc t
  | .name i => q_name i
  | .tup ts => q_ttup (soTs ts)
  | .sub o i => q_sub (soE o).1 (soE i).1
theorem soTs : ∀ t : Ts, STs g G xc t
  | .nil => q_tnil
  | .cons t ts => q_tcons (soT t) (soTs ts)
theorem soI : ∀ i : I, SI g G xc i
  | .val e => q_val (soE e).1
  | .keys e => q_keys (soE e).1
  | .rng1 a => q_rng1 (soE a).1
  | .rng2 a b => q_rng2 (soE a).1 (soE b).1
  | .rng3 a b c => q_rng3 (soE a).1 (soE b).1 (soE c).1
  | .enum e => q_enum (soE e).1
  | .zip a b => q_zip (soE a).1 (soE b).1
end
end
end Ly
end
section
set_option Elab.async false
set_option linter.all false
set_option autoImplicit false
set_option maxRecDepth 100000
/-! Terms against the tree: statements. -/
namespace Ly
open PySem PySem.Spec PyProof.Rows L2

/-! ### stores that are exchanged -/
def swB (sc scope : Scope) (y : Str) (py pos : Pos) : Bool := decide (sc.names.lookup y = some .local) && (py.line == pos.line) && !(scope.names.any fun (n, k) => n == y && (k == .local || k == .cell))
theorem sw_is {elt : Expr} {gs : List Comprehension} {scope : Scope} {pos py : Pos} {y : Str} {l : Nat} {env : Env} (hk : env.scope.kind = .function) : swapsWith (.ListComp elt gs scope pos) (some (.Name y py)) l env = pure (swB env.scope scope y py pos) := by
  have hb : env.blockKind = .function := by unfold Env.blockKind; rw [hk]; rfl
  unfold swapsWith swB
  simp only [hb, Expr.pos]
  have e : (env.kindOf y == some NameKind.local) = decide (env.scope.names.lookup y = some .local) := by
    rw [Bool.eq_iff_iff, beq_iff_eq, decide_eq_true_eq]; rfl
  rw [e]
  rfl
def locB (sc : Scope) (x : Str) : Bool := decide (sc.names.lookup x = some .local)
def starB : Expr → Bool
  | .Starred _ _ => true
  | _ => false
theorem not_star {a : Expr} (h : plainX a = true) : (match (generalizing := false) a with | .Starred .. => true | _ => false) = false := by
  cases a <;> first | rfl | cases h
theorem er2 {x y : Str} (h : x ≠ y) : [x, y].eraseDups.length = 2 := by
  have e : (y == x) = false := beq_eq_false_iff_ne.mpr fun z => h z.symm
  simp [List.eraseDups, List.eraseDupsBy, List.eraseDupsBy.loop, e]
theorem er3 {x y z : Str} (h : x ≠ y) (h2 : x ≠ z) (h3 : y ≠ z) : [x, y, z].eraseDups.length = 3 := by
  have e : (y == x) = false := beq_eq_false_iff_ne.mpr fun z => h z.symm
  have e2 : (z == x) = false := beq_eq_false_iff_ne.mpr fun z => h2 z.symm
  have e3 : (z == y) = false := beq_eq_false_iff_ne.mpr fun z => h3 z.symm
  simp [List.eraseDups, List.eraseDupsBy, List.eraseDupsBy.loop, e, e2, e3]
def par2B (sc : Scope) (x y : Str) (px py : Pos) (a b : Expr) : Bool := locB sc x && locB sc y && decide (py.line = px.line) && decide (x ≠ y) && plainX a && plainX b && !([a, b].all (foldedForSure 8)) && !([a, b].all (constantsAlone 8))
theorem sw_par2 {sc : Scope} {x y : Str} {px py pt pt2 : Pos} {kt k2 : Nat} {a b : Expr} {env : Env} (hs : env.scope = sc) (hk : env.scope.kind = .function) (h : par2B sc x y px py a b = true) :
    swappedStores [.Tuple [.Name x px, .Name y py] kt pt] (.Tuple [a, b] k2 pt2) env = pure (some [x, y]) := by
  subst hs
  unfold par2B locB at h
  simp only [Bool.and_eq_true, decide_eq_true_eq, Bool.not_eq_true'] at h
  obtain ⟨⟨⟨⟨⟨⟨⟨h1, h2⟩, h3⟩, h4⟩, h5⟩, h6⟩, h7⟩, h8⟩ := h
  have hb : env.blockKind = .function := by unfold Env.blockKind; rw [hk]; rfl
  have k1 : env.kindOf x = some .local := h1
  have k2' : env.kindOf y = some .local := h2
  have pa := not_star h5
  have pb := not_star h6
  unfold swappedStores
  simp only [hb, List.any_cons, List.any_nil, List.filterMap_cons, List.filterMap_nil, List.head?_cons, Option.map_some, Option.getD_some, k1, k2', h7, h8, Expr.pos, List.length_cons, List.length_nil, h3, pa, pb]
  simp
  rw [if_pos (er2 h4)]
  refine if_neg fun z => ?_
  rcases z with z | z
  · cases a <;> first | exact absurd z Bool.false_ne_true | exact absurd h5 Bool.false_ne_true
  · cases b <;> first | exact absurd z Bool.false_ne_true | exact absurd h6 Bool.false_ne_true
def par3B (sc : Scope) (x y z : Str) (px py pz : Pos) (a b c : Expr) : Bool := locB sc x && locB sc y && locB sc z && decide (py.line = px.line) && decide (pz.line = px.line) && decide (x ≠ y) && decide (x ≠ z) && decide (y ≠ z) && plainX a && plainX b && plainX c && !([a, b, c].all (foldedForSure 8)) && !([a, b, c].all (constantsAlone 8))
theorem sw_par3 {sc : Scope} {x y z : Str} {px py pz pt pt2 : Pos} {kt k2 : Nat} {a b c : Expr} {env : Env} (hs : env.scope = sc) (hk : env.scope.kind = .function) (h : par3B sc x y z px py pz a b c = true) :
    swappedStores [.Tuple [.Name x px, .Name y py, .Name z pz] kt pt] (.Tuple [a, b, c] k2 pt2) env = pure (some [x, y, z]) := by
  subst hs
  unfold par3B locB at h
  simp only [Bool.and_eq_true, decide_eq_true_eq, Bool.not_eq_true'] at h
  obtain ⟨⟨⟨⟨⟨⟨⟨⟨⟨⟨⟨⟨h1, h2⟩, h2'⟩, h3⟩, h3'⟩, h4⟩, h4'⟩, h4''⟩, h5⟩, h6⟩, h6'⟩, h7⟩, h8⟩ := h
  have hb : env.blockKind = .function := by unfold Env.blockKind; rw [hk]; rfl
  have k1 : env.kindOf x = some .local := h1
  have k2' : env.kindOf y = some .local := h2
  have k3' : env.kindOf z = some .local := h2'
  have pa := not_star h5
  have pb := not_star h6
  have pc := not_star h6'
  unfold swappedStores
  simp only [hb, List.any_cons, List.any_nil, List.filterMap_cons, List.filterMap_nil, List.head?_cons, Option.map_some, Option.getD_some, k1, k2', k3', h7, h8, Expr.pos, List.length_cons, List.length_nil, h3, h3', pa, pb, pc]
  simp
  rw [if_pos (er3 h4 h4' h4'')]
  refine if_neg fun z => ?_
  rcases z with z | z | z
  · cases a <;> first | exact absurd z Bool.false_ne_true | exact absurd h5 Bool.false_ne_true
  · cases b <;> first | exact absurd z Bool.false_ne_true | exact absurd h6 Bool.false_ne_true
  · cases c <;> first | exact absurd z Bool.false_ne_true | exact absurd h6' Bool.false_ne_true
/-- no exchange at all: the value or the target is no tuple, or their lengths are others -/
def noSwB (tg e : Expr) : Bool := match tg, e with
  | .Tuple ts _ _, .Tuple vs _ _ => !(decide (ts.length = 2) || decide (ts.length = 3)) || decide (vs.length ≠ ts.length)
  | .List _ _, .Tuple _ _ _ => false
  | _, _ => true
theorem noSw {tg e : Expr} {env : Env} (h : noSwB tg e = true) : swappedStores [tg] e env = pure none := by
  cases tg <;> cases e <;> first
    | rfl
    | (simp only [noSwB, Bool.or_eq_true, Bool.not_eq_true', Bool.or_eq_false_iff, decide_eq_false_iff_not, decide_eq_true_eq] at h
       unfold swappedStores
       simp only [Bool.or_eq_true, Bool.not_eq_true', Bool.or_eq_false_iff, beq_eq_false_iff_ne, bne_iff_ne]
       rw [if_pos]
       rcases h with ⟨h1, h2⟩ | h
       · exact .inl (.inl ⟨h1, h2⟩)
       · exact .inl (.inr h))
    | cases h
/-- no exchange: a target that is no local name -/
def oddT (sc : Scope) : Expr → Bool
  | .Name x _ => !locB sc x
  | _ => true
def noSwC (sc : Scope) (tg e : Expr) : Bool := match tg, e with
  | .Tuple ts _ _, .Tuple _ _ _ => ts.any (oddT sc)
  | _, _ => false
theorem short_map {α β : Type} {f : α → Option β} : ∀ {xs : List α}, (∃ x ∈ xs, f x = none) → (xs.filterMap f).length < xs.length
  | [], h => by
    obtain ⟨x, hx, _⟩ := h
    cases hx
  | x :: xs, h => by
    have hle : (xs.filterMap f).length ≤ xs.length := List.length_filterMap_le f xs
    cases e : f x with
    | none =>
      rw [List.filterMap_cons_none e]
      exact Nat.lt_succ_of_le hle
    | some y =>
      rw [List.filterMap_cons_some e]
      obtain ⟨z, hz, q⟩ := h
      rcases List.mem_cons.mp hz with rfl | hz
      · rw [e] at q; cases q
      · exact Nat.succ_lt_succ (short_map ⟨z, hz, q⟩)
theorem noSw2 {sc : Scope} {tg e : Expr} {env : Env} (hs : env.scope = sc) (h : noSwC sc tg e = true) : swappedStores [tg] e env = pure none := by
  subst hs
  cases tg <;> cases e <;> first
    | cases h
    | (rename_i ts k p vs k2 p2
       have h : ts.any (oddT env.scope) = true := h
       unfold swappedStores
       simp only
       split
       · rfl
       · split
         · rfl
         · rw [if_pos]
           rw [Bool.or_eq_true]
           refine .inl ?_
           rw [bne_iff_ne]
           refine Nat.ne_of_lt (short_map ?_)
           obtain ⟨t, ht, q⟩ := List.any_eq_true.mp h
           refine ⟨t, ht, ?_⟩
           cases t with
           | Name x px =>
             have q : (!locB env.scope x) = true := q
             have hk : (env.kindOf x == some NameKind.local) = false := by
               rw [beq_eq_false_iff_ne]
               intro z
               have z : env.scope.names.lookup x = some .local := z
               unfold locB at q
               rw [decide_eq_true z] at q
               cases q
             show (if (env.kindOf x == some NameKind.local && _) = true then _ else _) = _
             rw [hk]; rfl
           | _ => rfl)
end Ly
end
section
set_option Elab.async false
set_option linter.all false
set_option autoImplicit false
set_option maxRecDepth 100000
/-! Terms against the tree: statements, their check and what it says. -/
namespace Ly
open PySem PySem.Spec PyProof.Rows L2

def lcB : Expr → Bool
  | .ListComp _ [⟨_, _, _, 0⟩] _ _ => true
  | _ => false
/-- the value of a name's store -/
def setB (sc : Scope) (y : Str) (py : Pos) (e : Expr) : Bool := match e with
  | .ListComp _ _ scope pos => swB sc scope y py pos
  | _ => false
def pairB (l : Lc) (t : T) (e : E) (tg v : Expr) : Bool := match t, e, tg, v with
  | .tup (.cons (.name i) (.cons (.name j) .nil)), .tup _, .Tuple [.Name x px, .Name y py] _ _, .Tuple [a, b] _ _ => decide (l.N[i]? = some x) && decide (l.N[j]? = some y) && decide (i ≠ j) && par2B l.sc x y px py a b
  | .tup (.cons (.name i) (.cons (.name j) (.cons (.name k) .nil))), .tup _, .Tuple [.Name x px, .Name y py, .Name z pz] _ _, .Tuple [a, b, c] _ _ => decide (l.N[i]? = some x) && decide (l.N[j]? = some y) && decide (l.N[k]? = some z) && decide (i ≠ j) && decide (i ≠ k) && decide (j ≠ k) && par3B l.sc x y z px py pz a b c
  | _, _, _, _ => false
def suB (su : Ss) (b : List Stmt) : Bool := match su, b with
  | .cons (.ret (.lst .nil)) .nil, [.Return (some (.List [] _)) _] => true
  | .cons (.ret .non) .nil, [.Return (some (.Constant .none _ _)) _] => true
  | .cons .retn .nil, [.Return none _] => true
  | _, _ => false
mutual
def chkS (g : Sg) (l : Lc) : S → Stmt → Bool
  | .set i e, st => (match st with
    | .Assign [.Name x py] v _ => decide (l.N[i]? = some x) && sto l x && chkE g l e v && (notComp v || lcB v)
    | _ => false)
  | .asg t e, st => (match st with
    | .Assign [tg] v _ => plainX tg && chkE g l e v && notComp v && ((chkT g l t tg && (noSwB tg v || noSwC l.sc tg v)) || pairB l t e tg v)
    | _ => false)
  | .expr e, st => (match st with
    | .Expr v _ => chkE g l e v && notComp v
    | _ => false)
  | .ret e, st => (match st with
    | .Return (some v) _ => chkE g l e v
    | _ => false)
  | .retn, st => (match st with
    | .Return none _ => true
    | _ => false)
  | .pass, st => (match st with
    | .Pass _ => true
    | _ => false)
  | .brk, st => (match st with
    | .Break _ => true
    | _ => false)
  | .cnt, st => (match st with
    | .Continue _ => true
    | _ => false)
  | .ifs c a b, st => (match st with
    | .If c' a' b' _ => chkB g l c c' && chkSs g l a a' && chkSs g l b b'
    | _ => false)
  | .whl c b, st => (match st with
    | .While c' b' [] _ => chkB g l c c' && chkSs g l b b'
    | _ => false)
  | .fors t i b, st => (match st with
    | .For tg it b' [] _ => chkT g l t tg && chkI g l i tg it && plainW it && chkSs g l b b'
    | _ => false)
  | .rai c e, st => (match st with
    | .Raise (some (.Call (.Name x _) [v] [] _)) none _ => decide (g.exs[c]? = some x) && gl? l.sc x && plainX v && chkE g l e v
    | _ => false)
  | .tryo b c su, st => (match st with
    | .Try b' [.ExceptHandler (some (.Name x _)) none (s0 :: r) _] [] [] _ => decide (g.exs[c]? = some x) && gl? l.sc x && chkSs g l b b' && suB su (s0 :: r)
    | _ => false)
  | .never, _ => true
def chkSs (g : Sg) (l : Lc) : Ss → List Stmt → Bool
  | .nil, b => b.isEmpty
  | .cons s ss, b => (match b with
    | st :: r => chkS g l s st && chkSs g l ss r
    | [] => false)
end
structure CtxS (X : Cx) (xc : Nat → Value) (W : L2.WX) (g : Sg) (G : Gm) (l : Lc) : Prop extends CtxOk X xc W g G l where
  stk : X.stack = X.env :: X.outer
  frm : X.env.frame = some X.env.locals
  own : PassesOwn (model X.prog X.w) X.A X.env X.xe
  exc : ∀ c x, g.exs[c]? = some x → ∃ C, ExcAt X x C ∧ xc c = .ref C ∧ PySem.W.exmOne X.K (.ref C) (.ref C) = some true
theorem CtxS.tr {X : Cx} {xc : Nat → Value} {W W' : L2.WX} {g : Sg} {G : Gm} {l : Lc} (O : CtxS X xc W g G l) (pn : List (Addr × Obj)) (xe : Value → Shared → Prop) (tk : Takes (X.tr pn xe) W') (po : PassesOwn (model X.prog X.w) X.A X.env xe) : CtxS (X.tr pn xe) xc W' g G l :=
  ⟨⟨O.calm, O.nd, O.units, O.grd, tk, O.hN, O.hs, O.hst, O.kind, O.glo, O.gd, O.blt, O.rng, O.enm, O.zp, O.fn⟩, O.stk, O.frm, po, O.exc⟩
def SS (g : Sg) (G : Gm) (xc : Nat → Value) (s : S) : Prop := ∀ (X : Cx) (W : L2.WX) (l : Lc), CtxS X xc W g G l → ∀ st, chkS g l s st = true → PS X st (sL X xc W (evS G s))
def SSs (g : Sg) (G : Gm) (xc : Nat → Value) (s : Ss) : Prop := ∀ (X : Cx) (W : L2.WX) (l : Lc), CtxS X xc W g G l → ∀ st, chkSs g l s st = true → PSs X st (sL X xc W (evSs G s))
section
variable {g : Sg} {G : Gm} {xc : Nat → Value}
theorem lc_shape {l : Lc} {own : List Nat} {t : T} {i : I} {c e : E} {a : Expr} (h : (match a with
    | .ListComp elt [⟨tg, iter, ifs, 0⟩] scope _ => blkC l.N l.sc scope (ownP l.N own) && (T.names t).all (fun i => own.contains i) && chkT g ⟨l.N, relS scope l.sc, fun x => scope.names.lookup x == some .cell⟩ t tg && chkI g l i tg iter && plainW iter &&
      chkE g ⟨l.N, relS scope l.sc, fun x => scope.names.lookup x == some .cell⟩ e elt && (match ifs with
        | [] => c.isTrue
        | [b] => chkB g ⟨l.N, relS scope l.sc, fun x => scope.names.lookup x == some .cell⟩ c b
        | _ => false)
    | _ => false) = true) : ∃ elt tg iter ifs scope p, a = .ListComp elt [⟨tg, iter, ifs, 0⟩] scope p ∧ blkC l.N l.sc scope (ownP l.N own) = true ∧ (T.names t).all (fun i => own.contains i) = true ∧ chkT g ⟨l.N, relS scope l.sc, fun x => scope.names.lookup x == some .cell⟩ t tg = true ∧ chkI g l i tg iter = true ∧ plainW iter = true ∧
      chkE g ⟨l.N, relS scope l.sc, fun x => scope.names.lookup x == some .cell⟩ e elt = true ∧ (match ifs with
        | [] => c.isTrue
        | [b] => chkB g ⟨l.N, relS scope l.sc, fun x => scope.names.lookup x == some .cell⟩ c b
        | _ => false) = true := by
  split at h
  · simp only [Bool.and_eq_true] at h
    obtain ⟨⟨⟨⟨⟨⟨h1, h2⟩, h3⟩, h4⟩, h5⟩, h6⟩, h7⟩ := h
    exact ⟨_, _, _, _, _, _, rfl, h1, h2, h3, h4, h5, h6, h7⟩
  · cases h
/-- a comprehension stored to a local name on its line -/
theorem setLc_chk {X : Cx} {W : L2.WX} {l : Lc} (O : CtxS X xc W g G l) {k : Nat} {x : Str} {py spos : Pos} {own : List Nat} {t : T} {i : I} {c e : E} {a : Expr} (hk : X.N[k]? = some x) (h : chkE g l (.lc own t i c e) a = true)
    (hsw : setB l.sc x py a = true) : PS X (.Assign [.Name x py] a spos) (sL X xc W fun sl h => (evE G (.lc own t i c e) sl h).st sl fun v h1 => .nx (sl.set k (some v)) h1) := by
  obtain ⟨elt, tg, iter, ifs, scope, p, rfl, h1, h2, h3, h4, h5, h6, h7⟩ := lc_shape h
  have ok : BlkOk X.N X.env.scope scope (ownP l.N own) := by rw [O.hN, O.hs]; exact blkOk_by h1
  have B := fun s H C cl fp => O.toCtxOk.blk (scope := scope) ok.kind s H C cl fp
  have hns : ∀ i ∈ t.names, i ∈ (ownP l.N own).map (·.2) := fun i hi => by
    rw [ownP_snd]
    simpa using List.all_eq_true.mp h2 i hi
  have hl : evE G (.lc own t i c e) = lcL (evI G i) (evT G t) (evE G c) (evE G e) ((ownP l.N own).map (·.2)) := by rw [ownP_snd]; rfl
  have hsw' : swB X.env.scope scope x py p = true := by rw [O.hs]; exact hsw
  have hyl : X.env.scope.names.lookup x = some .local := by
    unfold swB at hsw'
    simp only [Bool.and_eq_true, decide_eq_true_eq] at hsw'
    exact hsw'.1.1
  have sw : swapsWith (.ListComp elt [⟨tg, iter, ifs, 0⟩] scope p) (some (.Name x py)) spos.line X.env = pure true := by rw [sw_is O.kind, hsw']
  rw [hl]
  match ifs, h7 with
  | [], h7 =>
    have h7 := E.isTrue_ok h7
    subst h7
    exact s_setLc O.calm O.nd hk hyl sw (soI i X W l O.toCtxOk tg iter h4) ok hns (fun s H C cl fp => soT t _ _ _ (B s H C cl fp) tg h3) test_none (fun s H C cl fp => (soE e).1 _ _ _ (B s H C cl fp) elt h6) (walk_plain h5)
  | [b], h7 =>
    exact s_setLc O.calm O.nd hk hyl sw (soI i X W l O.toCtxOk tg iter h4) ok hns (fun s H C cl fp => soT t _ _ _ (B s H C cl fp) tg h3) (test_one fun s H C cl fp => ((soE c).2 _ _ _ (B s H C cl fp) b h7).1) (fun s H C cl fp => (soE e).1 _ _ _ (B s H C cl fp) elt h6) (walk_plain h5)
theorem lcB_only {e : E} {l : Lc} {v : Expr} (h : chkE g l e v = true) (hl : lcB v = true) : ∃ own t i c e', e = .lc own t i c e' := by
  cases v with
  | ListComp elt gs sc p => cases e <;> first | exact ⟨_, _, _, _, _, rfl⟩ | cases h
  | _ => cases hl
theorem set_shape {l : Lc} {k : Nat} {e : E} {st : Stmt} (h : (match st with
    | .Assign [.Name x py] v _ => decide (l.N[k]? = some x) && sto l x && chkE g l e v && (notComp v || lcB v)
    | _ => false) = true) : ∃ x py v p, st = .Assign [.Name x py] v p ∧ l.N[k]? = some x ∧ sto l x = true ∧ chkE g l e v = true ∧ (notComp v = true ∨ lcB v = true) := by
  split at h
  · simp only [Bool.and_eq_true, decide_eq_true_eq, Bool.or_eq_true] at h
    obtain ⟨⟨⟨h1, h2⟩, h3⟩, h4⟩ := h
    exact ⟨_, _, _, _, rfl, h1, h2, h3, h4⟩
  · cases h
theorem z_set {k : Nat} {e : E} : SS g G xc (.set k e) := fun X W l O st h => by
  obtain ⟨x, py, v, spos, rfl, h1, h2, h3, h4⟩ := set_shape h
  obtain ⟨h5, h6⟩ := sto_ok O.toCtxOk h2
  have hk : X.N[k]? = some x := by rw [O.hN]; exact h1
  rcases h4 with h4 | h4
  · exact s_set O.nd hk h5 ((soE e).1 X W l O.toCtxOk v h3) (swaps_plain h4) h6
  · by_cases hsw : setB l.sc x py v = true
    · obtain ⟨own, t, i, c, e', rfl⟩ := lcB_only h3 h4
      exact setLc_chk O hk h3 hsw
    · refine s_set O.nd hk h5 ((soE e).1 X W l O.toCtxOk v h3) ?_ h6
      cases v with
      | ListComp elt gs sc p =>
        rw [sw_is O.kind, O.hs]
        exact congrArg pure (Bool.eq_false_iff.mpr hsw)
      | _ => cases h4
theorem z_expr {e : E} : SS g G xc (.expr e) := fun X W l O st h => by
  cases st with
  | Expr v p =>
    have h : (chkE g l e v && notComp v) = true := h
    rw [Bool.and_eq_true] at h
    exact s_expr ((soE e).1 X W l O.toCtxOk v h.1) (swaps_plain h.2)
  | _ => cases h
theorem z_ret {e : E} : SS g G xc (.ret e) := fun X W l O st h => by
  cases st with
  | Return v p =>
    cases v with
    | none => cases h
    | some v => exact s_ret ((soE e).1 X W l O.toCtxOk v h)
  | _ => cases h
theorem z_retn : SS g G xc .retn := fun X W l O st h => by
  cases st with
  | Return v p =>
    cases v with
    | none => exact s_retn
    | some v => cases h
  | _ => cases h
theorem z_pass : SS g G xc .pass := fun X W l O st h => by
  cases st with
  | Pass p => exact s_pass
  | _ => cases h
theorem z_brk : SS g G xc .brk := fun X W l O st h => by
  cases st with
  | Break p => exact s_brk
  | _ => cases h
theorem z_cnt : SS g G xc .cnt := fun X W l O st h => by
  cases st with
  | Continue p => exact s_cnt
  | _ => cases h
theorem z_never : SS g G xc .never := fun X W l O st _ => PS.imp ps_never fun D σ H ⟨θ, sl, h, S, R, P⟩ => P
theorem z_ifs {c : E} {a b : Ss} (s1 : SSs g G xc a) (s2 : SSs g G xc b) : SS g G xc (.ifs c a b) := fun X W l O st h => by
  cases st with
  | If c' a' b' p =>
    have h : (chkB g l c c' && chkSs g l a a' && chkSs g l b b') = true := h
    simp only [Bool.and_eq_true] at h
    obtain ⟨⟨h1, h2⟩, h3⟩ := h
    exact s_if ((soE c).2 X W l O.toCtxOk c' h1).1 (s1 X W l O a' h2) (s2 X W l O b' h3)
  | _ => cases h
theorem z_whl {c : E} {b : Ss} (s2 : SSs g G xc b) : SS g G xc (.whl c b) := fun X W l O st h => by
  cases st with
  | While c' b' o p =>
    cases o with
    | cons _ _ => cases h
    | nil =>
      have h : (chkB g l c c' && chkSs g l b b') = true := h
      simp only [Bool.and_eq_true] at h
      exact s_while O.own ((soE c).2 X W l O.toCtxOk c' h.1).1 (s2 X W l O b' h.2)
  | _ => cases h
theorem z_fors {t : T} {i : I} {b : Ss} (s2 : SSs g G xc b) : SS g G xc (.fors t i b) := fun X W l O st h => by
  cases st with
  | For tg it b' o p =>
    cases o with
    | cons _ _ => cases h
    | nil =>
      have h : (chkT g l t tg && chkI g l i tg it && plainW it && chkSs g l b b') = true := h
      simp only [Bool.and_eq_true] at h
      obtain ⟨⟨⟨h1, h2⟩, h3⟩, h4⟩ := h
      exact s_for O.own O.calm (soI i X W l O.toCtxOk tg it h2) (soT t X W l O.toCtxOk tg h1) (s2 X W l O b' h4) (walk_plain h3)
  | _ => cases h
theorem rai_shape {l : Lc} {c : Nat} {e : E} {st : Stmt} (h : (match st with
    | .Raise (some (.Call (.Name x _) [v] [] _)) none _ => decide (g.exs[c]? = some x) && gl? l.sc x && plainX v && chkE g l e v
    | _ => false) = true) : ∃ x p1 v p2 p3, st = .Raise (some (.Call (.Name x p1) [v] [] p2)) none p3 ∧ g.exs[c]? = some x ∧ gl? l.sc x = true ∧ plainX v = true ∧ chkE g l e v = true := by
  split at h
  · simp only [Bool.and_eq_true, decide_eq_true_eq] at h
    obtain ⟨⟨⟨h1, h2⟩, h3⟩, h4⟩ := h
    exact ⟨_, _, _, _, _, rfl, h1, h2, h3, h4⟩
  · cases h
theorem z_rai {c : Nat} {e : E} : SS g G xc (.rai c e) := fun X W l O st h => by
  obtain ⟨x, p1, v, p2, p3, rfl, h1, h2, h3, h4⟩ := rai_shape h
  obtain ⟨C, E, hx, _⟩ := O.exc c x h1
  obtain ⟨h5, h6⟩ := env_sc O.toCtxOk h2
  exact s_rai O.calm O.tk E hx h5 ((soE e).1 X W l O.toCtxOk v h4) h3 h6
theorem try_shape {l : Lc} {c : Nat} {b su : Ss} {st : Stmt} (h : (match st with
    | .Try b' [.ExceptHandler (some (.Name x _)) none (s0 :: r) _] [] [] _ => decide (g.exs[c]? = some x) && gl? l.sc x && chkSs g l b b' && suB su (s0 :: r)
    | _ => false) = true) : ∃ b' x p1 s0 r p2 p3, st = .Try b' [.ExceptHandler (some (.Name x p1)) none (s0 :: r) p2] [] [] p3 ∧ g.exs[c]? = some x ∧ gl? l.sc x = true ∧ chkSs g l b b' = true ∧ suB su (s0 :: r) = true := by
  split at h
  · simp only [Bool.and_eq_true, decide_eq_true_eq] at h
    obtain ⟨⟨⟨h1, h2⟩, h3⟩, h4⟩ := h
    exact ⟨_, _, _, _, _, _, _, rfl, h1, h2, h3, h4⟩
  · cases h
theorem su_ok {X : Cx} {W : L2.WX} {su : Ss} {b : List Stmt} (h : suB su b = true) : PSs X b (sL X xc W (evSs G su)) := by
  unfold suB at h
  split at h
  · exact s_cons (s_ret (e_lst a_nil)) s_nil
  · exact s_cons (s_ret (e_const pe_non fun _ _ => .non)) s_nil
  · exact s_cons s_retn s_nil
  · cases h
theorem tryL_eq {b su : Ss} {c : Nat} : evS G (.tryo b c su) = tryL c (evSs G b) (evSs G su) := by
  funext sl h
  show (match evSs G b sl h with | .exc d v sl1 h1 => _ | r => r) = tryL c (evSs G b) (evSs G su) sl h
  unfold tryL
  cases evSs G b sl h <;> rfl
theorem z_tryo {b su : Ss} {c : Nat} (s1 : SSs g G xc b) : SS g G xc (.tryo b c su) := fun X W l O st h => by
  obtain ⟨b', x, p1, s0, r, p2, p3, rfl, h1, h2, h3, h4⟩ := try_shape h
  obtain ⟨C, E, hx, hm⟩ := O.exc c x h1
  obtain ⟨h5, h6⟩ := env_sc O.toCtxOk h2
  have hmg : X.mg x = some (.ref C) := by
    obtain ⟨_, _, _, _, _, _, _, _, _, _, _, _, q⟩ := E
    exact q
  rw [tryL_eq]
  exact s_try O.stk O.frm ⟨h5, h6, .inl hmg⟩ hx hm O.tk (fun W' pn xe tk po => s1 _ _ l (O.tr pn xe tk po) b' h3) fun a pn => su_ok h4
theorem two2_eq {i j : Nat} {v : L} {sl : LS} {h : LH} : (evT G (.tup (.cons (.name i) (.cons (.name j) .nil))) v sl h).only = two2 i j v sl h := by
  cases v with
  | tup xs =>
    match xs with
    | [] => rfl
    | [_] => rfl
    | [_, _] => rfl
    | a :: b :: c :: xs =>
      show (if xs.length + 1 + 1 + 1 = 2 then evTs G (.cons (.name i) (.cons (.name j) .nil)) (a :: b :: c :: xs) sl h else RS.bad).only = RS.bad
      rw [if_neg (by omega)]; rfl
  | _ => rfl
theorem three3_eq {i j k : Nat} {v : L} {sl : LS} {h : LH} : (evT G (.tup (.cons (.name i) (.cons (.name j) (.cons (.name k) .nil)))) v sl h).only = three3 i j k v sl h := by
  cases v with
  | tup xs =>
    match xs with
    | [] => rfl
    | [_] => rfl
    | [_, _] => rfl
    | [_, _, _] => rfl
    | a :: b :: c :: d :: xs =>
      show (if xs.length + 1 + 1 + 1 + 1 = 3 then evTs G (.cons (.name i) (.cons (.name j) (.cons (.name k) .nil))) (a :: b :: c :: d :: xs) sl h else RS.bad).only = RS.bad
      rw [if_neg (by omega)]; rfl
  | _ => rfl
theorem pair_chk {X : Cx} {W : L2.WX} {l : Lc} (O : CtxS X xc W g G l) {t : T} {e : E} {tg v : Expr} {spos : Pos} (hc : chkE g l e v = true) (h : pairB l t e tg v = true) : PS X (.Assign [tg] v spos) (sL X xc W (evS G (.asg t e))) := by
  unfold pairB at h
  split at h
  · rename_i i j es x px y py kt pt a b k2 pt2
    simp only [Bool.and_eq_true, decide_eq_true_eq] at h
    obtain ⟨⟨⟨h1, h2⟩, h3⟩, h4⟩ := h
    have hl : X.env.scope.names.lookup x = some .local ∧ X.env.scope.names.lookup y = some .local := by
      rw [O.hs]
      unfold par2B locB at h4
      simp only [Bool.and_eq_true, decide_eq_true_eq] at h4
      exact ⟨h4.1.1.1.1.1.1.1, h4.1.1.1.1.1.1.2⟩
    have q := s_par (kt := kt) (k2 := k2) (pt := pt) (pt2 := pt2) (pos := spos) O.calm O.nd (by rw [O.hN]; exact h1) (by rw [O.hN]; exact h2) h3 hl.1 hl.2 ((soEs es X W l O.toCtxOk).1 [a, b] hc) (sw_par2 O.hs O.kind h4)
    have e1 : evS G (.asg (.tup (.cons (.name i) (.cons (.name j) .nil))) (.tup es)) = fun sl h => (tupL (evEs G es) sl h).st sl fun v h1 => two2 i j v sl h1 := by
      funext sl h
      show (tupL (evEs G es) sl h).st sl (fun v h1 => (evT G (.tup (.cons (.name i) (.cons (.name j) .nil))) v sl h1).only) = _
      congr 1
      funext v h1
      exact two2_eq
    rw [e1]
    exact q
  · rename_i i j k es x px y py z pz kt pt a b c k2 pt2
    simp only [Bool.and_eq_true, decide_eq_true_eq] at h
    obtain ⟨⟨⟨⟨⟨⟨h1, h2⟩, h2'⟩, h3⟩, h3'⟩, h3''⟩, h4⟩ := h
    have hl : X.env.scope.names.lookup x = some .local ∧ X.env.scope.names.lookup y = some .local ∧ X.env.scope.names.lookup z = some .local := by
      rw [O.hs]
      unfold par3B locB at h4
      simp only [Bool.and_eq_true, decide_eq_true_eq] at h4
      exact ⟨h4.1.1.1.1.1.1.1.1.1.1.1.1, h4.1.1.1.1.1.1.1.1.1.1.1.2, h4.1.1.1.1.1.1.1.1.1.1.2⟩
    have q := s_par3 (kt := kt) (k2 := k2) (pt := pt) (pt2 := pt2) (pos := spos) O.calm O.nd (by rw [O.hN]; exact h1) (by rw [O.hN]; exact h2) (by rw [O.hN]; exact h2') h3 h3' h3'' hl.1 hl.2.1 hl.2.2 ((soEs es X W l O.toCtxOk).1 [a, b, c] hc) (sw_par3 O.hs O.kind h4)
    have e1 : evS G (.asg (.tup (.cons (.name i) (.cons (.name j) (.cons (.name k) .nil)))) (.tup es)) = fun sl h => (tupL (evEs G es) sl h).st sl fun v h1 => three3 i j k v sl h1 := by
      funext sl h
      show (tupL (evEs G es) sl h).st sl (fun v h1 => (evT G (.tup (.cons (.name i) (.cons (.name j) (.cons (.name k) .nil)))) v sl h1).only) = _
      congr 1
      funext v h1
      exact three3_eq
    rw [e1]
    exact q
  · cases h
theorem sole_plain {tg v : Expr} {n : Nat} {env : Env} (h : notComp v = true) : swapsWithSole [tg] v n env = pure false := swaps_plain h
theorem asg_shape {l : Lc} {t : T} {e : E} {st : Stmt} (h : (match st with
    | .Assign [tg] v _ => plainX tg && chkE g l e v && notComp v && ((chkT g l t tg && (noSwB tg v || noSwC l.sc tg v)) || pairB l t e tg v)
    | _ => false) = true) : ∃ tg v p, st = .Assign [tg] v p ∧ plainX tg = true ∧ chkE g l e v = true ∧ notComp v = true ∧ ((chkT g l t tg = true ∧ (noSwB tg v = true ∨ noSwC l.sc tg v = true)) ∨ pairB l t e tg v = true) := by
  split at h
  · simp only [Bool.and_eq_true, Bool.or_eq_true] at h
    obtain ⟨⟨⟨h1, h2⟩, h3⟩, h4⟩ := h
    exact ⟨_, _, _, rfl, h1, h2, h3, h4⟩
  · cases h
theorem z_asg {t : T} {e : E} : SS g G xc (.asg t e) := fun X W l O st h => by
  obtain ⟨tg, v, p, rfl, h1, h2, h3, h4⟩ := asg_shape h
  rcases h4 with h4 | h4
  · exact s_asg ((soE e).1 X W l O.toCtxOk v h2) (soT t X W l O.toCtxOk tg h4.1) (sole_plain h3) (h4.2.elim noSw fun q => noSw2 O.hs q) h1
  · exact pair_chk O h2 h4
theorem z_nil : SSs g G xc .nil := fun X W l O st h => by
  cases st with
  | nil => exact s_nil
  | cons _ _ => cases h
theorem z_cons {s : S} {ss : Ss} (s1 : SS g G xc s) (s2 : SSs g G xc ss) : SSs g G xc (.cons s ss) := fun X W l O st h => by
  cases st with
  | nil => cases h
  | cons a b =>
    have h : (chkS g l s a && chkSs g l ss b) = true := h
    rw [Bool.and_eq_true] at h
    exact s_cons (s1 X W l O a h.1) (s2 X W l O b h.2)
mutual
theorem soS : ∀ s : S, SS g G xc s
  | .set _ _ => z_set
  | .asg _ _ => z_asg
  | .expr _ => z_expr
  | .ret _ => z_ret
  | .retn => z_retn
  | .pass => z_pass
  | .brk => z_brk
  | .cnt => z_cnt
  | .ifs _ a b => z_ifs (soSs a) (soSs b)
  | .whl _ b => z_whl (soSs b)
  | .fors _ _ b => z_fors (soSs b)
  | .rai _ _ => z_rai
  | .tryo b _ _ => z_tryo (soSs b)
  | .never => z_never
theorem soSs : ∀ s : Ss, SSs g G xc s
  | .nil => z_nil
  | .cons s ss => z_cons (soS s) (soSs ss)
end
end
end Ly
end
section
set_option Elab.async false
set_option linter.all false
set_option autoImplicit false
set_option maxRecDepth 100000
/-! Defs, the law's call. fn_ofG and law_callG are turned from HandS's rules: they hand on that no guard stands. -/
namespace Ly
open PySem PySem.Spec PyProof.Rows L2
theorem fn_ofG {xc : Nat → Value} {cl : List L → LH → R L} {P : Program} {w : World} {K : PySem.W.Frag} {mg : Str → Option Value} {base : Heap} {k : Nat} {f : Addr} {name qual : Str} {params : Arguments} {body : List Stmt} {scope : Scope} {dV kV doc pm cdv ct oc : Value} {an od : Option Addr}
    {osl : Array (Option Value)} {N ps : List Str} (lk : K.lookup f = some ⟨oc, od, .func (PySem.W.fnOf name qual params body scope dV kV doc pm an cdv ct), osl⟩) (hcd : PySem.W.codeIn K cdv qual = true) (S : FnScope N ps scope)
    (len : ∀ as h, cl as h ≠ .bad → as.length = ps.length)
    (hbody : ∀ (A : Around) (outer : List Env) (s : Shared) (H : Hp) (vs : List V) (Q : VK) (E : XK), Room k (A.deeper (envOfC qual scope s.heap.objs.size f cdv)) → (A.deeper (envOfC qual scope s.heap.objs.size f cdv)).guards = some [] → vs.length = ps.length → spL K w xc cl vs H Q E →
      ∃ t, PSs (cxOf (L2.CX P w) P w K mg base N qual scope f cdv A outer s H E) body t ∧ t { nx := fun _ H' => Q .non H', rt := Q } (start N vs) H) :
    FnG P w K mg base xc (k + 1) f (PySem.W.fnOf name qual params body scope dV kV doc pm an cdv ct) ps cl := by
  refine ⟨len, fun A outer s H args us vs Q E hr hgd e0 hb r hsp => ?_⟩
  have hl : vs.length = ps.length := by
    obtain ⟨as, θ, g, R, ra, P⟩ := hsp
    rw [← ra.length]
    refine len as g fun e => ?_
    rw [e] at P
    exact P.bad
  have KX : K.In s.heap := e0.mod.kin.keeps fun b o e => (e0.bs b o e).1
  have lim : s.heap.NoLimit := e0.mod.nolimit.keeps fun b o e => (e0.bs b o e).1
  have hkind : ∀ y ∈ ps.zip us, scope.names.lookup y.1 = some .local ∨ (scope.names.lookup y.1 = some .cell ∧ ((cellsFrom (s.heap.objs.size + 1) scope.names []).lookup y.1).isSome = true) := fun ⟨n, v⟩ hy => by
    rcases S.par n (List.of_mem_zip hy).1 with q | q
    · exact .inl q
    · exact .inr ⟨q, PySem.W.cellsFrom_some _ _ _ (.inl q)⟩
  refine codeAny_call_function hr.depth (KX _ _ lk) rfl S.co S.gen rfl (PySem.W.codeRec_of KX hcd) (hb _ _ _ _ ?_)
  refine wpAny_newFunctionEnv_cells S.kind hkind fun env he s1 x => ?_
  subst he
  refine ⟨lim.keeps x.toInCall.keep, codeAny_func ?_⟩
  obtain ⟨t, ht, hq⟩ := hbody A outer s H vs Q E (hr.deeper _) hgd hl hsp
  have I : Inv (cxOf (L2.CX P w) P w K mg base N qual scope f cdv A outer s H E) [] (start N vs) H s1 := inv_start S hr.hd e0 hl r x
  refine wpAny_mono (ht.run [] s1 (start N vs) H _ I hq) (fun fl s' hs => ?_) fun e s' hs => hs
  have fin : ∀ {σ' : L2.St} {H' : Hp} {v : V} {u : Value}, Inv (cxOf (L2.CX P w) P w K mg base N qual scope f cdv A outer s H E) [] σ' H' s' → RelV v u → Q v H' → CE outer P w H s Q u s' :=
    fun {σ' H' v u} J rv q => ⟨v, H', J.os, J.bare, J.base, J.hok, rv, q⟩
  cases fl with
  | ret u =>
    obtain ⟨v, σ', H', J, rv, q⟩ := hs
    exact fin J rv q
  | next =>
    obtain ⟨σ', H', J, q⟩ := hs
    exact fin (v := V.non) (u := Value.none) J rfl q
  | brk =>
    obtain ⟨_, _, _, q⟩ := hs
    exact False.elim q
  | cont =>
    obtain ⟨_, _, _, q⟩ := hs
    exact False.elim q
theorem law_callG {P : Program} {w : World} {K : PySem.W.Frag} {mg mb : Str → Option Value} {xc : Nat → Value} {cl : List L → LH → R L} {k : Nat} {fa a : Addr} {fd : FuncData} {x : Str} {s₁ : Shared} {vs : List Value} {ns : List Int}
    (KX : K.In s₁.heap) (hns : s₁.heap.Ns mainGlobals mg) (hb : s₁.heap.Ns builtinsNs mb) (hbb : ∀ x : Str, x ≠ "__name__" → mb x = bootBuiltins x) (hlim : s₁.heap.NoLimit) (hg : s₁.gens = #[])
    (ha : s₁.heap.get? a = some { cls := .type "list", data := .seq vs.toArray }) (hi : IntsAre vs ns) (hl : ns.length ≤ sizeLine) (hr : Room k callerA)
    (F : ∀ base : Heap, K.In base → base.Ns mainGlobals mg → FnG P w K mg base xc k fa fd [x] cl) (hbind : ∀ (s : Shared) (u : Value), BindsTo s fd ⟨[u], []⟩ [(x, u)])
    (hsp : ∀ H : Hp, Only H → SqL K H a (ns.map V.int) → spL K w xc cl [.ref a] H (fun v _ => v = .bl true) fun _ _ _ => False) :
    codeAny (model P w) callerA (.call (.ref fa) ⟨[.ref a], []⟩) (fun r s' => r = .ok (.ret (.bool true)) ∧ OldK s₁.heap s'.heap ∧ s'.os = s₁.os ∧ AllBare s'.gens) s₁ := by
  have rv := vals_ints hi
  have lenV := hi.length
  -- from an abstract heap in which nothing but the script may be tracked
  have core : ∀ H : Hp, Only H → SqL K H a (ns.map V.int) → HOk P w H s₁.heap → (∀ b, H b ≠ none → b = a) → (H a ≠ none → K.lookup a = none) →
      codeAny (model P w) callerA (.call (.ref fa) ⟨[.ref a], []⟩) (fun r s' => r = .ok (.ret (.bool true)) ∧ OldK s₁.heap s'.heap ∧ s'.os = s₁.os ∧ AllBare s'.gens) s₁ := by
    intro H hO hS hok hA hK
    have base_of : ∀ {b : Addr} {o : Obj}, s₁.heap.get? b = some o → H b = none → (hidT s₁.heap H).get? b = some o := fun e n => hidT_get e n
    have noA : ∀ {b : Addr} {o : Obj} {es : Array DictEntry} {ep : Nat}, s₁.heap.get? b = some o → o.data = .dict es ep → H b = none := fun {b o es ep} e d => by
      cases q : H b with
      | none => rfl
      | some u =>
        have e' : b = a := hA b (by rw [q]; simp)
        subst e'
        rw [ha] at e; cases e
        have d' : Data.seq vs.toArray _ = Data.dict es ep := d
        cases d'
    have nsK : ∀ {b : Addr} {m : Str → Option Value}, s₁.heap.Ns b m → (hidT s₁.heap H).Ns b m := fun {b m} ⟨o, es, ep, e, d, r⟩ => ⟨o, es, ep, base_of e (noA e d), d, r⟩
    have hKb : K.In (hidT s₁.heap H) := fun b o e => base_of (KX b o e) (by
      cases q : H b with
      | none => rfl
      | some u =>
        have e' : b = a := hA b (by rw [q]; simp)
        subst e'
        rw [hK (by rw [q]; simp)] at e; cases e)
    have hM : Mod K mg (hidT s₁.heap H) := ⟨hKb, nsK hns, ⟨mb, nsK hb, hbb⟩, let ⟨mc, h1, h2⟩ := hlim; ⟨mc, nsK h1, h2⟩⟩
    have e0 : Env0 P w K mg (hidT s₁.heap H) callerA [] s₁ H := ⟨rfl, hM, fun b o e => of_hidT e, Nat.le_of_eq (hidT_size _ _), trivial, fun b hb => absurd (show b ∈ ([] : List Addr) from hb) (by simp), hok, .of_eq hg⟩
    refine codeAny_mono ((F _ hKb (nsK hns)).run callerA [] s₁ H ⟨[.ref a], []⟩ [.ref a] [.ref a] _ _ hr rfl e0 (hbind s₁ (.ref a)) (.cons rfl .nil) (hsp H hO hS)) fun r s' h => ?_
    cases r with
    | error e =>
      obtain ⟨_, _, _, _, _, _, _, _, _, _, _, _, z⟩ := h
      exact False.elim z
    | ok fl =>
      cases fl with
      | next => exact False.elim h
      | brk => exact False.elim h
      | cont => exact False.elim h
      | ret u =>
        obtain ⟨v, H', os, bare, un, hok', r', q⟩ := h
        have q' : v = .bl true := q
        subst q'
        obtain rfl : u = Value.bool true := r'
        refine ⟨rfl, OldK.of_keep fun b o e => ?_, os, bare⟩
        cases q : H b with
        | none => exact un.keep b o e q (by intro z; exact absurd (show b ∈ ([] : List Addr) from z) (by simp)) (by simp)
        | some u =>
          rcases hO b with z | ⟨ob, xs, z⟩
          · rw [q] at z; cases z
          · have z2 := un.frzs b ob _ z
            obtain ⟨e1, _⟩ := hok b _ z
            obtain ⟨e2, _⟩ := hok' b _ z2
            rw [e] at e1; cases e1
            exact e2
  cases hk : K.lookup a with
  | some o =>
    -- the script is one of the module's own objects
    have e := KX a o hk
    rw [ha] at e
    cases e
    refine core (fun _ => none) (fun _ => .inl rfl) (.inr ⟨_, vs.toArray, _, hk, rfl, rfl, rfl, by rw [List.size_toArray, lenV]; exact hl, by simpa using rv⟩) (fun b u z => by have z' : (none : Option HO) = some u := z; cases z') (fun b z => absurd rfl z) fun z => absurd rfl z
  | none =>
    refine core (fun b => if b = a then some (.frz { cls := .type "list", data := .seq vs.toArray } (.lst (ns.map V.int))) else none) (fun b => ?_) (.inl (.inr ⟨{ cls := .type "list", data := .seq vs.toArray }, if_pos rfl⟩)) (fun b u z => ?_) (fun b z => ?_) fun _ => hk
    · by_cases hb : b = a
      · exact .inr ⟨_, _, if_pos hb⟩
      · exact .inl (if_neg hb)
    · by_cases hb : b = a
      · have z' := (if_pos hb).symm.trans z
        cases z'
        subst hb
        exact ⟨ha, by rw [List.length_map]; exact hl, vs, _, rv, ha⟩
      · have z' := (if_neg hb).symm.trans z
        cases z'
    · by_cases hb : b = a
      · exact hb
      · exact absurd (if_neg hb) z

/-- a def of the table -/
structure DefOk (K : PySem.W.Frag) (mg : Str → Option Value) (g : Sg) (f : Nat) (x : Str) (df : Df) : Prop where
  ex : ∃ (qual : Str) (params : Arguments) (body : List Stmt) (scope : Scope) (kws : List (Str × V)) (a : Addr) (fd : FuncData) (N ps : List Str), FunD K x qual params body scope [] kws a fd ∧ FnScope N ps scope ∧ df.n = N.length ∧ df.np = ps.length ∧
    chkSs g ⟨N, scope, fun _ => true⟩ df.body body = true ∧ mg x = some (.ref a) ∧ Binds K fd ps [] ∧ ∀ ks pm, (f, ks, pm) ∈ g.kws → KwB K fd ps ks pm
/-- what the head says, for the defs' contexts -/
structure Base (P : Program) (w : World) (K : PySem.W.Frag) (mg : Str → Option Value) (base : Heap) (xc : Nat → Value) (g : Sg) (gl : List (Str × L)) (gd : List (Str × List (Str × L))) (defs : List Df) : Prop where
  glo : ∀ x v, gl.lookup x = some v → ∃ u y, mg x = some u ∧ RelV y u ∧ ∀ H θ, RelL K H θ v y
  gd : ∀ x, g.gds.contains x = true → ∃ kvs, gd.lookup x = some kvs ∧ ∃ d es n, mg x = some (.ref d) ∧ KDict K w d es n ∧ ∀ k v, kvs.lookup k = some v → ∃ u0 v0, PySem.W.nsIn K d k = some (some u0) ∧ RelV v0 u0 ∧ ∀ H θ, RelL K H θ v v0
  blt : ∀ b, mg (bltN b) = none
  rng : mg "range" = none
  enm : mg "enumerate" = none
  zp : mg "zip" = none
  fn : ∀ f x, g.fns[f]? = some x → ∃ df, defs[f]? = some df ∧ DefOk K mg g f x df
  exc : ∀ c x, g.exs[c]? = some x → ∃ C, xc c = .ref C ∧ mg x = some (.ref C) ∧ PySem.W.exmOne K (.ref C) (.ref C) = some true ∧ ∃ (fI : Addr) (fd : FuncData) (ps : List Str) (f : Str), OexC K C ∧ PySem.W.findIn K (.ref C) "__init__" = some (some (.ref fI)) ∧
    PySem.W.typeIn K (.ref fI) = some (.type "function") ∧ PySem.W.findIn K (.ref C) f = some none ∧ FnOk P w K mg base (L2.CX P w) 1 fI fd ps (spI K f) ∧ Binds K fd ps []
section
variable {P : Program} {w : World} {K : PySem.W.Frag} {mg : Str → Option Value} {base : Heap} {xc : Nat → Value} {g : Sg} {gl : List (Str × L)} {gd : List (Str × List (Str × L))} {defs : List Df}
theorem rel_start {H : Hp} {θ : List Addr} {as : List L} {vs : List V} (r : RelLs K H θ as vs) (N : List Str) : Sl K H θ (startL N.length as) (start N vs) := by
  unfold startL L2.start
  refine ⟨by rw [List.length_append, List.length_append, List.length_map, List.length_map, List.length_replicate, List.length_replicate, r.length], fun i v e => ?_⟩
  by_cases hi : i < as.length
  · rw [List.getElem?_append_left (by rw [List.length_map]; exact hi), List.getElem?_map] at e
    cases q : as[i]? with
    | none => rw [q] at e; cases e
    | some a =>
      rw [q] at e
      cases e
      obtain ⟨y, h1, h2⟩ := r.get q
      refine ⟨y, ?_, h2⟩
      rw [List.getElem?_append_left (by rw [List.length_map, ← r.length]; exact hi), List.getElem?_map, h1]; rfl
  · rw [List.getElem?_append_right (by rw [List.length_map]; omega), List.getElem?_replicate] at e
    split at e <;> cases e
/-- what is known of the callees, one level down -/
def Down (P : Program) (w : World) (K : PySem.W.Frag) (mg : Str → Option Value) (base : Heap) (xc : Nat → Value) (g : Sg) (k : Nat) (cl : Cl) : Prop := ∀ (f : Nat) (x : Str), g.fns[f]? = some x →
  ∃ a fd ps, FnG P w K mg base xc k a fd ps (cl f) ∧ mg x = some (.ref a) ∧ PySem.W.keepIn K (.ref a) = true ∧ Binds K fd ps [] ∧ ∀ ks pm, (f, ks, pm) ∈ g.kws → KwB K fd ps ks pm
theorem stepG (B : Base P w K mg base xc g gl gd defs) {d f : Nat} {x qual : Str} {df : Df} {params : Arguments} {body : List Stmt} {scope : Scope} {kws : List (Str × V)} {a : Addr} {fd : FuncData} {N ps : List Str} (dn : Down P w K mg base xc g (d + 5) (runD gl gd defs d))
    (h1 : defs[f]? = some df) (F : FunD K x qual params body scope [] kws a fd) (S : FnScope N ps scope) (e1 : df.n = N.length) (e2 : df.np = ps.length) (hc : chkSs g ⟨N, scope, fun _ => true⟩ df.body body = true) :
    FnG P w K mg base xc (d + 1 + 5) a fd ps (runD gl gd defs (d + 1) f) := by
  have run : ∀ as h, runD gl gd defs (d + 1) f as h = if as.length = df.np then endR (evSs ⟨gl, gd, runD gl gd defs d⟩ df.body (startL df.n as) h) else .bad := fun as h => by
    show (match defs[f]? with | some df => _ | none => _) = _
    rw [h1]
  have len : ∀ as h, runD gl gd defs (d + 1) f as h ≠ .bad → as.length = ps.length := fun as h q => by
    rw [run] at q
    by_cases hz : as.length = df.np
    · rw [hz, e2]
    · rw [if_neg hz] at q; exact absurd rfl q
  obtain ⟨oc, od, dV, kV, doc, pm, an, cdv, ct, osl, rfl, lk, hcd, _, _⟩ := F.ex
  refine fn_ofG lk hcd S len fun A outer s H vs Q E hr hg hl sp => ?_
  let X := cxOf (L2.CX P w) P w K mg base N qual scope a cdv A outer s H E
  let W : L2.WX := fun cls d _ H => E cls d H
  have tk : Takes X W := takes_of rfl rfl rfl rfl
  have O : CtxS X xc W g ⟨gl, gd, runD gl gd defs d⟩ ⟨N, scope, fun _ => true⟩ := by
    refine ⟨⟨rfl, S.nd, hr.units, hg, tk, rfl, rfl, fun _ => rfl, S.kind, B.glo, B.gd, B.blt, B.rng, B.enm, B.zp, fun f' x' h' => ?_⟩, rfl, rfl, passes_of rfl, fun c x' h' => ?_⟩
    · obtain ⟨a', fd', ps', F', hm', kp', hb', hk'⟩ := dn f' x' h'
      exact ⟨d + 5, a', fd', ps', F', hr, hm', kp', hb', hk'⟩
    · obtain ⟨C, c1, c2, c3, fI, fd', ps', f', c4, c5, c6, c7, c8, c9⟩ := B.exc c x' h'
      exact ⟨C, ⟨fI, 1, fd', ps', f', c4, c5, c6, c7, c8, hr.mono (by omega), c9, c2⟩, c1, c3⟩
  refine ⟨_, soSs df.body X W _ O body hc, ?_⟩
  obtain ⟨as, θ, h, R, ra, P1⟩ := sp
  rw [run] at P1
  have hz : as.length = df.np := by rw [ra.length, hl, e2]
  rw [if_pos hz] at P1
  refine ⟨θ, startL df.n as, h, by rw [e1]; exact rel_start ra N, R, ?_⟩
  cases q : evSs ⟨gl, gd, runD gl gd defs d⟩ df.body (startL df.n as) h with
  | nx sl h1 =>
    rw [q] at P1
    exact fun θ' H' σ' ev R' S' => P1 θ' H' .non ev R' .non
  | rt v h1 => rw [q] at P1; exact P1
  | bk sl h1 => rw [q] at P1; exact P1.elim
  | ct sl h1 => rw [q] at P1; exact P1.elim
  | exc c v sl h1 =>
    rw [q] at P1
    exact fun θ' H' σ' dd ev R' S' => P1 θ' H' dd ev R'
  | bad => rw [q] at P1; exact P1.elim
/-- every def keeps what the interpreter says of it -/
theorem allG (B : Base P w K mg base xc g gl gd defs) : ∀ d : Nat, Down P w K mg base xc g (d + 5) (runD gl gd defs d)
  | 0, f, x, h => by
    obtain ⟨df, h1, D⟩ := B.fn f x h
    obtain ⟨qual, params, body, scope, kws, a, fd, N, ps, F, S, e1, e2, hc, hm, hb, hk⟩ := D.ex
    exact ⟨a, fd, ps, ⟨fun as h q => absurd rfl q, fun A outer s H args us vs Q E hr hg e0 b r sp => by
      obtain ⟨as, θ, h, R, ra, P⟩ := sp
      exact P.bad.elim⟩, hm, F.kp, hb, hk⟩
  | d + 1, f, x, h => by
    obtain ⟨df, h1, D⟩ := B.fn f x h
    obtain ⟨qual, params, body, scope, kws, a, fd, N, ps, F, S, e1, e2, hc, hm, hb, hk⟩ := D.ex
    exact ⟨a, fd, ps, stepG B (allG B d) h1 F S e1 e2 hc, hm, F.kp, hb, hk⟩
end
theorem rol_of {K : PySem.W.Frag} {H : Hp} {a : Addr} {xs : List V} (hO : Only H) (h : SqL K H a xs) : RoL K H a xs := by
  rcases h with (h | h) | h
  · rcases hO a with z | ⟨o, ys, z⟩ <;> (rw [h] at z; cases z)
  · exact .inl h
  · exact .inr h
/-- the goal that a head leaves -/
theorem walk_ofG {l : PySem.W.OpenLaw} {n k : Nat} {q : Program} {loose : List Str} {XP : (Str → Option Value) → Heap → Prop} {YP : World → Heap → Prop} {d : DefRec} {x : Str} {cl : List L → LH → R L}
    (hn : l.most = some n) (hn2 : n ≤ sizeLine) (hdf : d.params.defaults = []) (hr : Room k callerA)
    (F : ∀ (w : World) (mg : Str → Option Value) (fa : Addr) (h : Heap), YP w h → h.Ns mainGlobals mg → mg d.name = some (.ref fa) →
      ∃ (K : PySem.W.Frag) (fd : FuncData) (xc : Nat → Value), K.In h ∧ (∀ (s : Shared) (u : Value), BindsTo s fd ⟨[u], []⟩ [(x, u)]) ∧
        ∀ base : Heap, K.In base → base.Ns mainGlobals mg → FnG l.prog w K mg base xc k fa fd [x] cl)
    (law : ∀ ns : List Int, ns.length ≤ n → ∃ h', cl [.rol (ns.map .int)] [] = .ok (.bl true) h') :
    PySem.W.WalkO q loose XP YP l.row.toRowW d [] (fun f vs => PySem.call f vs) := by
  refine Att.attach_call hn hdf fun w s₀ s₁ mg mb fa o pm cd doc a vs ns G Y ho hd hcd hmg hobj hints hlen hg => ?_
  obtain ⟨K, fd, xc, KX, hb, hF⟩ := F w mg fa _ Y G.T.g hmg
  refine law_callG KX G.T.g G.T.b G.T.builtins G.T.nolimit hg hobj hints (Nat.le_trans hlen hn2) hr hF hb fun H hO hS => ?_
  obtain ⟨h', e⟩ := law ns hlen
  refine ⟨[.rol (ns.map .int)], [], [], ⟨rfl, List.nodup_nil, fun r a o e _ => by simp at e⟩, .cons (.rol (rol_of hO hS) (rel_ints ns)) .nil, ?_⟩
  rw [e]
  intro θ' H' y ev R r
  cases r
  rfl
end Ly
end
section
set_option Elab.async false
set_option linter.all false
set_option autoImplicit false
set_option maxRecDepth 100000
/-! An own exception class over ValueError (by way of others), as the head says it. -/
namespace Ly
open PySem PySem.Spec PyProof.Rows L2
def oexB (K : PySem.W.Frag) (C : Addr) : Bool := (match K.lookup C with
  | some ⟨.type "type", _, .cls cd, sl⟩ => (match cd.mro, sl.toList with
    | .ref C' :: bm, [_, _, _, _, some (.builtin n), _] => C' == C && n == "ValueError.__new__" && !cd.hasDel && cd.hasDict && PySem.HandSPX.refsVE bm
    | _, _ => false)
  | _ => false) && decide (PySem.W.findIn K (.ref C) "__setattr__" = some (some (.builtin "object.__setattr__"))) && decide (PySem.W.subIn K (.ref C) (.type "BaseException") = some true) && decide (PySem.W.typeIn K (.ref C) = some (.type "type")) && PySem.W.keepIn K (.ref C)
theorem oexB_ok {K : PySem.W.Frag} {C : Addr} (h : oexB K C = true) : OexC K C := by
  unfold oexB at h
  simp only [Bool.and_eq_true, decide_eq_true_eq] at h
  obtain ⟨⟨⟨⟨q, h1⟩, h2⟩, h3⟩, h4⟩ := h
  refine ⟨?_, h1, h2, h3, h4⟩
  split at q
  · rename_i dd cd sl ho
    split at q
    · rename_i C' bm k0 k1 k2 k3 n k5 hm hs
      simp only [Bool.and_eq_true, beq_iff_eq, Bool.not_eq_true'] at q
      obtain ⟨⟨⟨⟨rfl, rfl⟩, hdel⟩, hdi⟩, ht⟩ := q
      obtain ⟨nm, bs, mro, ns, qn, hd, sn, sub, ab, col, del⟩ := cd
      dsimp only at hm hdel hdi
      subst hm hdel hdi
      have hsl : sl = #[k0, k1, k2, k3, some (.builtin "ValueError.__new__"), k5] := by
        obtain ⟨l⟩ := sl
        simp only at hs
        rw [hs]
      subst hsl
      exact ⟨nm, qn, ns, bs, bm, sn, sub, ab, col, dd, k0, k1, k2, k3, k5, ho, ht⟩
    · cases q
  · cases q
/-- such a class's __init__(self, y): self.f = y -/
theorem init_ok {P : Program} {w : World} {K : PySem.W.Frag} {mg : Str → Option Value} {base : Heap} {x qual : Str} {params : Arguments} {scope : Scope} {kws : List (Str × V)} {a : Addr} {fd : FuncData} {self y f : Str} {p1 p2 p3 p4 : Pos}
    (F : FunD K x qual params [.Assign [.Attribute (.Name self p1) f p2] (.Name y p3) p4] scope [] kws a fd) (S : FnScope [self, y] [self, y] scope) (h1 : vis scope self = true) (h2 : vis scope y = true)
    (d1 : (self == ("__debug__" : Str)) = false := by decide) (d2 : (self == ("__classdict__" : Str)) = false := by decide) (d3 : (y == ("__debug__" : Str)) = false := by decide) (d4 : (y == ("__classdict__" : Str)) = false := by decide) :
    FnOk P w K mg base (L2.CX P w) 1 a fd [self, y] (spI K f) := by
  refine F.ok S (fun vs H Q E h => ?_) fun cdv A outer s H vs Q E hr h => ⟨tOst K f (tVar 0) (tVar 1), pss_one (ps_ost (pe_var rfl (vis_ok h1) d1 d2) (pe_var rfl (vis_ok h2) d3 d4)), ?_⟩
  · obtain ⟨a, C, y, rfl, _⟩ := h
    rfl
  · obtain ⟨a, C, y, rfl, T, hno, ha, q⟩ := h
    exact ⟨y, rfl, .ref a, rfl, a, C, rfl, T, hno, .inl ⟨ha, fun dx h1 h2 => q dx h1 h2⟩⟩
/-- a call with keywords alone binds -/
theorem kwB_of {K : PySem.W.Frag} {x qual : Str} {params : Arguments} {body : List Stmt} {scope : Scope} {kws : List (Str × V)} {a : Addr} {fd : FuncData} {ps ks : List Str} {pm : List Nat} (F : FunD K x qual params body scope [] kws a fd)
    (h : ∀ (kV doc pm' : Value) (an : Option Addr) (cdv ct : Value) (ws ts : List Value), ws.length = ks.length → mapO (fun i => ws[i]?) pm = some ts → bindArgs (PySem.W.fnOf x qual params body scope .none kV doc pm' an cdv ct) ⟨[], ks.zip ws⟩ = pure (ps.zip ts)) : KwB K fd ps ks pm := by
  intro s ws ts _ hl hm
  obtain ⟨oc, od, dV, kV, doc, pm', an, cdv, ct, osl, rfl, lk, hcd, hD, hK⟩ := F.ex
  rcases hD with ⟨_, rfl⟩ | ⟨e, _⟩
  · exact .of_eq (h kV doc pm' an cdv ct ws ts hl hm)
  · exact absurd rfl e
section
open He
variable {K : PySem.W.Frag} {mg : Str → Option Value} {h : Heap}
theorem glo_int (X : K.In h) (G : h.Ns mainGlobals mg) {x : Str} {i : Int} (c : (Fa.int x i).ok K = true) : ∃ u y, mg x = some u ∧ RelV y u ∧ ∀ H θ, RelL K H θ (.int i) y := by
  obtain ⟨t, e⟩ := int_ok X G c
  exact ⟨_, .int i, e, ⟨t, rfl⟩, fun _ _ => .int i⟩
theorem glo_str (X : K.In h) (G : h.Ns mainGlobals mg) {x z : Str} (c : (Fa.str x z).ok K = true) : ∃ u y, mg x = some u ∧ RelV y u ∧ ∀ H θ, RelL K H θ (.str z) y := by
  obtain ⟨t, e⟩ := str_ok X G c
  exact ⟨_, .str z, e, ⟨t, rfl⟩, fun _ _ => .str z⟩
theorem glo_strs (X : K.In h) (G : h.Ns mainGlobals mg) {x : Str} {zs : List Str} (c : (Fa.glo x).ok K = true) (t : tupB K x (zs.map Dv.str) = true) : ∃ u y, mg x = some u ∧ RelV y u ∧ ∀ H θ, RelL K H θ (.tup (zs.map .str)) y := by
  refine ⟨_, .ref (ga K x), glo_ok X G c, rfl, fun H θ => .tup (tupB_ok t H) ?_⟩
  rw [List.map_map]
  exact rel_strs zs
theorem gd_strs {w : World} (X : K.In h) (G : h.Ns mainGlobals mg) {x : Str} {kvs : List (Str × Str)} (c : (Fa.glo x).ok K = true) (D : ∃ es n, KDict K w (ga K x) es n) (t : valsB K (ga K x) (kvs.map fun kv => (kv.1, Dv.str kv.2)) = true) :
    ∃ d es n, mg x = some (.ref d) ∧ KDict K w d es n ∧ ∀ k v, (kvs.map fun kv => (kv.1, L.str kv.2)).lookup k = some v → ∃ u0 v0, PySem.W.nsIn K d k = some (some u0) ∧ RelV v0 u0 ∧ ∀ H θ, RelL K H θ v v0 := by
  obtain ⟨es, n, D⟩ := D
  refine ⟨_, es, n, glo_ok X G c, D, fun k v e => ?_⟩
  have hm : ∃ z, (k, z) ∈ kvs ∧ v = .str z := by
    clear t
    induction kvs with
    | nil => cases e
    | cons kv kvs ih =>
      by_cases hk : k = kv.1
      · subst hk
        rw [List.map_cons, List.lookup_cons_self] at e
        cases e
        exact ⟨kv.2, List.mem_cons_self, rfl⟩
      · have hb : (k == kv.1) = false := beq_eq_false_iff_ne.mpr hk
        rw [List.map_cons, List.lookup_cons, hb] at e
        obtain ⟨z, hz, q⟩ := ih e
        exact ⟨z, List.mem_cons_of_mem _ hz, q⟩
  obtain ⟨z, hz, rfl⟩ := hm
  obtain ⟨u, e1, e2⟩ := valsB_ok t (q := (k, Dv.str z)) (List.mem_map.mpr ⟨(k, z), hz, rfl⟩)
  exact ⟨u, .str z, e1, e2, fun _ _ => .str z⟩
end
end Ly
end
section
set_option Elab.async false
set_option linter.all false
set_option maxRecDepth 100000
namespace Pg
open PySem Ly
def b_told_at : Ss := (.cons (.asg (.tup (.cons (.name 3) (.cons (.name 4) (.cons (.name 5) .nil)))) (.tup (.cons (.int 0) (.cons (.int 1) (.cons (.var 1) .nil))))) (.cons (.whl (.and (.cmp .Lt (.var 5) (.blt .len (.cons (.var 0) .nil))) (.cmp .Lt (.bin .Sub (.var 5) (.var 1)) (.var 2))) (.cons (.set 3 (.bin .Add (.var 3) (.bin .Mult (.bin .Mod (.idx (.var 0) (.var 5)) (.glo "BASE")) (.var 4)))) (.cons (.ifs (.cmp .Lt (.idx (.var 0) (.var 5)) (.glo "BASE")) (.cons (.set 6 (.or (.cmp .Eq (.var 5) (.var 1)) (.cmp .Gt (.idx (.var 0) (.var 5)) (.int 0)))) (.cons (.ret (.ife (.var 6) (.tup (.cons (.var 3) (.cons (.bin .Add (.var 5) (.int 1)) .nil))) .non)) .nil)) .nil) (.cons (.set 4 (.bin .Mult (.var 4) (.glo "BASE"))) (.cons (.set 5 (.bin .Add (.var 5) (.int 1))) .nil))))) (.cons (.ret .non) .nil)))
def n_told_at : List Str := ["row", "begin", "most", "number", "weight", "at", "is_short"]
def d_told_at : Df := ⟨7, 3, b_told_at⟩
def b_count_at : Ss := (.cons (.ret (.call 0 (.cons (.var 0) (.cons (.var 1) (.cons (.glo "MOST_LONG") .nil))))) .nil)
def n_count_at : List Str := ["row", "begin"]
def d_count_at : Df := ⟨2, 2, b_count_at⟩
def b_operand_at : Ss := (.cons (.set 2 (.call 1 (.cons (.var 0) (.cons (.var 1) .nil)))) (.cons (.ifs (.or (.cmp .Is (.var 2) .non) (.cmp .GtE (.bin .FloorDiv (.idx (.var 2) (.int 0)) (.int 3)) (.glo "GREATEST_TOLD"))) (.cons (.ret .non) .nil) .nil) (.cons (.asg (.tup (.cons (.name 4) (.cons (.name 5) .nil))) (.var 2)) (.cons (.set 3 (.bin .FloorDiv (.var 4) (.int 3))) (.cons (.ifs (.cmp .Eq (.bin .Mod (.var 4) (.int 3)) (.int 0)) (.cons (.ret (.tup (.cons (.tup (.cons (.str "s") (.cons (.var 3) .nil))) (.cons (.var 5) .nil)))) .nil) .nil) (.cons (.ifs (.and (.cmp .Eq (.bin .Mod (.var 4) (.int 3)) (.int 2)) (.cmp .GtE (.bin .Add (.var 3) (.int 1)) (.glo "GREATEST_TOLD"))) (.cons (.ret .non) .nil) .nil) (.cons (.ret (.tup (.cons (.tup (.cons (.str "n") (.cons (.ife (.cmp .Eq (.bin .Mod (.var 4) (.int 3)) (.int 1)) (.var 3) (.bin .Sub (.neg (.int 1)) (.var 3))) .nil))) (.cons (.var 5) .nil)))) .nil)))))))
def n_operand_at : List Str := ["row", "begin", "told", "value", "number", "end"]
def d_operand_at : Df := ⟨6, 2, b_operand_at⟩
def b_jump_at : Ss := (.cons (.ifs (.cmp .Gt (.bin .Add (.var 1) (.glo "JUMP_LONG")) (.blt .len (.cons (.var 0) .nil))) (.cons (.ret .non) .nil) .nil) (.cons (.asg (.tup (.cons (.name 2) (.cons (.name 3) (.cons (.name 4) .nil)))) (.slc (.var 0) (.var 1) (.bin .Add (.var 1) (.glo "JUMP_LONG")))) (.cons (.ifs (.or (.cmp .Lt (.var 2) (.glo "BASE")) (.or (.cmp .Lt (.var 3) (.glo "BASE")) (.cmp .GtE (.var 4) (.glo "BASE")))) (.cons (.ret .non) .nil) .nil) (.cons (.ret (.tup (.cons (.bin .Add (.bin .Add (.bin .Sub (.var 2) (.glo "BASE")) (.bin .Mult (.bin .Sub (.var 3) (.glo "BASE")) (.glo "BASE"))) (.bin .Mult (.bin .Mult (.var 4) (.glo "BASE")) (.glo "BASE"))) (.cons (.bin .Add (.var 1) (.glo "JUMP_LONG")) .nil)))) .nil))))
def n_jump_at : List Str := ["row", "begin", "low", "middle", "high"]
def d_jump_at : Df := ⟨5, 2, b_jump_at⟩
def b_count_and : Ss := (.cons (.ifs (.cmp .Is (.var 1) .non) (.cons (.ret .non) .nil) .nil) (.cons (.expr (.meth .append (.var 2) (.cons (.idx (.var 1) (.int 0)) .nil))) (.cons (.ret (.idx (.var 1) (.int 1))) .nil)))
def n_count_and : List Str := ["row", "told", "found"]
def d_count_and : Df := ⟨3, 3, b_count_and⟩
def b_shape_at : Ss := (.cons (.asg (.tup (.cons (.name 4) (.cons (.name 5) .nil))) (.tup (.cons (.lst .nil) (.cons (.var 1) .nil)))) (.cons (.fors (.name 3) (.val (.var 2)) (.cons (.set 6 .non) (.cons (.ifs (.cmp .IsNot (.var 5) .non) (.cons (.set 6 (.ife (.cmp .Eq (.var 3) (.str "a")) (.call 2 (.cons (.var 0) (.cons (.var 5) .nil))) (.ife (.cmp .Eq (.var 3) (.str "t")) (.call 3 (.cons (.var 0) (.cons (.var 5) .nil))) (.call 1 (.cons (.var 0) (.cons (.var 5) .nil)))))) .nil) .nil) (.cons (.set 5 (.call 4 (.cons (.var 0) (.cons (.var 6) (.cons (.var 4) .nil))))) .nil)))) (.cons (.ret (.ife (.cmp .Is (.var 5) .non) .non (.tup (.cons (.blt .tuple (.cons (.var 4) .nil)) (.cons (.var 5) .nil))))) .nil)))
def n_shape_at : List Str := ["row", "begin", "shape", "sign", "found", "at", "told"]
def d_shape_at : Df := ⟨7, 3, b_shape_at⟩
def b_members_at : Ss := (.cons (.set 3 (.call 1 (.cons (.var 0) (.cons (.var 1) .nil)))) (.cons (.ifs (.or (.cmp .Is (.var 3) .non) (.cmp .Gt (.idx (.var 3) (.int 0)) (.bin .Sub (.blt .len (.cons (.var 0) .nil)) (.idx (.var 3) (.int 1))))) (.cons (.ret .non) .nil) .nil) (.cons (.ret (.call 5 (.cons (.var 0) (.cons (.idx (.var 3) (.int 1)) (.cons (.bin .Mult (.var 2) (.idx (.var 3) (.int 0))) .nil))))) .nil)))
def n_members_at : List Str := ["row", "begin", "sign", "told"]
def d_members_at : Df := ⟨4, 3, b_members_at⟩
def b_call_at : Ss := (.cons (.set 2 (.call 5 (.cons (.var 0) (.cons (.var 1) (.cons (.str "dk") .nil))))) (.cons (.set 3 (.ife (.cmp .Is (.var 2) .non) .non (.call 6 (.cons (.var 0) (.cons (.idx (.var 2) (.int 1)) (.cons (.str "a") .nil)))))) (.cons (.set 4 (.ife (.cmp .Is (.var 3) .non) .non (.call 6 (.cons (.var 0) (.cons (.idx (.var 3) (.int 1)) (.cons (.str "r") .nil)))))) (.cons (.ret (.ife (.cmp .Is (.var 4) .non) .non (.tup (.cons (.bin .Add (.idx (.var 2) (.int 0)) (.tup (.cons (.idx (.var 3) (.int 0)) (.cons (.idx (.var 4) (.int 0)) .nil)))) (.cons (.idx (.var 4) (.int 1)) .nil))))) .nil))))
def n_call_at : List Str := ["row", "begin", "told", "some", "rows"]
def d_call_at : Df := ⟨5, 2, b_call_at⟩
def b_branch_at : Ss := (.cons (.ifs (.or (.cmp .GtE (.var 1) (.blt .len (.cons (.var 0) .nil))) (.cmp .GtE (.idx (.var 0) (.var 1)) (.blt .len (.cons (.glo "COMPARED") .nil)))) (.cons (.ret .non) .nil) .nil) (.cons (.set 2 (.call 5 (.cons (.var 0) (.cons (.bin .Add (.var 1) (.int 1)) (.cons (.str "aat") .nil))))) (.cons (.ret (.ife (.cmp .Is (.var 2) .non) .non (.tup (.cons (.bin .Add (.tup (.cons (.idx (.glo "COMPARED") (.idx (.var 0) (.var 1))) .nil)) (.idx (.var 2) (.int 0))) (.cons (.idx (.var 2) (.int 1)) .nil))))) .nil)))
def n_branch_at : List Str := ["row", "begin", "told"]
def d_branch_at : Df := ⟨3, 2, b_branch_at⟩
def b_instruction_at : Ss := (.cons (.ifs (.not (.chain .LtE .Lt (.int 1) (.idx (.var 0) (.var 1)) (.blt .len (.cons (.glo "WORDS") .nil)))) (.cons (.ret .non) .nil) .nil) (.cons (.set 2 (.idx (.glo "WORDS") (.idx (.var 0) (.var 1)))) (.cons (.ifs (.cmp .Eq (.var 2) (.glo "CALL")) (.cons (.set 3 (.call 7 (.cons (.var 0) (.cons (.bin .Add (.var 1) (.int 1)) .nil)))) .nil) (.cons (.set 3 (.ife (.cmp .Eq (.var 2) (.glo "BRANCH")) (.call 8 (.cons (.var 0) (.cons (.bin .Add (.var 1) (.int 1)) .nil))) (.call 5 (.cons (.var 0) (.cons (.bin .Add (.var 1) (.int 1)) (.cons (.gdict "SHAPES" (.var 2)) .nil)))))) .nil)) (.cons (.ret (.ife (.cmp .Is (.var 3) .non) .non (.tup (.cons (.var 2) (.cons (.idx (.var 3) (.int 0)) (.cons (.idx (.var 3) (.int 1)) .nil)))))) .nil))))
def n_instruction_at : List Str := ["row", "begin", "word", "told"]
def d_instruction_at : Df := ⟨4, 2, b_instruction_at⟩
def b_instructions : Ss := (.cons (.asg (.tup (.cons (.name 1) (.cons (.name 2) (.cons (.name 3) .nil)))) (.tup (.cons (.idx (.var 0) (.int 7)) (.cons (.lst .nil) (.cons (.int 0) .nil))))) (.cons (.whl (.cmp .Lt (.var 3) (.blt .len (.cons (.var 1) .nil))) (.cons (.set 4 (.call 9 (.cons (.var 1) (.cons (.var 3) .nil)))) (.cons (.ifs (.cmp .Is (.var 4) .non) (.cons (.rai 0 (.var 3)) .nil) .nil) (.cons (.expr (.meth .append (.var 2) (.cons (.tup (.cons (.var 3) (.cons (.idx (.var 4) (.int 0)) (.cons (.idx (.var 4) (.int 1)) .nil)))) .nil))) (.cons (.set 3 (.idx (.var 4) (.int 2))) .nil))))) (.cons (.ret (.blt .tuple (.cons (.var 2) .nil))) .nil)))
def n_instructions : List Str := ["code", "row", "found", "at", "told"]
def d_instructions : Df := ⟨5, 1, b_instructions⟩
def b_works_of : Ss := (.cons (.set 1 (.lst .nil)) (.cons (.fors (.tup (.cons (.name 2) (.cons (.name 3) .nil))) (.enum (.var 0)) (.cons (.expr (.meth .extend (.var 1) (.cons (.lc [4] (.name 4) (.val (.idx (.var 3) (.int 1))) (.bl true) (.tup (.cons (.idx (.var 4) (.int 1)) (.cons (.var 2) (.cons (.var 4) .nil))))) .nil))) .nil)) (.cons (.ret (.var 1)) .nil)))
def n_works_of : List Str := ["packages", "found", "number", "package", "code"]
def d_works_of : Df := ⟨5, 1, b_works_of⟩
def b_places_by_name : Ss := (.cons (.set 1 .dict) (.cons (.fors (.tup (.cons (.name 2) (.cons (.tup (.cons (.name 3) (.cons (.name 4) (.cons (.name 5) .nil)))) .nil))) (.enum (.call 11 (.cons (.var 0) .nil))) (.cons (.ifs (.cmp .NotIn (.var 3) (.var 1)) (.cons (.asg (.sub (.var 1) (.var 3)) (.var 2)) .nil) .nil) .nil)) (.cons (.ret (.var 1)) .nil)))
def n_places_by_name : List Str := ["packages", "found", "place", "name", "number", "code"]
def d_places_by_name : Df := ⟨6, 1, b_places_by_name⟩
def b_firsts_of : Ss := (.cons (.asg (.tup (.cons (.name 2) (.cons (.name 3) .nil))) (.tup (.cons (.lst .nil) (.cons (.int 0) .nil)))) (.cons (.fors (.name 1) (.val (.var 0)) (.cons (.expr (.meth .append (.var 2) (.cons (.var 3) .nil))) (.cons (.set 3 (.bin .Add (.var 3) (.blt .len (.cons (.idx (.var 1) (.int 1)) .nil)))) .nil))) (.cons (.ret (.var 2)) .nil)))
def n_firsts_of : List Str := ["packages", "package", "found", "ahead"]
def d_firsts_of : Df := ⟨4, 1, b_firsts_of⟩
def b_calls_of : Ss := (.cons (.asg (.tup (.cons (.name 5) (.cons (.name 6) .nil))) (.tup (.cons (.call 12 (.cons (.var 0) .nil)) (.cons (.idx (.var 0) (.var 1)) .nil)))) (.cons (.set 2 (.idx (.call 13 (.cons (.var 0) .nil)) (.var 1))) (.cons (.set 3 (.lc [7] (.name 7) (.rng1 (.blt .len (.cons (.idx (.var 6) (.int 1)) .nil))) (.bl true) (.bin .Add (.var 2) (.var 7)))) (.cons (.fors (.name 4) (.val (.idx (.var 6) (.int 2))) (.cons (.ifs (.cmp .NotIn (.idx (.var 4) (.int 1)) (.var 5)) (.cons .never .nil) .nil) (.cons (.expr (.meth .append (.var 3) (.cons (.idx (.var 5) (.idx (.var 4) (.int 1))) .nil))) .nil))) (.cons (.ret (.blt .tuple (.cons (.var 3) .nil))) .nil)))))
def n_calls_of : List Str := ["packages", "number", "first", "found", "use", "places", "package", "at"]
def d_calls_of : Df := ⟨8, 2, b_calls_of⟩
def b_image_of : Ss := (.cons (.asg (.tup (.cons (.name 1) (.cons (.name 2) .nil))) (.tup (.cons (.lst .nil) (.cons (.lc [4] (.name 4) (.rng1 (.blt .len (.cons (.var 0) .nil))) (.bl true) (.call 14 (.cons (.var 0) (.cons (.var 4) .nil)))) .nil)))) (.cons (.fors (.tup (.cons (.name 3) (.cons (.name 4) (.cons (.name 5) .nil)))) (.val (.call 11 (.cons (.var 0) .nil))) (.cons (.expr (.meth .append (.var 1) (.cons (.tup (.cons (.var 3) (.cons (.idx (.var 5) (.int 2)) (.cons (.idx (.var 5) (.int 3)) (.cons (.idx (.var 5) (.int 4)) (.cons (.blt .tuple (.cons (.idx (.var 5) (.int 7)) .nil)) (.cons (.idx (.var 2) (.var 4)) .nil))))))) .nil))) .nil)) (.cons (.ret (.tup (.cons (.str "image") (.cons (.blt .tuple (.cons (.var 1) .nil)) .nil)))) .nil)))
def n_image_of : List Str := ["packages", "works", "tables", "name", "number", "code"]
def d_image_of : Df := ⟨6, 1, b_image_of⟩
def b_number_in : Ss := (.cons (.set 2 (.lc [3, 4] (.tup (.cons (.name 3) (.cons (.name 4) .nil))) (.enum (.idx (.var 0) (.int 1))) (.cmp .Eq (.idx (.var 4) (.int 0)) (.var 1)) (.var 3))) (.cons (.ret (.ife (.cmp .NotEq (.var 2) (.lst .nil)) (.idx (.var 2) (.int 0)) .non)) .nil))
def n_number_in : List Str := ["image", "name", "found", "number", "work"]
def d_number_in : Df := ⟨5, 2, b_number_in⟩
def b_called_by : Ss := (.cons (.asg (.tup (.cons (.name 4) (.cons (.name 5) (.cons (.name 6) (.cons (.name 7) (.cons (.name 8) (.cons (.name 9) .nil))))))) (.idx (.idx (.var 0) (.int 1)) (.var 1))) (.cons (.set 2 (.tup (.cons (.str "code") (.cons (.var 4) (.cons (.var 5) (.cons (.var 6) (.cons (.var 7) (.cons (.tup .nil) (.cons (.tup .nil) (.cons (.var 8) (.cons (.tup .nil) (.cons (.tup .nil) .nil)))))))))))) (.cons (.tryo (.cons (.set 10 (.call 10 (.cons (.var 2) .nil))) .nil) 0 (.cons (.ret (.lst .nil)) .nil)) (.cons (.set 3 .dict) (.cons (.fors (.tup (.cons (.name 11) (.cons (.name 12) (.cons (.name 13) .nil)))) (.val (.var 10)) (.cons (.ifs (.and (.cmp .Eq (.var 12) (.str "call")) (.cmp .Lt (.idx (.var 13) (.int 1)) (.blt .len (.cons (.var 9) .nil)))) (.cons (.asg (.sub (.var 3) (.idx (.var 9) (.idx (.var 13) (.int 1)))) (.bl true)) .nil) .nil) .nil)) (.cons (.ret (.blt .sorted (.cons (.var 3) .nil))) .nil))))))
def n_called_by : List Str := ["image", "number", "code", "found", "name", "numbers", "rows", "slots", "told", "calls", "steps", "position", "op", "operands"]
def d_called_by : Df := ⟨14, 2, b_called_by⟩
def b_turn_of : Ss := (.cons (.set 1 (.lc [5] (.name 5) (.rng1 (.blt .len (.cons (.idx (.var 0) (.int 1)) .nil))) (.bl true) (.call 17 (.cons (.var 0) (.cons (.var 5) .nil))))) (.cons (.asg (.tup (.cons (.name 2) (.cons (.name 3) .nil))) (.tup (.cons (.lst .nil) (.cons .dict .nil)))) (.cons (.whl (.bl true) (.cons (.set 4 (.lc [5] (.name 5) (.rng1 (.blt .len (.cons (.var 1) .nil))) (.and (.cmp .NotIn (.var 5) (.var 3)) (.blt .all (.cons (.lc [6] (.name 6) (.val (.idx (.var 1) (.var 5))) (.bl true) (.cmp .In (.var 6) (.var 3))) .nil))) (.var 5))) (.cons (.ifs (.cmp .Eq (.var 4) (.lst .nil)) (.cons (.ret (.var 2)) .nil) .nil) (.cons (.expr (.meth .append (.var 2) (.cons (.idx (.var 4) (.int 0)) .nil))) (.cons (.asg (.sub (.var 3) (.idx (.var 4) (.int 0))) (.bl true)) .nil))))) .nil)))
def n_turn_of : List Str := ["image", "wanted", "found", "placed", "some", "number", "one"]
def d_turn_of : Df := ⟨7, 1, b_turn_of⟩
def b_ring_in : Ss := (.cons (.set 1 (.call 18 (.cons (.var 0) .nil))) (.cons (.set 2 (.lc [5] (.name 5) (.rng1 (.blt .len (.cons (.idx (.var 0) (.int 1)) .nil))) (.cmp .NotIn (.var 5) (.var 1)) (.var 5))) (.cons (.ifs (.cmp .Eq (.var 2) (.lst .nil)) (.cons (.ret .non) .nil) .nil) (.cons (.set 3 (.lst (.cons (.idx (.var 2) (.int 0)) .nil))) (.cons (.whl (.bl true) (.cons (.set 4 (.idx (.lc [8] (.name 8) (.val (.call 17 (.cons (.var 0) (.cons (.idx (.var 3) (.neg (.int 1))) .nil)))) (.cmp .In (.var 8) (.var 2)) (.var 8)) (.int 0))) (.cons (.ifs (.cmp .In (.var 4) (.var 3)) (.cons (.set 6 (.slc (.var 3) (.meth .index (.var 3) (.cons (.var 4) .nil)) .non)) (.cons (.set 7 (.meth .index (.var 6) (.cons (.blt .min (.cons (.var 6) .nil)) .nil))) (.cons (.ret (.bin .Add (.slc (.var 6) (.var 7) .non) (.slc (.var 6) .non (.var 7)))) .nil))) .nil) (.cons (.expr (.meth .append (.var 3) (.cons (.var 4) .nil))) .nil)))) .nil)))))
def n_ring_in : List Str := ["image", "placed", "left", "row", "late", "number", "ring", "at", "one"]
def d_ring_in : Df := ⟨9, 1, b_ring_in⟩
def b_linked : Ss := (.cons (.ret (.call 15 (.cons (.var 0) .nil))) .nil)
def n_linked : List Str := ["packages"]
def d_linked : Df := ⟨1, 1, b_linked⟩
def b_image_names : Ss := (.cons (.ret (.lc [1] (.name 1) (.val (.idx (.var 0) (.int 1))) (.bl true) (.idx (.var 1) (.int 0)))) .nil)
def n_image_names : List Str := ["image", "work"]
def d_image_names : Df := ⟨2, 1, b_image_names⟩
def b_work_number : Ss := (.cons (.set 2 (.call 16 (.cons (.var 0) (.cons (.var 1) .nil)))) (.cons (.ifs (.cmp .Is (.var 2) .non) (.cons .never .nil) .nil) (.cons (.ret (.var 2)) .nil)))
def n_work_number : List Str := ["image", "name", "found"]
def d_work_number : Df := ⟨3, 2, b_work_number⟩
def b_works_reached : Ss := (.cons (.asg (.tup (.cons (.name 2) (.cons (.name 3) .nil))) (.tup (.cons (.lst (.cons (.call 22 (.cons (.var 0) (.cons (.var 1) .nil))) .nil)) (.cons .dict .nil)))) (.cons (.whl (.cmp .NotEq (.var 2) (.lst .nil)) (.cons (.set 4 (.meth .pop (.var 2) .nil)) (.cons (.ifs (.cmp .NotIn (.var 4) (.var 3)) (.cons (.asg (.sub (.var 3) (.var 4)) (.bl true)) (.cons (.expr (.meth .extend (.var 2) (.cons (.call 17 (.cons (.var 0) (.cons (.var 4) .nil))) .nil))) .nil)) .nil) .nil))) (.cons (.ret (.blt .sorted (.cons (.lc [5] (.name 5) (.keys (.var 3)) (.bl true) (.idx (.idx (.idx (.var 0) (.int 1)) (.var 5)) (.int 0))) .nil))) .nil)))
def n_works_reached : List Str := ["image", "name", "left", "found", "here", "number"]
def d_works_reached : Df := ⟨6, 2, b_works_reached⟩
def b_call_turn : Ss := (.cons (.set 1 (.call 18 (.cons (.var 0) .nil))) (.cons (.ret (.ife (.cmp .Eq (.blt .len (.cons (.var 1) .nil)) (.blt .len (.cons (.idx (.var 0) (.int 1)) .nil))) (.lc [2] (.name 2) (.val (.var 1)) (.bl true) (.idx (.idx (.idx (.var 0) (.int 1)) (.var 2)) (.int 0))) .non)) .nil))
def n_call_turn : List Str := ["image", "found", "number"]
def d_call_turn : Df := ⟨3, 1, b_call_turn⟩
def b_call_ring : Ss := (.cons (.set 1 (.call 19 (.cons (.var 0) .nil))) (.cons (.ret (.ife (.cmp .Is (.var 1) .non) .non (.lc [2] (.name 2) (.val (.var 1)) (.bl true) (.idx (.idx (.idx (.var 0) (.int 1)) (.var 2)) (.int 0))))) .nil))
def n_call_ring : List Str := ["image", "ring", "number"]
def d_call_ring : Df := ⟨3, 1, b_call_ring⟩
def b_deepest_call : Ss := (.cons (.asg (.tup (.cons (.name 4) (.cons (.name 5) .nil))) (.tup (.cons (.call 22 (.cons (.var 0) (.cons (.var 1) .nil))) (.cons (.call 18 (.cons (.var 0) .nil)) .nil)))) (.cons (.ifs (.cmp .Lt (.blt .len (.cons (.var 5) .nil)) (.blt .len (.cons (.idx (.var 0) (.int 1)) .nil))) (.cons (.ret .non) .nil) .nil) (.cons (.set 2 .dict) (.cons (.fors (.name 3) (.val (.var 5)) (.cons (.asg (.sub (.var 2) (.var 3)) (.bin .Add (.int 1) (.blt .max (.cons (.bin .Add (.lc [6] (.name 6) (.val (.call 17 (.cons (.var 0) (.cons (.var 3) .nil)))) (.bl true) (.idx (.var 2) (.var 6))) (.lst (.cons (.int 0) .nil))) .nil)))) .nil)) (.cons (.ret (.idx (.var 2) (.var 4))) .nil)))))
def n_deepest_call : List Str := ["image", "name", "deep", "number", "here", "turn", "one"]
def d_deepest_call : Df := ⟨7, 2, b_deepest_call⟩
def b_users_of : Ss := (.cons (.ret (.lc [2, 3] (.tup (.cons (.name 2) (.cons (.name 3) .nil))) (.enum (.var 0)) (.cmp .In (.var 1) (.lc [4] (.name 4) (.val (.idx (.var 3) (.int 2))) (.bl true) (.idx (.var 4) (.int 1)))) (.var 2))) .nil)
def n_users_of : List Str := ["packages", "name", "number", "package", "use"]
def d_users_of : Df := ⟨5, 2, b_users_of⟩
def b__law_pot : Ss := (.cons (.set 2 (.ife (.cmp .Lt (.var 1) (.blt .len (.cons (.var 0) .nil))) (.blt .abs (.cons (.idx (.var 0) (.var 1)) .nil)) (.bin .Add (.bin .Mult (.int 4217) (.var 1)) (.int 3181)))) (.cons (.ret (.lst (.cons (.blt .max (.cons (.int 0) (.cons (.bin .Sub (.var 2) (.bin .Pow (.int 10) (.int 18))) .nil))) (.cons (.bin .Add (.bin .Mod (.blt .int (.cons (.bin .Add (.bin .Add (.bin .Mult (.bin .Mod (.blt .int (.cons (.var 2) .nil)) (.int 2147483543)) (.int 47543)) (.bin .Mult (.int 3181) (.var 1))) (.int 4217)) .nil)) (.int 2147483563)) (.int 1)) .nil)))) .nil))
def n__law_pot : List Str := ["script", "k", "cell"]
def d__law_pot : Df := ⟨3, 2, b__law_pot⟩
def b__law_draw : Ss := (.cons (.ifs (.cmp .Gt (.idx (.var 0) (.int 0)) (.int 0)) (.cons (.asg (.tup (.cons (.sub (.var 0) (.int 0)) (.cons (.name 2) .nil))) (.blt .divmod (.cons (.idx (.var 0) (.int 0)) (.cons (.var 1) .nil)))) (.cons (.ret (.var 2)) .nil)) .nil) (.cons (.asg (.sub (.var 0) (.int 1)) (.bin .Mod (.blt .int (.cons (.bin .Add (.bin .Mult (.idx (.var 0) (.int 1)) (.int 42024)) (.int 4271)) .nil)) (.int 2147483563))) (.cons (.ret (.bin .Mod (.blt .int (.cons (.bin .FloorDiv (.bin .Mod (.blt .int (.cons (.bin .Mult (.idx (.var 0) (.int 1)) (.idx (.var 0) (.int 1))) .nil)) (.int 2147483549)) (.int 131)) .nil)) (.var 1))) .nil)))
def n__law_draw : List Str := ["pot", "many", "digit"]
def d__law_draw : Df := ⟨3, 2, b__law_draw⟩
def b__law_pick : Ss := (.cons (.ret (.idx (.var 1) (.call 29 (.cons (.var 0) (.cons (.blt .len (.cons (.var 1) .nil)) .nil))))) .nil)
def n__law_pick : List Str := ["pot", "some"]
def d__law_pick : Df := ⟨2, 2, b__law_pick⟩
def b__law_packages : Ss := (.cons (.set 2 (.lc [5] (.name 5) (.rng1 (.bin .Add (.int 1) (.call 29 (.cons (.var 0) (.cons (.int 4) .nil))))) (.bl true) (.bin .Add (.int 1) (.call 29 (.cons (.var 0) (.cons (.int 3) .nil)))))) (.cons (.set 3 (.lc [5, 14] (.tup (.cons (.name 5) (.cons (.name 14) .nil))) (.enum (.var 2)) (.bl true) (.lc [10] (.name 10) (.rng1 (.var 14)) (.bl true) (.bin .Add (.bin .Add (.str "work") (.idx (.str "abcd") (.var 5))) (.idx (.str "xyz") (.var 10)))))) (.cons (.set 4 (.lst .nil)) (.cons (.fors (.tup (.cons (.name 5) (.cons (.name 6) .nil))) (.enum (.var 3)) (.cons (.set 7 (.blt .sum (.cons (.lc [16] (.name 16) (.rng1 (.blt .len (.cons (.var 3) .nil))) (.and (.cmp .NotEq (.var 16) (.var 5)) (.or (.var 1) (.cmp .Gt (.var 16) (.var 5)))) (.idx (.var 3) (.var 16))) (.cons (.lst .nil) .nil)))) (.cons (.set 8 (.lc [15] (.name 15) (.val (.var 7)) (.cmp .Eq (.call 29 (.cons (.var 0) (.cons (.int 3) .nil))) (.int 0)) (.var 15))) (.cons (.set 9 (.lst .nil)) (.cons (.fors (.tup (.cons (.name 10) (.cons (.name 11) .nil))) (.enum (.var 6)) (.cons (.set 12 (.ife (.var 1) (.lrg (.blt .len (.cons (.var 6) .nil))) (.lrg (.var 10)))) (.cons (.set 12 (.lc [15] (.name 15) (.val (.bin .Add (.var 12) (.lc [16] (.name 16) (.rng1 (.blt .len (.cons (.var 8) .nil))) (.bl true) (.bin .Add (.blt .len (.cons (.var 6) .nil)) (.var 16))))) (.cmp .Eq (.call 29 (.cons (.var 0) (.cons (.int 3) .nil))) (.int 0)) (.var 15))) (.cons (.set 13 (.bin .Add (.blt .sum (.cons (.lc [15] (.name 15) (.val (.var 12)) (.bl true) (.lst (.cons (.int 10) (.cons (.int 0) (.cons (.var 15) (.cons (.int 0) (.cons (.int 0) .nil))))))) (.cons (.lst .nil) .nil))) (.lst (.cons (.int 13) (.cons (.int 0) .nil))))) (.cons (.ifs (.cmp .Eq (.call 29 (.cons (.var 0) (.cons (.int 12) .nil))) (.int 0)) (.cons (.set 13 (.bin .Add (.var 13) (.lst (.cons (.int 99) .nil)))) .nil) .nil) (.cons (.expr (.meth .append (.var 9) (.cons (.tup (.cons (.str "code") (.cons (.var 11) (.cons (.int 0) (.cons (.int 0) (.cons (.int 1) (.cons (.tup .nil) (.cons (.tup .nil) (.cons (.blt .tuple (.cons (.var 13) .nil)) (.cons (.tup .nil) (.cons (.tup .nil) .nil))))))))))) .nil))) .nil)))))) (.cons (.expr (.meth .append (.var 4) (.cons (.tup (.cons (.str "package") (.cons (.blt .tuple (.cons (.var 9) .nil)) (.cons (.blt .tuple (.cons (.lc [15] (.name 15) (.val (.var 8)) (.bl true) (.tup (.cons (.str "contract") (.cons (.var 15) (.cons (.int 0) (.cons (.int 0) (.cons (.tup .nil) (.cons (.tup .nil) .nil)))))))) .nil)) (.cons (.tup .nil) .nil))))) .nil))) .nil)))))) (.cons (.ret (.var 4)) .nil)))))
def n__law_packages : List Str := ["pot", "is_wild", "sizes", "names", "found", "at", "own", "others", "uses", "codes", "number", "name", "some", "told", "size", "one", "late"]
def d__law_packages : Df := ⟨17, 2, b__law_packages⟩
def b__law_graph : Ss := (.cons (.asg (.tup (.cons (.name 2) (.cons (.name 3) (.cons (.name 4) (.cons (.name 5) .nil))))) (.tup (.cons (.lst .nil) (.cons (.lst .nil) (.cons (.int 0) (.cons (.lst .nil) .nil)))))) (.cons (.fors (.name 1) (.val (.var 0)) (.cons (.expr (.meth .extend (.var 2) (.cons (.lc [7] (.name 7) (.val (.idx (.var 1) (.int 1))) (.bl true) (.idx (.var 7) (.int 1))) .nil))) .nil)) (.cons (.fors (.name 1) (.val (.var 0)) (.cons (.set 6 (.bin .Add (.lc [9] (.name 9) (.rng1 (.blt .len (.cons (.idx (.var 1) (.int 1)) .nil))) (.bl true) (.bin .Add (.var 4) (.var 9))) (.lc [10] (.name 10) (.val (.idx (.var 1) (.int 2))) (.bl true) (.meth .index (.var 2) (.cons (.idx (.var 10) (.int 1)) .nil))))) (.cons (.fors (.name 7) (.val (.idx (.var 1) (.int 1))) (.cons (.set 8 (.ife (.cmp .Eq (.idx (.idx (.var 7) (.int 7)) (.neg (.int 1))) (.int 99)) (.lst .nil) (.blt .sorted (.cons (.blt .set (.cons (.lc [9] (.name 9) (.rng3 (.int 0) (.bin .Sub (.blt .len (.cons (.idx (.var 7) (.int 7)) .nil)) (.int 2)) (.int 5)) (.bl true) (.idx (.var 6) (.idx (.idx (.var 7) (.int 7)) (.bin .Add (.var 9) (.int 2))))) .nil)) .nil)))) (.cons (.expr (.meth .append (.var 5) (.cons (.tup (.cons (.idx (.var 7) (.int 1)) (.cons (.idx (.var 7) (.int 2)) (.cons (.idx (.var 7) (.int 3)) (.cons (.idx (.var 7) (.int 4)) (.cons (.idx (.var 7) (.int 7)) (.cons (.blt .tuple (.cons (.var 6) .nil)) .nil))))))) .nil))) (.cons (.expr (.meth .append (.var 3) (.cons (.var 8) .nil))) .nil)))) (.cons (.set 4 (.bin .Add (.var 4) (.blt .len (.cons (.idx (.var 1) (.int 1)) .nil)))) .nil)))) (.cons (.ret (.tup (.cons (.var 2) (.cons (.var 3) (.cons (.blt .tuple (.cons (.var 5) .nil)) .nil))))) .nil))))
def n__law_graph : List Str := ["packages", "package", "names", "calls", "first", "known", "tables", "code", "told", "at", "use"]
def d__law_graph : Df := ⟨11, 1, b__law_graph⟩
def b__law_turn : Ss := (.cons (.set 1 (.lst .nil)) (.cons (.fors (.name 2) (.rng1 (.blt .len (.cons (.var 0) .nil))) (.cons (.set 3 (.lc [4] (.name 4) (.rng1 (.blt .len (.cons (.var 0) .nil))) (.and (.cmp .NotIn (.var 4) (.var 1)) (.blt .all (.cons (.lc [5] (.name 5) (.val (.idx (.var 0) (.var 4))) (.bl true) (.cmp .In (.var 5) (.var 1))) .nil))) (.var 4))) (.cons (.expr (.meth .extend (.var 1) (.cons (.slc (.var 3) .non (.int 1)) .nil))) .nil))) (.cons (.ret (.var 1)) .nil)))
def n__law_turn : List Str := ["calls", "found", "turn", "some", "number", "one"]
def d__law_turn : Df := ⟨6, 1, b__law_turn⟩
def b__law_ring : Ss := (.cons (.set 1 (.call 33 (.cons (.var 0) .nil))) (.cons (.set 2 (.lc [6] (.name 6) (.rng1 (.blt .len (.cons (.var 0) .nil))) (.cmp .NotIn (.var 6) (.var 1)) (.var 6))) (.cons (.ifs (.cmp .Eq (.var 2) (.lst .nil)) (.cons (.ret .non) .nil) .nil) (.cons (.set 3 (.lst (.cons (.idx (.var 2) (.int 0)) .nil))) (.cons (.fors (.name 4) (.rng1 (.bin .Add (.blt .len (.cons (.var 0) .nil)) (.int 1))) (.cons (.set 5 (.blt .min (.cons (.lc [9] (.name 9) (.val (.idx (.var 0) (.idx (.var 3) (.neg (.int 1))))) (.cmp .In (.var 9) (.var 2)) (.var 9)) .nil))) (.cons (.ifs (.cmp .In (.var 5) (.var 3)) (.cons (.set 7 (.slc (.var 3) (.meth .index (.var 3) (.cons (.var 5) .nil)) .non)) (.cons (.set 8 (.meth .index (.var 7) (.cons (.blt .min (.cons (.var 7) .nil)) .nil))) (.cons (.ret (.bin .Add (.slc (.var 7) (.var 8) .non) (.slc (.var 7) .non (.var 8)))) .nil))) .nil) (.cons (.expr (.meth .append (.var 3) (.cons (.var 5) .nil))) .nil)))) (.cons (.ret .non) .nil))))))
def n__law_ring : List Str := ["calls", "placed", "left", "row", "turn", "late", "number", "ring", "at", "one"]
def d__law_ring : Df := ⟨10, 1, b__law_ring⟩
def b__law_reached : Ss := (.cons (.set 2 (.lst (.cons (.var 1) .nil))) (.cons (.fors (.name 3) (.rng1 (.blt .len (.cons (.var 0) .nil))) (.cons (.fors (.name 4) (.val (.blt .list (.cons (.var 2) .nil))) (.cons (.expr (.meth .extend (.var 2) (.cons (.lc [5] (.name 5) (.val (.idx (.var 0) (.var 4))) (.cmp .NotIn (.var 5) (.var 2)) (.var 5)) .nil))) .nil)) .nil)) (.cons (.ret (.var 2)) .nil)))
def n__law_reached : List Str := ["calls", "number", "found", "turn", "one", "late"]
def d__law_reached : Df := ⟨6, 2, b__law_reached⟩
def b__law_deep : Ss := (.cons (.set 3 .dict) (.cons (.fors (.name 4) (.val (.var 1)) (.cons (.asg (.sub (.var 3) (.var 4)) (.bin .Add (.int 1) (.blt .max (.cons (.bin .Add (.lc [5] (.name 5) (.val (.idx (.var 0) (.var 4))) (.bl true) (.idx (.var 3) (.var 5))) (.lst (.cons (.int 0) .nil))) .nil)))) .nil)) (.cons (.ret (.idx (.var 3) (.var 2))) .nil)))
def n__law_deep : List Str := ["calls", "turn", "number", "deep", "one", "late"]
def d__law_deep : Df := ⟨6, 3, b__law_deep⟩
def b__law_right : Ss := (.cons (.set 1 (.call 31 (.cons (.var 0) (.cons (.cmp .Eq (.call 29 (.cons (.var 0) (.cons (.int 2) .nil))) (.int 0)) .nil)))) (.cons (.set 2 (.blt .repr (.cons (.var 1) .nil))) (.cons (.asg (.tup (.cons (.name 7) (.cons (.name 8) (.cons (.name 9) .nil)))) (.call 32 (.cons (.var 1) .nil))) (.cons (.set 3 (.call 20 (.cons (.var 1) .nil))) (.cons (.ifs (.or (.cmp .NotEq (.blt .repr (.cons (.lst (.cons (.var 3) (.cons (.callk 20 (.cons (.blt .tuple (.cons (.var 1) .nil)) .nil) [0]) .nil))) .nil)) (.blt .repr (.cons (.bin .Mult (.lst (.cons (.tup (.cons (.str "image") (.cons (.var 9) .nil))) .nil)) (.int 2)) .nil))) (.cmp .NotEq (.blt .repr (.cons (.lst (.cons (.call 21 (.cons (.var 3) .nil)) (.cons (.callk 21 (.cons (.var 3) .nil) [0]) .nil))) .nil)) (.blt .repr (.cons (.lst (.cons (.var 7) (.cons (.var 7) .nil))) .nil)))) (.cons (.ret (.bl false)) .nil) .nil) (.cons (.asg (.tup (.cons (.name 10) (.cons (.name 11) .nil))) (.tup (.cons (.call 33 (.cons (.var 8) .nil)) (.cons (.call 34 (.cons (.var 8) .nil)) .nil)))) (.cons (.set 4 (.lst (.cons (.ife (.cmp .Is (.var 11) .non) (.lc [6] (.name 6) (.val (.var 10)) (.bl true) (.idx (.var 7) (.var 6))) .non) (.cons (.ife (.cmp .Is (.var 11) .non) .non (.lc [6] (.name 6) (.val (.var 11)) (.bl true) (.idx (.var 7) (.var 6)))) .nil)))) (.cons (.ifs (.cmp .NotEq (.blt .repr (.cons (.lst (.cons (.lst (.cons (.call 24 (.cons (.var 3) .nil)) (.cons (.call 25 (.cons (.var 3) .nil)) .nil))) (.cons (.lst (.cons (.callk 24 (.cons (.var 3) .nil) [0]) (.cons (.callk 25 (.cons (.var 3) .nil) [0]) .nil))) .nil))) .nil)) (.blt .repr (.cons (.lst (.cons (.var 4) (.cons (.var 4) .nil))) .nil))) (.cons (.ret (.bl false)) .nil) .nil) (.cons (.fors (.tup (.cons (.name 12) (.cons (.name 13) .nil))) (.enum (.var 7)) (.cons (.set 14 (.blt .sorted (.cons (.lc [6] (.name 6) (.val (.call 35 (.cons (.var 8) (.cons (.var 12) .nil)))) (.bl true) (.idx (.var 7) (.var 6))) .nil))) (.cons (.set 15 (.ife (.cmp .IsNot (.var 11) .non) .non (.call 36 (.cons (.var 8) (.cons (.var 10) (.cons (.var 12) .nil)))))) (.cons (.set 16 (.lc [19, 20] (.tup (.cons (.name 19) (.cons (.name 20) .nil))) (.enum (.var 1)) (.cmp .In (.var 13) (.lc [21] (.name 21) (.val (.idx (.var 20) (.int 2))) (.bl true) (.idx (.var 21) (.int 1)))) (.var 19))) (.cons (.set 17 (.lst (.cons (.call 22 (.cons (.var 3) (.cons (.var 13) .nil))) (.cons (.call 23 (.cons (.var 3) (.cons (.var 13) .nil))) (.cons (.call 26 (.cons (.var 3) (.cons (.var 13) .nil))) (.cons (.call 27 (.cons (.var 1) (.cons (.var 13) .nil))) .nil)))))) (.cons (.set 18 (.lst (.cons (.callk 22 (.cons (.var 13) (.cons (.var 3) .nil)) [1, 0]) (.cons (.callk 23 (.cons (.var 13) (.cons (.var 3) .nil)) [1, 0]) (.cons (.callk 26 (.cons (.var 13) (.cons (.var 3) .nil)) [1, 0]) (.cons (.callk 27 (.cons (.var 13) (.cons (.var 1) .nil)) [1, 0]) .nil)))))) (.cons (.ifs (.cmp .NotEq (.blt .repr (.cons (.lst (.cons (.var 17) (.cons (.var 18) .nil))) .nil)) (.blt .repr (.cons (.bin .Mult (.lst (.cons (.lst (.cons (.var 12) (.cons (.var 14) (.cons (.var 15) (.cons (.var 16) .nil))))) .nil)) (.int 2)) .nil))) (.cons (.ret (.bl false)) .nil) .nil) .nil))))))) (.cons (.ifs (.and (.cmp .IsNot (.var 11) .non) (.not (.blt .all (.cons (.lc [6, 22] (.tup (.cons (.name 6) (.cons (.name 22) .nil))) (.zip (.var 11) (.bin .Add (.slc (.var 11) (.int 1) .non) (.slc (.var 11) .non (.int 1)))) (.bl true) (.cmp .In (.var 22) (.idx (.var 8) (.var 6)))) .nil)))) (.cons (.ret (.bl false)) .nil) .nil) (.cons (.set 5 (.call 20 (.cons (.bin .Add (.var 1) (.slc (.var 1) .non (.int 1))) .nil))) (.cons (.ifs (.or (.cmp .NotEq (.slc (.idx (.var 5) (.int 1)) .non (.blt .len (.cons (.var 7) .nil))) (.var 9)) (.or (.cmp .NotEq (.call 22 (.cons (.var 5) (.cons (.idx (.var 7) (.int 0)) .nil))) (.int 0)) (.cmp .NotEq (.blt .len (.cons (.idx (.var 5) (.int 1)) .nil)) (.bin .Add (.blt .len (.cons (.var 7) .nil)) (.blt .len (.cons (.idx (.idx (.var 1) (.int 0)) (.int 1)) .nil)))))) (.cons (.ret (.bl false)) .nil) .nil) (.cons (.set 6 (.idx (.idx (.idx (.var 1) (.int 0)) (.int 1)) (.int 0))) (.cons (.ifs (.and (.cmp .NotEq (.idx (.idx (.var 6) (.int 7)) (.neg (.int 1))) (.int 99)) (.cmp .NotEq (.blt .len (.cons (.call 10 (.cons (.var 6) .nil)) .nil)) (.bin .Add (.bin .FloorDiv (.blt .len (.cons (.idx (.var 6) (.int 7)) .nil)) (.int 5)) (.int 1)))) (.cons (.ret (.bl false)) .nil) .nil) (.cons (.expr (.meth .append (.call 21 (.cons (.var 3) .nil)) (.cons .non .nil))) (.cons (.ret (.and (.cmp .Eq (.call 21 (.cons (.var 3) .nil)) (.var 7)) (.cmp .Eq (.blt .repr (.cons (.var 1) .nil)) (.var 2)))) .nil))))))))))))))))
def n__law_right : List Str := ["pot", "packages", "shown", "image", "due", "again", "one", "names", "calls", "works", "turn", "ring", "number", "name", "reached", "deep", "users", "told", "named", "at", "package", "use", "late"]
def d__law_right : Df := ⟨23, 1, b__law_right⟩
def b_law : Ss := (.cons (.fors (.name 1) (.rng1 (.blt .max (.cons (.int 1) (.cons (.blt .min (.cons (.int 2) (.cons (.blt .len (.cons (.var 0) .nil)) .nil))) .nil)))) (.cons (.set 2 (.call 28 (.cons (.var 0) (.cons (.var 1) .nil)))) (.cons (.ifs (.or (.not (.call 37 (.cons (.var 2) .nil))) (.not (.call 37 (.cons (.var 2) .nil)))) (.cons (.ret (.bl false)) .nil) .nil) .nil))) (.cons (.ret (.bl true)) .nil))
def n_law : List Str := ["script", "k", "pot"]
def d_law : Df := ⟨3, 1, b_law⟩
def prog0 : List Df := [d_told_at, d_count_at, d_operand_at, d_jump_at, d_count_and, d_shape_at, d_members_at, d_call_at, d_branch_at, d_instruction_at, d_instructions, d_works_of, d_places_by_name, d_firsts_of, d_calls_of, d_image_of, d_number_in, d_called_by, d_turn_of, d_ring_in]
def prog1 : List Df := [d_linked, d_image_names, d_work_number, d_works_reached, d_call_turn, d_call_ring, d_deepest_call, d_users_of, d__law_pot, d__law_draw, d__law_pick, d__law_packages, d__law_graph, d__law_turn, d__law_ring, d__law_reached, d__law_deep, d__law_right, d_law]
def prog : List Df := prog0 ++ prog1
def gl : List (Str × L) := [("BASE", (.int (128))), ("MOST_LONG", (.int (10))), ("GREATEST_TOLD", (.int (1000000000000000000))), ("JUMP_LONG", (.int (3))), ("MOVE", (.str "move")), ("READ", (.str "read")), ("WRITE", (.str "write")), ("SIZE", (.str "size")), ("CALL", (.str "call")), ("GO", (.str "go")), ("BRANCH", (.str "branch")), ("TELL", (.str "tell")), ("SURE", (.str "sure")), ("WORDS", (.tup [(.str ""), (.str "move"), (.str "plus"), (.str "less"), (.str "times"), (.str "over"), (.str "rest"), (.str "read"), (.str "write"), (.str "size"), (.str "call"), (.str "go"), (.str "branch"), (.str "tell"), (.str "sure")])), ("COMPARED", (.tup [(.str "<"), (.str "<="), (.str "="), (.str "!=")]))]
def gd : List (Str × List (Str × L)) := [("SHAPES", [("move", (.str "da")), ("plus", (.str "daa")), ("less", (.str "daa")), ("times", (.str "daa")), ("over", (.str "daa")), ("rest", (.str "daa")), ("read", (.str "dra")), ("write", (.str "raa")), ("size", (.str "dr")), ("go", (.str "t")), ("tell", (.str "a")), ("sure", (.str "k"))])]
abbrev f_told_at : Nat := 0
abbrev f_count_at : Nat := 1
abbrev f_operand_at : Nat := 2
abbrev f_jump_at : Nat := 3
abbrev f_count_and : Nat := 4
abbrev f_shape_at : Nat := 5
abbrev f_members_at : Nat := 6
abbrev f_call_at : Nat := 7
abbrev f_branch_at : Nat := 8
abbrev f_instruction_at : Nat := 9
abbrev f_instructions : Nat := 10
abbrev f_works_of : Nat := 11
abbrev f_places_by_name : Nat := 12
abbrev f_firsts_of : Nat := 13
abbrev f_calls_of : Nat := 14
abbrev f_image_of : Nat := 15
abbrev f_number_in : Nat := 16
abbrev f_called_by : Nat := 17
abbrev f_turn_of : Nat := 18
abbrev f_ring_in : Nat := 19
abbrev f_linked : Nat := 20
abbrev f_image_names : Nat := 21
abbrev f_work_number : Nat := 22
abbrev f_works_reached : Nat := 23
abbrev f_call_turn : Nat := 24
abbrev f_call_ring : Nat := 25
abbrev f_deepest_call : Nat := 26
abbrev f_users_of : Nat := 27
abbrev f__law_pot : Nat := 28
abbrev f__law_draw : Nat := 29
abbrev f__law_pick : Nat := 30
abbrev f__law_packages : Nat := 31
abbrev f__law_graph : Nat := 32
abbrev f__law_turn : Nat := 33
abbrev f__law_ring : Nat := 34
abbrev f__law_reached : Nat := 35
abbrev f__law_deep : Nat := 36
abbrev f__law_right : Nat := 37
abbrev f_law : Nat := 38
end Pg
end
section
set_option Elab.async false
set_option linter.all false
set_option maxRecDepth 100000
set_option maxHeartbeats 0
namespace Top
open PySem PySem.Spec PyProof.Rows L2
def top (i : Nat) : Stmt := PySem.Challenge.pw_boundcode_k91_whole_images_turns_and_rin.main.body.getD i (.Pass ⟨0, 0, 0, 0⟩)
def inner (i j : Nat) : Stmt := match top i with
  | .ClassDef _ _ _ b _ _ _ _ _ _ _ => b.getD j (.Pass ⟨0, 0, 0, 0⟩)
  | _ => .Pass ⟨0, 0, 0, 0⟩
def mkD (x : Str) (i : Nat) : He.DefD := ⟨(x, none), x, x, defArgs (top i), defBody (top i), defScope (top i), [], []⟩
def mkM (C m : Str) (i j : Nat) : He.DefD := ⟨(C, some m), m, C ++ "." ++ m, defArgs (inner i j), defBody (inner i j), defScope (inner i j), [], []⟩
def defs0 : List He.DefD := [mkM "BadPack" "__init__" 3 0, mkM "UnknownWork" "__init__" 4 0, mkD "told_at" 10, mkD "count_at" 11, mkD "operand_at" 12, mkD "jump_at" 13, mkD "count_and" 27, mkD "shape_at" 28, mkD "members_at" 29, mkD "call_at" 30, mkD "branch_at" 31, mkD "instruction_at" 32, mkD "instructions" 33, mkD "works_of" 35, mkD "places_by_name" 36, mkD "firsts_of" 37, mkD "calls_of" 38, mkD "image_of" 39, mkD "number_in" 40, mkD "called_by" 41, mkD "turn_of" 42, mkD "ring_in" 43, mkD "linked" 44, mkD "image_names" 45, mkD "work_number" 46, mkD "works_reached" 47, mkD "call_turn" 48, mkD "call_ring" 49, mkD "deepest_call" 50, mkD "users_of" 51]
def defs1 : List He.DefD := [mkD "_law_pot" 53, mkD "_law_draw" 54, mkD "_law_pick" 55, mkD "_law_packages" 56, mkD "_law_graph" 57, mkD "_law_turn" 58, mkD "_law_ring" 59, mkD "_law_reached" 60, mkD "_law_deep" 61, mkD "_law_right" 62, mkD "law" 63]
def defs : List He.DefD := defs0 ++ defs1

def facts0 : List He.Fa := [.glo "CodeError", .glo "MissingError", .glo "BadPack", .glo "UnknownWork", .int "BASE" (128), .int "MOST_LONG" (10), .int "GREATEST_TOLD" (1000000000000000000), .int "JUMP_LONG" (3), .glo "told_at", .glo "count_at", .glo "operand_at", .glo "jump_at", .str "MOVE" "move", .str "READ" "read", .str "WRITE" "write", .str "SIZE" "size", .str "CALL" "call", .str "GO" "go", .str "BRANCH" "branch", .str "TELL" "tell", .str "SURE" "sure", .glo "WORDS", .glo "COMPARED", .glo "SHAPES", .glo "count_and", .glo "shape_at", .glo "members_at", .glo "call_at", .glo "branch_at", .glo "instruction_at"]
def facts1 : List He.Fa := [.glo "instructions", .glo "works_of", .glo "places_by_name", .glo "firsts_of", .glo "calls_of", .glo "image_of", .glo "number_in", .glo "called_by", .glo "turn_of", .glo "ring_in", .glo "linked", .glo "image_names", .glo "work_number", .glo "works_reached", .glo "call_turn", .glo "call_ring", .glo "deepest_call", .glo "users_of", .glo "_law_pot", .glo "_law_draw", .glo "_law_pick", .glo "_law_packages", .glo "_law_graph", .glo "_law_turn", .glo "_law_ring", .glo "_law_reached", .glo "_law_deep", .glo "_law_right", .glo "law", .free "len"]
def facts2 : List He.Fa := [.free "max", .free "min", .free "abs", .free "sum", .free "sorted", .free "list", .free "tuple", .free "set", .free "int", .free "repr", .free "divmod", .free "all", .free "any", .free "range", .free "enumerate", .free "zip", .meth "BadPack" "__init__", .noat "BadPack" "position", .exm "BadPack" "BadPack" true]
def facts : List He.Fa := facts0 ++ facts1 ++ facts2

def names0 : List PySem.Str := ["CodeError", "MissingError", "BadPack", "UnknownWork", "BASE", "MOST_LONG", "GREATEST_TOLD", "JUMP_LONG", "told_at", "count_at", "operand_at", "jump_at", "MOVE", "READ", "WRITE", "SIZE", "CALL", "GO", "BRANCH", "TELL", "SURE", "WORDS", "COMPARED", "SHAPES", "count_and", "shape_at", "members_at", "call_at", "branch_at", "instruction_at"]
def names1 : List PySem.Str := ["instructions", "works_of", "places_by_name", "firsts_of", "calls_of", "image_of", "number_in", "called_by", "turn_of", "ring_in", "linked", "image_names", "work_number", "works_reached", "call_turn", "call_ring", "deepest_call", "users_of", "_law_pot", "_law_draw", "_law_pick", "_law_packages", "_law_graph", "_law_turn", "_law_ring", "_law_reached", "_law_deep", "_law_right"]
def names : List PySem.Str := names0 ++ names1

def ts : List He.Tab := [(fun K => He.ga K "SHAPES", ["move", "plus", "less", "times", "over", "rest", "read", "write", "size", "go", "tell", "sure"])]
def ex (K : PySem.W.Frag) : Bool := (He.tupB K "WORDS" [.str "", .str "move", .str "plus", .str "less", .str "times", .str "over", .str "rest", .str "read", .str "write", .str "size", .str "call", .str "go", .str "branch", .str "tell", .str "sure"]) && (He.tupB K "COMPARED" [.str "<", .str "<=", .str "=", .str "!="]) && (He.valsB K (He.ga K "SHAPES") [("move", .str "da"), ("plus", .str "daa"), ("less", .str "daa"), ("times", .str "daa"), ("over", .str "daa"), ("rest", .str "daa"), ("read", .str "dra"), ("write", .str "raa"), ("size", .str "dr"), ("go", .str "t"), ("tell", .str "a"), ("sure", .str "k")]) && (Ly.oexB K (He.ga K "BadPack"))
abbrev R : PySem.W.OpenRow := PySem.W.OpenLaw.row PySem.Challenge.rw_boundcode_k91_whole_images_turns_and_rin
abbrev hk : PySem.W.Hook := He.hookX 5 facts defs ts [] ex
def ob (s : PySem.W.SharedT) : He.AlX := He.obsX 5 facts defs ts [] ex (HandSHeadRun.getT s)
theorem ob_eq (s : PySem.W.SharedT) : ob s = hk.obs s.abs := He.obsX_eq (HandSHeadRun.getT_eq s)
theorem run0 (w : World) : HandSHeadRun.RunEq R (PySem.W.view R.prog [63]) hk ob 4000 names (w.withFollow "special-get-raises" false) := by
  intro os
  kernel_rfl
theorem run1 (w : World) : HandSHeadRun.RunEq R (PySem.W.view R.prog [63]) hk ob 4000 names (w.withFollow "special-get-raises" true) := by
  intro os
  kernel_rfl
theorem run (w : World) : HandSHeadRun.RunEq R (PySem.W.view R.prog [63]) hk ob 4000 names w := PySem.W.byRow2 "special-get-raises" run0 run1 w
end Top
end
section
set_option Elab.async false
set_option linter.all false
set_option autoImplicit false
set_option maxRecDepth 100000
namespace In
open PySem PySem.Spec PyProof.Rows L2 Ly He
/-! ### the table -/
def fns : List Str := ((["told_at", "count_at", "operand_at", "jump_at", "count_and", "shape_at", "members_at", "call_at", "branch_at", "instruction_at", "instructions", "works_of", "places_by_name", "firsts_of", "calls_of", "image_of", "number_in", "called_by", "turn_of", "ring_in"] : List Str) ++ (["linked", "image_names", "work_number", "works_reached", "call_turn", "call_ring", "deepest_call", "users_of", "_law_pot", "_law_draw", "_law_pick", "_law_packages", "_law_graph", "_law_turn", "_law_ring", "_law_reached", "_law_deep", "_law_right", "law"] : List Str))
def g : Sg := ⟨fns, [(22, (["name", "image"] : List Str), [1, 0]), (23, (["name", "image"] : List Str), [1, 0]), (26, (["name", "image"] : List Str), [1, 0]), (27, (["name", "packages"] : List Str), [1, 0]), (20, (["packages"] : List Str), [0]), (21, (["image"] : List Str), [0]), (24, (["image"] : List Str), [0]), (25, (["image"] : List Str), [0])], (["BadPack"] : List Str), (["BASE", "MOST_LONG", "GREATEST_TOLD", "JUMP_LONG", "MOVE", "READ", "WRITE", "SIZE", "CALL", "GO", "BRANCH", "TELL", "SURE", "WORDS", "COMPARED"] : List Str), (["SHAPES"] : List Str)⟩
theorem no_kw {k : Nat} (h : (g.kws.all fun q => !decide (q.1 = k)) = true) (ks : List Str) (pm : List Nat) : (k, ks, pm) ∉ g.kws := fun m => by
  have := List.all_eq_true.mp h _ m
  simp at this
inductive Look (P : Str → L → Prop) : List (Str × L) → Prop
  | nil : Look P []
  | cons {x : Str} {v : L} {r : List (Str × L)} : P x v → Look P r → Look P ((x, v) :: r)
theorem look_all {P : Str → L → Prop} : ∀ {r : List (Str × L)}, Look P r → ∀ {x : Str} {v : L}, r.lookup x = some v → P x v
  | _, .nil, _, _, e => by cases e
  | (y, u) :: r, .cons p q, x, v, e => by
    by_cases h : x = y
    · subst h
      rw [List.lookup_cons_self] at e
      cases e
      exact p
    · rw [List.lookup_cons, beq_eq_false_iff_ne.mpr h] at e
      exact look_all q e
abbrev FD (K : PySem.W.Frag) (x : Str) (i : Nat) : Prop := ∃ (a : Addr) (fd : FuncData), FunD K x x (defArgs (Top.top i)) (defBody (Top.top i)) (defScope (Top.top i)) [] [] a fd
theorem c_told_at : chkSs g ⟨Pg.n_told_at, defScope (Top.top 10), fun _ => true⟩ Pg.b_told_at (defBody (Top.top 10)) = true := by decide +kernel
theorem k_told_at : FnScope Pg.n_told_at (["row", "begin", "most"] : List Str) (defScope (Top.top 10)) := ⟨rfl, rfl, rfl, by decide +kernel, rfl, by decide +kernel, by decide +kernel⟩
theorem o_told_at {K : PySem.W.Frag} {mg : Str → Option Value} {h : Heap} (X : K.In h) (G : h.Ns mainGlobals mg) (c : He.SaysD Top.facts Top.defs K) : DefOk K mg g 0 "told_at" Pg.d_told_at := by
  obtain ⟨fd, F⟩ := c.def_ (d := Top.mkD "told_at" 10) 2 rfl
  refine ⟨_, _, _, _, _, _, fd, _, _, F, k_told_at, rfl, rfl, c_told_at, He.glo_ok X G (c.fact (f := .glo "told_at") 8 rfl), FunD.bindsN F fun _ _ _ _ _ _ us hl => match us, hl with | [_, _, _], _ => rfl, fun ks pm hm => ?_⟩
  exact absurd hm (no_kw (by decide) ks pm)
theorem c_count_at : chkSs g ⟨Pg.n_count_at, defScope (Top.top 11), fun _ => true⟩ Pg.b_count_at (defBody (Top.top 11)) = true := by decide +kernel
theorem k_count_at : FnScope Pg.n_count_at (["row", "begin"] : List Str) (defScope (Top.top 11)) := ⟨rfl, rfl, rfl, by decide +kernel, rfl, by decide +kernel, by decide +kernel⟩
theorem o_count_at {K : PySem.W.Frag} {mg : Str → Option Value} {h : Heap} (X : K.In h) (G : h.Ns mainGlobals mg) (c : He.SaysD Top.facts Top.defs K) : DefOk K mg g 1 "count_at" Pg.d_count_at := by
  obtain ⟨fd, F⟩ := c.def_ (d := Top.mkD "count_at" 11) 3 rfl
  refine ⟨_, _, _, _, _, _, fd, _, _, F, k_count_at, rfl, rfl, c_count_at, He.glo_ok X G (c.fact (f := .glo "count_at") 9 rfl), FunD.bindsN F fun _ _ _ _ _ _ us hl => match us, hl with | [_, _], _ => rfl, fun ks pm hm => ?_⟩
  exact absurd hm (no_kw (by decide) ks pm)
theorem c_operand_at : chkSs g ⟨Pg.n_operand_at, defScope (Top.top 12), fun _ => true⟩ Pg.b_operand_at (defBody (Top.top 12)) = true := by decide +kernel
theorem k_operand_at : FnScope Pg.n_operand_at (["row", "begin"] : List Str) (defScope (Top.top 12)) := ⟨rfl, rfl, rfl, by decide +kernel, rfl, by decide +kernel, by decide +kernel⟩
theorem o_operand_at {K : PySem.W.Frag} {mg : Str → Option Value} {h : Heap} (X : K.In h) (G : h.Ns mainGlobals mg) (c : He.SaysD Top.facts Top.defs K) : DefOk K mg g 2 "operand_at" Pg.d_operand_at := by
  obtain ⟨fd, F⟩ := c.def_ (d := Top.mkD "operand_at" 12) 4 rfl
  refine ⟨_, _, _, _, _, _, fd, _, _, F, k_operand_at, rfl, rfl, c_operand_at, He.glo_ok X G (c.fact (f := .glo "operand_at") 10 rfl), FunD.bindsN F fun _ _ _ _ _ _ us hl => match us, hl with | [_, _], _ => rfl, fun ks pm hm => ?_⟩
  exact absurd hm (no_kw (by decide) ks pm)
theorem c_jump_at : chkSs g ⟨Pg.n_jump_at, defScope (Top.top 13), fun _ => true⟩ Pg.b_jump_at (defBody (Top.top 13)) = true := by decide +kernel
theorem k_jump_at : FnScope Pg.n_jump_at (["row", "begin"] : List Str) (defScope (Top.top 13)) := ⟨rfl, rfl, rfl, by decide +kernel, rfl, by decide +kernel, by decide +kernel⟩
theorem o_jump_at {K : PySem.W.Frag} {mg : Str → Option Value} {h : Heap} (X : K.In h) (G : h.Ns mainGlobals mg) (c : He.SaysD Top.facts Top.defs K) : DefOk K mg g 3 "jump_at" Pg.d_jump_at := by
  obtain ⟨fd, F⟩ := c.def_ (d := Top.mkD "jump_at" 13) 5 rfl
  refine ⟨_, _, _, _, _, _, fd, _, _, F, k_jump_at, rfl, rfl, c_jump_at, He.glo_ok X G (c.fact (f := .glo "jump_at") 11 rfl), FunD.bindsN F fun _ _ _ _ _ _ us hl => match us, hl with | [_, _], _ => rfl, fun ks pm hm => ?_⟩
  exact absurd hm (no_kw (by decide) ks pm)
theorem c_count_and : chkSs g ⟨Pg.n_count_and, defScope (Top.top 27), fun _ => true⟩ Pg.b_count_and (defBody (Top.top 27)) = true := by decide +kernel
theorem k_count_and : FnScope Pg.n_count_and (["row", "told", "found"] : List Str) (defScope (Top.top 27)) := ⟨rfl, rfl, rfl, by decide +kernel, rfl, by decide +kernel, by decide +kernel⟩
theorem o_count_and {K : PySem.W.Frag} {mg : Str → Option Value} {h : Heap} (X : K.In h) (G : h.Ns mainGlobals mg) (c : He.SaysD Top.facts Top.defs K) : DefOk K mg g 4 "count_and" Pg.d_count_and := by
  obtain ⟨fd, F⟩ := c.def_ (d := Top.mkD "count_and" 27) 6 rfl
  refine ⟨_, _, _, _, _, _, fd, _, _, F, k_count_and, rfl, rfl, c_count_and, He.glo_ok X G (c.fact (f := .glo "count_and") 24 rfl), FunD.bindsN F fun _ _ _ _ _ _ us hl => match us, hl with | [_, _, _], _ => rfl, fun ks pm hm => ?_⟩
  exact absurd hm (no_kw (by decide) ks pm)
theorem c_shape_at : chkSs g ⟨Pg.n_shape_at, defScope (Top.top 28), fun _ => true⟩ Pg.b_shape_at (defBody (Top.top 28)) = true := by decide +kernel
theorem k_shape_at : FnScope Pg.n_shape_at (["row", "begin", "shape"] : List Str) (defScope (Top.top 28)) := ⟨rfl, rfl, rfl, by decide +kernel, rfl, by decide +kernel, by decide +kernel⟩
theorem o_shape_at {K : PySem.W.Frag} {mg : Str → Option Value} {h : Heap} (X : K.In h) (G : h.Ns mainGlobals mg) (c : He.SaysD Top.facts Top.defs K) : DefOk K mg g 5 "shape_at" Pg.d_shape_at := by
  obtain ⟨fd, F⟩ := c.def_ (d := Top.mkD "shape_at" 28) 7 rfl
  refine ⟨_, _, _, _, _, _, fd, _, _, F, k_shape_at, rfl, rfl, c_shape_at, He.glo_ok X G (c.fact (f := .glo "shape_at") 25 rfl), FunD.bindsN F fun _ _ _ _ _ _ us hl => match us, hl with | [_, _, _], _ => rfl, fun ks pm hm => ?_⟩
  exact absurd hm (no_kw (by decide) ks pm)
theorem c_members_at : chkSs g ⟨Pg.n_members_at, defScope (Top.top 29), fun _ => true⟩ Pg.b_members_at (defBody (Top.top 29)) = true := by decide +kernel
theorem k_members_at : FnScope Pg.n_members_at (["row", "begin", "sign"] : List Str) (defScope (Top.top 29)) := ⟨rfl, rfl, rfl, by decide +kernel, rfl, by decide +kernel, by decide +kernel⟩
theorem o_members_at {K : PySem.W.Frag} {mg : Str → Option Value} {h : Heap} (X : K.In h) (G : h.Ns mainGlobals mg) (c : He.SaysD Top.facts Top.defs K) : DefOk K mg g 6 "members_at" Pg.d_members_at := by
  obtain ⟨fd, F⟩ := c.def_ (d := Top.mkD "members_at" 29) 8 rfl
  refine ⟨_, _, _, _, _, _, fd, _, _, F, k_members_at, rfl, rfl, c_members_at, He.glo_ok X G (c.fact (f := .glo "members_at") 26 rfl), FunD.bindsN F fun _ _ _ _ _ _ us hl => match us, hl with | [_, _, _], _ => rfl, fun ks pm hm => ?_⟩
  exact absurd hm (no_kw (by decide) ks pm)
theorem c_call_at : chkSs g ⟨Pg.n_call_at, defScope (Top.top 30), fun _ => true⟩ Pg.b_call_at (defBody (Top.top 30)) = true := by decide +kernel
theorem k_call_at : FnScope Pg.n_call_at (["row", "begin"] : List Str) (defScope (Top.top 30)) := ⟨rfl, rfl, rfl, by decide +kernel, rfl, by decide +kernel, by decide +kernel⟩
theorem o_call_at {K : PySem.W.Frag} {mg : Str → Option Value} {h : Heap} (X : K.In h) (G : h.Ns mainGlobals mg) (c : He.SaysD Top.facts Top.defs K) : DefOk K mg g 7 "call_at" Pg.d_call_at := by
  obtain ⟨fd, F⟩ := c.def_ (d := Top.mkD "call_at" 30) 9 rfl
  refine ⟨_, _, _, _, _, _, fd, _, _, F, k_call_at, rfl, rfl, c_call_at, He.glo_ok X G (c.fact (f := .glo "call_at") 27 rfl), FunD.bindsN F fun _ _ _ _ _ _ us hl => match us, hl with | [_, _], _ => rfl, fun ks pm hm => ?_⟩
  exact absurd hm (no_kw (by decide) ks pm)
theorem c_branch_at : chkSs g ⟨Pg.n_branch_at, defScope (Top.top 31), fun _ => true⟩ Pg.b_branch_at (defBody (Top.top 31)) = true := by decide +kernel
theorem k_branch_at : FnScope Pg.n_branch_at (["row", "begin"] : List Str) (defScope (Top.top 31)) := ⟨rfl, rfl, rfl, by decide +kernel, rfl, by decide +kernel, by decide +kernel⟩
theorem o_branch_at {K : PySem.W.Frag} {mg : Str → Option Value} {h : Heap} (X : K.In h) (G : h.Ns mainGlobals mg) (c : He.SaysD Top.facts Top.defs K) : DefOk K mg g 8 "branch_at" Pg.d_branch_at := by
  obtain ⟨fd, F⟩ := c.def_ (d := Top.mkD "branch_at" 31) 10 rfl
  refine ⟨_, _, _, _, _, _, fd, _, _, F, k_branch_at, rfl, rfl, c_branch_at, He.glo_ok X G (c.fact (f := .glo "branch_at") 28 rfl), FunD.bindsN F fun _ _ _ _ _ _ us hl => match us, hl with | [_, _], _ => rfl, fun ks pm hm => ?_⟩
  exact absurd hm (no_kw (by decide) ks pm)
theorem c_instruction_at : chkSs g ⟨Pg.n_instruction_at, defScope (Top.top 32), fun _ => true⟩ Pg.b_instruction_at (defBody (Top.top 32)) = true := by decide +kernel
theorem k_instruction_at : FnScope Pg.n_instruction_at (["row", "begin"] : List Str) (defScope (Top.top 32)) := ⟨rfl, rfl, rfl, by decide +kernel, rfl, by decide +kernel, by decide +kernel⟩
theorem o_instruction_at {K : PySem.W.Frag} {mg : Str → Option Value} {h : Heap} (X : K.In h) (G : h.Ns mainGlobals mg) (c : He.SaysD Top.facts Top.defs K) : DefOk K mg g 9 "instruction_at" Pg.d_instruction_at := by
  obtain ⟨fd, F⟩ := c.def_ (d := Top.mkD "instruction_at" 32) 11 rfl
  refine ⟨_, _, _, _, _, _, fd, _, _, F, k_instruction_at, rfl, rfl, c_instruction_at, He.glo_ok X G (c.fact (f := .glo "instruction_at") 29 rfl), FunD.bindsN F fun _ _ _ _ _ _ us hl => match us, hl with | [_, _], _ => rfl, fun ks pm hm => ?_⟩
  exact absurd hm (no_kw (by decide) ks pm)
theorem c_instructions : chkSs g ⟨Pg.n_instructions, defScope (Top.top 33), fun _ => true⟩ Pg.b_instructions (defBody (Top.top 33)) = true := by decide +kernel
theorem k_instructions : FnScope Pg.n_instructions (["code"] : List Str) (defScope (Top.top 33)) := ⟨rfl, rfl, rfl, by decide +kernel, rfl, by decide +kernel, by decide +kernel⟩
theorem o_instructions {K : PySem.W.Frag} {mg : Str → Option Value} {h : Heap} (X : K.In h) (G : h.Ns mainGlobals mg) (c : He.SaysD Top.facts Top.defs K) : DefOk K mg g 10 "instructions" Pg.d_instructions := by
  obtain ⟨fd, F⟩ := c.def_ (d := Top.mkD "instructions" 33) 12 rfl
  refine ⟨_, _, _, _, _, _, fd, _, _, F, k_instructions, rfl, rfl, c_instructions, He.glo_ok X G (c.fact (f := .glo "instructions") 30 rfl), FunD.bindsN F fun _ _ _ _ _ _ us hl => match us, hl with | [_], _ => rfl, fun ks pm hm => ?_⟩
  exact absurd hm (no_kw (by decide) ks pm)
theorem c_works_of : chkSs g ⟨Pg.n_works_of, defScope (Top.top 35), fun _ => true⟩ Pg.b_works_of (defBody (Top.top 35)) = true := by decide +kernel
theorem k_works_of : FnScope Pg.n_works_of (["packages"] : List Str) (defScope (Top.top 35)) := ⟨rfl, rfl, rfl, by decide +kernel, rfl, by decide +kernel, by decide +kernel⟩
theorem o_works_of {K : PySem.W.Frag} {mg : Str → Option Value} {h : Heap} (X : K.In h) (G : h.Ns mainGlobals mg) (c : He.SaysD Top.facts Top.defs K) : DefOk K mg g 11 "works_of" Pg.d_works_of := by
  obtain ⟨fd, F⟩ := c.def_ (d := Top.mkD "works_of" 35) 13 rfl
  refine ⟨_, _, _, _, _, _, fd, _, _, F, k_works_of, rfl, rfl, c_works_of, He.glo_ok X G (c.fact (f := .glo "works_of") 31 rfl), FunD.bindsN F fun _ _ _ _ _ _ us hl => match us, hl with | [_], _ => rfl, fun ks pm hm => ?_⟩
  exact absurd hm (no_kw (by decide) ks pm)
theorem c_places_by_name : chkSs g ⟨Pg.n_places_by_name, defScope (Top.top 36), fun _ => true⟩ Pg.b_places_by_name (defBody (Top.top 36)) = true := by decide +kernel
theorem k_places_by_name : FnScope Pg.n_places_by_name (["packages"] : List Str) (defScope (Top.top 36)) := ⟨rfl, rfl, rfl, by decide +kernel, rfl, by decide +kernel, by decide +kernel⟩
theorem o_places_by_name {K : PySem.W.Frag} {mg : Str → Option Value} {h : Heap} (X : K.In h) (G : h.Ns mainGlobals mg) (c : He.SaysD Top.facts Top.defs K) : DefOk K mg g 12 "places_by_name" Pg.d_places_by_name := by
  obtain ⟨fd, F⟩ := c.def_ (d := Top.mkD "places_by_name" 36) 14 rfl
  refine ⟨_, _, _, _, _, _, fd, _, _, F, k_places_by_name, rfl, rfl, c_places_by_name, He.glo_ok X G (c.fact (f := .glo "places_by_name") 32 rfl), FunD.bindsN F fun _ _ _ _ _ _ us hl => match us, hl with | [_], _ => rfl, fun ks pm hm => ?_⟩
  exact absurd hm (no_kw (by decide) ks pm)
theorem c_firsts_of : chkSs g ⟨Pg.n_firsts_of, defScope (Top.top 37), fun _ => true⟩ Pg.b_firsts_of (defBody (Top.top 37)) = true := by decide +kernel
theorem k_firsts_of : FnScope Pg.n_firsts_of (["packages"] : List Str) (defScope (Top.top 37)) := ⟨rfl, rfl, rfl, by decide +kernel, rfl, by decide +kernel, by decide +kernel⟩
theorem o_firsts_of {K : PySem.W.Frag} {mg : Str → Option Value} {h : Heap} (X : K.In h) (G : h.Ns mainGlobals mg) (c : He.SaysD Top.facts Top.defs K) : DefOk K mg g 13 "firsts_of" Pg.d_firsts_of := by
  obtain ⟨fd, F⟩ := c.def_ (d := Top.mkD "firsts_of" 37) 15 rfl
  refine ⟨_, _, _, _, _, _, fd, _, _, F, k_firsts_of, rfl, rfl, c_firsts_of, He.glo_ok X G (c.fact (f := .glo "firsts_of") 33 rfl), FunD.bindsN F fun _ _ _ _ _ _ us hl => match us, hl with | [_], _ => rfl, fun ks pm hm => ?_⟩
  exact absurd hm (no_kw (by decide) ks pm)
theorem c_calls_of : chkSs g ⟨Pg.n_calls_of, defScope (Top.top 38), fun _ => true⟩ Pg.b_calls_of (defBody (Top.top 38)) = true := by decide +kernel
theorem k_calls_of : FnScope Pg.n_calls_of (["packages", "number"] : List Str) (defScope (Top.top 38)) := ⟨rfl, rfl, rfl, by decide +kernel, rfl, by decide +kernel, by decide +kernel⟩
theorem o_calls_of {K : PySem.W.Frag} {mg : Str → Option Value} {h : Heap} (X : K.In h) (G : h.Ns mainGlobals mg) (c : He.SaysD Top.facts Top.defs K) : DefOk K mg g 14 "calls_of" Pg.d_calls_of := by
  obtain ⟨fd, F⟩ := c.def_ (d := Top.mkD "calls_of" 38) 16 rfl
  refine ⟨_, _, _, _, _, _, fd, _, _, F, k_calls_of, rfl, rfl, c_calls_of, He.glo_ok X G (c.fact (f := .glo "calls_of") 34 rfl), FunD.bindsN F fun _ _ _ _ _ _ us hl => match us, hl with | [_, _], _ => rfl, fun ks pm hm => ?_⟩
  exact absurd hm (no_kw (by decide) ks pm)
theorem c_image_of : chkSs g ⟨Pg.n_image_of, defScope (Top.top 39), fun _ => true⟩ Pg.b_image_of (defBody (Top.top 39)) = true := by decide +kernel
theorem k_image_of : FnScope Pg.n_image_of (["packages"] : List Str) (defScope (Top.top 39)) := ⟨rfl, rfl, rfl, by decide +kernel, rfl, by decide +kernel, by decide +kernel⟩
theorem o_image_of {K : PySem.W.Frag} {mg : Str → Option Value} {h : Heap} (X : K.In h) (G : h.Ns mainGlobals mg) (c : He.SaysD Top.facts Top.defs K) : DefOk K mg g 15 "image_of" Pg.d_image_of := by
  obtain ⟨fd, F⟩ := c.def_ (d := Top.mkD "image_of" 39) 17 rfl
  refine ⟨_, _, _, _, _, _, fd, _, _, F, k_image_of, rfl, rfl, c_image_of, He.glo_ok X G (c.fact (f := .glo "image_of") 35 rfl), FunD.bindsN F fun _ _ _ _ _ _ us hl => match us, hl with | [_], _ => rfl, fun ks pm hm => ?_⟩
  exact absurd hm (no_kw (by decide) ks pm)
theorem c_number_in : chkSs g ⟨Pg.n_number_in, defScope (Top.top 40), fun _ => true⟩ Pg.b_number_in (defBody (Top.top 40)) = true := by decide +kernel
theorem k_number_in : FnScope Pg.n_number_in (["image", "name"] : List Str) (defScope (Top.top 40)) := ⟨rfl, rfl, rfl, by decide +kernel, rfl, by decide +kernel, by decide +kernel⟩
theorem o_number_in {K : PySem.W.Frag} {mg : Str → Option Value} {h : Heap} (X : K.In h) (G : h.Ns mainGlobals mg) (c : He.SaysD Top.facts Top.defs K) : DefOk K mg g 16 "number_in" Pg.d_number_in := by
  obtain ⟨fd, F⟩ := c.def_ (d := Top.mkD "number_in" 40) 18 rfl
  refine ⟨_, _, _, _, _, _, fd, _, _, F, k_number_in, rfl, rfl, c_number_in, He.glo_ok X G (c.fact (f := .glo "number_in") 36 rfl), FunD.bindsN F fun _ _ _ _ _ _ us hl => match us, hl with | [_, _], _ => rfl, fun ks pm hm => ?_⟩
  exact absurd hm (no_kw (by decide) ks pm)
theorem c_called_by : chkSs g ⟨Pg.n_called_by, defScope (Top.top 41), fun _ => true⟩ Pg.b_called_by (defBody (Top.top 41)) = true := by decide +kernel
theorem k_called_by : FnScope Pg.n_called_by (["image", "number"] : List Str) (defScope (Top.top 41)) := ⟨rfl, rfl, rfl, by decide +kernel, rfl, by decide +kernel, by decide +kernel⟩
theorem o_called_by {K : PySem.W.Frag} {mg : Str → Option Value} {h : Heap} (X : K.In h) (G : h.Ns mainGlobals mg) (c : He.SaysD Top.facts Top.defs K) : DefOk K mg g 17 "called_by" Pg.d_called_by := by
  obtain ⟨fd, F⟩ := c.def_ (d := Top.mkD "called_by" 41) 19 rfl
  refine ⟨_, _, _, _, _, _, fd, _, _, F, k_called_by, rfl, rfl, c_called_by, He.glo_ok X G (c.fact (f := .glo "called_by") 37 rfl), FunD.bindsN F fun _ _ _ _ _ _ us hl => match us, hl with | [_, _], _ => rfl, fun ks pm hm => ?_⟩
  exact absurd hm (no_kw (by decide) ks pm)
theorem c_turn_of : chkSs g ⟨Pg.n_turn_of, defScope (Top.top 42), fun _ => true⟩ Pg.b_turn_of (defBody (Top.top 42)) = true := by decide +kernel
theorem k_turn_of : FnScope Pg.n_turn_of (["image"] : List Str) (defScope (Top.top 42)) := ⟨rfl, rfl, rfl, by decide +kernel, rfl, by decide +kernel, by decide +kernel⟩
theorem o_turn_of {K : PySem.W.Frag} {mg : Str → Option Value} {h : Heap} (X : K.In h) (G : h.Ns mainGlobals mg) (c : He.SaysD Top.facts Top.defs K) : DefOk K mg g 18 "turn_of" Pg.d_turn_of := by
  obtain ⟨fd, F⟩ := c.def_ (d := Top.mkD "turn_of" 42) 20 rfl
  refine ⟨_, _, _, _, _, _, fd, _, _, F, k_turn_of, rfl, rfl, c_turn_of, He.glo_ok X G (c.fact (f := .glo "turn_of") 38 rfl), FunD.bindsN F fun _ _ _ _ _ _ us hl => match us, hl with | [_], _ => rfl, fun ks pm hm => ?_⟩
  exact absurd hm (no_kw (by decide) ks pm)
theorem c_ring_in : chkSs g ⟨Pg.n_ring_in, defScope (Top.top 43), fun _ => true⟩ Pg.b_ring_in (defBody (Top.top 43)) = true := by decide +kernel
theorem k_ring_in : FnScope Pg.n_ring_in (["image"] : List Str) (defScope (Top.top 43)) := ⟨rfl, rfl, rfl, by decide +kernel, rfl, by decide +kernel, by decide +kernel⟩
theorem o_ring_in {K : PySem.W.Frag} {mg : Str → Option Value} {h : Heap} (X : K.In h) (G : h.Ns mainGlobals mg) (c : He.SaysD Top.facts Top.defs K) : DefOk K mg g 19 "ring_in" Pg.d_ring_in := by
  obtain ⟨fd, F⟩ := c.def_ (d := Top.mkD "ring_in" 43) 21 rfl
  refine ⟨_, _, _, _, _, _, fd, _, _, F, k_ring_in, rfl, rfl, c_ring_in, He.glo_ok X G (c.fact (f := .glo "ring_in") 39 rfl), FunD.bindsN F fun _ _ _ _ _ _ us hl => match us, hl with | [_], _ => rfl, fun ks pm hm => ?_⟩
  exact absurd hm (no_kw (by decide) ks pm)
theorem c_linked : chkSs g ⟨Pg.n_linked, defScope (Top.top 44), fun _ => true⟩ Pg.b_linked (defBody (Top.top 44)) = true := by decide +kernel
theorem k_linked : FnScope Pg.n_linked (["packages"] : List Str) (defScope (Top.top 44)) := ⟨rfl, rfl, rfl, by decide +kernel, rfl, by decide +kernel, by decide +kernel⟩
theorem o_linked {K : PySem.W.Frag} {mg : Str → Option Value} {h : Heap} (X : K.In h) (G : h.Ns mainGlobals mg) (c : He.SaysD Top.facts Top.defs K) : DefOk K mg g 20 "linked" Pg.d_linked := by
  obtain ⟨fd, F⟩ := c.def_ (d := Top.mkD "linked" 44) 22 rfl
  refine ⟨_, _, _, _, _, _, fd, _, _, F, k_linked, rfl, rfl, c_linked, He.glo_ok X G (c.fact (f := .glo "linked") 40 rfl), FunD.bindsN F fun _ _ _ _ _ _ us hl => match us, hl with | [_], _ => rfl, fun ks pm hm => ?_⟩
  have hm2 := (List.mem_filter (p := fun q => decide (q.1 = 20))).mpr ⟨hm, decide_eq_true rfl⟩
  rw [(by decide +kernel : (g.kws.filter fun q => decide (q.1 = 20)) = ([(20, (["packages"] : List Str), [0])] : List (Nat × List Str × List Nat)))] at hm2
  simp only [List.mem_cons, List.not_mem_nil, or_false, Prod.mk.injEq, true_and] at hm2
  obtain ⟨rfl, rfl⟩ := hm2
  · exact kwB_of F fun _ _ _ _ _ _ ws ts hl hm => match ws, hl, hm with | [_], _, rfl => rfl
theorem c_image_names : chkSs g ⟨Pg.n_image_names, defScope (Top.top 45), fun _ => true⟩ Pg.b_image_names (defBody (Top.top 45)) = true := by decide +kernel
theorem k_image_names : FnScope Pg.n_image_names (["image"] : List Str) (defScope (Top.top 45)) := ⟨rfl, rfl, rfl, by decide +kernel, rfl, by decide +kernel, by decide +kernel⟩
theorem o_image_names {K : PySem.W.Frag} {mg : Str → Option Value} {h : Heap} (X : K.In h) (G : h.Ns mainGlobals mg) (c : He.SaysD Top.facts Top.defs K) : DefOk K mg g 21 "image_names" Pg.d_image_names := by
  obtain ⟨fd, F⟩ := c.def_ (d := Top.mkD "image_names" 45) 23 rfl
  refine ⟨_, _, _, _, _, _, fd, _, _, F, k_image_names, rfl, rfl, c_image_names, He.glo_ok X G (c.fact (f := .glo "image_names") 41 rfl), FunD.bindsN F fun _ _ _ _ _ _ us hl => match us, hl with | [_], _ => rfl, fun ks pm hm => ?_⟩
  have hm2 := (List.mem_filter (p := fun q => decide (q.1 = 21))).mpr ⟨hm, decide_eq_true rfl⟩
  rw [(by decide +kernel : (g.kws.filter fun q => decide (q.1 = 21)) = ([(21, (["image"] : List Str), [0])] : List (Nat × List Str × List Nat)))] at hm2
  simp only [List.mem_cons, List.not_mem_nil, or_false, Prod.mk.injEq, true_and] at hm2
  obtain ⟨rfl, rfl⟩ := hm2
  · exact kwB_of F fun _ _ _ _ _ _ ws ts hl hm => match ws, hl, hm with | [_], _, rfl => rfl
theorem c_work_number : chkSs g ⟨Pg.n_work_number, defScope (Top.top 46), fun _ => true⟩ Pg.b_work_number (defBody (Top.top 46)) = true := by decide +kernel
theorem k_work_number : FnScope Pg.n_work_number (["image", "name"] : List Str) (defScope (Top.top 46)) := ⟨rfl, rfl, rfl, by decide +kernel, rfl, by decide +kernel, by decide +kernel⟩
theorem o_work_number {K : PySem.W.Frag} {mg : Str → Option Value} {h : Heap} (X : K.In h) (G : h.Ns mainGlobals mg) (c : He.SaysD Top.facts Top.defs K) : DefOk K mg g 22 "work_number" Pg.d_work_number := by
  obtain ⟨fd, F⟩ := c.def_ (d := Top.mkD "work_number" 46) 24 rfl
  refine ⟨_, _, _, _, _, _, fd, _, _, F, k_work_number, rfl, rfl, c_work_number, He.glo_ok X G (c.fact (f := .glo "work_number") 42 rfl), FunD.bindsN F fun _ _ _ _ _ _ us hl => match us, hl with | [_, _], _ => rfl, fun ks pm hm => ?_⟩
  have hm2 := (List.mem_filter (p := fun q => decide (q.1 = 22))).mpr ⟨hm, decide_eq_true rfl⟩
  rw [(by decide +kernel : (g.kws.filter fun q => decide (q.1 = 22)) = ([(22, (["name", "image"] : List Str), [1, 0])] : List (Nat × List Str × List Nat)))] at hm2
  simp only [List.mem_cons, List.not_mem_nil, or_false, Prod.mk.injEq, true_and] at hm2
  obtain ⟨rfl, rfl⟩ := hm2
  · exact kwB_of F fun _ _ _ _ _ _ ws ts hl hm => match ws, hl, hm with | [_, _], _, rfl => rfl
theorem c_works_reached : chkSs g ⟨Pg.n_works_reached, defScope (Top.top 47), fun _ => true⟩ Pg.b_works_reached (defBody (Top.top 47)) = true := by decide +kernel
theorem k_works_reached : FnScope Pg.n_works_reached (["image", "name"] : List Str) (defScope (Top.top 47)) := ⟨rfl, rfl, rfl, by decide +kernel, rfl, by decide +kernel, by decide +kernel⟩
theorem o_works_reached {K : PySem.W.Frag} {mg : Str → Option Value} {h : Heap} (X : K.In h) (G : h.Ns mainGlobals mg) (c : He.SaysD Top.facts Top.defs K) : DefOk K mg g 23 "works_reached" Pg.d_works_reached := by
  obtain ⟨fd, F⟩ := c.def_ (d := Top.mkD "works_reached" 47) 25 rfl
  refine ⟨_, _, _, _, _, _, fd, _, _, F, k_works_reached, rfl, rfl, c_works_reached, He.glo_ok X G (c.fact (f := .glo "works_reached") 43 rfl), FunD.bindsN F fun _ _ _ _ _ _ us hl => match us, hl with | [_, _], _ => rfl, fun ks pm hm => ?_⟩
  have hm2 := (List.mem_filter (p := fun q => decide (q.1 = 23))).mpr ⟨hm, decide_eq_true rfl⟩
  rw [(by decide +kernel : (g.kws.filter fun q => decide (q.1 = 23)) = ([(23, (["name", "image"] : List Str), [1, 0])] : List (Nat × List Str × List Nat)))] at hm2
  simp only [List.mem_cons, List.not_mem_nil, or_false, Prod.mk.injEq, true_and] at hm2
  obtain ⟨rfl, rfl⟩ := hm2
  · exact kwB_of F fun _ _ _ _ _ _ ws ts hl hm => match ws, hl, hm with | [_, _], _, rfl => rfl
theorem c_call_turn : chkSs g ⟨Pg.n_call_turn, defScope (Top.top 48), fun _ => true⟩ Pg.b_call_turn (defBody (Top.top 48)) = true := by decide +kernel
theorem k_call_turn : FnScope Pg.n_call_turn (["image"] : List Str) (defScope (Top.top 48)) := ⟨rfl, rfl, rfl, by decide +kernel, rfl, by decide +kernel, by decide +kernel⟩
theorem o_call_turn {K : PySem.W.Frag} {mg : Str → Option Value} {h : Heap} (X : K.In h) (G : h.Ns mainGlobals mg) (c : He.SaysD Top.facts Top.defs K) : DefOk K mg g 24 "call_turn" Pg.d_call_turn := by
  obtain ⟨fd, F⟩ := c.def_ (d := Top.mkD "call_turn" 48) 26 rfl
  refine ⟨_, _, _, _, _, _, fd, _, _, F, k_call_turn, rfl, rfl, c_call_turn, He.glo_ok X G (c.fact (f := .glo "call_turn") 44 rfl), FunD.bindsN F fun _ _ _ _ _ _ us hl => match us, hl with | [_], _ => rfl, fun ks pm hm => ?_⟩
  have hm2 := (List.mem_filter (p := fun q => decide (q.1 = 24))).mpr ⟨hm, decide_eq_true rfl⟩
  rw [(by decide +kernel : (g.kws.filter fun q => decide (q.1 = 24)) = ([(24, (["image"] : List Str), [0])] : List (Nat × List Str × List Nat)))] at hm2
  simp only [List.mem_cons, List.not_mem_nil, or_false, Prod.mk.injEq, true_and] at hm2
  obtain ⟨rfl, rfl⟩ := hm2
  · exact kwB_of F fun _ _ _ _ _ _ ws ts hl hm => match ws, hl, hm with | [_], _, rfl => rfl
theorem c_call_ring : chkSs g ⟨Pg.n_call_ring, defScope (Top.top 49), fun _ => true⟩ Pg.b_call_ring (defBody (Top.top 49)) = true := by decide +kernel
theorem k_call_ring : FnScope Pg.n_call_ring (["image"] : List Str) (defScope (Top.top 49)) := ⟨rfl, rfl, rfl, by decide +kernel, rfl, by decide +kernel, by decide +kernel⟩
theorem o_call_ring {K : PySem.W.Frag} {mg : Str → Option Value} {h : Heap} (X : K.In h) (G : h.Ns mainGlobals mg) (c : He.SaysD Top.facts Top.defs K) : DefOk K mg g 25 "call_ring" Pg.d_call_ring := by
  obtain ⟨fd, F⟩ := c.def_ (d := Top.mkD "call_ring" 49) 27 rfl
  refine ⟨_, _, _, _, _, _, fd, _, _, F, k_call_ring, rfl, rfl, c_call_ring, He.glo_ok X G (c.fact (f := .glo "call_ring") 45 rfl), FunD.bindsN F fun _ _ _ _ _ _ us hl => match us, hl with | [_], _ => rfl, fun ks pm hm => ?_⟩
  have hm2 := (List.mem_filter (p := fun q => decide (q.1 = 25))).mpr ⟨hm, decide_eq_true rfl⟩
  rw [(by decide +kernel : (g.kws.filter fun q => decide (q.1 = 25)) = ([(25, (["image"] : List Str), [0])] : List (Nat × List Str × List Nat)))] at hm2
  simp only [List.mem_cons, List.not_mem_nil, or_false, Prod.mk.injEq, true_and] at hm2
  obtain ⟨rfl, rfl⟩ := hm2
  · exact kwB_of F fun _ _ _ _ _ _ ws ts hl hm => match ws, hl, hm with | [_], _, rfl => rfl
theorem c_deepest_call : chkSs g ⟨Pg.n_deepest_call, defScope (Top.top 50), fun _ => true⟩ Pg.b_deepest_call (defBody (Top.top 50)) = true := by decide +kernel
theorem k_deepest_call : FnScope Pg.n_deepest_call (["image", "name"] : List Str) (defScope (Top.top 50)) := ⟨rfl, rfl, rfl, by decide +kernel, rfl, by decide +kernel, by decide +kernel⟩
theorem o_deepest_call {K : PySem.W.Frag} {mg : Str → Option Value} {h : Heap} (X : K.In h) (G : h.Ns mainGlobals mg) (c : He.SaysD Top.facts Top.defs K) : DefOk K mg g 26 "deepest_call" Pg.d_deepest_call := by
  obtain ⟨fd, F⟩ := c.def_ (d := Top.mkD "deepest_call" 50) 28 rfl
  refine ⟨_, _, _, _, _, _, fd, _, _, F, k_deepest_call, rfl, rfl, c_deepest_call, He.glo_ok X G (c.fact (f := .glo "deepest_call") 46 rfl), FunD.bindsN F fun _ _ _ _ _ _ us hl => match us, hl with | [_, _], _ => rfl, fun ks pm hm => ?_⟩
  have hm2 := (List.mem_filter (p := fun q => decide (q.1 = 26))).mpr ⟨hm, decide_eq_true rfl⟩
  rw [(by decide +kernel : (g.kws.filter fun q => decide (q.1 = 26)) = ([(26, (["name", "image"] : List Str), [1, 0])] : List (Nat × List Str × List Nat)))] at hm2
  simp only [List.mem_cons, List.not_mem_nil, or_false, Prod.mk.injEq, true_and] at hm2
  obtain ⟨rfl, rfl⟩ := hm2
  · exact kwB_of F fun _ _ _ _ _ _ ws ts hl hm => match ws, hl, hm with | [_, _], _, rfl => rfl
theorem c_users_of : chkSs g ⟨Pg.n_users_of, defScope (Top.top 51), fun _ => true⟩ Pg.b_users_of (defBody (Top.top 51)) = true := by decide +kernel
theorem k_users_of : FnScope Pg.n_users_of (["packages", "name"] : List Str) (defScope (Top.top 51)) := ⟨rfl, rfl, rfl, by decide +kernel, rfl, by decide +kernel, by decide +kernel⟩
theorem o_users_of {K : PySem.W.Frag} {mg : Str → Option Value} {h : Heap} (X : K.In h) (G : h.Ns mainGlobals mg) (c : He.SaysD Top.facts Top.defs K) : DefOk K mg g 27 "users_of" Pg.d_users_of := by
  obtain ⟨fd, F⟩ := c.def_ (d := Top.mkD "users_of" 51) 29 rfl
  refine ⟨_, _, _, _, _, _, fd, _, _, F, k_users_of, rfl, rfl, c_users_of, He.glo_ok X G (c.fact (f := .glo "users_of") 47 rfl), FunD.bindsN F fun _ _ _ _ _ _ us hl => match us, hl with | [_, _], _ => rfl, fun ks pm hm => ?_⟩
  have hm2 := (List.mem_filter (p := fun q => decide (q.1 = 27))).mpr ⟨hm, decide_eq_true rfl⟩
  rw [(by decide +kernel : (g.kws.filter fun q => decide (q.1 = 27)) = ([(27, (["name", "packages"] : List Str), [1, 0])] : List (Nat × List Str × List Nat)))] at hm2
  simp only [List.mem_cons, List.not_mem_nil, or_false, Prod.mk.injEq, true_and] at hm2
  obtain ⟨rfl, rfl⟩ := hm2
  · exact kwB_of F fun _ _ _ _ _ _ ws ts hl hm => match ws, hl, hm with | [_, _], _, rfl => rfl
theorem c__law_pot : chkSs g ⟨Pg.n__law_pot, defScope (Top.top 53), fun _ => true⟩ Pg.b__law_pot (defBody (Top.top 53)) = true := by decide +kernel
theorem k__law_pot : FnScope Pg.n__law_pot (["script", "k"] : List Str) (defScope (Top.top 53)) := ⟨rfl, rfl, rfl, by decide +kernel, rfl, by decide +kernel, by decide +kernel⟩
theorem o__law_pot {K : PySem.W.Frag} {mg : Str → Option Value} {h : Heap} (X : K.In h) (G : h.Ns mainGlobals mg) (c : He.SaysD Top.facts Top.defs K) : DefOk K mg g 28 "_law_pot" Pg.d__law_pot := by
  obtain ⟨fd, F⟩ := c.def_ (d := Top.mkD "_law_pot" 53) 30 rfl
  refine ⟨_, _, _, _, _, _, fd, _, _, F, k__law_pot, rfl, rfl, c__law_pot, He.glo_ok X G (c.fact (f := .glo "_law_pot") 48 rfl), FunD.bindsN F fun _ _ _ _ _ _ us hl => match us, hl with | [_, _], _ => rfl, fun ks pm hm => ?_⟩
  exact absurd hm (no_kw (by decide) ks pm)
theorem c__law_draw : chkSs g ⟨Pg.n__law_draw, defScope (Top.top 54), fun _ => true⟩ Pg.b__law_draw (defBody (Top.top 54)) = true := by decide +kernel
theorem k__law_draw : FnScope Pg.n__law_draw (["pot", "many"] : List Str) (defScope (Top.top 54)) := ⟨rfl, rfl, rfl, by decide +kernel, rfl, by decide +kernel, by decide +kernel⟩
theorem o__law_draw {K : PySem.W.Frag} {mg : Str → Option Value} {h : Heap} (X : K.In h) (G : h.Ns mainGlobals mg) (c : He.SaysD Top.facts Top.defs K) : DefOk K mg g 29 "_law_draw" Pg.d__law_draw := by
  obtain ⟨fd, F⟩ := c.def_ (d := Top.mkD "_law_draw" 54) 31 rfl
  refine ⟨_, _, _, _, _, _, fd, _, _, F, k__law_draw, rfl, rfl, c__law_draw, He.glo_ok X G (c.fact (f := .glo "_law_draw") 49 rfl), FunD.bindsN F fun _ _ _ _ _ _ us hl => match us, hl with | [_, _], _ => rfl, fun ks pm hm => ?_⟩
  exact absurd hm (no_kw (by decide) ks pm)
theorem c__law_pick : chkSs g ⟨Pg.n__law_pick, defScope (Top.top 55), fun _ => true⟩ Pg.b__law_pick (defBody (Top.top 55)) = true := by decide +kernel
theorem k__law_pick : FnScope Pg.n__law_pick (["pot", "some"] : List Str) (defScope (Top.top 55)) := ⟨rfl, rfl, rfl, by decide +kernel, rfl, by decide +kernel, by decide +kernel⟩
theorem o__law_pick {K : PySem.W.Frag} {mg : Str → Option Value} {h : Heap} (X : K.In h) (G : h.Ns mainGlobals mg) (c : He.SaysD Top.facts Top.defs K) : DefOk K mg g 30 "_law_pick" Pg.d__law_pick := by
  obtain ⟨fd, F⟩ := c.def_ (d := Top.mkD "_law_pick" 55) 32 rfl
  refine ⟨_, _, _, _, _, _, fd, _, _, F, k__law_pick, rfl, rfl, c__law_pick, He.glo_ok X G (c.fact (f := .glo "_law_pick") 50 rfl), FunD.bindsN F fun _ _ _ _ _ _ us hl => match us, hl with | [_, _], _ => rfl, fun ks pm hm => ?_⟩
  exact absurd hm (no_kw (by decide) ks pm)
theorem c__law_packages : chkSs g ⟨Pg.n__law_packages, defScope (Top.top 56), fun _ => true⟩ Pg.b__law_packages (defBody (Top.top 56)) = true := by decide +kernel
theorem k__law_packages : FnScope Pg.n__law_packages (["pot", "is_wild"] : List Str) (defScope (Top.top 56)) := ⟨rfl, rfl, rfl, by decide +kernel, rfl, by decide +kernel, by decide +kernel⟩
theorem o__law_packages {K : PySem.W.Frag} {mg : Str → Option Value} {h : Heap} (X : K.In h) (G : h.Ns mainGlobals mg) (c : He.SaysD Top.facts Top.defs K) : DefOk K mg g 31 "_law_packages" Pg.d__law_packages := by
  obtain ⟨fd, F⟩ := c.def_ (d := Top.mkD "_law_packages" 56) 33 rfl
  refine ⟨_, _, _, _, _, _, fd, _, _, F, k__law_packages, rfl, rfl, c__law_packages, He.glo_ok X G (c.fact (f := .glo "_law_packages") 51 rfl), FunD.bindsN F fun _ _ _ _ _ _ us hl => match us, hl with | [_, _], _ => rfl, fun ks pm hm => ?_⟩
  exact absurd hm (no_kw (by decide) ks pm)
theorem c__law_graph : chkSs g ⟨Pg.n__law_graph, defScope (Top.top 57), fun _ => true⟩ Pg.b__law_graph (defBody (Top.top 57)) = true := by decide +kernel
theorem k__law_graph : FnScope Pg.n__law_graph (["packages"] : List Str) (defScope (Top.top 57)) := ⟨rfl, rfl, rfl, by decide +kernel, rfl, by decide +kernel, by decide +kernel⟩
theorem o__law_graph {K : PySem.W.Frag} {mg : Str → Option Value} {h : Heap} (X : K.In h) (G : h.Ns mainGlobals mg) (c : He.SaysD Top.facts Top.defs K) : DefOk K mg g 32 "_law_graph" Pg.d__law_graph := by
  obtain ⟨fd, F⟩ := c.def_ (d := Top.mkD "_law_graph" 57) 34 rfl
  refine ⟨_, _, _, _, _, _, fd, _, _, F, k__law_graph, rfl, rfl, c__law_graph, He.glo_ok X G (c.fact (f := .glo "_law_graph") 52 rfl), FunD.bindsN F fun _ _ _ _ _ _ us hl => match us, hl with | [_], _ => rfl, fun ks pm hm => ?_⟩
  exact absurd hm (no_kw (by decide) ks pm)
theorem c__law_turn : chkSs g ⟨Pg.n__law_turn, defScope (Top.top 58), fun _ => true⟩ Pg.b__law_turn (defBody (Top.top 58)) = true := by decide +kernel
theorem k__law_turn : FnScope Pg.n__law_turn (["calls"] : List Str) (defScope (Top.top 58)) := ⟨rfl, rfl, rfl, by decide +kernel, rfl, by decide +kernel, by decide +kernel⟩
theorem o__law_turn {K : PySem.W.Frag} {mg : Str → Option Value} {h : Heap} (X : K.In h) (G : h.Ns mainGlobals mg) (c : He.SaysD Top.facts Top.defs K) : DefOk K mg g 33 "_law_turn" Pg.d__law_turn := by
  obtain ⟨fd, F⟩ := c.def_ (d := Top.mkD "_law_turn" 58) 35 rfl
  refine ⟨_, _, _, _, _, _, fd, _, _, F, k__law_turn, rfl, rfl, c__law_turn, He.glo_ok X G (c.fact (f := .glo "_law_turn") 53 rfl), FunD.bindsN F fun _ _ _ _ _ _ us hl => match us, hl with | [_], _ => rfl, fun ks pm hm => ?_⟩
  exact absurd hm (no_kw (by decide) ks pm)
theorem c__law_ring : chkSs g ⟨Pg.n__law_ring, defScope (Top.top 59), fun _ => true⟩ Pg.b__law_ring (defBody (Top.top 59)) = true := by decide +kernel
theorem k__law_ring : FnScope Pg.n__law_ring (["calls"] : List Str) (defScope (Top.top 59)) := ⟨rfl, rfl, rfl, by decide +kernel, rfl, by decide +kernel, by decide +kernel⟩
theorem o__law_ring {K : PySem.W.Frag} {mg : Str → Option Value} {h : Heap} (X : K.In h) (G : h.Ns mainGlobals mg) (c : He.SaysD Top.facts Top.defs K) : DefOk K mg g 34 "_law_ring" Pg.d__law_ring := by
  obtain ⟨fd, F⟩ := c.def_ (d := Top.mkD "_law_ring" 59) 36 rfl
  refine ⟨_, _, _, _, _, _, fd, _, _, F, k__law_ring, rfl, rfl, c__law_ring, He.glo_ok X G (c.fact (f := .glo "_law_ring") 54 rfl), FunD.bindsN F fun _ _ _ _ _ _ us hl => match us, hl with | [_], _ => rfl, fun ks pm hm => ?_⟩
  exact absurd hm (no_kw (by decide) ks pm)
theorem c__law_reached : chkSs g ⟨Pg.n__law_reached, defScope (Top.top 60), fun _ => true⟩ Pg.b__law_reached (defBody (Top.top 60)) = true := by decide +kernel
theorem k__law_reached : FnScope Pg.n__law_reached (["calls", "number"] : List Str) (defScope (Top.top 60)) := ⟨rfl, rfl, rfl, by decide +kernel, rfl, by decide +kernel, by decide +kernel⟩
theorem o__law_reached {K : PySem.W.Frag} {mg : Str → Option Value} {h : Heap} (X : K.In h) (G : h.Ns mainGlobals mg) (c : He.SaysD Top.facts Top.defs K) : DefOk K mg g 35 "_law_reached" Pg.d__law_reached := by
  obtain ⟨fd, F⟩ := c.def_ (d := Top.mkD "_law_reached" 60) 37 rfl
  refine ⟨_, _, _, _, _, _, fd, _, _, F, k__law_reached, rfl, rfl, c__law_reached, He.glo_ok X G (c.fact (f := .glo "_law_reached") 55 rfl), FunD.bindsN F fun _ _ _ _ _ _ us hl => match us, hl with | [_, _], _ => rfl, fun ks pm hm => ?_⟩
  exact absurd hm (no_kw (by decide) ks pm)
theorem c__law_deep : chkSs g ⟨Pg.n__law_deep, defScope (Top.top 61), fun _ => true⟩ Pg.b__law_deep (defBody (Top.top 61)) = true := by decide +kernel
theorem k__law_deep : FnScope Pg.n__law_deep (["calls", "turn", "number"] : List Str) (defScope (Top.top 61)) := ⟨rfl, rfl, rfl, by decide +kernel, rfl, by decide +kernel, by decide +kernel⟩
theorem o__law_deep {K : PySem.W.Frag} {mg : Str → Option Value} {h : Heap} (X : K.In h) (G : h.Ns mainGlobals mg) (c : He.SaysD Top.facts Top.defs K) : DefOk K mg g 36 "_law_deep" Pg.d__law_deep := by
  obtain ⟨fd, F⟩ := c.def_ (d := Top.mkD "_law_deep" 61) 38 rfl
  refine ⟨_, _, _, _, _, _, fd, _, _, F, k__law_deep, rfl, rfl, c__law_deep, He.glo_ok X G (c.fact (f := .glo "_law_deep") 56 rfl), FunD.bindsN F fun _ _ _ _ _ _ us hl => match us, hl with | [_, _, _], _ => rfl, fun ks pm hm => ?_⟩
  exact absurd hm (no_kw (by decide) ks pm)
theorem c__law_right : chkSs g ⟨Pg.n__law_right, defScope (Top.top 62), fun _ => true⟩ Pg.b__law_right (defBody (Top.top 62)) = true := by decide +kernel
theorem k__law_right : FnScope Pg.n__law_right (["pot"] : List Str) (defScope (Top.top 62)) := ⟨rfl, rfl, rfl, by decide +kernel, rfl, by decide +kernel, by decide +kernel⟩
theorem o__law_right {K : PySem.W.Frag} {mg : Str → Option Value} {h : Heap} (X : K.In h) (G : h.Ns mainGlobals mg) (c : He.SaysD Top.facts Top.defs K) : DefOk K mg g 37 "_law_right" Pg.d__law_right := by
  obtain ⟨fd, F⟩ := c.def_ (d := Top.mkD "_law_right" 62) 39 rfl
  refine ⟨_, _, _, _, _, _, fd, _, _, F, k__law_right, rfl, rfl, c__law_right, He.glo_ok X G (c.fact (f := .glo "_law_right") 57 rfl), FunD.bindsN F fun _ _ _ _ _ _ us hl => match us, hl with | [_], _ => rfl, fun ks pm hm => ?_⟩
  exact absurd hm (no_kw (by decide) ks pm)
theorem c_law : chkSs g ⟨Pg.n_law, defScope (Top.top 63), fun _ => true⟩ Pg.b_law (defBody (Top.top 63)) = true := by decide +kernel
theorem k_law : FnScope Pg.n_law (["script"] : List Str) (defScope (Top.top 63)) := ⟨rfl, rfl, rfl, by decide +kernel, rfl, by decide +kernel, by decide +kernel⟩
theorem o_law {K : PySem.W.Frag} {mg : Str → Option Value} {h : Heap} (X : K.In h) (G : h.Ns mainGlobals mg) (c : He.SaysD Top.facts Top.defs K) : DefOk K mg g 38 "law" Pg.d_law := by
  obtain ⟨fd, F⟩ := c.def_ (d := Top.mkD "law" 63) 40 rfl
  refine ⟨_, _, _, _, _, _, fd, _, _, F, k_law, rfl, rfl, c_law, He.glo_ok X G (c.fact (f := .glo "law") 58 rfl), FunD.bindsN F fun _ _ _ _ _ _ us hl => match us, hl with | [_], _ => rfl, fun ks pm hm => ?_⟩
  exact absurd hm (no_kw (by decide) ks pm)
theorem no_more {x : Str} {n : Nat} (h : fns[n + 39]? = some x) : False := by cases h
theorem fn_all {K : PySem.W.Frag} {mg : Str → Option Value} {h : Heap} (X : K.In h) (G : h.Ns mainGlobals mg) (c : He.SaysD Top.facts Top.defs K) : ∀ (f : Nat) (x : Str), g.fns[f]? = some x → ∃ df, Pg.prog[f]? = some df ∧ DefOk K mg g f x df
  | 0, x, e => by cases e; exact ⟨_, rfl, o_told_at X G c⟩
  | 1, x, e => by cases e; exact ⟨_, rfl, o_count_at X G c⟩
  | 2, x, e => by cases e; exact ⟨_, rfl, o_operand_at X G c⟩
  | 3, x, e => by cases e; exact ⟨_, rfl, o_jump_at X G c⟩
  | 4, x, e => by cases e; exact ⟨_, rfl, o_count_and X G c⟩
  | 5, x, e => by cases e; exact ⟨_, rfl, o_shape_at X G c⟩
  | 6, x, e => by cases e; exact ⟨_, rfl, o_members_at X G c⟩
  | 7, x, e => by cases e; exact ⟨_, rfl, o_call_at X G c⟩
  | 8, x, e => by cases e; exact ⟨_, rfl, o_branch_at X G c⟩
  | 9, x, e => by cases e; exact ⟨_, rfl, o_instruction_at X G c⟩
  | 10, x, e => by cases e; exact ⟨_, rfl, o_instructions X G c⟩
  | 11, x, e => by cases e; exact ⟨_, rfl, o_works_of X G c⟩
  | 12, x, e => by cases e; exact ⟨_, rfl, o_places_by_name X G c⟩
  | 13, x, e => by cases e; exact ⟨_, rfl, o_firsts_of X G c⟩
  | 14, x, e => by cases e; exact ⟨_, rfl, o_calls_of X G c⟩
  | 15, x, e => by cases e; exact ⟨_, rfl, o_image_of X G c⟩
  | 16, x, e => by cases e; exact ⟨_, rfl, o_number_in X G c⟩
  | 17, x, e => by cases e; exact ⟨_, rfl, o_called_by X G c⟩
  | 18, x, e => by cases e; exact ⟨_, rfl, o_turn_of X G c⟩
  | 19, x, e => by cases e; exact ⟨_, rfl, o_ring_in X G c⟩
  | 20, x, e => by cases e; exact ⟨_, rfl, o_linked X G c⟩
  | 21, x, e => by cases e; exact ⟨_, rfl, o_image_names X G c⟩
  | 22, x, e => by cases e; exact ⟨_, rfl, o_work_number X G c⟩
  | 23, x, e => by cases e; exact ⟨_, rfl, o_works_reached X G c⟩
  | 24, x, e => by cases e; exact ⟨_, rfl, o_call_turn X G c⟩
  | 25, x, e => by cases e; exact ⟨_, rfl, o_call_ring X G c⟩
  | 26, x, e => by cases e; exact ⟨_, rfl, o_deepest_call X G c⟩
  | 27, x, e => by cases e; exact ⟨_, rfl, o_users_of X G c⟩
  | 28, x, e => by cases e; exact ⟨_, rfl, o__law_pot X G c⟩
  | 29, x, e => by cases e; exact ⟨_, rfl, o__law_draw X G c⟩
  | 30, x, e => by cases e; exact ⟨_, rfl, o__law_pick X G c⟩
  | 31, x, e => by cases e; exact ⟨_, rfl, o__law_packages X G c⟩
  | 32, x, e => by cases e; exact ⟨_, rfl, o__law_graph X G c⟩
  | 33, x, e => by cases e; exact ⟨_, rfl, o__law_turn X G c⟩
  | 34, x, e => by cases e; exact ⟨_, rfl, o__law_ring X G c⟩
  | 35, x, e => by cases e; exact ⟨_, rfl, o__law_reached X G c⟩
  | 36, x, e => by cases e; exact ⟨_, rfl, o__law_deep X G c⟩
  | 37, x, e => by cases e; exact ⟨_, rfl, o__law_right X G c⟩
  | 38, x, e => by cases e; exact ⟨_, rfl, o_law X G c⟩
  | n + 39, x, e => (no_more e).elim
/-! ### the head -/
abbrev SX (w : World) (h : Heap) (K : PySem.W.Frag) : Prop := He.SaysX Top.facts Top.defs Top.ts [] Top.ex w h K
structure ExOk (K : PySem.W.Frag) : Prop where
  t_WORDS : He.tupB K "WORDS" ((["", "move", "plus", "less", "times", "over", "rest", "read", "write", "size", "call", "go", "branch", "tell", "sure"] : List Str).map Dv.str) = true
  t_COMPARED : He.tupB K "COMPARED" ((["<", "<=", "=", "!="] : List Str).map Dv.str) = true
  d_SHAPES : He.valsB K (He.ga K "SHAPES") (([("move", "da"), ("plus", "daa"), ("less", "daa"), ("times", "daa"), ("over", "daa"), ("rest", "daa"), ("read", "dra"), ("write", "raa"), ("size", "dr"), ("go", "t"), ("tell", "a"), ("sure", "k")] : List (Str × Str)).map fun kv => (kv.1, Dv.str kv.2)) = true
  e_BadPack : oexB K (He.ga K "BadPack") = true
theorem ex_ok {w : World} {h : Heap} {K : PySem.W.Frag} (c : SX w h K) : ExOk K := by
  have m := c.more
  unfold Top.ex at m
  simp only [Bool.and_eq_true] at m
  obtain ⟨⟨⟨m0, m1⟩, m2⟩, m3⟩ := m
  exact ⟨m0, m1, m2, m3⟩
theorem g_BASE {w : World} {K : PySem.W.Frag} {mg : Str → Option Value} {h : Heap} (X : K.In h) (G : h.Ns mainGlobals mg) (c : SX w h K) : ∃ u y, mg "BASE" = some u ∧ RelV y u ∧ ∀ H θ, RelL K H θ (.int (128)) y := glo_int X G (c.t.d.fact (f := .int "BASE" (128)) 4 rfl)
theorem g_MOST_LONG {w : World} {K : PySem.W.Frag} {mg : Str → Option Value} {h : Heap} (X : K.In h) (G : h.Ns mainGlobals mg) (c : SX w h K) : ∃ u y, mg "MOST_LONG" = some u ∧ RelV y u ∧ ∀ H θ, RelL K H θ (.int (10)) y := glo_int X G (c.t.d.fact (f := .int "MOST_LONG" (10)) 5 rfl)
theorem g_GREATEST_TOLD {w : World} {K : PySem.W.Frag} {mg : Str → Option Value} {h : Heap} (X : K.In h) (G : h.Ns mainGlobals mg) (c : SX w h K) : ∃ u y, mg "GREATEST_TOLD" = some u ∧ RelV y u ∧ ∀ H θ, RelL K H θ (.int (1000000000000000000)) y := glo_int X G (c.t.d.fact (f := .int "GREATEST_TOLD" (1000000000000000000)) 6 rfl)
theorem g_JUMP_LONG {w : World} {K : PySem.W.Frag} {mg : Str → Option Value} {h : Heap} (X : K.In h) (G : h.Ns mainGlobals mg) (c : SX w h K) : ∃ u y, mg "JUMP_LONG" = some u ∧ RelV y u ∧ ∀ H θ, RelL K H θ (.int (3)) y := glo_int X G (c.t.d.fact (f := .int "JUMP_LONG" (3)) 7 rfl)
theorem g_MOVE {w : World} {K : PySem.W.Frag} {mg : Str → Option Value} {h : Heap} (X : K.In h) (G : h.Ns mainGlobals mg) (c : SX w h K) : ∃ u y, mg "MOVE" = some u ∧ RelV y u ∧ ∀ H θ, RelL K H θ (.str "move") y := glo_str X G (c.t.d.fact (f := .str "MOVE" "move") 12 rfl)
theorem g_READ {w : World} {K : PySem.W.Frag} {mg : Str → Option Value} {h : Heap} (X : K.In h) (G : h.Ns mainGlobals mg) (c : SX w h K) : ∃ u y, mg "READ" = some u ∧ RelV y u ∧ ∀ H θ, RelL K H θ (.str "read") y := glo_str X G (c.t.d.fact (f := .str "READ" "read") 13 rfl)
theorem g_WRITE {w : World} {K : PySem.W.Frag} {mg : Str → Option Value} {h : Heap} (X : K.In h) (G : h.Ns mainGlobals mg) (c : SX w h K) : ∃ u y, mg "WRITE" = some u ∧ RelV y u ∧ ∀ H θ, RelL K H θ (.str "write") y := glo_str X G (c.t.d.fact (f := .str "WRITE" "write") 14 rfl)
theorem g_SIZE {w : World} {K : PySem.W.Frag} {mg : Str → Option Value} {h : Heap} (X : K.In h) (G : h.Ns mainGlobals mg) (c : SX w h K) : ∃ u y, mg "SIZE" = some u ∧ RelV y u ∧ ∀ H θ, RelL K H θ (.str "size") y := glo_str X G (c.t.d.fact (f := .str "SIZE" "size") 15 rfl)
theorem g_CALL {w : World} {K : PySem.W.Frag} {mg : Str → Option Value} {h : Heap} (X : K.In h) (G : h.Ns mainGlobals mg) (c : SX w h K) : ∃ u y, mg "CALL" = some u ∧ RelV y u ∧ ∀ H θ, RelL K H θ (.str "call") y := glo_str X G (c.t.d.fact (f := .str "CALL" "call") 16 rfl)
theorem g_GO {w : World} {K : PySem.W.Frag} {mg : Str → Option Value} {h : Heap} (X : K.In h) (G : h.Ns mainGlobals mg) (c : SX w h K) : ∃ u y, mg "GO" = some u ∧ RelV y u ∧ ∀ H θ, RelL K H θ (.str "go") y := glo_str X G (c.t.d.fact (f := .str "GO" "go") 17 rfl)
theorem g_BRANCH {w : World} {K : PySem.W.Frag} {mg : Str → Option Value} {h : Heap} (X : K.In h) (G : h.Ns mainGlobals mg) (c : SX w h K) : ∃ u y, mg "BRANCH" = some u ∧ RelV y u ∧ ∀ H θ, RelL K H θ (.str "branch") y := glo_str X G (c.t.d.fact (f := .str "BRANCH" "branch") 18 rfl)
theorem g_TELL {w : World} {K : PySem.W.Frag} {mg : Str → Option Value} {h : Heap} (X : K.In h) (G : h.Ns mainGlobals mg) (c : SX w h K) : ∃ u y, mg "TELL" = some u ∧ RelV y u ∧ ∀ H θ, RelL K H θ (.str "tell") y := glo_str X G (c.t.d.fact (f := .str "TELL" "tell") 19 rfl)
theorem g_SURE {w : World} {K : PySem.W.Frag} {mg : Str → Option Value} {h : Heap} (X : K.In h) (G : h.Ns mainGlobals mg) (c : SX w h K) : ∃ u y, mg "SURE" = some u ∧ RelV y u ∧ ∀ H θ, RelL K H θ (.str "sure") y := glo_str X G (c.t.d.fact (f := .str "SURE" "sure") 20 rfl)
theorem g_WORDS {w : World} {K : PySem.W.Frag} {mg : Str → Option Value} {h : Heap} (X : K.In h) (G : h.Ns mainGlobals mg) (c : SX w h K) : ∃ u y, mg "WORDS" = some u ∧ RelV y u ∧ ∀ H θ, RelL K H θ (.tup [.str "", .str "move", .str "plus", .str "less", .str "times", .str "over", .str "rest", .str "read", .str "write", .str "size", .str "call", .str "go", .str "branch", .str "tell", .str "sure"]) y := glo_strs (zs := (["", "move", "plus", "less", "times", "over", "rest", "read", "write", "size", "call", "go", "branch", "tell", "sure"] : List Str)) X G (c.t.d.fact (f := .glo "WORDS") 21 rfl) (ex_ok c).t_WORDS
theorem g_COMPARED {w : World} {K : PySem.W.Frag} {mg : Str → Option Value} {h : Heap} (X : K.In h) (G : h.Ns mainGlobals mg) (c : SX w h K) : ∃ u y, mg "COMPARED" = some u ∧ RelV y u ∧ ∀ H θ, RelL K H θ (.tup [.str "<", .str "<=", .str "=", .str "!="]) y := glo_strs (zs := (["<", "<=", "=", "!="] : List Str)) X G (c.t.d.fact (f := .glo "COMPARED") 22 rfl) (ex_ok c).t_COMPARED
def xc (K : PySem.W.Frag) (c : Nat) : Value := .ref (He.ga K (g.exs.getD c ""))
theorem glo_all {w : World} {K : PySem.W.Frag} {mg : Str → Option Value} {h : Heap} (X : K.In h) (G : h.Ns mainGlobals mg) (c : SX w h K) (x : Str) (v : L) (e : Pg.gl.lookup x = some v) : ∃ u y, mg x = some u ∧ RelV y u ∧ ∀ H θ, RelL K H θ v y := by
  refine look_all (P := fun x v => ∃ u y, mg x = some u ∧ RelV y u ∧ ∀ H θ, RelL K H θ v y) ?_ e
  refine .cons (g_BASE X G c) <| .cons (g_MOST_LONG X G c) <| .cons (g_GREATEST_TOLD X G c) <| .cons (g_JUMP_LONG X G c) <| .cons (g_MOVE X G c) <| .cons (g_READ X G c) <| .cons (g_WRITE X G c) <| .cons (g_SIZE X G c) <| .cons (g_CALL X G c) <| .cons (g_GO X G c) <| .cons (g_BRANCH X G c) <| .cons (g_TELL X G c) <| .cons (g_SURE X G c) <| .cons (g_WORDS X G c) <| .cons (g_COMPARED X G c) <| .nil
theorem gd_all {w : World} {K : PySem.W.Frag} {mg : Str → Option Value} {h : Heap} (X : K.In h) (G : h.Ns mainGlobals mg) (c : SX w h K) (x : Str) (hx : g.gds.contains x = true) : ∃ kvs, Pg.gd.lookup x = some kvs ∧ ∃ d es n, mg x = some (.ref d) ∧ KDict K w d es n ∧ ∀ k v, kvs.lookup k = some v → ∃ u0 v0, PySem.W.nsIn K d k = some (some u0) ∧ RelV v0 u0 ∧ ∀ H θ, RelL K H θ v v0 := by
  have hm : x ∈ ((["SHAPES"] : List Str) : List Str) := List.contains_iff_mem.mp hx
  simp only [List.mem_cons, List.not_mem_nil, or_false] at hm
  subst hm
  · exact ⟨_, rfl, gd_strs X G (c.t.d.fact (f := .glo "SHAPES") 23 rfl) (c.t.tab 0 rfl) (ex_ok c).d_SHAPES⟩
theorem blt_all {w : World} {K : PySem.W.Frag} {mg : Str → Option Value} {h : Heap} (X : K.In h) (G : h.Ns mainGlobals mg) (c : SX w h K) (b : Blt) : mg (bltN b) = none := by
  cases b
  · exact He.free_ok X G (c.t.d.fact (f := .free "len") 59 rfl)
  · exact He.free_ok X G (c.t.d.fact (f := .free "max") 60 rfl)
  · exact He.free_ok X G (c.t.d.fact (f := .free "min") 61 rfl)
  · exact He.free_ok X G (c.t.d.fact (f := .free "abs") 62 rfl)
  · exact He.free_ok X G (c.t.d.fact (f := .free "sum") 63 rfl)
  · exact He.free_ok X G (c.t.d.fact (f := .free "sorted") 64 rfl)
  · exact He.free_ok X G (c.t.d.fact (f := .free "list") 65 rfl)
  · exact He.free_ok X G (c.t.d.fact (f := .free "tuple") 66 rfl)
  · exact He.free_ok X G (c.t.d.fact (f := .free "set") 67 rfl)
  · exact He.free_ok X G (c.t.d.fact (f := .free "int") 68 rfl)
  · exact He.free_ok X G (c.t.d.fact (f := .free "repr") 69 rfl)
  · exact He.free_ok X G (c.t.d.fact (f := .free "divmod") 70 rfl)
  · exact He.free_ok X G (c.t.d.fact (f := .free "all") 71 rfl)
  · exact He.free_ok X G (c.t.d.fact (f := .free "any") 72 rfl)
theorem base_ok {P : Program} {w : World} {K : PySem.W.Frag} {mg : Str → Option Value} {h base : Heap} (X : K.In h) (G : h.Ns mainGlobals mg) (c : SX w h K) : Base P w K mg base (xc K) g Pg.gl Pg.gd Pg.prog := by
  refine ⟨glo_all X G c, gd_all X G c, blt_all X G c, He.free_ok X G (c.t.d.fact (f := .free "range") 73 rfl), He.free_ok X G (c.t.d.fact (f := .free "enumerate") 74 rfl), He.free_ok X G (c.t.d.fact (f := .free "zip") 75 rfl), fn_all X G c.t.d, fun k x e => ?_⟩
  match k, e with
  | 0, e =>
    cases e
    obtain ⟨fd, F⟩ := c.t.d.def_ (d := Top.mkM "BadPack" "__init__" 3 0) 0 rfl
    obtain ⟨m1, m2⟩ := He.ba (show (He.eqO (PySem.W.findIn K (.ref (He.ga K "BadPack")) "__init__") (some (some (.ref (He.ma K (He.ga K "BadPack") "__init__")))) && (PySem.W.isFn K (.ref (He.ma K (He.ga K "BadPack") "__init__")) && PySem.W.keepIn K (.ref (He.ma K (He.ga K "BadPack") "__init__")))) = true from c.t.d.fact (f := .meth "BadPack" "__init__") 76 rfl)
    exact ⟨_, rfl, He.glo_ok X G (c.t.d.fact (f := .glo "BadPack") 2 rfl), of_decide_eq_true (c.t.d.fact (f := .exm "BadPack" "BadPack" true) 78 rfl), _, fd, _, "position", oexB_ok (ex_ok c).e_BadPack, He.eqO_ok m1, beq_iff_eq.mp (He.ba m2).1, He.eqO_ok (c.t.d.fact (f := .noat "BadPack" "position") 77 rfl),
      init_ok F ⟨rfl, rfl, rfl, by decide +kernel, rfl, by decide +kernel, by decide +kernel⟩ rfl rfl, FunD.bindsN F fun _ _ _ _ _ _ us hl => match us, hl with | [_, _], _ => rfl⟩
  | n + 1, e => cases e
end In
end
section
set_option Elab.async false
set_option linter.all false
set_option autoImplicit false
set_option maxRecDepth 100000
/-! The interpreter's runs, by what is wanted behind them. -/
namespace Lw
open PySem Ly
variable {α β : Type}
def Wp (r : R α) (Q : α → LH → Prop) : Prop := match r with
  | .ok a h => Q a h
  | _ => False
@[simp] theorem wp_ok {a : α} {h : LH} {Q : α → LH → Prop} : Wp (.ok a h) Q ↔ Q a h := Iff.rfl
@[simp] theorem wp_bad {Q : α → LH → Prop} : Wp .bad Q ↔ False := Iff.rfl
@[simp] theorem wp_bind {r : R α} {k : α → LH → R β} {Q : β → LH → Prop} : Wp (r.bind k) Q ↔ Wp r fun a h => Wp (k a h) Q := by cases r <;> exact Iff.rfl
@[simp] theorem wp_ofO {o : L × LH} {Q : L → LH → Prop} : Wp (ofO (some o)) Q ↔ Q o.1 o.2 := Iff.rfl
theorem Wp.mono {r : R α} {Q Q' : α → LH → Prop} (w : Wp r Q) (h : ∀ a g, Q a g → Q' a g) : Wp r Q' := by
  cases r with
  | ok a g => exact h a g w
  | _ => exact w
theorem Wp.eq {r : R α} {Q : α → LH → Prop} (w : Wp r Q) : ∃ a h, r = .ok a h ∧ Q a h := by
  cases r with
  | ok a g => exact ⟨a, g, rfl, w⟩
  | _ => exact w.elim
/-- a statement: N behind it, T at a return -/
def Ws (r : RS) (N : LS → LH → Prop) (T : L → LH → Prop) : Prop := match r with
  | .nx sl h => N sl h
  | .rt v h => T v h
  | _ => False
variable {N N' : LS → LH → Prop} {T T' : L → LH → Prop}
@[simp] theorem ws_nx {sl : LS} {h : LH} : Ws (.nx sl h) N T ↔ N sl h := Iff.rfl
@[simp] theorem ws_rt {v : L} {h : LH} : Ws (.rt v h) N T ↔ T v h := Iff.rfl
@[simp] theorem ws_bad : Ws .bad N T ↔ False := Iff.rfl
@[simp] theorem ws_then {r : RS} {k : LS → LH → RS} : Ws (r.then k) N T ↔ Ws r (fun sl h => Ws (k sl h) N T) T := by cases r <;> exact Iff.rfl
@[simp] theorem ws_st {r : R α} {sl : LS} {k : α → LH → RS} : Ws (r.st sl k) N T ↔ Wp r fun a h => Ws (k a h) N T := by cases r <;> exact Iff.rfl
@[simp] theorem ws_only {r : RS} : Ws r.only N T ↔ Ws r N fun _ _ => False := by cases r <;> exact Iff.rfl
@[simp] theorem wp_noexc {r : R α} {Q : α → LH → Prop} : Wp (noexc r) Q ↔ Wp r Q := by cases r <;> exact Iff.rfl
theorem Ws.mono {r : RS} (w : Ws r N T) (hN : ∀ sl h, N sl h → N' sl h) (hT : ∀ v h, T v h → T' v h) : Ws r N' T' := by
  cases r with
  | nx sl h => exact hN _ _ w
  | rt v h => exact hT _ _ w
  | _ => exact w
theorem wp_end {r : RS} {Q : L → LH → Prop} : Wp (endR r) Q ↔ Ws r (fun _ h => Q .non h) Q := by cases r <;> exact Iff.rfl
theorem wp_runD {gl : List (Str × L)} {gd : List (Str × List (Str × L))} {P : List Df} {d f : Nat} {df : Df} {vs : List L} {h : LH} {Q : L → LH → Prop} (e : P[f]? = some df) (hn : vs.length = df.np)
    (w : Ws (evSs ⟨gl, gd, runD gl gd P d⟩ df.body (startL df.n vs) h) (fun _ h => Q .non h) Q) : Wp (runD gl gd P (d + 1) f vs h) Q := by
  have q : runD gl gd P (d + 1) f vs h = endR (evSs ⟨gl, gd, runD gl gd P d⟩ df.body (startL df.n vs) h) := by
    show (match P[f]? with | some df => (if vs.length = df.np then _ else _) | none => _) = _
    rw [e]
    exact if_pos hn
  rw [q]
  exact wp_end.mpr w
/-- not to be unfolded: else each look at a goal runs the program -/
@[irreducible] def run (d : Nat) : Cl := runD Pg.gl Pg.gd Pg.prog d
theorem run_def (d : Nat) : run d = runD Pg.gl Pg.gd Pg.prog d := by unfold run; rfl
theorem wp_run {d f : Nat} {df : Df} {vs : List L} {h : LH} {Q : L → LH → Prop} (e : Pg.prog[f]? = some df) (hn : vs.length = df.np)
    (w : Ws (evSs ⟨Pg.gl, Pg.gd, run d⟩ df.body (startL df.n vs) h) (fun _ h => Q .non h) Q) : Wp (run (d + 1) f vs h) Q := by
  rw [run_def] at w ⊢
  exact wp_runD e hn w
/-- each old object is as it was -/
def Ext (h h' : LH) : Prop := ∀ (r : Nat) (o : LO), h[r]? = some o → h'[r]? = some o
theorem Ext.refl (h : LH) : Ext h h := fun _ _ e => e
theorem Ext.trans {h h1 h2 : LH} (a : Ext h h1) (b : Ext h1 h2) : Ext h h2 := fun r o e => b r o (a r o e)
theorem Ext.app (h e : LH) : Ext h (h ++ e) := fun r o q => by
  rw [List.getElem?_append_left (List.getElem?_eq_some_iff.mp q).1]
  exact q
theorem Ext.len {h h' : LH} (a : Ext h h') : h.length ≤ h'.length := by
  rcases Nat.lt_or_ge h'.length h.length with l | l
  · have := a h'.length h[h'.length] (List.getElem?_eq_getElem l)
    rw [List.getElem?_eq_none (Nat.le_refl _)] at this
    cases this
  · exact l
/-- a new object may be written -/
theorem Ext.set {h0 h : LH} (a : Ext h0 h) {r : Nat} (l : h0.length ≤ r) (o : LO) : Ext h0 (h.set r o) := fun q p e => by
  have : q < h0.length := (List.getElem?_eq_some_iff.mp e).1
  rw [List.getElem?_set_ne (by omega)]
  exact a q p e
theorem get_set_eq {h : LH} {r : Nat} {p : LO} (o : LO) (e : h[r]? = some p) : (h.set r o)[r]? = some o := by
  rw [List.getElem?_set_self (List.getElem?_eq_some_iff.mp e).1]
theorem get_set_ne {h : LH} {r q : Nat} {p : LO} (o : LO) (e : h[q]? = some p) (n : r ≠ q) : (h.set r o)[q]? = some p := by
  rw [List.getElem?_set_ne n]
  exact e
theorem get_new (h : LH) (o : LO) : (h ++ [o])[h.length]? = some o := by simp
theorem lt_of_get {h : LH} {r : Nat} {o : LO} (e : h[r]? = some o) : r < h.length := (List.getElem?_eq_some_iff.mp e).1
/-! ### loops -/
theorem ws_for {nx : LH → Nat → Option (Option L)} {tg : L → LS → LH → RS} {b : LS → LH → RS} {N : LS → LH → Prop} {T : L → LH → Prop} (xs : List L) (I : Nat → LS → LH → Prop)
    (hx : ∀ i sl h, I i sl h → nx h i = some xs[i]?)
    (step : ∀ i x sl h, xs[i]? = some x → I i sl h → ∃ sl1 h1, tg x sl h = .nx sl1 h1 ∧ Ws (b sl1 h1) (I (i + 1)) T)
    (done : ∀ sl h, I xs.length sl h → N sl h) : ∀ (f i : Nat) (sl : LS) (h : LH), i ≤ xs.length → xs.length < f + i → I i sl h → Ws (forGo nx tg b f i sl h) N T
  | 0, i, sl, h, l, lf, _ => by omega
  | f + 1, i, sl, h, l, lf, hi => by
    unfold forGo
    rw [hx i sl h hi]
    cases e : xs[i]? with
    | none =>
      have : xs.length ≤ i := List.getElem?_eq_none_iff.mp e
      have : i = xs.length := by omega
      subst this
      exact done sl h hi
    | some x =>
      obtain ⟨sl1, h1, q, w⟩ := step i x sl h e hi
      simp only [q]
      have li : i < xs.length := (List.getElem?_eq_some_iff.mp e).1
      cases r : b sl1 h1 with
      | nx sl2 h2 =>
        rw [r] at w
        exact ws_for xs I hx step done f (i + 1) sl2 h2 (by omega) (by omega) w
      | rt v h2 => rw [r] at w; exact w
      | bk _ _ => rw [r] at w; exact w.elim
      | ct _ _ => rw [r] at w; exact w.elim
      | exc _ _ _ _ => rw [r] at w; exact w.elim
      | bad => rw [r] at w; exact w.elim
theorem wp_lc {nx : LH → Nat → Option (Option L)} {tg : L → LS → LH → RS} {c e : LS → LH → R L} {sl : LS} {Q : List L → LH → Prop} (xs : List L) (I : Nat → List L → LH → Prop)
    (hx : ∀ i acc h, I i acc h → nx h i = some xs[i]?)
    (step : ∀ i x acc h, xs[i]? = some x → acc.length ≤ i → I i acc h → ∃ sl1 h1, tg x sl h = .nx sl1 h1 ∧
      Wp (c sl1 h1) fun v h2 => (v = .bl true ∧ Wp (e sl1 h2) fun y h3 => I (i + 1) (acc ++ [y]) h3) ∨ (v = .bl false ∧ I (i + 1) acc h2))
    (done : ∀ acc h, acc.length ≤ xs.length → I xs.length acc h → Q acc h) (lx : xs.length ≤ sizeLine) : ∀ (f i : Nat) (acc : List L) (h : LH), acc.length ≤ i → i ≤ xs.length → xs.length < f + i → I i acc h → Wp (lcGo nx tg c e sl f i acc h) Q
  | 0, i, acc, h, _, l, lf, _ => by omega
  | f + 1, i, acc, h, la, l, lf, hi => by
    unfold lcGo
    rw [hx i acc h hi]
    cases q : xs[i]? with
    | none =>
      have : xs.length ≤ i := List.getElem?_eq_none_iff.mp q
      have : i = xs.length := by omega
      subst this
      exact done acc h la hi
    | some x =>
      obtain ⟨sl1, h1, qt, w⟩ := step i x acc h q la hi
      simp only [qt]
      have li : i < xs.length := (List.getElem?_eq_some_iff.mp q).1
      rw [wp_bind]
      refine w.mono ?_
      rintro v h2 (⟨rfl, w2⟩ | ⟨rfl, w2⟩)
      · show Wp (R.bind _ _) _
        rw [wp_bind]
        refine w2.mono fun y h3 w3 => ?_
        rw [if_pos (by omega)]
        exact wp_lc xs I hx step done lx f (i + 1) (acc ++ [y]) h3 (by simp; omega) (by omega) (by omega) w3
      · exact wp_lc xs I hx step done lx f (i + 1) acc h2 (by omega) (by omega) (by omega) w2
/-- while: n turns at most -/
theorem ws_while {c : LS → LH → R L} {b : LS → LH → RS} {N : LS → LH → Prop} {T : L → LH → Prop} (I : Nat → LS → LH → Prop)
    (step : ∀ n sl h, I n sl h → Wp (c sl h) fun v h1 => (v = .bl false ∧ N sl h1) ∨ (v = .bl true ∧ Ws (b sl h1) (fun sl2 h2 => ∃ m, n = m + 1 ∧ I m sl2 h2) T)) :
    ∀ (n f : Nat) (sl : LS) (h : LH), n < f → I n sl h → Ws (whileGo c b f sl h) N T
  | n, 0, _, _, l, _ => by omega
  | n, f + 1, sl, h, l, hi => by
    unfold whileGo
    rw [ws_st]
    refine (step n sl h hi).mono ?_
    rintro v h1 (⟨rfl, w⟩ | ⟨rfl, w⟩)
    · exact w
    · show Ws (match b sl h1 with | .nx sl2 h2 => _ | .ct sl2 h2 => _ | .bk sl2 h2 => _ | r => _) N T
      cases r : b sl h1 with
      | nx sl2 h2 =>
        rw [r] at w
        obtain ⟨m, rfl, w⟩ := w
        exact ws_while I step m f sl2 h2 (by omega) w
      | rt v h2 => rw [r] at w; exact w
      | bk _ _ => rw [r] at w; exact w.elim
      | ct _ _ => rw [r] at w; exact w.elim
      | exc _ _ _ _ => rw [r] at w; exact w.elim
      | bad => rw [r] at w; exact w.elim
theorem fuel_for {xs : List L} (l : xs.length < 1000000) : xs.length < whileFuel + 0 := by
  show _ < 1000000000000
  omega
theorem count_and {d : Nat} {row : L} {n e : L} {r : Nat} {xs : List L} {h : LH} {Q : L → LH → Prop} (hr : h[r]? = some (.lst xs)) (hz : xs.length < sizeLine) (q : Q e (h.set r (.lst (xs ++ [n])))) :
    Wp (run (d + 1) Pg.f_count_and [row, .tup [n, e], .ref r] h) Q := by
  refine wp_run rfl rfl ?_
  show Ws (evSs _ Pg.b_count_and [some row, some (.tup [n, e]), some (.ref r)] h) _ _
  unfold Pg.b_count_and
  simp only [evSs, evS, evE, evEs]
  simp [cmpL, isNon, okB, idxL, seqAt, atL, L2.atI, L2.ixN, okV, lstAt, hr, methL, appO, hz, q]
theorem count_and_none {d : Nat} {row l : L} {h : LH} {Q : L → LH → Prop} (q : Q .non h) : Wp (run (d + 1) Pg.f_count_and [row, .non, l] h) Q := by
  refine wp_run rfl rfl ?_
  show Ws (evSs _ Pg.b_count_and [some row, some .non, some l] h) _ _
  unfold Pg.b_count_and
  simp only [evSs, evS, evE, evEs]
  simp [cmpL, isNon, okB, q]
end Lw
end
section
set_option Elab.async false
set_option linter.all false
set_option autoImplicit false
set_option maxRecDepth 100000
/-! How a term runs, step by step: the slots' list is told, so that nothing goes under a binder. -/
namespace Lw
open PySem Ly
def Wo {α : Type} (o : Option α) (Q : α → Prop) : Prop := match o with
  | some a => Q a
  | none => False
@[simp] theorem wo_some {α : Type} {a : α} {Q : α → Prop} : Wo (some a) Q ↔ Q a := Iff.rfl
@[simp] theorem wo_none {α : Type} {Q : α → Prop} : Wo (none : Option α) Q ↔ False := Iff.rfl
@[simp] theorem wo_ite {α : Type} {c : Prop} [Decidable c] {a : Option α} {Q : α → Prop} : Wo (if c then a else none) Q ↔ c ∧ Wo a Q := by
  by_cases h : c <;> simp [h]
@[simp] theorem wo_okV {o : Option L} {h : LH} {Q : L × LH → Prop} : Wo (okV o h) Q ↔ Wo o fun v => Q (v, h) := by cases o <;> exact Iff.rfl
@[simp] theorem wo_map {α β : Type} {o : Option α} {f : α → β} {Q : β → Prop} : Wo (o.map f) Q ↔ Wo o fun a => Q (f a) := by cases o <;> exact Iff.rfl
@[simp] theorem wo_bind {α β : Type} {o : Option α} {f : α → Option β} {Q : β → Prop} : Wo (o.bind f) Q ↔ Wo o fun a => Wo (f a) Q := by cases o <;> exact Iff.rfl
theorem wp_congr {α : Type} {r : R α} {P P' : α → LH → Prop} (e : ∀ a h, P a h ↔ P' a h) : Wp r P ↔ Wp r P' := by
  cases r with
  | ok a h => exact e a h
  | _ => exact Iff.rfl
theorem wp_ofO' {o : Option (L × LH)} {Q : L → LH → Prop} : Wp (ofO o) Q ↔ Wo o fun p => Q p.1 p.2 := by cases o <;> exact Iff.rfl
def Wif (v : L) (a b : Prop) : Prop := match v with
  | .bl true => a
  | .bl false => b
  | _ => False
@[simp] theorem wif_t {a b : Prop} : Wif (.bl true) a b ↔ a := Iff.rfl
@[simp] theorem wif_f {a b : Prop} : Wif (.bl false) a b ↔ b := Iff.rfl
theorem wif_dec {c : Prop} [Decidable c] {a b : Prop} : Wif (.bl (decide c)) a b ↔ if c then a else b := by by_cases h : c <;> simp [h]
def Wint (v : L) (Q : Int → Prop) : Prop := match v with
  | .int i => Q i
  | _ => False
@[simp] theorem wint_int {i : Int} {Q : Int → Prop} : Wint (.int i) Q ↔ Q i := Iff.rfl
def Wbl (v : L) (Q : Bool → Prop) : Prop := match v with
  | .bl i => Q i
  | _ => False
@[simp] theorem wbl_bl {i : Bool} {Q : Bool → Prop} : Wbl (.bl i) Q ↔ Q i := Iff.rfl
def Wtup (v : L) (Q : List L → Prop) : Prop := match v with
  | .tup i => Q i
  | _ => False
@[simp] theorem wtup_tup {i : List L} {Q : List L → Prop} : Wtup (.tup i) Q ↔ Q i := Iff.rfl
section
variable {G : Gm} {x : Option L} {sl : LS} {h : LH} {N : LS → LH → Prop} {T : L → LH → Prop} {Q : L → LH → Prop} {Qs : List L → LH → Prop} {Qi : LIt → LH → Prop}
@[simp] theorem s_nil : Ws (evSs G .nil (x :: sl) h) N T ↔ N (x :: sl) h := Iff.rfl
@[simp] theorem s_cons {s : S} {ss : Ss} : Ws (evSs G (.cons s ss) (x :: sl) h) N T ↔ Ws (evS G s (x :: sl) h) (fun sl1 h1 => Ws (evSs G ss sl1 h1) N T) T := ws_then
@[simp] theorem s_set {i : Nat} {e : E} : Ws (evS G (.set i e) (x :: sl) h) N T ↔ Wp (evE G e (x :: sl) h) fun v h1 => N ((x :: sl).set i (some v)) h1 := ws_st
@[simp] theorem s_asg {t : Ly.T} {e : E} : Ws (evS G (.asg t e) (x :: sl) h) N T ↔ Wp (evE G e (x :: sl) h) fun v h1 => Ws (evT G t v (x :: sl) h1) N fun _ _ => False := by
  show Ws (R.st _ _ _) N T ↔ _
  rw [ws_st]
  simp only [ws_only]
@[simp] theorem s_expr {e : E} : Ws (evS G (.expr e) (x :: sl) h) N T ↔ Wp (evE G e (x :: sl) h) fun _ h1 => N (x :: sl) h1 := ws_st
@[simp] theorem s_ret {e : E} : Ws (evS G (.ret e) (x :: sl) h) N T ↔ Wp (evE G e (x :: sl) h) T := ws_st
@[simp] theorem s_retn : Ws (evS G .retn (x :: sl) h) N T ↔ T .non h := Iff.rfl
@[simp] theorem s_pass : Ws (evS G .pass (x :: sl) h) N T ↔ N (x :: sl) h := Iff.rfl
@[simp] theorem s_ifs {c : E} {a b : Ss} : Ws (evS G (.ifs c a b) (x :: sl) h) N T ↔ Wp (evE G c (x :: sl) h) fun v h1 => Wif v (Ws (evSs G a (x :: sl) h1) N T) (Ws (evSs G b (x :: sl) h1) N T) := by
  show Ws (R.st _ _ _) N T ↔ _
  rw [ws_st]
  have : ∀ v h1, Ws (match v with | .bl true => evSs G a (x :: sl) h1 | .bl false => evSs G b (x :: sl) h1 | _ => .bad) N T ↔ Wif v (Ws (evSs G a (x :: sl) h1) N T) (Ws (evSs G b (x :: sl) h1) N T) := fun v h1 => by
    cases v with
    | bl q => cases q <;> exact Iff.rfl
    | _ => exact Iff.rfl
  exact wp_congr this
@[simp] theorem s_whl {c : E} {b : Ss} : Ws (evS G (.whl c b) (x :: sl) h) N T ↔ Ws (whileGo (evE G c) (evSs G b) whileFuel (x :: sl) h) N T := Iff.rfl
@[simp] theorem s_fors {t : Ly.T} {it : I} {b : Ss} : Ws (evS G (.fors t it b) (x :: sl) h) N T ↔ Wp (evI G it (x :: sl) h) fun w h1 => Ws (forGo w.at (evT G t) (evSs G b) whileFuel 0 (x :: sl) h1) N T := ws_st
def Wv (o : Option (Option L)) (Q : L → Prop) : Prop := match o with
  | some (some v) => Q v
  | _ => False
@[simp] theorem wv_some {v : L} {Q : L → Prop} : Wv (some (some v)) Q ↔ Q v := Iff.rfl
@[simp] theorem e_var {i : Nat} : Wp (evE G (.var i) (x :: sl) h) Q ↔ Wv (x :: sl)[i]? fun v => Q v h := by
  show Wp (match (x :: sl)[i]? with | some (some v) => .ok v h | _ => .bad) Q ↔ _
  cases (x :: sl)[i]? with
  | none => exact Iff.rfl
  | some o => cases o <;> exact Iff.rfl
@[simp] theorem e_int {i : Int} : Wp (evE G (.int i) (x :: sl) h) Q ↔ Q (.int i) h := Iff.rfl
@[simp] theorem e_str {i : Str} : Wp (evE G (.str i) (x :: sl) h) Q ↔ Q (.str i) h := Iff.rfl
@[simp] theorem e_bl {i : Bool} : Wp (evE G (.bl i) (x :: sl) h) Q ↔ Q (.bl i) h := Iff.rfl
@[simp] theorem e_non : Wp (evE G .non (x :: sl) h) Q ↔ Q .non h := Iff.rfl
@[simp] theorem e_glo {i : Str} : Wp (evE G (.glo i) (x :: sl) h) Q ↔ Wo (G.gl.lookup i) fun v => Q v h := by
  show Wp (ofO (okV (G.gl.lookup i) h)) Q ↔ _
  rw [wp_ofO', wo_okV]
@[simp] theorem es_nil : Wp (evEs G .nil (x :: sl) h) Qs ↔ Qs [] h := Iff.rfl
@[simp] theorem es_cons {e : E} {es : Es} : Wp (evEs G (.cons e es) (x :: sl) h) Qs ↔ Wp (evE G e (x :: sl) h) fun v h1 => Wp (evEs G es (x :: sl) h1) fun vs h2 => Qs (v :: vs) h2 := by
  show Wp (R.bind _ _) Qs ↔ _
  simp only [wp_bind, wp_ok]
theorem wp_ite {α : Type} {c : Prop} [Decidable c] {r : R α} {Q : α → LH → Prop} : Wp (if c then r else .bad) Q ↔ c ∧ Wp r Q := by by_cases h : c <;> simp [h]
@[simp] theorem e_tup {es : Es} : Wp (evE G (.tup es) (x :: sl) h) Q ↔ Wp (evEs G es (x :: sl) h) fun vs h1 => vs.length ≤ sizeLine ∧ Q (.tup vs) h1 := by
  show Wp (R.bind _ _) Q ↔ _
  simp only [wp_bind, wp_ite, wp_ok]
theorem wo_newL {h : LH} {xs : List L} {Q : L × LH → Prop} : Wo (newL h xs) Q ↔ xs.length ≤ sizeLine ∧ Q (.ref h.length, h ++ [.lst xs]) := by
  unfold newL
  rw [wo_ite, wo_some]
@[simp] theorem e_lst {es : Es} : Wp (evE G (.lst es) (x :: sl) h) Q ↔ Wp (evEs G es (x :: sl) h) fun vs h1 => vs.length ≤ sizeLine ∧ Q (.ref h1.length) (h1 ++ [.lst vs]) := by
  show Wp (R.bind _ _) Q ↔ _
  simp only [wp_bind, wp_ofO', wo_newL]
@[simp] theorem e_dict : Wp (evE G .dict (x :: sl) h) Q ↔ Q (.ref h.length) (h ++ [.dk []]) := Iff.rfl
@[simp] theorem e_bin {op : Operator} {a b : E} : Wp (evE G (.bin op a b) (x :: sl) h) Q ↔ Wp (evE G a (x :: sl) h) fun u h1 => Wp (evE G b (x :: sl) h1) fun v h2 => Wo (binL op u v h2) fun p => Q p.1 p.2 := by
  show Wp (R.bind _ _) Q ↔ _
  simp only [wp_bind, wp_ofO']
@[simp] theorem e_neg {a : E} : Wp (evE G (.neg a) (x :: sl) h) Q ↔ Wp (evE G a (x :: sl) h) fun u h1 => Wint u fun i => Q (.int (-i)) h1 := by
  show Wp (R.bind _ _) Q ↔ _
  rw [wp_bind]
  exact wp_congr fun u h1 => by cases u <;> exact Iff.rfl
@[simp] theorem e_not {a : E} : Wp (evE G (.not a) (x :: sl) h) Q ↔ Wp (evE G a (x :: sl) h) fun u h1 => Wbl u fun i => Q (.bl (!i)) h1 := by
  show Wp (R.bind _ _) Q ↔ _
  rw [wp_bind]
  have : ∀ u h1, Wp (match u with | .bl i => R.ok (.bl (!i)) h1 | _ => .bad) Q ↔ Wbl u fun i => Q (.bl (!i)) h1 := fun u h1 => by cases u <;> exact Iff.rfl
  exact wp_congr this
theorem wp_okB {o : Option Bool} {h : LH} {Q : L → LH → Prop} : Wp (ofO (okB o h)) Q ↔ Wo o fun b => Q (.bl b) h := by cases o <;> exact Iff.rfl
@[simp] theorem e_cmp {op : CmpOp} {a b : E} : Wp (evE G (.cmp op a b) (x :: sl) h) Q ↔ Wp (evE G a (x :: sl) h) fun u h1 => Wp (evE G b (x :: sl) h1) fun v h2 => Wo (cmpL op u v h2) fun b => Q (.bl b) h2 := by
  show Wp (R.bind _ _) Q ↔ _
  simp only [wp_bind, wp_okB]
@[simp] theorem e_chain {op op' : CmpOp} {a b c : E} : Wp (evE G (.chain op op' a b c) (x :: sl) h) Q ↔ Wp (evE G a (x :: sl) h) fun u h1 => Wp (evE G b (x :: sl) h1) fun v h2 => Wo (cmpL op u v h2) fun b =>
    Wif (.bl b) (Wp (evE G c (x :: sl) h2) fun z h3 => Wo (cmpL op' v z h3) fun b => Q (.bl b) h3) (Q (.bl false) h2) := by
  show Wp (R.bind _ _) Q ↔ _
  rw [wp_bind]
  have : ∀ u v h2, Wp (match cmpL op u v h2 with | some true => (evE G c (x :: sl) h2).bind fun z h3 => ofO (okB (cmpL op' v z h3) h3) | some false => .ok (.bl false) h2 | none => .bad) Q ↔
      Wo (cmpL op u v h2) fun b => Wif (.bl b) (Wp (evE G c (x :: sl) h2) fun z h3 => Wo (cmpL op' v z h3) fun b => Q (.bl b) h3) (Q (.bl false) h2) := fun u v h2 => by
    rcases cmpL op u v h2 with _ | _ | _
    · exact Iff.rfl
    · exact Iff.rfl
    · show Wp (R.bind _ _) Q ↔ _
      simp only [wp_bind, wp_okB, wo_some, wif_t]
  exact wp_congr fun u h1 => wp_bind.trans (wp_congr fun v h2 => this u v h2)
theorem wif_wp {v : L} {h : LH} {r r' : R L} : Wp (match v with | .bl true => r | .bl false => r' | _ => .bad) Q ↔ Wif v (Wp r Q) (Wp r' Q) := by
  cases v with
  | bl q => cases q <;> exact Iff.rfl
  | _ => exact Iff.rfl
@[simp] theorem e_and {a b : E} : Wp (evE G (.and a b) (x :: sl) h) Q ↔ Wp (evE G a (x :: sl) h) fun u h1 => Wif u (Wp (evE G b (x :: sl) h1) Q) (Q (.bl false) h1) := by
  show Wp (R.bind _ _) Q ↔ _
  rw [wp_bind]
  have : ∀ v h1, Wp (match v with | .bl true => evE G b (x :: sl) h1 | .bl false => .ok (.bl false) h1 | _ => .bad) Q ↔ Wif v (Wp (evE G b (x :: sl) h1) Q) (Q (.bl false) h1) := fun v h1 => by
    cases v with
    | bl q => cases q <;> exact Iff.rfl
    | _ => exact Iff.rfl
  exact wp_congr this
@[simp] theorem e_or {a b : E} : Wp (evE G (.or a b) (x :: sl) h) Q ↔ Wp (evE G a (x :: sl) h) fun u h1 => Wif u (Q (.bl true) h1) (Wp (evE G b (x :: sl) h1) Q) := by
  show Wp (R.bind _ _) Q ↔ _
  rw [wp_bind]
  have : ∀ v h1, Wp (match v with | .bl true => .ok (.bl true) h1 | .bl false => evE G b (x :: sl) h1 | _ => .bad) Q ↔ Wif v (Q (.bl true) h1) (Wp (evE G b (x :: sl) h1) Q) := fun v h1 => by
    cases v with
    | bl q => cases q <;> exact Iff.rfl
    | _ => exact Iff.rfl
  exact wp_congr this
@[simp] theorem e_ife {c a b : E} : Wp (evE G (.ife c a b) (x :: sl) h) Q ↔ Wp (evE G c (x :: sl) h) fun u h1 => Wif u (Wp (evE G a (x :: sl) h1) Q) (Wp (evE G b (x :: sl) h1) Q) := by
  show Wp (R.bind _ _) Q ↔ _
  rw [wp_bind]
  have : ∀ v h1, Wp (match v with | .bl true => evE G a (x :: sl) h1 | .bl false => evE G b (x :: sl) h1 | _ => .bad) Q ↔ Wif v (Wp (evE G a (x :: sl) h1) Q) (Wp (evE G b (x :: sl) h1) Q) := fun v h1 => by
    cases v with
    | bl q => cases q <;> exact Iff.rfl
    | _ => exact Iff.rfl
  exact wp_congr this
@[simp] theorem e_idx {a b : E} : Wp (evE G (.idx a b) (x :: sl) h) Q ↔ Wp (evE G a (x :: sl) h) fun u h1 => Wp (evE G b (x :: sl) h1) fun v h2 => Wo (idxL u v h2) fun p => Q p.1 p.2 := by
  show Wp (R.bind _ _) Q ↔ _
  simp only [wp_bind, wp_ofO']
@[simp] theorem e_call {f : Nat} {es : Es} : Wp (evE G (.call f es) (x :: sl) h) Q ↔ Wp (evEs G es (x :: sl) h) fun vs h1 => Wp (G.cl f vs h1) Q := by
  show Wp (R.bind _ _) Q ↔ _
  simp only [wp_bind]
@[simp] theorem e_callk {f : Nat} {es : Es} {pm : List Nat} : Wp (evE G (.callk f es pm) (x :: sl) h) Q ↔ Wp (evEs G es (x :: sl) h) fun vs h1 => Wo (kwPut pm vs) fun ws => Wp (G.cl f ws h1) Q := by
  show Wp (R.bind _ _) Q ↔ _
  rw [wp_bind]
  have : ∀ vs h1, Wp (match kwPut pm vs with | some ws => G.cl f ws h1 | none => .bad) Q ↔ Wo (kwPut pm vs) fun ws => Wp (G.cl f ws h1) Q := fun vs h1 => by cases kwPut pm vs <;> exact Iff.rfl
  exact wp_congr this
@[simp] theorem e_blt {f : Blt} {es : Es} : Wp (evE G (.blt f es) (x :: sl) h) Q ↔ Wp (evEs G es (x :: sl) h) fun vs h1 => Wo (bltL f vs h1) fun p => Q p.1 p.2 := by
  show Wp (R.bind _ _) Q ↔ _
  simp only [wp_bind, wp_ofO']
@[simp] theorem e_meth {m : Mth} {o : E} {es : Es} : Wp (evE G (.meth m o es) (x :: sl) h) Q ↔ Wp (evE G o (x :: sl) h) fun u h1 => (lstAt h1 u).isSome = true ∧ Wp (evEs G es (x :: sl) h1) fun vs h2 => Wo (methL m u vs h2) fun p => Q p.1 p.2 := by
  show Wp (R.bind _ _) Q ↔ _
  simp only [wp_bind, wp_ofO', wp_ite]
@[simp] theorem e_gdict {n : Str} {a : E} : Wp (evE G (.gdict n a) (x :: sl) h) Q ↔ Wp (evE G a (x :: sl) h) fun y h1 => Wo (G.gd.lookup n) fun kvs => Wo y.str? fun k => Wo (kvs.lookup k) fun v => Q v h1 := by
  show Wp (R.bind _ _) Q ↔ _
  rw [wp_bind]
  have : ∀ y h1, Wp (match G.gd.lookup n, y with | some kvs, L.str k => ofO (okV (kvs.lookup k) h1) | _, _ => .bad) Q ↔ Wo (G.gd.lookup n) fun kvs => Wo y.str? fun k => Wo (kvs.lookup k) fun v => Q v h1 := fun y h1 => by
    rcases G.gd.lookup n with _ | kvs
    · exact Iff.rfl
    · cases y with
      | str k =>
        show Wp (ofO (okV (kvs.lookup k) h1)) Q ↔ _
        rw [wp_ofO', wo_okV]
        exact Iff.rfl
      | _ => exact Iff.rfl
  exact wp_congr this
@[simp] theorem e_lc {own : List Nat} {tg : Ly.T} {it : I} {c e : E} : Wp (evE G (.lc own tg it c e) (x :: sl) h) Q ↔ Wp (evI G it (x :: sl) h) fun w h1 =>
    Wp (lcGo w.at (evT G tg) (evE G c) (evE G e) (wipeL (x :: sl) own) whileFuel 0 [] h1) fun ys h2 => Q (.ref h2.length) (h2 ++ [.lst ys]) := by
  show Wp (R.bind _ _) Q ↔ _
  simp only [wp_bind, wp_noexc, wp_ok]
@[simp] theorem t_name {i : Nat} {v : L} : Ws (evT G (.name i) v (x :: sl) h) N T ↔ N ((x :: sl).set i (some v)) h := Iff.rfl
@[simp] theorem t_tup {ts : Ts} {v : L} : Ws (evT G (.tup ts) v (x :: sl) h) N T ↔ Wtup v fun xs => xs.length = ts.len ∧ Ws (evTs G ts xs (x :: sl) h) N T := by
  cases v with
  | tup xs =>
    show Ws (if xs.length = ts.len then evTs G ts xs (x :: sl) h else .bad) N T ↔ _
    by_cases q : xs.length = ts.len <;> simp [q]
  | _ => exact Iff.rfl
@[simp] theorem ts_nil : Ws (evTs G .nil [] (x :: sl) h) N T ↔ N (x :: sl) h := Iff.rfl
@[simp] theorem ts_cons {t : Ly.T} {ts : Ts} {v : L} {vs : List L} : Ws (evTs G (.cons t ts) (v :: vs) (x :: sl) h) N T ↔ Ws (evT G t v (x :: sl) h) (fun sl1 h1 => Ws (evTs G ts vs sl1 h1) N T) T := ws_then
@[simp] theorem i_val {e : E} : Wp (evI G (.val e) (x :: sl) h) Qi ↔ Wp (evE G e (x :: sl) h) fun v h1 => Wo (walkOf v h1) fun w => Qi w h1 := by
  show Wp (R.bind _ _) Qi ↔ _
  rw [wp_bind]
  have : ∀ v h1, Wp (match walkOf v h1 with | some w => .ok w h1 | none => .bad) Qi ↔ Wo (walkOf v h1) fun w => Qi w h1 := fun v h1 => by cases walkOf v h1 <;> exact Iff.rfl
  exact wp_congr this
@[simp] theorem i_enum {e : E} : Wp (evI G (.enum e) (x :: sl) h) Qi ↔ Wp (evE G e (x :: sl) h) fun v h1 => Wp (enumL v h1) Qi := wp_bind
@[simp] theorem i_keys {e : E} : Wp (evI G (.keys e) (x :: sl) h) Qi ↔ Wp (evE G e (x :: sl) h) fun v h1 => Wp (keysL v h1) Qi := wp_bind
@[simp] theorem i_zip {a b : E} : Wp (evI G (.zip a b) (x :: sl) h) Qi ↔ Wp (evE G a (x :: sl) h) fun v h1 => Wp (evE G b (x :: sl) h1) fun u h2 => Wp (zipL v u h2) Qi := by
  show Wp (R.bind _ _) Qi ↔ _
  simp only [wp_bind]
@[simp] theorem i_rng1 {a : E} : Wp (evI G (.rng1 a) (x :: sl) h) Qi ↔ Wp (evE G a (x :: sl) h) fun v h1 => Wint v fun j => near62 j = true ∧ Qi (.vals (rngV 0 1 j.toNat)) h1 := by
  show Wp (R.bind _ _) Qi ↔ _
  rw [wp_bind]
  have : ∀ v h1, Wp (match v with | .int j => if near62 j = true then .ok (.vals (rngV 0 1 j.toNat)) h1 else .bad | _ => .bad) Qi ↔ Wint v fun j => near62 j = true ∧ Qi (.vals (rngV 0 1 j.toNat)) h1 := fun v h1 => by
    cases v with
    | int j => exact wp_ite
    | _ => exact Iff.rfl
  exact wp_congr this
end
end Lw
end
section
set_option Elab.async false
set_option linter.all false
set_option autoImplicit false
set_option maxRecDepth 100000
/-! Operators, loops over known values, reading a call's bytes. -/
namespace Lw
open PySem Ly
@[simp] theorem atI_nat {α : Type} {xs : List α} {i : Nat} {x : α} (e : xs[i]? = some x) : L2.atI xs (i : Int) = some x := by
  have l : i < xs.length := (List.getElem?_eq_some_iff.mp e).1
  simp [L2.atI, L2.ixN, l]
  exact (List.getElem?_eq_some_iff.mp e).2
theorem atI_lst {α : Type} {xs : List α} {i : Nat} {n : Int} {x : α} (q : n = i) (e : xs[i]? = some x) : L2.atI xs n = some x := by
  rw [q]
  exact atI_nat e
@[simp] theorem eqL_int {i j : Int} {h : LH} : eqL (.int i) (.int j) h = some (decide (i = j)) := by
  simp [eqL, toD, deepest, PyData.eqv, SeqAt.shaped, PyData.canLay0, PyData.depth]
  first | rfl | (by_cases e : i = j <;> simp [e]) 
theorem eqL_str {x y : Str} {h : LH} (a : PyData.strOk x = true) (b : PyData.strOk y = true) : eqL (.str x) (.str y) h = some (decide (x = y)) := by
  simp [eqL, toD, deepest, PyData.eqv, SeqAt.shaped, PyData.canLay0, PyData.depth, a, b]
  by_cases e : x = y <;> simp [e]
theorem fmod_small {k : Int} (h0 : 0 ≤ k) (h1 : k < 128) : k.fmod 128 = k := by
  rw [Int.fmod_eq_emod_of_nonneg _ (by omega)]
  exact Int.emod_eq_of_lt h0 h1
@[simp] theorem cmp_eq {u v : L} {h : LH} : cmpL .Eq u v h = eqL u v h := rfl
@[simp] theorem cmp_ne {u v : L} {h : LH} : cmpL .NotEq u v h = (eqL u v h).map not := rfl
@[simp] theorem cmp_lt {i j : Int} {h : LH} : cmpL .Lt (.int i) (.int j) h = some (decide (i < j)) := rfl
@[simp] theorem cmp_le {i j : Int} {h : LH} : cmpL .LtE (.int i) (.int j) h = some (decide (i ≤ j)) := rfl
@[simp] theorem cmp_gt {i j : Int} {h : LH} : cmpL .Gt (.int i) (.int j) h = some (decide (j < i)) := rfl
@[simp] theorem cmp_ge {i j : Int} {h : LH} : cmpL .GtE (.int i) (.int j) h = some (decide (j ≤ i)) := rfl
@[simp] theorem cmp_is {u : L} {h : LH} : cmpL .Is u .non h = some (isNon u) := rfl
@[simp] theorem cmp_isn {u : L} {h : LH} : cmpL .IsNot u .non h = some (!isNon u) := rfl
@[simp] theorem cmp_in {u v : L} {h : LH} : cmpL .In u v h = inL u v h := rfl
@[simp] theorem cmp_nin {u v : L} {h : LH} : cmpL .NotIn u v h = (inL u v h).map not := rfl
@[simp] theorem non_non : isNon .non = true := rfl
@[simp] theorem non_int {i : Int} : isNon (.int i) = false := rfl
@[simp] theorem non_str {i : Str} : isNon (.str i) = false := rfl
@[simp] theorem non_tup {i : List L} : isNon (.tup i) = false := rfl
@[simp] theorem non_ref {i : Nat} : isNon (.ref i) = false := rfl
@[simp] theorem add_int {i j : Int} {h : LH} : binL .Add (.int i) (.int j) h = some (.int (i + j), h) := rfl
@[simp] theorem sub_int {i j : Int} {h : LH} : binL .Sub (.int i) (.int j) h = some (.int (i - j), h) := rfl
@[simp] theorem mul_int {i j : Int} {h : LH} : binL .Mult (.int i) (.int j) h = if mulOk i j = true then some (.int (i * j), h) else none := rfl
@[simp] theorem fdv_int {i j : Int} {h : LH} : binL .FloorDiv (.int i) (.int j) h = if j ≠ 0 ∧ j.natAbs < 1073741824 then some (.int (i.fdiv j), h) else none := rfl
@[simp] theorem mod_int {i j : Int} {h : LH} : binL .Mod (.int i) (.int j) h = if j ≠ 0 then some (.int (i.fmod j), h) else none := rfl
@[simp] theorem add_tup {x y : List L} {h : LH} : binL .Add (.tup x) (.tup y) h = if x.length + y.length ≤ sizeLine then some (.tup (x ++ y), h) else none := rfl
@[simp] theorem idx_tup {xs : List L} {i : Int} {h : LH} : idxL (.tup xs) (.int i) h = okV (L2.atI xs i) h := rfl
theorem idx_ref {xs : List L} {r : Nat} {i : Int} {h : LH} (e : h[r]? = some (.lst xs)) : idxL (.ref r) (.int i) h = okV (L2.atI xs i) h := by
  simp [idxL, seqAt, lstAt, e, atL]
@[simp] theorem len_tup {xs : List L} {h : LH} : bltL .len [.tup xs] h = some (.int xs.length, h) := rfl
theorem len_ref {xs : List L} {r : Nat} {h : LH} (e : h[r]? = some (.lst xs)) : bltL .len [.ref r] h = some (.int xs.length, h) := by
  simp [bltL, one, len1, lenO, seqAt, lstAt, e]
@[simp] theorem tup_tup {xs : List L} {h : LH} : bltL .tuple [.tup xs] h = some (.tup xs, h) := rfl
theorem tup_ref {xs : List L} {r : Nat} {h : LH} (e : h[r]? = some (.lst xs)) : bltL .tuple [.ref r] h = some (.tup xs, h) := by
  simp [bltL, one, tup1, seqAt, lstAt, e]
@[simp] theorem tup_new {xs : List L} {h : LH} : bltL .tuple [.ref h.length] (h ++ [.lst xs]) = some (.tup xs, h ++ [.lst xs]) := tup_ref (get_new h _)
theorem app_ref {xs : List L} {r : Nat} {v : L} {h : LH} (e : h[r]? = some (.lst xs)) (l : xs.length < sizeLine) : methL .append (.ref r) [v] h = some (.non, h.set r (.lst (xs ++ [v]))) := by
  simp [methL, appO, e, l]
theorem lst_ref {xs : List L} {r : Nat} {h : LH} (e : h[r]? = some (.lst xs)) : lstAt h (.ref r) = some xs := by
  simp [lstAt, e]
@[simp] theorem tsl_nil : Ts.len .nil = 0 := rfl
@[simp] theorem tsl_cons {t : Ly.T} {ts : Ts} : Ts.len (.cons t ts) = ts.len + 1 := rfl
@[simp] theorem gl_base : List.lookup ("BASE" : Str) Pg.gl = some (L.int 128) := rfl
@[simp] theorem gl_most : List.lookup ("MOST_LONG" : Str) Pg.gl = some (L.int 10) := rfl
@[simp] theorem gl_great : List.lookup ("GREATEST_TOLD" : Str) Pg.gl = some (L.int 1000000000000000000) := rfl
@[simp] theorem gl_jump : List.lookup ("JUMP_LONG" : Str) Pg.gl = some (L.int 3) := rfl
@[simp] theorem gl_call : List.lookup ("CALL" : Str) Pg.gl = some (L.str "call") := rfl
@[simp] theorem gl_branch : List.lookup ("BRANCH" : Str) Pg.gl = some (L.str "branch") := rfl
def forL (tg : L → LS → LH → RS) (b : LS → LH → RS) : List L → LS → LH → RS
  | [], sl, h => .nx sl h
  | x :: xs, sl, h => match tg x sl h with
    | .nx sl1 h1 => (match b sl1 h1 with
      | .nx sl2 h2 => forL tg b xs sl2 h2
      | .ct sl2 h2 => forL tg b xs sl2 h2
      | .bk sl2 h2 => .nx sl2 h2
      | r => r)
    | _ => .bad
theorem forGo_vals {tg : L → LS → LH → RS} {b : LS → LH → RS} : ∀ (xs ys : List L) (f : Nat) (sl : LS) (h : LH), xs.length < f → forGo (LIt.vals (ys ++ xs)).at tg b f ys.length sl h = forL tg b xs sl h
  | [], ys, f + 1, sl, h, l => by
    unfold forGo
    have : (LIt.vals (ys ++ [])).at h ys.length = some none := by simp [LIt.at]
    rw [this]
    rfl
  | x :: xs, ys, f + 1, sl, h, l => by
    unfold forGo forL
    have : (LIt.vals (ys ++ x :: xs)).at h ys.length = some (some x) := by simp [LIt.at]
    have r : ∀ sl h, forGo (LIt.vals (ys ++ x :: xs)).at tg b f (ys.length + 1) sl h = forL tg b xs sl h := fun sl h => by
      have := forGo_vals (tg := tg) (b := b) xs (ys ++ [x]) f sl h (by simp at l; omega)
      simpa using this
    simp only [this, r]
    all_goals rfl
theorem ws_vals {tg : L → LS → LH → RS} {b : LS → LH → RS} {xs : List L} {sl : LS} {h : LH} {N : LS → LH → Prop} {T : L → LH → Prop} (l : xs.length < 1000000) (w : Ws (forL tg b xs sl h) N T) :
    Ws (forGo (LIt.vals xs).at tg b whileFuel 0 sl h) N T := by
  have := forGo_vals (tg := tg) (b := b) xs [] whileFuel sl h (by show _ < 1000000000000; omega)
  simp at this
  rw [this]
  exact w
theorem ws_forL {tg : L → LS → LH → RS} {b : LS → LH → RS} {x : L} {xs : List L} {sl : LS} {h : LH} {N : LS → LH → Prop} {T : L → LH → Prop}
    (w : Ws (tg x sl h) (fun sl1 h1 => Ws (b sl1 h1) (fun sl2 h2 => Ws (forL tg b xs sl2 h2) N T) T) fun _ _ => False) : Ws (forL tg b (x :: xs) sl h) N T := by
  unfold forL
  cases e : tg x sl h with
  | nx sl1 h1 =>
    rw [e] at w
    cases r : b sl1 h1 with
    | nx _ _ => rw [ws_nx, r] at w; simp only [r]; exact w
    | rt _ _ => rw [ws_nx, r] at w; simp only [r]; exact w
    | bk _ _ => rw [ws_nx, r] at w; exact w.elim
    | ct _ _ => rw [ws_nx, r] at w; exact w.elim
    | exc _ _ _ _ => rw [ws_nx, r] at w; exact w.elim
    | bad => rw [ws_nx, r] at w; exact w.elim
  | _ => rw [e] at w; exact w.elim
theorem told_at {d : Nat} {row : List L} {b : Nat} {k : Int} {h : LH} {Q : L → LH → Prop} (e : row[b]? = some (.int k)) (h0 : 0 ≤ k) (h1 : k < 128) (q : Q (.tup [.int k, .int (b + 1)]) h) :
    Wp (run (d + 1) Pg.f_told_at [.tup row, .int b, .int 10] h) Q := by
  refine wp_run rfl rfl ?_
  show Ws (evSs _ Pg.b_told_at [some (.tup row), some (.int b), some (.int 10), none, none, none, none] h) _ _
  unfold Pg.b_told_at
  have l : b < row.length := (List.getElem?_eq_some_iff.mp e).1
  simp [RS.only, List.set, sizeLine]
  refine ws_while (fun n sl h' => n = 0 ∧ sl = [some (.tup row), some (.int b), some (.int 10), some (.int 0), some (.int 1), some (.int b), none] ∧ h' = h) ?_ 0 _ _ _ (by decide) ⟨rfl, rfl, rfl⟩
  rintro n sl h' ⟨rfl, rfl, rfl⟩
  have gb : List.lookup ("BASE" : Str) Pg.gl = some (L.int 128) := rfl
  have m := fmod_small h0 h1
  simp [l, atI_nat e, mulOk, m, h1, sizeLine]
  exact q
theorem count_at {d : Nat} {row : List L} {b : Nat} {k : Int} {h : LH} {Q : L → LH → Prop} (e : row[b]? = some (.int k)) (h0 : 0 ≤ k) (h1 : k < 128) (q : Q (.tup [.int k, .int (b + 1)]) h) :
    Wp (run (d + 2) Pg.f_count_at [.tup row, .int b] h) Q := by
  refine wp_run rfl rfl ?_
  show Ws (evSs ⟨Pg.gl, Pg.gd, run (d + 1)⟩ Pg.b_count_at [some (.tup row), some (.int b)] h) _ _
  unfold Pg.b_count_at
  have gm : List.lookup ("MOST_LONG" : Str) Pg.gl = some (L.int 10) := rfl
  simp [gm]
  exact told_at e h0 h1 q
theorem operand_at0 {d : Nat} {row : List L} {b : Nat} {h : LH} {Q : L → LH → Prop} (e : row[b]? = some (.int 0)) (q : Q (.tup [.tup [.str "s", .int 0], .int (b + 1)]) h) :
    Wp (run (d + 3) Pg.f_operand_at [.tup row, .int b] h) Q := by
  refine wp_run rfl rfl ?_
  show Ws (evSs ⟨Pg.gl, Pg.gd, run (d + 2)⟩ Pg.b_operand_at [some (.tup row), some (.int b), none, none, none, none] h) _ _
  unfold Pg.b_operand_at
  have gm : List.lookup ("GREATEST_TOLD" : Str) Pg.gl = some (L.int 1000000000000000000) := rfl
  simp
  refine count_at e (by decide) (by decide) ?_
  simp [L2.atI, L2.ixN, gm, RS.only, sizeLine]
  exact q
theorem walk_nil : walkOf (.str "") = fun _ => some (.vals []) := rfl
theorem walk_a : walkOf (.str "a") = fun _ => some (.vals [.str "a"]) := rfl
theorem walk_dk : walkOf (.str "dk") = fun _ => some (.vals [.str "d", .str "k"]) := rfl
/-- as shape_at's loop goes -/
theorem shape_nil {d : Nat} {row : List L} {b : Nat} {h : LH} {Q : L → LH → Prop} (q : ∀ h', Ext h h' → Q (.tup [.tup [], .int b]) h') :
    Wp (run (d + 4) Pg.f_shape_at [.tup row, .int b, .str ""] h) Q := by
  refine wp_run rfl rfl ?_
  show Ws (evSs ⟨Pg.gl, Pg.gd, run (d + 3)⟩ Pg.b_shape_at [some (.tup row), some (.int b), some (.str ""), none, none, none, none] h) _ _
  unfold Pg.b_shape_at
  simp [newL, sizeLine, RS.only, evI, walk_nil]
  refine ws_vals (xs := []) (by decide) ?_
  show Ws (RS.nx _ _) _ _
  simp
  simp [sizeLine]
  exact q _ (Ext.app _ _)
theorem shape_a {d : Nat} {row : List L} {b : Nat} {h : LH} {Q : L → LH → Prop} (e : row[b]? = some (.int 0)) (q : ∀ h', Ext h h' → Q (.tup [.tup [.tup [.str "s", .int 0]], .int (b + 1)]) h') :
    Wp (run (d + 4) Pg.f_shape_at [.tup row, .int b, .str "a"] h) Q := by
  refine wp_run rfl rfl ?_
  show Ws (evSs ⟨Pg.gl, Pg.gd, run (d + 3)⟩ Pg.b_shape_at [some (.tup row), some (.int b), some (.str "a"), none, none, none, none] h) _ _
  unfold Pg.b_shape_at
  have a1 : ∀ h, eqL (.str "a") (.str "a") h = some true := fun h => eqL_str (by decide +kernel) (by decide +kernel)
  simp [newL, sizeLine, RS.only, evI, walk_a]
  refine ws_vals (xs := [.str "a"]) (by decide) (ws_forL ?_)
  simp [a1]
  refine operand_at0 e ?_
  refine count_and (xs := []) (by simp) (by decide) ?_
  show Ws (RS.nx _ _) _ _
  simp [sizeLine]
  exact q _ (Ext.app _ _)
theorem shape_dk {d : Nat} {row : List L} {b : Nat} {k : Int} {h : LH} {Q : L → LH → Prop} (e : row[b]? = some (.int 0)) (e' : row[b + 1]? = some (.int k)) (h0 : 0 ≤ k) (h1 : k < 128) (q : ∀ h', Ext h h' → Q (.tup [.tup [.int 0, .int k], .int (b + 1 + 1)]) h') :
    Wp (run (d + 4) Pg.f_shape_at [.tup row, .int b, .str "dk"] h) Q := by
  refine wp_run rfl rfl ?_
  show Ws (evSs ⟨Pg.gl, Pg.gd, run (d + 3)⟩ Pg.b_shape_at [some (.tup row), some (.int b), some (.str "dk"), none, none, none, none] h) _ _
  unfold Pg.b_shape_at
  have a1 : ∀ h, eqL (.str "d") (.str "a") h = some false := fun h => eqL_str (by decide +kernel) (by decide +kernel)
  have a2 : ∀ h, eqL (.str "d") (.str "t") h = some false := fun h => eqL_str (by decide +kernel) (by decide +kernel)
  have a3 : ∀ h, eqL (.str "k") (.str "a") h = some false := fun h => eqL_str (by decide +kernel) (by decide +kernel)
  have a4 : ∀ h, eqL (.str "k") (.str "t") h = some false := fun h => eqL_str (by decide +kernel) (by decide +kernel)
  simp [newL, sizeLine, RS.only, evI, walk_dk]
  refine ws_vals (xs := [.str "d", .str "k"]) (by decide) (ws_forL ?_)
  simp [a1, a2]
  refine count_at e (by decide) (by decide) ?_
  refine count_and (xs := []) (by simp) (by decide) ?_
  refine ws_forL ?_
  simp [a3, a4]
  refine count_at (b := b + 1) e' h0 h1 ?_
  refine count_and (xs := [.int 0]) (by simp) (by decide) ?_
  show Ws (RS.nx _ _) _ _
  simp [sizeLine]
  exact q _ (Ext.app _ _)
end Lw
end
section
set_option Elab.async false
set_option linter.all false
set_option autoImplicit false
set_option maxRecDepth 100000
/-! Instructions of the law's bytes. -/
namespace Lw
open PySem Ly
theorem atI_cast {α : Type} (xs : List α) (n : Nat) : L2.atI xs (n : Int) = xs[n]? := by
  rcases Nat.lt_or_ge n xs.length with l | l
  · simp [L2.atI, L2.ixN, l]
  · simp [L2.atI, L2.ixN, l]
@[simp] theorem atI_lit {α : Type} (xs : List α) (n : Nat) : L2.atI xs (no_index (OfNat.ofNat n)) = xs[(OfNat.ofNat n : Nat)]? := atI_cast xs n
theorem mul_a0 {h : LH} : binL .Mult (.str "a") (.int 0) h = some (.str "", h) := rfl
theorem mul_r0 {h : LH} : binL .Mult (.str "r") (.int 0) h = some (.str "", h) := rfl
theorem wo_mono {α : Type} {o : Option α} {P Q : α → Prop} (w : Wo o P) (f : ∀ a, P a → Q a) : Wo o Q := by
  cases o with
  | none => exact w
  | some a => exact f a w
theorem members0 {d : Nat} {row : List L} {b : Nat} {s : Str} {h : LH} {Q : L → LH → Prop} (m : ∀ h, binL .Mult (.str s) (.int 0) h = some (.str "", h)) (e : row[b]? = some (.int 0)) (q : ∀ h', Ext h h' → Q (.tup [.tup [], .int (b + 1)]) h') :
    Wp (run (d + 5) Pg.f_members_at [.tup row, .int b, .str s] h) Q := by
  refine wp_run rfl rfl ?_
  show Ws (evSs ⟨Pg.gl, Pg.gd, run (d + 4)⟩ Pg.b_members_at [some (.tup row), some (.int b), some (.str s), none] h) _ _
  unfold Pg.b_members_at
  simp
  refine count_at e (by decide) (by decide) ?_
  have l : b < row.length := (List.getElem?_eq_some_iff.mp e).1
  have n : ¬ ((row.length : Int) - ((b : Int) + 1) < 0) := by omega
  simp [n, m]
  exact shape_nil (b := b + 1) q
theorem call_at {d : Nat} {row : List L} {b : Nat} {k : Int} {h : LH} {Q : L → LH → Prop} (e0 : row[b]? = some (.int 0)) (e1 : row[b + 1]? = some (.int k)) (e2 : row[b + 2]? = some (.int 0)) (e3 : row[b + 3]? = some (.int 0)) (h0 : 0 ≤ k) (h1 : k < 128)
    (q : ∀ h', Ext h h' → Q (.tup [.tup [.int 0, .int k, .tup [], .tup []], .int (b + 4)]) h') :
    Wp (run (d + 6) Pg.f_call_at [.tup row, .int b] h) Q := by
  refine wp_run rfl rfl ?_
  show Ws (evSs ⟨Pg.gl, Pg.gd, run (d + 5)⟩ Pg.b_call_at [some (.tup row), some (.int b), none, none, none] h) _ _
  unfold Pg.b_call_at
  simp
  refine shape_dk e0 e1 h0 h1 fun g1 x1 => ?_
  simp
  refine members0 (b := b + 2) (fun _ => mul_a0) e2 fun g2 x2 => ?_
  simp
  refine members0 (b := b + 3) (fun _ => mul_r0) e3 fun g3 x3 => ?_
  simp [sizeLine]
  exact q g3 (x1.trans (x2.trans x3))
@[simp] theorem gl_words : List.lookup ("WORDS" : Str) Pg.gl = some (L.tup [.str "", .str "move", .str "plus", .str "less", .str "times", .str "over", .str "rest", .str "read", .str "write", .str "size", .str "call", .str "go", .str "branch", .str "tell", .str "sure"]) := rfl
theorem instr_call {d : Nat} {row : List L} {b : Nat} {k : Int} {h : LH} {Q : L → LH → Prop} (e : row[b]? = some (.int 10)) (e0 : row[b + 1]? = some (.int 0)) (e1 : row[b + 2]? = some (.int k)) (e2 : row[b + 3]? = some (.int 0)) (e3 : row[b + 4]? = some (.int 0)) (h0 : 0 ≤ k) (h1 : k < 128)
    (q : ∀ h', Ext h h' → Q (.tup [.str "call", .tup [.int 0, .int k, .tup [], .tup []], .int (b + 5)]) h') :
    Wp (run (d + 7) Pg.f_instruction_at [.tup row, .int b] h) Q := by
  refine wp_run rfl rfl ?_
  show Ws (evSs ⟨Pg.gl, Pg.gd, run (d + 6)⟩ Pg.b_instruction_at [some (.tup row), some (.int b), none, none] h) _ _
  unfold Pg.b_instruction_at
  have a1 : ∀ h, eqL (.str "call") (.str "call") h = some true := fun h => eqL_str (by decide +kernel) (by decide +kernel)
  simp [atI_nat e, a1]
  refine call_at (b := b + 1) e0 e1 e2 e3 h0 h1 fun g1 x1 => ?_
  simp [sizeLine]
  exact q g1 x1
theorem instr_tell {d : Nat} {row : List L} {b : Nat} {h : LH} {Q : L → LH → Prop} (e : row[b]? = some (.int 13)) (e0 : row[b + 1]? = some (.int 0))
    (q : ∀ h', Ext h h' → Q (.tup [.str "tell", .tup [.tup [.str "s", .int 0]], .int (b + 2)]) h') :
    Wp (run (d + 7) Pg.f_instruction_at [.tup row, .int b] h) Q := by
  refine wp_run rfl rfl ?_
  show Ws (evSs ⟨Pg.gl, Pg.gd, run (d + 6)⟩ Pg.b_instruction_at [some (.tup row), some (.int b), none, none] h) _ _
  unfold Pg.b_instruction_at
  have a1 : ∀ h, eqL (.str "tell") (.str "call") h = some false := fun h => eqL_str (by decide +kernel) (by decide +kernel)
  have a2 : ∀ h, eqL (.str "tell") (.str "branch") h = some false := fun h => eqL_str (by decide +kernel) (by decide +kernel)
  have g1 : (Wo (List.lookup ("SHAPES" : Str) Pg.gd) fun kvs => Wo (List.lookup ("tell" : Str) kvs) fun v => v = .str "a") := by
    show (L.str "a" = L.str "a")
    rfl
  simp [atI_nat e, a1, a2, L.str?]
  refine wo_mono g1 fun kvs w => wo_mono w fun v w => ?_
  subst w
  refine shape_a (b := b + 1) e0 fun g1 x1 => ?_
  simp [sizeLine]
  exact q g1 x1
theorem instr_none {d : Nat} {row : List L} {b : Nat} {h : LH} {Q : L → LH → Prop} (e : row[b]? = some (.int 99)) (q : Q .non h) :
    Wp (run (d + 7) Pg.f_instruction_at [.tup row, .int b] h) Q := by
  refine wp_run rfl rfl ?_
  show Ws (evSs ⟨Pg.gl, Pg.gd, run (d + 6)⟩ Pg.b_instruction_at [some (.tup row), some (.int b), none, none] h) _ _
  unfold Pg.b_instruction_at
  simp [atI_nat e, q]
end Lw
end
section
set_option Elab.async false
set_option linter.all false
set_option autoImplicit false
set_option maxRecDepth 100000
/-! All instructions of a work's bytes. -/
namespace Lw
open PySem Ly
def cbs : List Int → List L
  | [] => []
  | k :: ks => .int 10 :: .int 0 :: .int k :: .int 0 :: .int 0 :: cbs ks
theorem cbs_len : ∀ ks : List Int, (cbs ks).length = 5 * ks.length
  | [] => rfl
  | k :: ks => by simp [cbs, cbs_len ks]; omega
theorem cbs_get : ∀ (ks : List Int) (r : List L) (i : Nat) (k : Int), ks[i]? = some k →
    (cbs ks ++ r)[5 * i]? = some (.int 10) ∧ (cbs ks ++ r)[5 * i + 1]? = some (.int 0) ∧ (cbs ks ++ r)[5 * i + 2]? = some (.int k) ∧ (cbs ks ++ r)[5 * i + 3]? = some (.int 0) ∧ (cbs ks ++ r)[5 * i + 4]? = some (.int 0)
  | [], _, _, _, e => by simp at e
  | k :: ks, r, 0, q, e => by
    simp at e
    subst e
    exact ⟨rfl, rfl, rfl, rfl, rfl⟩
  | k :: ks, r, i + 1, q, e => by
    have := cbs_get ks r i q (by simpa using e)
    have m : ∀ j, (cbs (k :: ks) ++ r)[5 * (i + 1) + j]? = (cbs ks ++ r)[5 * i + j]? := fun j => by
      have : 5 * (i + 1) + j = 5 * i + j + 5 := by omega
      rw [this]
      rfl
    have m0 := m 0
    simp only [Nat.add_zero] at m0
    rw [m0, m 1, m 2, m 3, m 4]
    exact this
theorem cbs_rest (ks : List Int) (r : List L) (j : Nat) : (cbs ks ++ r)[5 * ks.length + j]? = r[j]? := by
  rw [List.getElem?_append_right (by rw [cbs_len]; omega), cbs_len]
  congr 1
  omega
def stp (i : Nat) (k : Int) : L := .tup [.int (5 * i : Nat), .str "call", .tup [.int 0, .int k, .tup [], .tup []]]
def stps (ks : List Int) : List L := ks.mapIdx stp
def tel (i : Nat) : L := .tup [.int (5 * i : Nat), .str "tell", .tup [.tup [.str "s", .int 0]]]
def rowOf (ks : List Int) (bad : Bool) : List L := cbs ks ++ ([.int 13, .int 0] ++ if bad then [.int 99] else [])
theorem row_len (ks : List Int) (bad : Bool) : (rowOf ks bad).length = 5 * ks.length + 2 + if bad then 1 else 0 := by
  unfold rowOf
  cases bad <;> simp [cbs_len]
/-- where a turn begins -/
def posn (n i : Nat) : Nat := if i ≤ n then 5 * i else 5 * n + 2
def InI (r0 : Nat) (h0 : LH) (c : L) (ks : List Int) (bad : Bool) (i : Nat) (sl : LS) (h : LH) : Prop :=
  ∃ t, sl = [some c, some (.tup (rowOf ks bad)), some (.ref r0), some (.int (posn ks.length i : Nat)), t] ∧ h0.length ≤ r0 ∧ Ext h0 h ∧ h[r0]? = some (.lst ((stps ks ++ [tel ks.length]).take i))
theorem instr_turn {d r0 : Nat} {h0 : LH} {c : L} {ks : List Int} {bad : Bool} (hk : ∀ k ∈ ks, 0 ≤ k ∧ k < 128) (lk : ks.length < 1000) {i : Nat} (li : i < ks.length + 1) {h : LH} {t : L} {sl4 : Option L} {T : L → LH → Prop}
    (hr : h0.length ≤ r0) (hx : Ext h0 h) (hl : h[r0]? = some (.lst ((stps ks ++ [tel ks.length]).take i))) :
    Ws (evSs ⟨Pg.gl, Pg.gd, run (d + 7)⟩ (.cons (.set 4 (.call 9 (.cons (.var 1) (.cons (.var 3) .nil)))) (.cons (.ifs (.cmp .Is (.var 4) .non) (.cons (.rai 0 (.var 3)) .nil) .nil) (.cons (.expr (.meth .append (.var 2) (.cons (.tup (.cons (.var 3) (.cons (.idx (.var 4) (.int 0)) (.cons (.idx (.var 4) (.int 1)) .nil)))) .nil))) (.cons (.set 3 (.idx (.var 4) (.int 2))) .nil))))
      [some c, some (.tup (rowOf ks bad)), some (.ref r0), some (.int (posn ks.length i : Nat)), sl4] h) (InI r0 h0 c ks bad (i + 1)) T := by
  have fin : ∀ (w : Str) (ops : L) (z : Int) (h1 : LH), Ext h h1 → z = (posn ks.length (i + 1) : Nat) → (stps ks ++ [tel ks.length])[i]? = some (.tup [.int (posn ks.length i : Nat), .str w, ops]) →
      InI r0 h0 c ks bad (i + 1) [some c, some (.tup (rowOf ks bad)), some (.ref r0), some (.int z), some (.tup [.str w, ops, .int z])] (h1.set r0 (.lst ((stps ks ++ [tel ks.length]).take i ++ [.tup [.int (posn ks.length i : Nat), .str w, ops]]))) := fun w ops z h1 x1 ez es => by
    refine ⟨_, by rw [ez], hr, (hx.trans x1).set hr _, ?_⟩
    rw [get_set_eq _ (x1 _ _ hl), List.take_add_one, es]
    rfl
  have sl4 : ((stps ks ++ [tel ks.length]).take i).length < sizeLine := by
    have : sizeLine = 16777216 := by decide
    simp [stps]
    omega
  rcases Nat.lt_or_ge i ks.length with l | l
  · obtain ⟨k, ek⟩ : ∃ k, ks[i]? = some k := ⟨ks[i], List.getElem?_eq_getElem l⟩
    obtain ⟨b0, b1, b2, b3, b4⟩ := cbs_get ks ([.int 13, .int 0] ++ if bad then [.int 99] else []) i k ek
    have hk' := hk k (List.mem_of_getElem? ek)
    have p0 : posn ks.length i = 5 * i := by unfold posn; rw [if_pos (by omega)]
    have p1 : posn ks.length (i + 1) = 5 * i + 5 := by unfold posn; rw [if_pos (by omega)]; omega
    have es : (stps ks ++ [tel ks.length])[i]? = some (.tup [.int (posn ks.length i : Nat), .str "call", .tup [.int 0, .int k, .tup [], .tup []]]) := by
      rw [p0, List.getElem?_append_left (by simp [stps]; exact l)]
      simp [stps, ek, stp]
    simp
    rw [p0] at fin ⊢
    refine instr_call (b := 5 * i) b0 b1 b2 b3 b4 hk'.1 hk'.2 fun h1 x1 => ?_
    simp [lst_ref (x1 _ _ hl), app_ref (x1 _ _ hl) sl4, sizeLine]
    exact fin _ _ _ h1 x1 (by rw [p1]; rfl) (by rw [← p0]; exact es)
  · have e : i = ks.length := by omega
    have b0 := cbs_rest ks ([.int 13, .int 0] ++ if bad then [.int 99] else []) 0
    have b1 := cbs_rest ks ([.int 13, .int 0] ++ if bad then [.int 99] else []) 1
    have p0 : posn ks.length i = 5 * ks.length := by unfold posn; rw [if_pos (by omega), e]
    have p1 : posn ks.length (i + 1) = 5 * ks.length + 2 := by unfold posn; rw [if_neg (by omega)]
    have es : (stps ks ++ [tel ks.length])[i]? = some (.tup [.int (posn ks.length i : Nat), .str "tell", .tup [.tup [.str "s", .int 0]]]) := by
      rw [p0, e, List.getElem?_append_right (by simp [stps])]
      simp [stps, tel]
    simp
    rw [p0] at fin ⊢
    refine instr_tell (b := 5 * ks.length) b0 b1 fun h1 x1 => ?_
    simp [lst_ref (x1 _ _ hl), app_ref (x1 _ _ hl) sl4, sizeLine]
    exact fin _ _ _ h1 x1 (by rw [p1]; rfl) (by rw [← p0]; exact es)
theorem instructions_good {d : Nat} {xs : List L} {ks : List Int} {h : LH} {Q : L → LH → Prop} (hk : ∀ k ∈ ks, 0 ≤ k ∧ k < 128) (lk : ks.length < 1000) (e : xs[7]? = some (.tup (rowOf ks false)))
    (q : ∀ h', Ext h h' → Q (.tup (stps ks ++ [tel ks.length])) h') : Wp (run (d + 8) Pg.f_instructions [.tup xs] h) Q := by
  refine wp_run rfl rfl ?_
  show Ws (evSs ⟨Pg.gl, Pg.gd, run (d + 7)⟩ Pg.b_instructions [some (.tup xs), none, none, none, none] h) _ _
  unfold Pg.b_instructions
  simp [e, sizeLine]
  refine ws_while (fun n sl h' => ∃ i, i + n = ks.length + 1 ∧ InI h.length h (.tup xs) ks false i sl h') ?_ (ks.length + 1) _ _ _ (by show _ < 1000000000000; omega) ⟨0, by omega, none, rfl, Nat.le_refl _, Ext.app _ _, by simp⟩
  rintro n sl h' ⟨i, hn, t, rfl, hr, hx, hl⟩
  have rl := row_len ks false
  simp at rl
  rcases Nat.lt_or_ge i (ks.length + 1) with l | l
  · have lt : posn ks.length i < 5 * ks.length + 2 := by unfold posn; rw [if_pos (by omega)]; omega
    refine Wp.mono (Q := fun v h1 => v = .bl true ∧ h1 = h') (by simp [rl]; omega) ?_
    rintro _ _ ⟨rfl, rfl⟩
    refine .inr ⟨rfl, ?_⟩
    exact (instr_turn hk lk l (t := .non) hr hx hl).mono (fun sl h w => ⟨n - 1, by omega, i + 1, by omega, w⟩) fun _ _ w => w
  · have lt : posn ks.length i = 5 * ks.length + 2 := by unfold posn; rw [if_neg (by omega)]
    refine Wp.mono (Q := fun v h1 => v = .bl false ∧ h1 = h') (by simp [rl]; omega) ?_
    rintro _ _ ⟨rfl, rfl⟩
    refine .inl ⟨rfl, ?_⟩
    simp
    rw [tup_ref hl]
    simp
    rw [List.take_of_length_le (by simp [stps]; omega)]
    exact q _ hx
end Lw
end
section
set_option Elab.async false
set_option linter.all false
set_option autoImplicit false
set_option maxRecDepth 100000
/-! Bytes that are none: the exception. -/
namespace Lw
open PySem Ly
def Xs (r : RS) (E : Nat → L → LH → Prop) : Prop := ∃ k w sl h, r = .exc k w sl h ∧ E k w h
def Xp (r : R L) (E : Nat → L → LH → Prop) : Prop := ∃ k w h, r = .exc k w h ∧ E k w h
theorem xs_cons {G : Gm} {s : S} {ss : Ss} {sl : LS} {h : LH} {E : Nat → L → LH → Prop} (w : Ws (evS G s sl h) (fun sl1 h1 => Xs (evSs G ss sl1 h1) E) fun _ _ => False) : Xs (evSs G (.cons s ss) sl h) E := by
  unfold evSs
  cases e : evS G s sl h with
  | nx sl1 h1 => rw [e] at w; exact w
  | _ => rw [e] at w; exact w.elim
theorem xs_head {G : Gm} {s : S} {ss : Ss} {sl : LS} {h : LH} {E : Nat → L → LH → Prop} (w : Xs (evS G s sl h) E) : Xs (evSs G (.cons s ss) sl h) E := by
  obtain ⟨k, v, sl1, h1, e, w⟩ := w
  exact ⟨k, v, sl1, h1, by unfold evSs; rw [e]; rfl, w⟩
theorem xs_while {c : LS → LH → R L} {b : LS → LH → RS} {E : Nat → L → LH → Prop} (I : Nat → LS → LH → Prop)
    (step : ∀ n sl h, I (n + 1) sl h → Wp (c sl h) fun v h1 => v = .bl true ∧ Ws (b sl h1) (I n) fun _ _ => False)
    (last : ∀ sl h, I 0 sl h → Wp (c sl h) fun v h1 => v = .bl true ∧ Xs (b sl h1) E) :
    ∀ (n f : Nat) (sl : LS) (h : LH), n < f → I n sl h → Xs (whileGo c b f sl h) E
  | n, 0, _, _, l, _ => by omega
  | 0, f + 1, sl, h, l, hi => by
    obtain ⟨v, h1, e, rfl, k, w, sl2, h2, e2, q⟩ := (last sl h hi).eq
    refine ⟨k, w, sl2, h2, ?_, q⟩
    unfold whileGo
    rw [e]
    simp only [R.st]
    rw [e2]
  | n + 1, f + 1, sl, h, l, hi => by
    obtain ⟨v, h1, e, rfl, w⟩ := (step n sl h hi).eq
    unfold whileGo
    rw [e]
    simp only [R.st]
    cases r : b sl h1 with
    | nx sl2 h2 =>
      rw [r] at w
      exact xs_while I step last n f sl2 h2 (by omega) w
    | _ => rw [r] at w; exact w.elim
theorem xp_run {d f : Nat} {df : Df} {vs : List L} {h : LH} {E : Nat → L → LH → Prop} (e : Pg.prog[f]? = some df) (hn : vs.length = df.np)
    (w : Xs (evSs ⟨Pg.gl, Pg.gd, run d⟩ df.body (startL df.n vs) h) E) : Xp (run (d + 1) f vs h) E := by
  obtain ⟨k, v, sl, h1, q, w⟩ := w
  refine ⟨k, v, h1, ?_, w⟩
  rw [run_def] at q ⊢
  show (match Pg.prog[f]? with | some df => (if vs.length = df.np then _ else _) | none => _) = _
  rw [e]
  show (if vs.length = df.np then _ else _) = _
  rw [if_pos hn]
  show endR (evSs ⟨Pg.gl, Pg.gd, runD Pg.gl Pg.gd Pg.prog d⟩ df.body (startL df.n vs) h) = _
  rw [q]
  rfl
theorem instructions_bad {d : Nat} {xs : List L} {ks : List Int} {h : LH} (hk : ∀ k ∈ ks, 0 ≤ k ∧ k < 128) (lk : ks.length < 1000) (e : xs[7]? = some (.tup (rowOf ks true))) :
    Xp (run (d + 8) Pg.f_instructions [.tup xs] h) fun c v h' => c = 0 ∧ Ext h h' := by
  refine xp_run rfl rfl ?_
  show Xs (evSs ⟨Pg.gl, Pg.gd, run (d + 7)⟩ Pg.b_instructions [some (.tup xs), none, none, none, none] h) _
  unfold Pg.b_instructions
  have rl := row_len ks true
  simp at rl
  refine xs_cons ?_
  simp [e, sizeLine]
  refine xs_head ?_
  refine xs_while (fun n sl h' => ∃ i, i + n = ks.length + 1 ∧ InI h.length h (.tup xs) ks true i sl h') ?_ ?_ (ks.length + 1) whileFuel _ _ (by show _ < 1000000000000; omega) ⟨0, by omega, none, rfl, Nat.le_refl _, Ext.app _ _, by simp⟩
  · rintro n sl h' ⟨i, hn, t, rfl, hr, hx, hl⟩
    have lt : posn ks.length i < 5 * ks.length + 2 := by unfold posn; rw [if_pos (by omega)]; omega
    refine Wp.mono (Q := fun v h1 => v = .bl true ∧ h1 = h') (by simp [rl]; omega) ?_
    rintro _ _ ⟨rfl, rfl⟩
    refine ⟨rfl, ?_⟩
    exact (instr_turn hk lk (by omega) (t := .non) hr hx hl).mono (fun sl h w => ⟨i + 1, by omega, w⟩) fun _ _ w => w
  · rintro sl h' ⟨i, hn, t, rfl, hr, hx, hl⟩
    have lt : posn ks.length i = 5 * ks.length + 2 := by unfold posn; rw [if_neg (by omega)]
    refine Wp.mono (Q := fun v h1 => v = .bl true ∧ h1 = h') (by simp [rl]; omega) ?_
    rintro _ _ ⟨rfl, rfl⟩
    refine ⟨rfl, ?_⟩
    refine xs_cons ?_
    simp
    rw [lt]
    refine instr_none (b := 5 * ks.length + 2) (cbs_rest ks _ 2) ?_
    refine xs_head ?_
    exact ⟨0, _, _, _, rfl, rfl, hx⟩
/-- try: nothing raised; raised -/
theorem ws_try {G : Gm} {b su : Ss} {c : Nat} {sl : LS} {h : LH} {N : LS → LH → Prop} {T : L → LH → Prop} (w : Ws (evSs G b sl h) N T) : Ws (evS G (.tryo b c su) sl h) N T := by
  unfold evS
  cases e : evSs G b sl h with
  | nx _ _ => rw [e] at w; exact w
  | rt _ _ => rw [e] at w; exact w
  | _ => rw [e] at w; exact w.elim
end Lw
end
section
set_option Elab.async false
set_option linter.all false
set_option autoImplicit false
set_option maxRecDepth 100000
/-! Whom a work's bytes call. -/
namespace Lw
open PySem Ly
@[simp] theorem t_sub {G : Gm} {x : Option L} {sl : LS} {h : LH} {N : LS → LH → Prop} {T : L → LH → Prop} {o i : E} {v : L} : Ws (evT G (.sub o i) v (x :: sl) h) N T ↔ Wp (evE G o (x :: sl) h) fun u h1 => Wp (evE G i (x :: sl) h1) fun w h2 => Wo (putL u w v h2) fun h3 => N (x :: sl) h3 := by
  show Ws (R.st _ _ _) N T ↔ _
  rw [ws_st, wp_noexc]
  refine wp_congr fun u h1 => ?_
  rw [ws_st, wp_noexc]
  refine wp_congr fun w h2 => ?_
  cases putL u w v h2 <;> exact Iff.rfl
def addD (ds : List Int) (c : Int) : List Int := if c ∈ ds then ds else ds ++ [c]
def dkT (ds : List Int) : List (L2.Key × L) := ds.map fun c => (.inl c, .bl true)
theorem putD_dkT (ds : List Int) (c : Int) : putD (dkT ds) (.inl c) (.bl true) = dkT (addD ds c) := by
  have a : (dkT ds).any (fun kv => decide (kv.1 = .inl c)) = decide (c ∈ ds) := by
    unfold dkT
    rw [List.any_map]
    by_cases q : c ∈ ds
    · rw [decide_eq_true q, List.any_eq_true]
      exact ⟨c, q, by simp⟩
    · rw [decide_eq_false q, List.any_eq_false]
      intro y hy
      simp
      rintro rfl
      exact q hy
  unfold putD addD
  rw [a]
  by_cases q : c ∈ ds
  · simp only [q, decide_true, if_true]
    unfold dkT
    rw [List.map_map]
    refine List.map_congr_left fun y _ => ?_
    simp
  · simp only [q, decide_false, if_false, Bool.false_eq_true]
    simp [dkT]
theorem addD_len (ds : List Int) (c : Int) : (addD ds c).length ≤ ds.length + 1 := by
  unfold addD
  by_cases q : c ∈ ds <;> simp [q]
theorem foldl_addD_len : ∀ (cs ds : List Int), (cs.foldl addD ds).length ≤ ds.length + cs.length
  | [], ds => by simp
  | c :: cs, ds => by
    have := foldl_addD_len cs (addD ds c)
    have := addD_len ds c
    simp
    omega
theorem put_dk {h : LH} {r : Nat} {ds : List Int} {c : Int} (e : h[r]? = some (.dk (dkT ds))) (l : ds.length < 1000) : putL (.ref r) (.int c) (.bl true) h = some (h.set r (.dk (dkT (addD ds c)))) := by
  have z : (dkT ds).length < sizeLine := by
    rw [show sizeLine = 16777216 from by decide]
    simp [dkT]
    omega
  simp [putL, putO, e, putK', L.key, putD_dkT, z]
theorem mapO_intK : ∀ ds : List Int, mapO intK ((dkT ds).map (·.1)) = some ds
  | [] => rfl
  | d :: ds => by
    have := mapO_intK ds
    simp only [dkT, List.map_cons, mapO] at this ⊢
    rw [this]
    rfl
theorem sorted_dk {h : LH} {r : Nat} {ds : List Int} (e : h[r]? = some (.dk (dkT ds))) (l : ds.length < 64) : bltL .sorted [.ref r] h = newL h ((sortI ds).map .int) := by
  have := mapO_intK ds
  simp [bltL, one, srt1, lstAt, e, refO, srtO]
  rw [if_pos (by simpa [dkT] using l)]
  rw [this]
  rfl
theorem insI_len (x : Int) : ∀ ys, (insI x ys).length = ys.length + 1
  | [] => rfl
  | y :: ys => by
    unfold insI
    by_cases q : x ≤ y <;> simp [q, insI_len x ys]
theorem sortI_len : ∀ ys, (sortI ys).length = ys.length
  | [] => rfl
  | y :: ys => by
    unfold sortI
    rw [insI_len, sortI_len ys]
    rfl
/-- told by the numbers of the works that the package names -/
def callsOf (tab : List Int) (ks : List Int) : List Int := ks.filterMap fun k => L2.atI tab k
def workL (name : Str) (ks : List Int) (bad : Bool) (tab : List Int) : L := .tup [.str name, .int 0, .int 0, .int 1, .tup (rowOf ks bad), .tup (tab.map .int)]
def calledOf (ks : List Int) (bad : Bool) (tab : List Int) : List Int := if bad then [] else sortI ((callsOf tab ks).foldl addD [])
theorem atI_map {α β : Type} (f : α → β) (xs : List α) (i : Int) : L2.atI (xs.map f) i = (L2.atI xs i).map f := by
  unfold L2.atI
  simp only [List.length_map]
  cases L2.ixN xs.length i <;> simp
theorem atI_int {xs : List Int} {k : Int} (h0 : 0 ≤ k) (h1 : k < xs.length) : ∃ c, L2.atI xs k = some c ∧ xs[k.toNat]? = some c := by
  obtain ⟨n, rfl⟩ := Int.eq_ofNat_of_zero_le h0
  have l : n < xs.length := by omega
  exact ⟨xs[n], by show L2.atI xs (n : Int) = _; rw [atI_cast, List.getElem?_eq_getElem l], by simp⟩
def ClI (img nn cd rv : L) (a b c e g : Option L) (h0 : LH) (r0 : Nat) (tab : List Int) (ks : List Int) (j : Nat) (sl : LS) (h : LH) : Prop :=
  ∃ x y z, sl = [some img, some nn, some cd, some (.ref r0), a, b, c, e, g, some (.tup (tab.map .int)), some rv, x, y, z] ∧ h0.length ≤ r0 ∧ Ext h0 h ∧ h[r0]? = some (.dk (dkT ((callsOf tab (ks.take j)).foldl addD [])))
theorem called_good {d : Nat} {works : List L} {nm : Str} {ks tab : List Int} {n : Nat} {h : LH} {Q : L → LH → Prop} (hk : ∀ k ∈ ks, 0 ≤ k ∧ k < tab.length) (lt : tab.length < 100) (lk : ks.length < 64) (e : works[n]? = some (workL nm ks false tab))
    (q : ∀ h' r, Ext h h' → h.length ≤ r → h'[r]? = some (.lst ((calledOf ks false tab).map .int)) → Q (.ref r) h') : Wp (run (d + 9) Pg.f_called_by [.tup [.str "image", .tup works], .int n] h) Q := by
  refine wp_run rfl rfl ?_
  show Ws (evSs ⟨Pg.gl, Pg.gd, run (d + 8)⟩ Pg.b_called_by [some (.tup [.str "image", .tup works]), some (.int n), none, none, none, none, none, none, none, none, none, none, none, none] h) _ _
  unfold Pg.b_called_by
  have a1 : ∀ h, eqL (.str "call") (.str "call") h = some true := fun h => eqL_str (by decide +kernel) (by decide +kernel)
  have a2 : ∀ h, eqL (.str "tell") (.str "call") h = some false := fun h => eqL_str (by decide +kernel) (by decide +kernel)
  simp [atI_nat e, workL, sizeLine]
  refine ws_try ?_
  simp
  refine instructions_good (ks := ks) (fun k m => ⟨(hk k m).1, by have := (hk k m).2; omega⟩) (by omega) rfl fun h1 x1 => ?_
  simp [walkOf]
  have ln : (stps ks ++ [tel ks.length]).length = ks.length + 1 := by simp [stps]
  refine ws_for (stps ks ++ [tel ks.length]) (ClI (.tup [.str "image", .tup works]) (.int n) (.tup [.str "code", .str nm, .int 0, .int 0, .int 1, .tup [], .tup [], .tup (rowOf ks false), .tup [], .tup []]) (.tup (stps ks ++ [tel ks.length])) (some (.str nm)) (some (.int 0)) (some (.int 0)) (some (.int 1)) (some (.tup (rowOf ks false))) h h1.length tab ks) (fun _ _ _ _ => rfl) ?_ ?_ _ 0 _ _ (by omega) (by show _ < 1000000000000 + 0; omega)
    ⟨_, _, _, rfl, x1.len, x1.trans (Ext.app _ _), by simp [callsOf, dkT]⟩
  · rintro i v sl h' ev ⟨x, y, z, rfl, hr, hx, hd⟩
    rcases Nat.lt_or_ge i ks.length with l | l
    · obtain ⟨k, ek⟩ : ∃ k, ks[i]? = some k := ⟨ks[i], List.getElem?_eq_getElem l⟩
      rw [List.getElem?_append_left (by simp [stps]; exact l)] at ev
      simp [stps, ek, stp] at ev
      subst ev
      obtain ⟨h0, h1k⟩ := hk k (List.mem_of_getElem? ek)
      obtain ⟨c, ec, _⟩ := atI_int h0 h1k
      refine ⟨_, _, rfl, ?_⟩
      have ld : ((callsOf tab (ks.take i)).foldl addD []).length < 1000 := by
        have := foldl_addD_len (callsOf tab (ks.take i)) []
        have : (callsOf tab (ks.take i)).length ≤ (ks.take i).length := List.length_filterMap_le _ _
        simp at *
        omega
      simp [a1, h1k, atI_map, ec, put_dk hd ld]
      refine ⟨_, _, _, rfl, hr, hx.set hr _, ?_⟩
      rw [get_set_eq _ hd, List.take_add_one, ek]
      simp [callsOf, ec]
    · have li : i < (stps ks ++ [tel ks.length]).length := (List.getElem?_eq_some_iff.mp ev).1
      have e1 : i = ks.length := by omega
      rw [e1, List.getElem?_append_right (by simp [stps])] at ev
      simp [stps, tel] at ev
      subst ev
      refine ⟨_, _, rfl, ?_⟩
      simp [a2]
      refine ⟨_, _, _, rfl, hr, hx, ?_⟩
      rw [hd, List.take_of_length_le (by omega), List.take_of_length_le (by omega)]
  · rintro sl h' ⟨x, y, z, rfl, hr, hx, hd⟩
    rw [List.take_of_length_le (by omega)] at hd
    have ld : ((callsOf tab ks).foldl addD []).length < 64 := by
      have := foldl_addD_len (callsOf tab ks) []
      have : (callsOf tab ks).length ≤ ks.length := List.length_filterMap_le _ _
      simp at *
      omega
    simp
    rw [sorted_dk hd ld, wo_newL]
    refine ⟨by rw [List.length_map, sortI_len]; show _ ≤ 16777216; omega, ?_⟩
    refine q _ _ (hx.trans (Ext.app _ _)) (hx.len) (get_new _ _)
end Lw
end
section
set_option Elab.async false
set_option linter.all false
set_option autoImplicit false
set_option maxRecDepth 100000
/-! Bytes that are none call nothing; comprehensions in plain words. -/
namespace Lw
open PySem Ly
theorem ws_try_exc {G : Gm} {b su : Ss} {c : Nat} {sl : LS} {h : LH} {N : LS → LH → Prop} {T : L → LH → Prop} {k : Nat} {w : L} {sl1 : LS} {h1 : LH} (e : evSs G b sl h = .exc k w sl1 h1) (ec : k = c) (q : Ws (evSs G su sl1 h1) N T) : Ws (evS G (.tryo b c su) sl h) N T := by
  unfold evS
  rw [e]
  show Ws (if k = c then evSs G su sl1 h1 else .bad) N T
  rw [if_pos ec]
  exact q
theorem called_bad {d : Nat} {works : List L} {nm : Str} {ks tab : List Int} {n : Nat} {h : LH} {Q : L → LH → Prop} (hk : ∀ k ∈ ks, 0 ≤ k ∧ k < tab.length) (lt : tab.length < 100) (lk : ks.length < 64) (e : works[n]? = some (workL nm ks true tab))
    (q : ∀ h' r, Ext h h' → h.length ≤ r → h'[r]? = some (.lst ((calledOf ks true tab).map .int)) → Q (.ref r) h') : Wp (run (d + 9) Pg.f_called_by [.tup [.str "image", .tup works], .int n] h) Q := by
  refine wp_run rfl rfl ?_
  show Ws (evSs ⟨Pg.gl, Pg.gd, run (d + 8)⟩ Pg.b_called_by [some (.tup [.str "image", .tup works]), some (.int n), none, none, none, none, none, none, none, none, none, none, none, none] h) _ _
  unfold Pg.b_called_by
  simp [atI_nat e, workL, sizeLine]
  obtain ⟨c, v, h1, ex, rfl, x1⟩ := instructions_bad (d := d) (xs := [.str "code", .str nm, .int 0, .int 0, .int 1, .tup [], .tup [], .tup (rowOf ks true), .tup [], .tup []]) (ks := ks) (h := h) (fun k m => ⟨(hk k m).1, by have := (hk k m).2; omega⟩) (by omega) rfl
  refine ws_try_exc (k := 0) (w := v) (h1 := h1) (sl1 := [some (.tup [.str "image", .tup works]), some (.int n), some (.tup [.str "code", .str nm, .int 0, .int 0, .int 1, .tup [], .tup [], .tup (rowOf ks true), .tup [], .tup []]), none, some (.str nm), some (.int 0), some (.int 0), some (.int 1), some (.tup (rowOf ks true)), some (.tup (tab.map .int)), none, none, none, none]) ?_ rfl ?_
  · show RS.then (R.st (run (d + 8) Pg.f_instructions [.tup [.str "code", .str nm, .int 0, .int 0, .int 1, .tup [], .tup [], .tup (rowOf ks true), .tup [], .tup []]] h) _ _) _ = _
    rw [ex]
    rfl
  · simp [sizeLine]
    exact q _ _ (x1.trans (Ext.app _ _)) x1.len (get_new _ _)
end Lw
end
section
set_option Elab.async false
set_option linter.all false
set_option autoImplicit false
set_option maxRecDepth 100000
/-! Images; comprehensions in plain words. -/
namespace Lw
open PySem Ly
/-- a work: its name, whom its bytes call by the package's numbers, whether its bytes are none, the package's numbers -/
structure Wk where
  nm : Str
  ks : List Int
  bad : Bool
  tab : List Int
def Wk.calls (w : Wk) : List Int := calledOf w.ks w.bad w.tab
def Wk.l (w : Wk) : L := workL w.nm w.ks w.bad w.tab
def imgL (ws : List Wk) : L := .tup [.str "image", .tup (ws.map Wk.l)]
structure OkW (n : Nat) (w : Wk) : Prop where
  ks : ∀ k ∈ w.ks, 0 ≤ k ∧ k < w.tab.length
  lt : w.tab.length < 100
  lk : w.ks.length < 64
  tab : ∀ c ∈ w.tab, 0 ≤ c ∧ c < n
def OkI (ws : List Wk) : Prop := ws.length < 64 ∧ ∀ w ∈ ws, OkW ws.length w
theorem called {d : Nat} {ws : List Wk} {n : Nat} {w : Wk} {h : LH} {Q : L → LH → Prop} (ok : OkI ws) (e : ws[n]? = some w)
    (q : ∀ h' r, Ext h h' → h.length ≤ r → h'[r]? = some (.lst (w.calls.map .int)) → Q (.ref r) h') : Wp (run (d + 9) Pg.f_called_by [imgL ws, .int n] h) Q := by
  have o := ok.2 w (List.mem_of_getElem? e)
  have e' : (ws.map Wk.l)[n]? = some (workL w.nm w.ks w.bad w.tab) := by rw [List.getElem?_map, e]; rfl
  rcases eb : w.bad with _ | _
  · rw [eb] at e'
    exact called_good o.ks o.lt o.lk e' fun h' r x l g => q h' r x l (by unfold Wk.calls; rw [eb]; exact g)
  · rw [eb] at e'
    exact called_bad o.ks o.lt o.lk e' fun h' r x l g => q h' r x l (by unfold Wk.calls; rw [eb]; exact g)
theorem lc_pure {nx : LH → Nat → Option (Option L)} {tg : L → LS → LH → RS} {c e : LS → LH → R L} {sl : LS} (xs : List L) (h0 : LH) (p : L → Bool) (g : L → L) (lx : xs.length < 1000000)
    (hx : ∀ i h, Ext h0 h → nx h i = some xs[i]?)
    (step : ∀ x h, x ∈ xs → Ext h0 h → ∃ sl1, tg x sl h = .nx sl1 h ∧ Wp (c sl1 h) fun v h2 => v = .bl (p x) ∧ Ext h h2 ∧ (p x = true → Wp (e sl1 h2) fun y h3 => y = g x ∧ Ext h2 h3)) :
    Wp (lcGo nx tg c e sl whileFuel 0 [] h0) fun ys h => ys = (xs.filter p).map g ∧ Ext h0 h := by
  have zl : sizeLine = 16777216 := by decide
  refine wp_lc xs (fun i acc h => acc = ((xs.take i).filter p).map g ∧ Ext h0 h) (fun i acc h w => hx i h w.2) ?_ ?_ (by omega) whileFuel 0 [] h0 (Nat.le_refl _) (Nat.zero_le _) (by show _ < 1000000000000 + 0; omega) ⟨by simp, Ext.refl _⟩
  · rintro i x acc h ex _ ⟨ea, x0⟩
    obtain ⟨sl1, et, w⟩ := step x h (List.mem_of_getElem? ex) x0
    refine ⟨sl1, h, et, w.mono ?_⟩
    rintro v h2 ⟨rfl, x2, w2⟩
    rcases ep : p x with _ | _
    · refine .inr ⟨rfl, ?_, x0.trans x2⟩
      rw [ea, List.take_add_one, ex]
      simp [ep]
    · refine .inl ⟨rfl, (w2 ep).mono ?_⟩
      rintro y h3 ⟨rfl, x3⟩
      refine ⟨?_, x0.trans (x2.trans x3)⟩
      rw [ea, List.take_add_one, ex]
      simp [ep]
  · rintro acc h _ ⟨ea, x0⟩
    rw [List.take_length] at ea
    exact ⟨ea, x0⟩
end Lw
end
section
set_option Elab.async false
set_option linter.all false
set_option autoImplicit false
set_option maxRecDepth 100000
/-! Packages; rows that are lists or tuples. -/
namespace Lw
open PySem Ly
structure Cd where
  nm : Str
  ks : List Int
  bad : Bool
structure Pk where
  codes : List Cd
  uses : List Str
def Cd.l (c : Cd) : L := .tup [.str "code", .str c.nm, .int 0, .int 0, .int 1, .tup [], .tup [], .tup (rowOf c.ks c.bad), .tup [], .tup []]
def useL (u : Str) : L := .tup [.str "contract", .str u, .int 0, .int 0, .tup [], .tup []]
def Pk.l (p : Pk) : L := .tup [.str "package", .tup (p.codes.map Cd.l), .tup (p.uses.map useL), .tup []]
/-- a list or a tuple -/
def Sq (h : LH) (v : L) (xs : List L) : Prop := v = .tup xs ∨ ∃ r, v = .ref r ∧ h[r]? = some (.lst xs)
theorem Sq.ext {h h' : LH} {v : L} {xs : List L} (s : Sq h v xs) (x : Ext h h') : Sq h' v xs := by
  rcases s with e | ⟨r, e, g⟩
  · exact .inl e
  · exact .inr ⟨r, e, x _ _ g⟩
theorem Sq.len {h : LH} {v : L} {xs : List L} (s : Sq h v xs) : bltL .len [v] h = some (.int xs.length, h) := by
  rcases s with rfl | ⟨r, rfl, g⟩
  · exact len_tup
  · exact len_ref g
theorem Sq.idx {h : LH} {v : L} {xs : List L} {i : Int} (s : Sq h v xs) : idxL v (.int i) h = okV (L2.atI xs i) h := by
  rcases s with rfl | ⟨r, rfl, g⟩
  · exact idx_tup
  · exact idx_ref g
theorem enumV_get : ∀ (xs : List L) (k i : Nat), (enumV k xs)[i]? = (xs[i]?).map fun x => .tup [.int (k + i : Nat), x]
  | [], k, i => by simp [enumV]
  | x :: xs, k, 0 => by simp [enumV]
  | x :: xs, k, i + 1 => by
    simp [enumV]
    rw [enumV_get xs (k + 1) i]
    have : k + 1 + i = k + (i + 1) := by omega
    rw [this]
    simp
theorem enumV_len : ∀ (xs : List L) (k : Nat), (enumV k xs).length = xs.length
  | [], _ => rfl
  | x :: xs, k => congrArg (· + 1) (enumV_len xs (k + 1))
theorem wp_enum {h0 h : LH} {v : L} {xs : List L} {Qi : LIt → LH → Prop} (s : Sq h0 v xs) (x0 : Ext h0 h) (q : ∀ w, (∀ i h', Ext h0 h' → w.at h' i = some (enumV 0 xs)[i]?) → Qi w h) : Wp (enumL v h) Qi := by
  rcases s with rfl | ⟨r, rfl, g⟩
  · exact q _ fun _ _ _ => rfl
  · simp [enumL, x0 _ _ g]
    refine q _ fun i h' x => ?_
    simp [LIt.at, lstO, x _ _ g, enumV_get]
theorem wo_walk {h0 h : LH} {v : L} {xs : List L} {Q : LIt → Prop} (s : Sq h0 v xs) (x0 : Ext h0 h) (q : ∀ w, (∀ i h', Ext h0 h' → w.at h' i = some xs[i]?) → Q w) : Wo (walkOf v h) Q := by
  rcases s with rfl | ⟨r, rfl, g⟩
  · exact q _ fun _ _ _ => rfl
  · simp [walkOf, x0 _ _ g]
    refine q _ fun i h' x => ?_
    simp [LIt.at, lstO, x _ _ g]
theorem ext_ref {h : LH} {r q : Nat} {xs ys : List L} (e : h[r]? = some (.lst xs)) (e' : h[q]? = some (.lst ys)) (l : xs.length + ys.length ≤ sizeLine) : methL .extend (.ref r) [.ref q] h = some (.non, h.set r (.lst (xs ++ ys))) := by
  simp [methL, e, e', extO, l]
end Lw
end
section
set_option Elab.async false
set_option linter.all false
set_option autoImplicit false
set_option maxRecDepth 100000
/-! All works of packages, in sequence. -/
namespace Lw
open PySem Ly
def entL (n : Nat) (c : Cd) : L := .tup [.str c.nm, .int n, c.l]
def entsF : Nat → List Pk → List L
  | _, [] => []
  | n, p :: ps => p.codes.map (entL n) ++ entsF (n + 1) ps
theorem entsF_take : ∀ (ps : List Pk) (n i : Nat) (p : Pk), ps[i]? = some p → entsF n (ps.take (i + 1)) = entsF n (ps.take i) ++ p.codes.map (entL (n + i))
  | [], _, _, _, e => by simp at e
  | q :: ps, n, 0, p, e => by
    simp at e
    subst e
    simp [entsF]
  | q :: ps, n, i + 1, p, e => by
    have := entsF_take ps (n + 1) i p (by simpa using e)
    simp only [List.take_succ_cons, entsF] at this ⊢
    rw [this, List.append_assoc]
    have : n + 1 + i = n + (i + 1) := by omega
    rw [this]
theorem entsF_len : ∀ (ps : List Pk) (n : Nat), (∀ p ∈ ps, p.codes.length < 100) → (entsF n ps).length ≤ 100 * ps.length
  | [], _, _ => Nat.zero_le _
  | p :: ps, n, o => by
    have := entsF_len ps (n + 1) fun q m => o q (List.mem_cons_of_mem _ m)
    have := o p List.mem_cons_self
    simp [entsF]
    omega
theorem works_of {d : Nat} {ps : List Pk} {v : L} {h : LH} {Q : L → LH → Prop} (s : Sq h v (ps.map Pk.l)) (lp : ps.length < 100) (lc : ∀ p ∈ ps, p.codes.length < 100)
    (q : ∀ h' r, Ext h h' → h.length ≤ r → h'[r]? = some (.lst (entsF 0 ps)) → Q (.ref r) h') : Wp (run (d + 1) Pg.f_works_of [v] h) Q := by
  refine wp_run rfl rfl ?_
  show Ws (evSs ⟨Pg.gl, Pg.gd, run d⟩ Pg.b_works_of [some v, none, none, none, none] h) _ _
  unfold Pg.b_works_of
  have zl : sizeLine = 16777216 := by decide
  simp [zl]
  refine wp_enum s (Ext.app _ _) fun w hw => ?_
  refine ws_for (enumV 0 (ps.map Pk.l)) (fun i sl h' => ∃ a b c, sl = [some v, some (.ref h.length), a, b, c] ∧ Ext h h' ∧ h'[h.length]? = some (.lst (entsF 0 (ps.take i)))) ?_ ?_ ?_ whileFuel 0 _ _ (by omega) (by show _ < 1000000000000 + 0; rw [enumV_len]; simp; omega) ⟨_, _, _, rfl, Ext.app _ _, by simp [entsF]⟩
  · rintro i sl h' ⟨_, _, _, rfl, x, _⟩
    exact hw i h' x
  · rintro i x sl h' e ⟨_, _, _, rfl, x0, g⟩
    rw [enumV_get] at e
    cases ep : ps[i]? with
    | none => simp [ep] at e
    | some p =>
      simp [ep] at e
      subst e
      have mp := List.mem_of_getElem? ep
      refine ⟨_, _, rfl, ?_⟩
      simp [lst_ref g, Pk.l]
      simp [walkOf]
      refine Wp.mono (lc_pure (p.codes.map Cd.l) h' (fun _ => true) (fun x => (match x with | .tup (_ :: m :: _) => .tup [m, .int i, x] | _ => .non)) (by have := lc p mp; simp; omega) (fun _ _ _ => rfl) ?_) ?_
      · rintro x h1 hx x1
        obtain ⟨c, hc, rfl⟩ := List.mem_map.mp hx
        refine ⟨_, rfl, ?_⟩
        simp [Cd.l, zl, Ext.refl, wipeL]
      · rintro ys h1 ⟨rfl, x1⟩
        have ll := entsF_len (ps.take i) 0 fun q m => lc q (List.mem_of_mem_take m)
        have l2 := lc p mp
        have g1 := x1 _ _ g
        have ft : (p.codes.map Cd.l).filter (fun _ => true) = p.codes.map Cd.l := List.filter_eq_self.mpr fun _ _ => rfl
        have lt : i < ps.length := (List.getElem?_eq_some_iff.mp ep).1
        have tl : (ps.take i).length = i := by simp; omega
        rw [tl] at ll
        rw [ft, List.map_map]
        rw [ext_ref (Ext.app _ _ _ _ g1) (get_new _ _) (by rw [List.length_map]; omega)]
        rw [wo_some]
        refine ⟨?_, ?_⟩
        · exact (x0.trans (x1.trans (Ext.app _ _))).set (Nat.le_refl _) _
        · rw [entsF_take ps 0 i p ep]
          refine (get_set_eq _ (Ext.app _ _ _ _ g1)).trans ?_
          simp [entL, Cd.l]
  · rintro sl h' ⟨_, _, _, rfl, x0, g⟩
    rw [enumV_len, List.length_map, List.take_length] at g
    simp
    exact q _ _ x0 (Nat.le_refl _) g
end Lw
end
section
set_option Elab.async false
set_option linter.all false
set_option autoImplicit false
set_option maxRecDepth 100000
/-! Places by name, of like names the first. -/
namespace Lw
open PySem Ly
def fIx (x : Str) : List Str → Option Nat
  | [] => none
  | y :: ys => if y = x then some 0 else (fIx x ys).map (· + 1)
theorem fIx_snoc (x y : Str) : ∀ xs : List Str, fIx x (xs ++ [y]) = match fIx x xs with
    | some j => some j
    | none => if y = x then some xs.length else none
  | [] => by
    by_cases q : y = x <;> simp [fIx, q]
  | z :: xs => by
    by_cases q : z = x
    · simp [fIx, q]
    · have := fIx_snoc x y xs
      simp only [List.cons_append, fIx, q, if_false, this]
      cases fIx x xs with
      | some j => rfl
      | none => by_cases q2 : y = x <;> simp [q2]
theorem fIx_lt {x : Str} : ∀ {xs : List Str} {j : Nat}, fIx x xs = some j → xs[j]? = some x
  | [], j, e => by cases e
  | y :: xs, j, e => by
    by_cases q : y = x
    · simp [fIx, q] at e
      subst e
      simp [q]
    · simp [fIx, q] at e
      obtain ⟨i, hi, rfl⟩ := e
      simpa using fIx_lt hi
theorem fIx_none {x : Str} : ∀ {xs : List Str}, fIx x xs = none ↔ x ∉ xs
  | [] => by simp [fIx]
  | y :: xs => by
    by_cases q : y = x
    · simp [fIx, q]
    · have := fIx_none (x := x) (xs := xs)
      have q' : x ≠ y := fun e => q e.symm
      rw [fIx, if_neg q, Option.map_eq_none_iff, this, List.mem_cons, not_or]
      exact ⟨fun m => ⟨q', m⟩, fun m => m.2⟩
theorem valK_app {α : Type} (kvs : List (L2.Key × α)) (k k' : L2.Key) (v : α) : valK (kvs ++ [(k, v)]) k' = match valK kvs k' with
    | some u => some u
    | none => if k = k' then some v else none := by
  unfold valK
  rw [List.find?_append]
  cases kvs.find? fun kv => decide (kv.1 = k') with
  | some u => rfl
  | none => by_cases q : k = k' <;> simp [q]
theorem putD_new {α : Type} (kvs : List (L2.Key × α)) (k : L2.Key) (v : α) (e : valK kvs k = none) : putD kvs k v = kvs ++ [(k, v)] := by
  unfold putD
  rw [if_neg]
  intro h
  obtain ⟨kv, m, q⟩ := List.any_eq_true.mp h
  unfold valK at e
  rw [Option.map_eq_none_iff, List.find?_eq_none] at e
  exact e kv m q
end Lw
end
section
set_option Elab.async false
set_option linter.all false
set_option autoImplicit false
set_option maxRecDepth 100000
/-! places_by_name -/
namespace Lw
open PySem Ly
def entsN : Nat → List Pk → List (Nat × Cd)
  | _, [] => []
  | n, p :: ps => p.codes.map (fun c => (n, c)) ++ entsN (n + 1) ps
theorem entsF_N : ∀ (ps : List Pk) (n : Nat), entsF n ps = (entsN n ps).map fun e => entL e.1 e.2
  | [], _ => rfl
  | p :: ps, n => by
    simp [entsF, entsN, entsF_N ps (n + 1)]
def namesOf (ps : List Pk) : List Str := (entsN 0 ps).map (·.2.nm)
structure OkP (ps : List Pk) : Prop where
  lp : ps.length < 100
  lc : ∀ p ∈ ps, p.codes.length < 100
theorem entsN_len {ps : List Pk} (o : OkP ps) : (entsN 0 ps).length < 10000 := by
  have := entsF_len ps 0 o.lc
  have e := congrArg List.length (entsF_N ps 0)
  rw [List.length_map] at e
  have := o.lp
  omega
def PlD (nms : List Str) (kvs : List (L2.Key × L)) : Prop := (∀ x, valK kvs (.inr x) = (fIx x nms).map fun j : Nat => L.int (j : Int)) ∧ kvs.length ≤ nms.length
theorem in_dk {h : LH} {r : Nat} {kvs : List (L2.Key × L)} {x : Str} (e : h[r]? = some (.dk kvs)) : inL (.str x) (.ref r) h = some (valK kvs (.inr x)).isSome := by
  simp [inL, seqAt, lstAt, e, L.key]
theorem enl_at {h : LH} {r i : Nat} {xs : List L} (g : h[r]? = some (.lst xs)) : (LIt.enl r).at h i = some (enumV 0 xs)[i]? := by
  simp [LIt.at, lstO, g, enumV_get]
theorem lst_at {h : LH} {r i : Nat} {xs : List L} (g : h[r]? = some (.lst xs)) : (LIt.lst r).at h i = some xs[i]? := by
  simp [LIt.at, lstO, g]
theorem enum_ref {h : LH} {r : Nat} {xs : List L} (g : h[r]? = some (.lst xs)) : enumL (.ref r) h = .ok (.enl r) h := by
  simp [enumL, g]
theorem walk_ref {h : LH} {r : Nat} {xs : List L} (g : h[r]? = some (.lst xs)) : walkOf (.ref r) h = some (.lst r) := by
  simp [walkOf, g]
theorem put_new {h : LH} {r : Nat} {kvs : List (L2.Key × L)} {x : Str} {v : L} (e : h[r]? = some (.dk kvs)) (l : kvs.length < sizeLine) (n : valK kvs (.inr x) = none) : putL (.ref r) (.str x) v h = some (h.set r (.dk (kvs ++ [(.inr x, v)]))) := by
  simp [putL, putO, e, putK', L.key, putD_new _ _ _ n, l]
theorem places_by_name {d : Nat} {ps : List Pk} {v : L} {h : LH} {Q : L → LH → Prop} (s : Sq h v (ps.map Pk.l)) (o : OkP ps)
    (q : ∀ h' r kvs, Ext h h' → h.length ≤ r → h'[r]? = some (.dk kvs) → PlD (namesOf ps) kvs → Q (.ref r) h') : Wp (run (d + 2) Pg.f_places_by_name [v] h) Q := by
  refine wp_run rfl rfl ?_
  show Ws (evSs ⟨Pg.gl, Pg.gd, run (d + 1)⟩ Pg.b_places_by_name [some v, none, none, none, none, none] h) _ _
  unfold Pg.b_places_by_name
  have zl : sizeLine = 16777216 := by decide
  have el := entsN_len o
  simp
  refine works_of (s.ext (Ext.app _ _)) o.lp o.lc fun h1 r1 x1 l1 g1 => ?_
  have hn : h1[h.length]? = some (.dk []) := x1 _ _ (get_new _ _)
  simp at l1
  have ne : h.length ≠ r1 := by omega
  rw [enum_ref g1, wp_ok]
  refine ws_for (enumV 0 (entsF 0 ps)) (fun i sl h' => ∃ a b c e kvs, sl = [some v, some (.ref h.length), a, b, c, e] ∧ Ext h h' ∧ h'[r1]? = some (.lst (entsF 0 ps)) ∧ h'[h.length]? = some (.dk kvs) ∧ PlD ((namesOf ps).take i) kvs) ?_ ?_ ?_ whileFuel 0 _ _ (by omega) ?_ ?_
  · rintro i sl h' ⟨_, _, _, _, _, rfl, x, g, _⟩
    exact enl_at g
  · rintro i x sl h' e ⟨_, _, _, _, kvs, rfl, x0, g, gd, pl, ll⟩
    rw [enumV_get, entsF_N] at e
    rw [List.getElem?_map] at e
    cases ec : (entsN 0 ps)[i]? with
    | none => simp [ec] at e
    | some m =>
      obtain ⟨n, c⟩ := m
      simp [ec] at e
      subst e
      have en : (namesOf ps)[i]? = some c.nm := by simp [namesOf, ec]
      have li : i < (namesOf ps).length := (List.getElem?_eq_some_iff.mp en).1
      have ln : (namesOf ps).length < 10000 := by simpa [namesOf] using el
      have lk : kvs.length < sizeLine := by
        simp at ll
        omega
      refine ⟨_, _, rfl, ?_⟩
      simp [in_dk gd]
      rw [pl c.nm]
      cases ef : fIx c.nm ((namesOf ps).take i) with
      | some j =>
        simp
        refine ⟨x0, g, kvs, gd, fun x => ?_, ?_⟩
        · rw [pl x, List.take_add_one, en]
          show _ = (fIx x (_ ++ [c.nm])).map _
          rw [fIx_snoc]
          by_cases qx : c.nm = x
          · subst qx
            rw [ef]
          · cases fIx x ((namesOf ps).take i) <;> simp [qx]
        · simp at ll ⊢
          omega
      | none =>
        simp
        have nn : valK kvs (.inr c.nm) = none := by rw [pl, ef]; rfl
        rw [put_new gd lk nn]
        rw [wo_some]
        refine ⟨x0.set (Nat.le_refl _) _, get_set_ne _ g ne, _, get_set_eq _ gd, fun x => ?_, ?_⟩
        · rw [valK_app, pl x, List.take_add_one, en]
          show _ = (fIx x (_ ++ [c.nm])).map _
          rw [fIx_snoc]
          cases ex : fIx x ((namesOf ps).take i) with
          | some j => rfl
          | none =>
            have tl : ((namesOf ps).take i).length = i := by simp; omega
            by_cases qx : c.nm = x
            · simp [qx, tl]
            · simp [qx]
        · simp at ll ⊢
          omega
  · rintro sl h' ⟨_, _, _, _, kvs, rfl, x0, g, gd, pl⟩
    rw [enumV_len, entsF_N, List.length_map] at pl
    rw [List.take_of_length_le (by simp [namesOf])] at pl
    simp
    exact q _ _ kvs x0 (Nat.le_refl _) gd pl
  · rw [enumV_len, entsF_N, List.length_map]
    show _ < 1000000000000 + 0
    omega
  · exact ⟨_, _, _, _, [], rfl, (Ext.app _ _).trans x1, g1, hn, fun x => by simp [valK, fIx], by simp⟩
end Lw
end
section
set_option Elab.async false
set_option linter.all false
set_option autoImplicit false
set_option maxRecDepth 100000
/-! firsts_of, calls_of -/
namespace Lw
open PySem Ly
def cum (ps : List Pk) (i : Nat) : Nat := ((ps.take i).map (·.codes.length)).sum
theorem cum_succ {ps : List Pk} {i : Nat} {p : Pk} (e : ps[i]? = some p) : cum ps (i + 1) = cum ps i + p.codes.length := by
  unfold cum
  rw [List.take_add_one, e]
  simp
theorem firsts_of {d : Nat} {ps : List Pk} {v : L} {h : LH} {Q : L → LH → Prop} (s : Sq h v (ps.map Pk.l)) (o : OkP ps)
    (q : ∀ h' r, Ext h h' → h.length ≤ r → h'[r]? = some (.lst ((List.range ps.length).map fun i => .int (cum ps i : Nat))) → Q (.ref r) h') : Wp (run (d + 1) Pg.f_firsts_of [v] h) Q := by
  refine wp_run rfl rfl ?_
  show Ws (evSs ⟨Pg.gl, Pg.gd, run d⟩ Pg.b_firsts_of [some v, none, none, none] h) _ _
  unfold Pg.b_firsts_of
  have zl : sizeLine = 16777216 := by decide
  have lp := o.lp
  simp [zl]
  refine wo_walk s (Ext.app _ _) fun w hw => ?_
  refine ws_for (ps.map Pk.l) (fun i sl h' => ∃ a, sl = [some v, a, some (.ref h.length), some (.int (cum ps i : Nat))] ∧ Ext h h' ∧ h'[h.length]? = some (.lst ((List.range i).map fun i => .int (cum ps i : Nat)))) ?_ ?_ ?_ whileFuel 0 _ _ (by omega) (by show _ < 1000000000000 + 0; simp; omega) ⟨_, rfl, Ext.app _ _, by simp⟩
  · rintro i sl h' ⟨_, rfl, x, _⟩
    exact hw i h' x
  · rintro i x sl h' e ⟨_, rfl, x0, g⟩
    cases ep : ps[i]? with
    | none => simp [ep] at e
    | some p =>
      simp [ep] at e
      subst e
      have li : i < ps.length := (List.getElem?_eq_some_iff.mp ep).1
      refine ⟨_, _, rfl, ?_⟩
      simp [lst_ref g]
      rw [app_ref g (by simp; omega), wo_some]
      simp [Pk.l]
      refine ⟨?_, x0.set (Nat.le_refl _) _, ?_⟩
      · rw [cum_succ ep]
        simp
      · rw [get_set_eq _ g]
        simp [List.range_succ]
  · rintro sl h' ⟨_, rfl, x0, g⟩
    rw [List.length_map] at g
    simp
    exact q _ _ x0 (Nat.le_refl _) g
end Lw
end
section
set_option Elab.async false
set_option linter.all false
set_option autoImplicit false
/-! Graphs of calls, in plain words. -/
namespace Lw
def rngI (n : Nat) : List Int := (List.range n).map fun i : Nat => (i : Int)
theorem mem_rngI {n : Nat} {x : Int} : x ∈ rngI n ↔ 0 ≤ x ∧ x < n := by
  unfold rngI
  rw [List.mem_map]
  constructor
  · rintro ⟨i, m, rfl⟩
    have := List.mem_range.mp m
    omega
  · rintro ⟨a, b⟩
    exact ⟨x.toNat, List.mem_range.mpr (by omega), by omega⟩
theorem rngI_len (n : Nat) : (rngI n).length = n := by simp [rngI]
theorem rngI_nodup (n : Nat) : (rngI n).Nodup := by
  unfold rngI
  refine List.Pairwise.map _ ?_ List.nodup_range
  intro a b h e
  exact h (by omega)
theorem len_le_of_sub {α : Type} [DecidableEq α] : ∀ (l m : List α), l.Nodup → (∀ x ∈ l, x ∈ m) → l.length ≤ m.length
  | [], m, _, _ => Nat.zero_le _
  | x :: l, m, n, s => by
    have n' := List.nodup_cons.mp n
    have := len_le_of_sub l (m.erase x) n'.2 fun y hy => (List.mem_erase_of_ne (fun e : y = x => n'.1 (e ▸ hy))).mpr (s y (List.mem_cons_of_mem _ hy))
    have mx := s x List.mem_cons_self
    have := List.length_erase_of_mem mx
    have := List.length_pos_of_mem mx
    simp
    omega
theorem len_le_rng {l : List Int} {n : Nat} (d : l.Nodup) (s : ∀ x ∈ l, 0 ≤ x ∧ x < n) : l.length ≤ n := by
  have := len_le_of_sub l (rngI n) d fun x m => mem_rngI.mpr (s x m)
  rwa [rngI_len] at this
def cl (cs : List (List Int)) (i : Int) : List Int := (cs[i.toNat]?).getD []
/-- each calls numbers that are there -/
def Wf (cs : List (List Int)) : Prop := ∀ x, ∀ y ∈ cl cs x, 0 ≤ y ∧ y < cs.length
def ready (cs : List (List Int)) (f : List Int) (i : Int) : Bool := !decide (i ∈ f) && (cl cs i).all fun j => decide (j ∈ f)
def free (cs : List (List Int)) (f : List Int) : List Int := (rngI cs.length).filter (ready cs f)
def tstep (cs : List (List Int)) (f : List Int) : List Int := f ++ (free cs f).take 1
def turnK (cs : List (List Int)) : Nat → List Int → List Int
  | 0, f => f
  | k + 1, f => turnK cs k (tstep cs f)
theorem turnK_add (cs : List (List Int)) : ∀ (k m : Nat) (f : List Int), turnK cs (k + m) f = turnK cs m (turnK cs k f)
  | 0, m, f => by simp [turnK]
  | k + 1, m, f => by
    rw [Nat.add_right_comm]
    exact turnK_add cs k m (tstep cs f)
theorem turnK_stop {cs : List (List Int)} {f : List Int} (e : free cs f = []) : ∀ m, turnK cs m f = f
  | 0 => rfl
  | m + 1 => by
    have : tstep cs f = f := by simp [tstep, e]
    show turnK cs m (tstep cs f) = f
    rw [this]
    exact turnK_stop e m
structure Inv (cs : List (List Int)) (f : List Int) : Prop where
  nd : f.Nodup
  rg : ∀ x ∈ f, 0 ≤ x ∧ x < cs.length
  bh : ∀ a x b, f = a ++ x :: b → ∀ y ∈ cl cs x, y ∈ a
theorem Inv.nil {cs : List (List Int)} : Inv cs [] := ⟨List.nodup_nil, (fun _ m => nomatch m), fun a x b e => by simp at e⟩
theorem Inv.len {cs : List (List Int)} {f : List Int} (i : Inv cs f) : f.length ≤ cs.length := len_le_rng i.nd i.rg
theorem mem_free {cs : List (List Int)} {f : List Int} {x : Int} : x ∈ free cs f ↔ (0 ≤ x ∧ x < cs.length) ∧ x ∉ f ∧ ∀ y ∈ cl cs x, y ∈ f := by
  unfold free ready
  rw [List.mem_filter, mem_rngI]
  simp
theorem Inv.step {cs : List (List Int)} {f : List Int} (i : Inv cs f) : Inv cs (tstep cs f) := by
  unfold tstep
  cases e : free cs f with
  | nil => simpa using i
  | cons x r =>
    have m : x ∈ free cs f := by rw [e]; exact List.mem_cons_self
    obtain ⟨rg, nx, al⟩ := mem_free.mp m
    simp only [List.take_succ_cons, List.take_zero]
    refine ⟨?_, ?_, ?_⟩
    · rw [List.nodup_append]
      refine ⟨i.nd, by simp, ?_⟩
      intro a ha b hb q
      simp at hb
      subst hb
      subst q
      exact nx ha
    · intro y hy
      rcases List.mem_append.mp hy with h | h
      · exact i.rg y h
      · simp at h
        subst h
        exact rg
    · intro a y b e y' hy'
      rcases List.eq_nil_or_concat b with rfl | ⟨b', z, rfl⟩
      · have := List.append_inj' e rfl
        obtain ⟨rfl, e2⟩ := this
        simp at e2
        subst e2
        exact al _ hy'
      · have e' : f ++ [x] = (a ++ y :: b') ++ [z] := by simpa using e
        have := List.append_inj' e' rfl
        exact i.bh a y b' this.1 y' hy'
theorem inv_turn {cs : List (List Int)} : ∀ (k : Nat) (f : List Int), Inv cs f → Inv cs (turnK cs k f)
  | 0, _, i => i
  | k + 1, f, i => inv_turn k _ i.step
theorem turnK_succ (cs : List (List Int)) (k : Nat) (f : List Int) : turnK cs (k + 1) f = tstep cs (turnK cs k f) := turnK_add cs k 1 f
theorem tstep_len {cs : List (List Int)} {f : List Int} (n : free cs f ≠ []) : (tstep cs f).length = f.length + 1 := by
  unfold tstep
  cases e : free cs f with
  | nil => exact (n e).elim
  | cons x r => simp
theorem turn_or {cs : List (List Int)} : ∀ k, free cs (turnK cs k []) = [] ∨ (turnK cs k []).length = k
  | 0 => .inr rfl
  | k + 1 => by
    rw [turnK_succ]
    by_cases e : free cs (turnK cs k []) = []
    · have : tstep cs (turnK cs k []) = turnK cs k [] := by simp [tstep, e]
      rw [this]
      exact .inl e
    · rcases turn_or (cs := cs) k with h | h
      · exact (e h).elim
      · exact .inr (by rw [tstep_len e, h])
def turn (cs : List (List Int)) : List Int := turnK cs cs.length []
theorem turn_inv (cs : List (List Int)) : Inv cs (turn cs) := inv_turn _ _ .nil
theorem turn_free (cs : List (List Int)) : free cs (turn cs) = [] := by
  rcases turn_or (cs := cs) cs.length with h | h
  · exact h
  · by_cases e : free cs (turn cs) = []
    · exact e
    · have := tstep_len e
      have l := (turn_inv cs).step.len
      unfold turn at *
      omega
/-- the program's turns: as many as are placed -/
theorem turn_of_stop {cs : List (List Int)} {k : Nat} (l : k ≤ cs.length) (e : free cs (turnK cs k []) = []) : turnK cs k [] = turn cs := by
  have : cs.length = k + (cs.length - k) := by omega
  unfold turn
  rw [this, turnK_add, turnK_stop e]
def leftI (cs : List (List Int)) : List Int := (rngI cs.length).filter fun i => !decide (i ∈ turn cs)
theorem mem_left {cs : List (List Int)} {x : Int} : x ∈ leftI cs ↔ (0 ≤ x ∧ x < cs.length) ∧ x ∉ turn cs := by
  unfold leftI
  rw [List.mem_filter, mem_rngI]
  simp
theorem left_next {cs : List (List Int)} (w : Wf cs) {x : Int} (m : x ∈ leftI cs) : ∃ y ∈ cl cs x, y ∈ leftI cs := by
  obtain ⟨r, n⟩ := mem_left.mp m
  have nf : x ∉ free cs (turn cs) := by rw [turn_free]; simp
  rw [mem_free] at nf
  have : ¬ ∀ y ∈ cl cs x, y ∈ turn cs := fun a => nf ⟨r, n, a⟩
  simp only [Classical.not_forall] at this
  obtain ⟨y, hy, ny⟩ := this
  exact ⟨y, hy, mem_left.mpr ⟨w x y hy, ny⟩⟩
theorem left_nil {cs : List (List Int)} : leftI cs = [] ↔ (turn cs).length = cs.length := by
  constructor
  · intro e
    have h1 := (turn_inv cs).len
    have h2 := len_le_of_sub (rngI cs.length) (turn cs) (rngI_nodup _) fun x m => by
      by_cases q : x ∈ turn cs
      · exact q
      · have : x ∈ leftI cs := mem_left.mpr ⟨mem_rngI.mp m, q⟩
        rw [e] at this
        cases this
    rw [rngI_len] at h2
    omega
  · intro e
    cases c : leftI cs with
    | nil => rfl
    | cons x r =>
      have m : x ∈ leftI cs := by rw [c]; exact List.mem_cons_self
      obtain ⟨rg, n⟩ := mem_left.mp m
      have : (x :: turn cs).length ≤ cs.length := len_le_rng (List.nodup_cons.mpr ⟨n, (turn_inv cs).nd⟩) fun y hy => by
        rcases List.mem_cons.mp hy with rfl | h
        · exact rg
        · exact (turn_inv cs).rg y h
      simp at this
      omega
theorem mem_turn {cs : List (List Int)} (e : leftI cs = []) {x : Int} (h : 0 ≤ x ∧ x < cs.length) : x ∈ turn cs := by
  by_cases q : x ∈ turn cs
  · exact q
  · have : x ∈ leftI cs := mem_left.mpr ⟨h, q⟩
    rw [e] at this
    cases this
/-! ### rings -/
def nexts (cs : List (List Int)) (x : Int) : List Int := (cl cs x).filter fun y => decide (y ∈ leftI cs)
def nxt (cs : List (List Int)) (x : Int) : Int := (nexts cs x).headD 0
theorem nxt_mem {cs : List (List Int)} (w : Wf cs) {x : Int} (m : x ∈ leftI cs) : ∃ r, nexts cs x = nxt cs x :: r := by
  obtain ⟨y, hy, ly⟩ := left_next w m
  have : y ∈ nexts cs x := by
    unfold nexts
    rw [List.mem_filter]
    exact ⟨hy, by simpa using ly⟩
  cases c : nexts cs x with
  | nil => rw [c] at this; cases this
  | cons z r => exact ⟨r, by simp [nxt, c]⟩
theorem nxt_in {cs : List (List Int)} (w : Wf cs) {x : Int} (m : x ∈ leftI cs) : nxt cs x ∈ cl cs x ∧ nxt cs x ∈ leftI cs := by
  obtain ⟨r, e⟩ := nxt_mem w m
  have : nxt cs x ∈ nexts cs x := by rw [e]; exact List.mem_cons_self
  unfold nexts at this
  rw [List.mem_filter] at this
  exact ⟨this.1, by simpa using this.2⟩
def ixI (x : Int) : List Int → Nat
  | [] => 0
  | y :: ys => if y = x then 0 else ixI x ys + 1
theorem ixI_get {x : Int} : ∀ {l : List Int}, x ∈ l → l[ixI x l]? = some x
  | [], m => by cases m
  | y :: ys, m => by
    by_cases q : y = x
    · simp [ixI, q]
    · have : x ∈ ys := by
        rcases List.mem_cons.mp m with e | h
        · exact (q e.symm).elim
        · exact h
      simp [ixI, q]
      exact ixI_get this
def mnI : List Int → Int
  | [] => 0
  | [x] => x
  | x :: xs => let m := mnI xs; if m < x then m else x
theorem mnI_mem : ∀ (l : List Int), l ≠ [] → mnI l ∈ l
  | [], n => (n rfl).elim
  | [x], _ => by simp [mnI]
  | x :: y :: l, _ => by
    have := mnI_mem (y :: l) (by simp)
    show (if mnI (y :: l) < x then mnI (y :: l) else x) ∈ _
    by_cases q : mnI (y :: l) < x
    · rw [if_pos q]
      exact List.mem_cons_of_mem _ this
    · rw [if_neg q]
      exact List.mem_cons_self
theorem mnI_sorted : ∀ (l : List Int) (x : Int), List.Pairwise (· < ·) (x :: l) → mnI (x :: l) = x
  | [], x, _ => rfl
  | y :: l, x, p => by
    have p' := List.pairwise_cons.mp p
    have := mnI_sorted l y p'.2
    show (if mnI (y :: l) < x then mnI (y :: l) else x) = x
    have := p'.1 y List.mem_cons_self
    rw [if_neg (by omega)]
def rot (l : List Int) : List Int := l.drop (ixI (mnI l) l) ++ l.take (ixI (mnI l) l)
def lastI (l : List Int) : Int := l.getLast?.getD 0
theorem lastI_snoc (l : List Int) (x : Int) : lastI (l ++ [x]) = x := by simp [lastI]
theorem lastI_mem {l : List Int} (n : l ≠ []) : lastI l ∈ l := by
  rcases List.eq_nil_or_concat l with rfl | ⟨r, x, rfl⟩
  · exact (n rfl).elim
  · rw [List.concat_eq_append, lastI_snoc]
    simp
def ringK (cs : List (List Int)) : Nat → List Int → Option (List Int)
  | 0, _ => none
  | k + 1, row => if nxt cs (lastI row) ∈ row then some (rot (row.drop (ixI (nxt cs (lastI row)) row))) else ringK cs k (row ++ [nxt cs (lastI row)])
def Chn (cs : List (List Int)) : List Int → Prop
  | [] => True
  | [_] => True
  | a :: b :: l => b ∈ cl cs a ∧ Chn cs (b :: l)
theorem chn_app {cs : List (List Int)} : ∀ (l m : List Int), Chn cs (l ++ m) ↔ Chn cs l ∧ Chn cs m ∧ ∀ x ∈ l.getLast?, ∀ y ∈ m.head?, y ∈ cl cs x
  | [], m => by simp [Chn]
  | [a], [] => by simp [Chn]
  | [a], b :: m => by
    simp [Chn]
    exact ⟨fun h => ⟨h.2, h.1⟩, fun h => ⟨h.2, h.1⟩⟩
  | a :: b :: l, m => by
    have := chn_app (cs := cs) (b :: l) m
    simp only [List.cons_append, Chn] at this ⊢
    rw [this, List.getLast?_cons_cons]
    exact ⟨fun h => ⟨⟨h.1, h.2.1⟩, h.2.2.1, h.2.2.2⟩, fun h => ⟨h.1.1, h.1.2, h.2.1, h.2.2⟩⟩
theorem chn_drop {cs : List (List Int)} {l : List Int} (c : Chn cs l) (n : Nat) : Chn cs (l.drop n) := by
  have := (chn_app (cs := cs) (l.take n) (l.drop n)).mp (by rw [List.take_append_drop]; exact c)
  exact this.2.1
structure RowI (cs : List (List Int)) (row : List Int) : Prop where
  nd : row.Nodup
  ls : ∀ x ∈ row, x ∈ leftI cs
  ne : row ≠ []
  ch : Chn cs row
theorem RowI.last {cs : List (List Int)} {row : List Int} (i : RowI cs row) : lastI row ∈ row := lastI_mem i.ne
theorem RowI.step {cs : List (List Int)} {row : List Int} (w : Wf cs) (i : RowI cs row) (n : nxt cs (lastI row) ∉ row) : RowI cs (row ++ [nxt cs (lastI row)]) := by
  have m := nxt_in w (i.ls _ i.last)
  refine ⟨?_, ?_, by simp, ?_⟩
  · rw [List.nodup_append]
    refine ⟨i.nd, by simp, ?_⟩
    intro a ha b hb e
    simp at hb
    subst hb
    subst e
    exact n ha
  · intro x hx
    rcases List.mem_append.mp hx with h | h
    · exact i.ls x h
    · simp at h
      subst h
      exact m.2
  · rw [chn_app]
    refine ⟨i.ch, trivial, ?_⟩
    intro x hx y hy
    simp at hy
    subst hy
    have : lastI row = x := by
      have hx : row.getLast? = some x := hx
      unfold lastI
      rw [hx]
      rfl
    rw [← this]
    exact m.1
theorem RowI.len {cs : List (List Int)} {row : List Int} (i : RowI cs row) : row.length ≤ cs.length := len_le_rng i.nd fun x m => (mem_left.mp (i.ls x m)).1
/-- each calls the next one, the last the first -/
def Cyc (cs : List (List Int)) (l : List Int) : Prop := ∀ x y, l.getLast? = some x → l.head? = some y → Chn cs l ∧ y ∈ cl cs x
theorem cyc_rot {cs : List (List Int)} (a b : List Int) (c : Cyc cs (a ++ b)) : Cyc cs (b ++ a) := by
  rcases List.eq_nil_or_concat a with rfl | ⟨a', xa, rfl⟩
  · simpa using c
  cases b with
  | nil => simpa using c
  | cons yb b =>
    intro x y hx hy
    rw [List.concat_eq_append] at hx hy c ⊢
    rw [← List.append_assoc] at hx
    simp only [List.getLast?_concat, Option.some.injEq] at hx
    simp only [List.cons_append, List.head?_cons, Option.some.injEq] at hy
    subst hx hy
    have := c ((yb :: b).getLast (by simp)) ((a' ++ [xa]).head (by simp)) (by rw [List.getLast?_append]; simp [List.getLast?_eq_some_getLast]) (by rw [List.head?_append]; simp [List.head?_eq_some_head])
    obtain ⟨ch, nx⟩ := this
    rw [chn_app] at ch
    obtain ⟨c1, c2, c3⟩ := ch
    refine ⟨?_, c3 xa (by simp) yb (by simp)⟩
    rw [chn_app]
    refine ⟨c2, c1, ?_⟩
    intro u hu v hv
    have e1 : (yb :: b).getLast (by simp) = u := by
      rw [List.getLast?_eq_some_getLast (by simp)] at hu
      simpa using hu
    have e2 : (a' ++ [xa]).head (by simp) = v := by
      rw [List.head?_eq_some_head (by simp)] at hv
      simpa using hv
    rw [e1, e2] at nx
    exact nx
theorem ring_some {cs : List (List Int)} (w : Wf cs) : ∀ (k : Nat) (row : List Int), RowI cs row → row.length + k = cs.length + 2 → ∃ r, ringK cs k row = some r ∧ r ≠ [] ∧ Cyc cs r ∧ ∀ x ∈ r, x ∈ leftI cs
  | 0, row, i, l => by
    have := i.len
    omega
  | k + 1, row, i, l => by
    unfold ringK
    by_cases m : nxt cs (lastI row) ∈ row
    · rw [if_pos m]
      have g := ixI_get m
      obtain ⟨lt, ge⟩ := List.getElem?_eq_some_iff.mp g
      have ne : row.drop (ixI (nxt cs (lastI row)) row) ≠ [] := by
        intro e
        have := congrArg List.length e
        simp at this
        omega
      have cy : Cyc cs (row.drop (ixI (nxt cs (lastI row)) row)) := by
        intro x y hx hy
        refine ⟨chn_drop i.ch _, ?_⟩
        have ey : y = nxt cs (lastI row) := by
          rw [List.head?_drop, g] at hy
          exact (Option.some.inj hy).symm
        have ex : x = lastI row := by
          rw [List.getLast?_drop, if_neg (by omega)] at hx
          unfold lastI
          rw [hx]
          rfl
        rw [ey, ex]
        exact (nxt_in w (i.ls _ i.last)).1
      refine ⟨_, rfl, ?_, ?_, ?_⟩
      · intro e
        have := congrArg List.length e
        simp [rot] at this
        have h2 := ixI_get (mnI_mem _ ne)
        have h3 := (List.getElem?_eq_some_iff.mp h2).1
        simp at h3
        omega
      · unfold rot
        refine cyc_rot _ _ ?_
        rw [List.take_append_drop]
        exact cy
      · intro x hx
        unfold rot at hx
        have : x ∈ row.drop (ixI (nxt cs (lastI row)) row) := by
          rcases List.mem_append.mp hx with h | h
          · exact List.mem_of_mem_drop h
          · exact List.mem_of_mem_take h
        exact i.ls x (List.mem_of_mem_drop this)
    · rw [if_neg m]
      exact ring_some w k _ (i.step w m) (by simp; omega)
def ring (cs : List (List Int)) : Option (List Int) := match leftI cs with
  | [] => none
  | x :: _ => ringK cs (cs.length + 1) [x]
theorem row_one {cs : List (List Int)} {x : Int} (m : x ∈ leftI cs) : RowI cs [x] := ⟨by simp, by simpa using m, by simp, trivial⟩
theorem ring_left {cs : List (List Int)} (w : Wf cs) {x : Int} {l : List Int} (e : leftI cs = x :: l) : ∃ r, ring cs = some r ∧ ringK cs (cs.length + 1) [x] = some r ∧ r ≠ [] ∧ Cyc cs r ∧ ∀ x ∈ r, x ∈ leftI cs := by
  obtain ⟨r, h, n⟩ := ring_some w (cs.length + 1) [x] (row_one (by rw [e]; exact List.mem_cons_self)) (by simp; omega)
  exact ⟨r, by unfold ring; rw [e]; exact h, h, n⟩
theorem ring_none {cs : List (List Int)} (w : Wf cs) : ring cs = none ↔ leftI cs = [] := by
  constructor
  · intro h
    cases e : leftI cs with
    | nil => rfl
    | cons x l =>
      obtain ⟨r, h2, _⟩ := ring_left w e
      rw [h] at h2
      cases h2
  · intro e
    unfold ring
    rw [e]
/-! ### reached -/
inductive Rch (cs : List (List Int)) (a : Int) : Int → Prop where
  | refl : Rch cs a a
  | step {x y : Int} : Rch cs a x → y ∈ cl cs x → Rch cs a y
theorem rch_sub {cs : List (List Int)} {a : Int} {f : List Int} (ma : a ∈ f) (c : ∀ x ∈ f, ∀ y ∈ cl cs x, y ∈ f) {x : Int} (r : Rch cs a x) : x ∈ f := by
  induction r with
  | refl => exact ma
  | step _ m ih => exact c _ ih _ m
theorem rch_lt {cs : List (List Int)} (w : Wf cs) {a : Int} (ha : 0 ≤ a ∧ a < cs.length) {x : Int} (r : Rch cs a x) : 0 ≤ x ∧ x < cs.length := by
  cases r with
  | refl => exact ha
  | step _ m => exact w _ _ m
/-- the law's rounds -/
def ext1 (cs : List (List Int)) (f : List Int) (x : Int) : List Int := f ++ (cl cs x).filter fun y => !decide (y ∈ f)
def round (cs : List (List Int)) (f : List Int) : List Int := f.foldl (ext1 cs) f
def rounds (cs : List (List Int)) : Nat → List Int → List Int
  | 0, f => f
  | k + 1, f => rounds cs k (round cs f)
structure RI (cs : List (List Int)) (a : Int) (f : List Int) : Prop where
  nd : f.Nodup
  ma : a ∈ f
  rc : ∀ x ∈ f, Rch cs a x
theorem RI.ext {cs : List (List Int)} {a : Int} {f : List Int} (nd : ∀ x, (cl cs x).Nodup) (i : RI cs a f) {x : Int} (rx : Rch cs a x) : RI cs a (ext1 cs f x) := by
  unfold ext1
  refine ⟨?_, List.mem_append_left _ i.ma, ?_⟩
  · rw [List.nodup_append]
    refine ⟨i.nd, (nd x).filter _, ?_⟩
    intro u hu v hv e
    subst e
    rw [List.mem_filter] at hv
    simp at hv
    exact hv.2 hu
  · intro y hy
    rcases List.mem_append.mp hy with h | h
    · exact i.rc y h
    · exact .step rx (List.mem_filter.mp h).1
theorem RI.fold {cs : List (List Int)} {a : Int} (nd : ∀ x, (cl cs x).Nodup) : ∀ (l f : List Int), RI cs a f → (∀ x ∈ l, Rch cs a x) → RI cs a (l.foldl (ext1 cs) f)
  | [], _, i, _ => i
  | x :: l, f, i, h => RI.fold nd l _ (i.ext nd (h x List.mem_cons_self)) fun y m => h y (List.mem_cons_of_mem _ m)
theorem fold_grow {cs : List (List Int)} : ∀ (l f : List Int), ∃ e, l.foldl (ext1 cs) f = f ++ e
  | [], f => ⟨[], by simp⟩
  | x :: l, f => by
    obtain ⟨e, h⟩ := fold_grow (cs := cs) l (ext1 cs f x)
    exact ⟨(cl cs x).filter (fun y => !decide (y ∈ f)) ++ e, by rw [List.foldl_cons, h]; simp [ext1]⟩
theorem fold_has {cs : List (List Int)} : ∀ (l f : List Int), ∀ x ∈ l, ∀ y ∈ cl cs x, y ∈ l.foldl (ext1 cs) f
  | z :: l, f, x, m, y, hy => by
    rw [List.foldl_cons]
    rcases List.mem_cons.mp m with rfl | h
    · obtain ⟨e, q⟩ := fold_grow (cs := cs) l (ext1 cs f x)
      rw [q]
      refine List.mem_append_left _ ?_
      unfold ext1
      by_cases c : y ∈ f
      · exact List.mem_append_left _ c
      · exact List.mem_append_right _ (List.mem_filter.mpr ⟨hy, by simpa using c⟩)
    · exact fold_has l _ x h y hy
def Closed (cs : List (List Int)) (f : List Int) : Prop := ∀ x ∈ f, ∀ y ∈ cl cs x, y ∈ f
theorem round_closed {cs : List (List Int)} {f : List Int} (c : Closed cs f) : round cs f = f := by
  have : ∀ (l : List Int), (∀ x ∈ l, x ∈ f) → l.foldl (ext1 cs) f = f := fun l => by
    induction l with
    | nil => intro _; rfl
    | cons x l ih =>
      intro h
      rw [List.foldl_cons]
      have : ext1 cs f x = f := by
        unfold ext1
        have : (cl cs x).filter (fun y => !decide (y ∈ f)) = [] := by
          rw [List.filter_eq_nil_iff]
          intro y hy
          simpa using c x (h x List.mem_cons_self) y hy
        rw [this, List.append_nil]
      rw [this]
      exact ih fun y m => h y (List.mem_cons_of_mem _ m)
  exact this f fun _ m => m
theorem rounds_ok {cs : List (List Int)} (w : Wf cs) (nd : ∀ x, (cl cs x).Nodup) {a : Int} (ha : 0 ≤ a ∧ a < cs.length) : ∀ (k : Nat) (f : List Int), RI cs a f → cs.length < f.length + k ∨ Closed cs f → RI cs a (rounds cs k f) ∧ Closed cs (rounds cs k f)
  | 0, f, i, h => by
    rcases h with h | h
    · have := len_le_rng i.nd fun x m => rch_lt w ha (i.rc x m)
      omega
    · exact ⟨i, h⟩
  | k + 1, f, i, h => by
    show RI cs a (rounds cs k (round cs f)) ∧ Closed cs (rounds cs k (round cs f))
    have i' : RI cs a (round cs f) := RI.fold nd f f i i.rc
    refine rounds_ok w nd ha k _ i' ?_
    obtain ⟨e, q⟩ := fold_grow (cs := cs) f f
    by_cases z : e = []
    · right
      have : round cs f = f := by
        unfold round
        rw [q, z, List.append_nil]
      have cf : Closed cs f := fun x m y hy => by
        have := fold_has f f x m y hy
        unfold round at *
        simp_all
      rw [this]
      exact cf
    · rcases h with h | h
      · left
        have : 0 < e.length := List.length_pos_iff.mpr z
        unfold round
        rw [q, List.length_append]
        omega
      · right
        rw [round_closed h]
        exact h
theorem rounds_all {cs : List (List Int)} (w : Wf cs) (nd : ∀ x, (cl cs x).Nodup) {a : Int} (ha : 0 ≤ a ∧ a < cs.length) : (rounds cs cs.length [a]).Nodup ∧ ∀ x, x ∈ rounds cs cs.length [a] ↔ Rch cs a x := by
  obtain ⟨i, c⟩ := rounds_ok w nd ha cs.length [a] ⟨by simp, by simp, fun x m => by simp at m; subst m; exact .refl⟩ (.inl (by simp))
  exact ⟨i.nd, fun x => ⟨i.rc x, rch_sub i.ma c⟩⟩
end Lw
end
section
set_option Elab.async false
set_option linter.all false
set_option autoImplicit false
set_option maxRecDepth 100000
/-! calls_of, image_of -/
namespace Lw
open PySem Ly
def tabOf (ps : List Pk) (n : Nat) (p : Pk) : List Int := (rngI p.codes.length).map (fun i => (cum ps n : Int) + i) ++ p.uses.map fun u => (((fIx u (namesOf ps)).getD 0 : Nat) : Int)
structure OkU (ps : List Pk) : Prop extends OkP ps where
  lu : ∀ p ∈ ps, p.uses.length < 100
  us : ∀ p ∈ ps, ∀ u ∈ p.uses, u ∈ namesOf ps
theorem map_take_snoc {α β : Type} (f : α → β) {xs : List α} {i : Nat} {x : α} (e : xs[i]? = some x) : (xs.take (i + 1)).map f = (xs.take i).map f ++ [f x] := by
  rw [List.take_add_one, e]
  simp
theorem take_map_snoc {α β : Type} (f : α → β) {xs : List α} {i : Nat} {x : α} (e : xs[i]? = some x) : (xs.map f).take (i + 1) = (xs.take i).map f ++ [f x] := by
  rw [← List.map_take, map_take_snoc f e]
theorem rngV_rngI (n : Nat) : rngV 0 1 n = (rngI n).map .int := by
  unfold rngV rngI
  rw [List.map_map]
  refine List.map_congr_left fun i _ => ?_
  simp
theorem near_small {n : Nat} (l : n < 100000) : near62 (n : Int) = true := by
  unfold near62
  simp
  omega
theorem atD_str {h : LH} {r : Nat} {kvs : List (L2.Key × L)} {x : Str} (e : h[r]? = some (.dk kvs)) : idxL (.ref r) (.str x) h = okV (valK kvs (.inr x)) h := by
  simp [idxL, seqAt, lstAt, e, atD, L.key]
theorem atD_int {h : LH} {r : Nat} {kvs : List (L2.Key × L)} {x : Int} (e : h[r]? = some (.dk kvs)) : idxL (.ref r) (.int x) h = okV (valK kvs (.inl x)) h := by
  simp [idxL, seqAt, lstAt, e, atD, L.key]
theorem fIx_some {x : Str} {xs : List Str} (m : x ∈ xs) : ∃ j, fIx x xs = some j := by
  cases e : fIx x xs with
  | some j => exact ⟨j, rfl⟩
  | none => exact (fIx_none.mp e m).elim
theorem calls_of {d n : Nat} {ps : List Pk} {p : Pk} {v : L} {h : LH} {Q : L → LH → Prop} (s : Sq h v (ps.map Pk.l)) (o : OkU ps) (ep : ps[n]? = some p)
    (q : ∀ h', Ext h h' → Q (.tup ((tabOf ps n p).map .int)) h') : Wp (run (d + 3) Pg.f_calls_of [v, .int n] h) Q := by
  refine wp_run rfl rfl ?_
  show Ws (evSs ⟨Pg.gl, Pg.gd, run (d + 2)⟩ Pg.b_calls_of [some v, some (.int n), none, none, none, none, none, none] h) _ _
  unfold Pg.b_calls_of
  have zl : sizeLine = 16777216 := by decide
  have mp := List.mem_of_getElem? ep
  have lc := o.lc p mp
  have lu := o.lu p mp
  simp
  refine places_by_name s o.toOkP fun h1 r1 kvs x1 l1 g1 pl => ?_
  have e1 : (ps.map Pk.l)[n]? = some p.l := by simp [ep]
  have ln : n < ps.length := (List.getElem?_eq_some_iff.mp ep).1
  simp [(s.ext x1).idx, atI_nat e1, zl]
  refine firsts_of (s.ext x1) o.toOkP fun h2 r2 x2 l2 g2 => ?_
  have e2 : ((List.range ps.length).map fun i => L.int (cum ps i : Nat))[n]? = some (.int (cum ps n : Nat)) := by simp [ln]
  simp [idx_ref g2, atI_nat e2, Pk.l, near_small (show p.codes.length < 100000 by omega), rngV_rngI, wipeL]
  refine Wp.mono (lc_pure ((rngI p.codes.length).map .int) h2 (fun _ => true) (fun x => match x with | .int i => .int ((cum ps n : Int) + i) | _ => .non) (by simp [rngI_len]; omega) (fun _ _ _ => rfl) ?_) ?_
  · rintro x h3 hx x3
    obtain ⟨i, hi, rfl⟩ := List.mem_map.mp hx
    exact ⟨_, rfl, by simp [Ext.refl]⟩
  rintro ys h3 ⟨rfl, x3⟩
  have ft : ((rngI p.codes.length).map L.int).filter (fun _ => true) = (rngI p.codes.length).map L.int := List.filter_eq_self.mpr fun _ _ => rfl
  rw [ft, List.map_map]
  simp [walkOf]
  have gk : ∀ e, (h3 ++ e)[r1]? = some (.dk kvs) := fun e => (x3.trans (Ext.app _ e)) _ _ (x2 _ _ g1)
  refine ws_for (p.uses.map useL) (fun i sl h' => ∃ a, sl = [some v, some (.int n), some (.int (cum ps n : Nat)), some (.ref h3.length), a, some (.ref r1), some p.l, none] ∧ Ext h h' ∧ h'[r1]? = some (.dk kvs) ∧
      h'[h3.length]? = some (.lst (((rngI p.codes.length).map (fun i => L.int ((cum ps n : Int) + i)) ++ (p.uses.take i).map fun u => L.int ((fIx u (namesOf ps)).getD 0 : Nat))))) (fun _ _ _ _ => rfl) ?_ ?_ whileFuel 0 _ _ (by omega) (by show _ < 1000000000000 + 0; simp; omega) ?_
  · rintro i x sl h' e ⟨_, rfl, x0, gr, g⟩
    cases eu : p.uses[i]? with
    | none => simp [eu] at e
    | some u =>
      simp [eu] at e
      subst e
      have li : i < p.uses.length := (List.getElem?_eq_some_iff.mp eu).1
      obtain ⟨j, ej⟩ := fIx_some (o.us p mp u (List.mem_of_getElem? eu))
      refine ⟨_, _, rfl, ?_⟩
      have nn : r1 ≠ h3.length := by
        have := lt_of_get (x3 _ _ (x2 _ _ g1))
        omega
      simp [useL, in_dk gr, pl.1 u, ej, lst_ref g, atD_str gr]
      rw [app_ref g (by simp [rngI_len]; omega), wo_some]
      refine ⟨?_, ?_, ?_⟩
      · have := (x1.trans (x2.trans x3)).len
        exact x0.set this _
      · exact get_set_ne _ gr nn.symm
      · have et : p.uses.take (i + 1) = p.uses.take i ++ [u] := by rw [List.take_add_one, eu]; rfl
        rw [get_set_eq _ g]
        simp only [← List.map_take, et]
        simp [ej]
  · rintro sl h' ⟨_, rfl, x0, gr, g⟩
    rw [List.length_map, List.take_length] at g
    simp
    rw [tup_ref g]
    simp
    have := q h' x0
    unfold tabOf at this
    simpa [List.map_append, List.map_map, Function.comp_def] using this
  · refine ⟨_, rfl, x1.trans (x2.trans (x3.trans (Ext.app _ _))), gk _, ?_⟩
    rw [get_new]
    simp [Function.comp_def]
end Lw
end
section
set_option Elab.async false
set_option linter.all false
set_option autoImplicit false
set_option maxRecDepth 100000
/-! image_of, linked, image_names -/
namespace Lw
open PySem Ly
def tabN (ps : List Pk) (n : Nat) : List Int := match ps[n]? with
  | some p => tabOf ps n p
  | none => []
def wkOf (ps : List Pk) (e : Nat × Cd) : Wk := ⟨e.2.nm, e.2.ks, e.2.bad, tabN ps e.1⟩
def worksOf (ps : List Pk) : List Wk := (entsN 0 ps).map (wkOf ps)
theorem entsN_mem : ∀ (ps : List Pk) (k n : Nat) (c : Cd), (n, c) ∈ entsN k ps → ∃ i p, n = k + i ∧ ps[i]? = some p ∧ c ∈ p.codes
  | [], _, _, _, m => by simp [entsN] at m
  | p :: ps, k, n, c, m => by
    simp only [entsN, List.mem_append, List.mem_map] at m
    rcases m with ⟨c', hc, e⟩ | m
    · simp at e
      obtain ⟨rfl, rfl⟩ := e
      exact ⟨0, p, by omega, rfl, hc⟩
    · obtain ⟨i, q, e, g, hc⟩ := entsN_mem ps (k + 1) n c m
      exact ⟨i + 1, q, by omega, by simpa using g, hc⟩
theorem mem_rngN {n : Nat} {x : Int} (m : x ∈ rngI n) : ∃ k : Nat, k < n ∧ x = k := by
  obtain ⟨i, hi, e⟩ := List.mem_map.mp m
  exact ⟨i, List.mem_range.mp hi, e.symm⟩
theorem filter_true {α : Type} (xs : List α) : xs.filter (fun _ => true) = xs := List.filter_eq_self.mpr fun _ _ => rfl
theorem image_of {d : Nat} {ps : List Pk} {v : L} {h : LH} {Q : L → LH → Prop} (s : Sq h v (ps.map Pk.l)) (o : OkU ps)
    (q : ∀ h', Ext h h' → Q (imgL (worksOf ps)) h') : Wp (run (d + 4) Pg.f_image_of [v] h) Q := by
  refine wp_run rfl rfl ?_
  show Ws (evSs ⟨Pg.gl, Pg.gd, run (d + 3)⟩ Pg.b_image_of [some v, none, none, none, none, none] h) _ _
  unfold Pg.b_image_of
  have zl : sizeLine = 16777216 := by decide
  have lp := o.lp
  have el := entsN_len o.toOkP
  simp [zl, (s.ext (Ext.app _ _)).len, near_small (show ps.length < 100000 by omega), rngV_rngI, wipeL]
  refine Wp.mono (lc_pure ((rngI ps.length).map .int) (h ++ [.lst []]) (fun _ => true) (fun x => match x with | .int i => .tup ((tabN ps i.toNat).map .int) | _ => .non) (by simp [rngI_len]; omega) (fun _ _ _ => rfl) ?_) ?_
  · rintro x h3 hx x3
    obtain ⟨i, hi, rfl⟩ := List.mem_map.mp hx
    obtain ⟨k, lk, rfl⟩ := mem_rngN hi
    refine ⟨_, rfl, ?_⟩
    simp [Ext.refl]
    obtain ⟨p, ep⟩ : ∃ p, ps[k]? = some p := ⟨ps[k], List.getElem?_eq_getElem lk⟩
    refine calls_of (s.ext ((Ext.app _ _).trans x3)) o ep fun h4 x4 => ?_
    simp [tabN, ep]
    exact x4
  rintro ys h1 ⟨rfl, x1⟩
  rw [filter_true, List.map_map]
  refine works_of (s.ext ((Ext.app _ _).trans (x1.trans (Ext.app _ _)))) o.lp o.lc fun h2 r2 x2 l2 g2 => ?_
  rw [walk_ref g2, wo_some]
  have gw : h2[h.length]? = some (.lst []) := x2 _ _ (Ext.app _ _ _ _ (x1 _ _ (get_new _ _)))
  have gt := x2 _ _ (get_new h1 (.lst ((rngI ps.length).map fun i => L.tup ((tabN ps i.toNat).map .int))))
  have l1 := x1.len
  simp at l1 l2
  refine ws_for (entsF 0 ps) (fun i sl h' => ∃ a b c, sl = [some v, some (.ref h.length), some (.ref h1.length), a, b, c] ∧ Ext h h' ∧ h'[r2]? = some (.lst (entsF 0 ps)) ∧ h'[h1.length]? = some (.lst ((rngI ps.length).map fun i => L.tup ((tabN ps i.toNat).map .int))) ∧
      h'[h.length]? = some (.lst (((entsN 0 ps).take i).map fun e => (wkOf ps e).l))) ?_ ?_ ?_ whileFuel 0 _ _ (by omega) ?_ ?_
  · rintro i sl h' ⟨_, _, _, rfl, x, g, _⟩
    exact lst_at g
  · rintro i x sl h' e ⟨_, _, _, rfl, x0, g, gt', gw'⟩
    rw [entsF_N, List.getElem?_map] at e
    cases ec : (entsN 0 ps)[i]? with
    | none => simp [ec] at e
    | some m =>
      obtain ⟨n, c⟩ := m
      simp [ec] at e
      subst e
      obtain ⟨j, p, e0, ep, hc⟩ := entsN_mem ps 0 n c (List.mem_of_getElem? ec)
      have e0 : n = j := by omega
      subst e0
      have ln : n < ps.length := (List.getElem?_eq_some_iff.mp ep).1
      have er : ((rngI ps.length).map fun i => L.tup ((tabN ps i.toNat).map .int))[n]? = some (.tup ((tabN ps n).map .int)) := by simp [rngI, ln]
      refine ⟨_, _, rfl, ?_⟩
      simp [lst_ref gw', Cd.l, idx_ref gt', atI_nat er, zl]
      have li : i < (entsN 0 ps).length := (List.getElem?_eq_some_iff.mp ec).1
      rw [app_ref gw' (by simp; omega), wo_some]
      refine ⟨x0.set (Nat.le_refl _) _, get_set_ne _ g (by omega), get_set_ne _ gt' (by omega), ?_⟩
      rw [get_set_eq _ gw', take_map_snoc _ ec]
      rfl
  · rintro sl h' ⟨_, _, _, rfl, x0, g, gt', gw'⟩
    rw [entsF_N, List.length_map, List.take_length] at gw'
    simp
    rw [tup_ref gw']
    simp [zl]
    have := q h' x0
    unfold imgL worksOf at this
    rw [List.map_map] at this
    exact this
  · rw [entsF_N, List.length_map]
    show _ < 1000000000000 + 0
    omega
  · refine ⟨_, _, _, rfl, ?_, g2, ?_, ?_⟩
    · exact (Ext.app _ _).trans (x1.trans ((Ext.app _ _).trans x2))
    · rw [← gt]
    · simpa using gw
theorem linked {d : Nat} {ps : List Pk} {v : L} {h : LH} {Q : L → LH → Prop} (s : Sq h v (ps.map Pk.l)) (o : OkU ps)
    (q : ∀ h', Ext h h' → Q (imgL (worksOf ps)) h') : Wp (run (d + 5) Pg.f_linked [v] h) Q := by
  refine wp_run rfl rfl ?_
  show Ws (evSs ⟨Pg.gl, Pg.gd, run (d + 4)⟩ Pg.b_linked [some v] h) _ _
  unfold Pg.b_linked
  simp
  exact image_of s o q
theorem image_names {d : Nat} {ws : List Wk} {h : LH} {Q : L → LH → Prop} (lw : ws.length < 1000)
    (q : ∀ h' r, Ext h h' → h.length ≤ r → h'[r]? = some (.lst (ws.map fun w => .str w.nm)) → Q (.ref r) h') : Wp (run (d + 1) Pg.f_image_names [imgL ws] h) Q := by
  refine wp_run rfl rfl ?_
  show Ws (evSs ⟨Pg.gl, Pg.gd, run d⟩ Pg.b_image_names [some (imgL ws), none] h) _ _
  unfold Pg.b_image_names imgL
  simp [walkOf, wipeL]
  refine Wp.mono (lc_pure (ws.map Wk.l) h (fun _ => true) (fun x => match x with | .tup (n :: _) => n | _ => .non) (by simp; omega) (fun _ _ _ => rfl) ?_) ?_
  · rintro x h3 hx x3
    obtain ⟨w, hw, rfl⟩ := List.mem_map.mp hx
    refine ⟨_, rfl, ?_⟩
    simp [Wk.l, workL, Ext.refl]
  rintro ys h1 ⟨rfl, x1⟩
  rw [filter_true, List.map_map]
  exact q _ _ (x1.trans (Ext.app _ _)) x1.len (get_new _ _)
end Lw
end
section
set_option Elab.async false
set_option linter.all false
set_option autoImplicit false
set_option maxRecDepth 100000
/-! What is in a list; number_in, work_number -/
namespace Lw
open PySem Ly
theorem mapO_map {α β γ : Type} (f : β → Option γ) (g : α → β) (k : α → γ) (e : ∀ x, f (g x) = some (k x)) : ∀ xs : List α, mapO f (xs.map g) = some (xs.map k)
  | [] => rfl
  | x :: xs => by simp only [List.map_cons, mapO, e x, mapO_map f g k e xs]
theorem fv_ints (xs : List Int) : mapO L.fv (xs.map .int) = some (xs.map L2.V.int) := mapO_map L.fv L.int L2.V.int (fun _ => rfl) xs
theorem fv_strs (xs : List Str) : mapO L.fv (xs.map .str) = some (xs.map L2.V.str) := mapO_map L.fv L.str L2.V.str (fun _ => rfl) xs
theorem inV_ints (x : Int) (xs : List Int) : L2.inV (.int x) (xs.map .int) = decide (x ∈ xs) := by
  unfold L2.inV
  rw [List.any_map]
  by_cases h : x ∈ xs
  · rw [decide_eq_true h, List.any_eq_true]
    exact ⟨x, h, by simp [L2.eqV]⟩
  · rw [decide_eq_false h, List.any_eq_false]
    intro y hy
    simp [L2.eqV]
    rintro rfl
    exact h hy
theorem inV_strs (x : Str) (xs : List Str) : L2.inV (.str x) (xs.map .str) = decide (x ∈ xs) := by
  unfold L2.inV
  rw [List.any_map]
  by_cases h : x ∈ xs
  · rw [decide_eq_true h, List.any_eq_true]
    exact ⟨x, h, by simp [L2.eqV]⟩
  · rw [decide_eq_false h, List.any_eq_false]
    intro y hy
    simp [L2.eqV]
    rintro rfl
    exact h hy
theorem in_ints {h : LH} {r : Nat} {x : Int} {xs : List Int} (g : h[r]? = some (.lst (xs.map .int))) : inL (.int x) (.ref r) h = some (decide (x ∈ xs)) := by
  simp [inL, seqAt, lstAt, g, L.fv, fv_ints, inV_ints]
theorem in_strs {h : LH} {r : Nat} {x : Str} {xs : List Str} (g : h[r]? = some (.lst (xs.map .str))) : inL (.str x) (.ref r) h = some (decide (x ∈ xs)) := by
  simp [inL, seqAt, lstAt, g, L.fv, fv_strs, inV_strs]
theorem valK_dkT (x : Int) : ∀ ds : List Int, (valK (dkT ds) (.inl x)).isSome = decide (x ∈ ds)
  | [] => rfl
  | d :: ds => by
    have := valK_dkT x ds
    unfold valK dkT at *
    simp only [List.map_cons, List.find?_cons]
    by_cases q : d = x
    · simp [q]
    · have q' : ¬ x = d := fun e => q e.symm
      simp [q, q'] at this ⊢
      exact this
theorem in_dkT {h : LH} {r : Nat} {x : Int} {ds : List Int} (g : h[r]? = some (.dk (dkT ds))) : inL (.int x) (.ref r) h = some (decide (x ∈ ds)) := by
  simp [inL, seqAt, lstAt, g, L.key, valK_dkT]
theorem toD_ints (h : LH) (n : Nat) (xs : List Int) : mapO (toD h (n + 1)) (xs.map .int) = some (xs.map PyData.int) := mapO_map (toD h (n + 1)) L.int PyData.int (fun _ => rfl) xs
theorem toD_strs (h : LH) (n : Nat) (xs : List Str) : mapO (toD h (n + 1)) (xs.map .str) = some (xs.map PyData.str) := mapO_map (toD h (n + 1)) L.str PyData.str (fun _ => rfl) xs
theorem canLay_ints (xs : List Int) : PyData.canLayAll0 (xs.map .int) = true := by
  induction xs with
  | nil => rfl
  | cons x xs ih => simp [PyData.canLayAll0, PyData.canLay0, ih]
theorem depth_ints (xs : List Int) : PyData.depthAll (xs.map .int) ≤ 1 := by
  induction xs with
  | nil => simp [PyData.depthAll]
  | cons x xs ih =>
    simp only [List.map_cons, PyData.depthAll, PyData.depth]
    omega
theorem shaped_ints (xs : List Int) : SeqAt.shaped (.list (xs.map .int)) = true := by
  have := depth_ints xs
  unfold SeqAt.shaped
  rw [Bool.and_eq_true, decide_eq_true_eq]
  refine ⟨by simpa [PyData.canLay0] using canLay_ints xs, ?_⟩
  simp only [PyData.depth]
  omega
theorem eqL_nil {h : LH} {r q : Nat} {xs : List Int} (g : h[r]? = some (.lst (xs.map .int))) (g' : h[q]? = some (.lst [])) : eqL (.ref r) (.ref q) h = some (decide (xs = [])) := by
  have s2 := shaped_ints []
  simp at s2
  have d1 : toD h deepest (.ref r) = some (.list (xs.map .int)) := by
    show (match h[r]? with | some (.lst xs) => (mapO (toD h 39) xs).map PyData.list | _ => none) = _
    rw [g]
    show (mapO (toD h 39) (xs.map .int)).map PyData.list = _
    rw [toD_ints h 38 xs]
    rfl
  have d2 : toD h deepest (.ref q) = some (.list []) := by
    show (match h[q]? with | some (.lst xs) => (mapO (toD h 39) xs).map PyData.list | _ => none) = _
    rw [g']
    rfl
  unfold eqL
  rw [d1, d2]
  show (if _ then _ else _) = _
  rw [if_pos ⟨shaped_ints xs, s2⟩]
  cases xs <;> simp [PyData.eqv, PyData.eqvAll]
/-- the numbers at which a name stands -/
def idxN (x : Str) : Nat → List Str → List Int
  | _, [] => []
  | k, y :: ys => if y = x then (k : Int) :: idxN x (k + 1) ys else idxN x (k + 1) ys
theorem idxN_head (x : Str) : ∀ (ys : List Str) (k : Nat), (idxN x k ys).head? = (fIx x ys).map fun j => ((k + j : Nat) : Int)
  | [], _ => rfl
  | y :: ys, k => by
    by_cases q : y = x
    · simp [idxN, fIx, q]
    · simp [idxN, fIx, q, idxN_head x ys (k + 1)]
      cases fIx x ys with
      | none => rfl
      | some j => simp; omega
def isNm (x : Str) : L → Bool
  | .tup [_, .tup (.str y :: _)] => decide (y = x)
  | _ => false
def fst : L → L
  | .tup (x :: _) => x
  | _ => .non
theorem enum_idxN (x : Str) : ∀ (ws : List Wk) (k : Nat), ((enumV k (ws.map Wk.l)).filter (isNm x)).map fst = (idxN x k (ws.map (·.nm))).map .int
  | [], _ => rfl
  | w :: ws, k => by
    have := enum_idxN x ws (k + 1)
    simp only [List.map_cons, enumV, List.filter_cons, idxN]
    have e : isNm x (.tup [.int (k : Nat), w.l]) = decide (w.nm = x) := rfl
    rw [e]
    by_cases q : w.nm = x
    · simp [q, this, fst]
    · simp [q, this]
def OkN (xs : List Str) : Prop := ∀ x ∈ xs, PyData.strOk x = true
theorem enum_tup {xs : List L} {h : LH} : enumL (.tup xs) h = .ok (.vals (enumV 0 xs)) h := rfl
theorem mem_enumV {xs : List L} {v : L} (m : v ∈ enumV 0 xs) : ∃ (i : Nat) (x : L), xs[i]? = some x ∧ v = .tup [.int i, x] := by
  obtain ⟨i, hi⟩ := List.mem_iff_getElem?.mp m
  rw [enumV_get] at hi
  obtain ⟨x, ex, rfl⟩ := Option.map_eq_some_iff.mp hi
  exact ⟨i, x, ex, by simp⟩
theorem number_in {d : Nat} {ws : List Wk} {x : Str} {h : LH} {Q : L → LH → Prop} (lw : ws.length < 1000) (hx : PyData.strOk x = true) (hn : ∀ w ∈ ws, PyData.strOk w.nm = true)
    (q : ∀ h', Ext h h' → Q (match fIx x (ws.map (·.nm)) with | some j => .int j | none => .non) h') : Wp (run (d + 1) Pg.f_number_in [imgL ws, .str x] h) Q := by
  refine wp_run rfl rfl ?_
  show Ws (evSs ⟨Pg.gl, Pg.gd, run d⟩ Pg.b_number_in [some (imgL ws), some (.str x), none, none, none] h) _ _
  unfold Pg.b_number_in imgL
  have zl : sizeLine = 16777216 := by decide
  simp [enum_tup, wipeL]
  refine Wp.mono (lc_pure (enumV 0 (ws.map Wk.l)) h (isNm x) fst (by rw [enumV_len]; simp; omega) (fun _ _ _ => rfl) ?_) ?_
  · rintro v h3 hv x3
    obtain ⟨i, u, eu, rfl⟩ := mem_enumV hv
    rw [List.getElem?_map] at eu
    obtain ⟨w, ew, rfl⟩ := Option.map_eq_some_iff.mp eu
    refine ⟨_, rfl, ?_⟩
    simp [Wk.l, workL, eqL_str (hn w (List.mem_of_getElem? ew)) hx, isNm, fst, Ext.refl]
  rintro ys h1 ⟨rfl, x1⟩
  rw [enum_idxN]
  have g1 := get_new h1 (.lst ((idxN x 0 (ws.map (·.nm))).map L.int))
  have g2 : (h1 ++ [LO.lst ((idxN x 0 (ws.map (·.nm))).map L.int)] ++ [.lst []])[(h1 ++ [LO.lst ((idxN x 0 (ws.map (·.nm))).map L.int)]).length]? = some (.lst []) := get_new _ _
  try simp [zl]
  have e := eqL_nil (h := h1 ++ [LO.lst ((idxN x 0 (ws.map (·.nm))).map L.int)] ++ [.lst []]) (Ext.app _ _ _ _ g1) g2
  simp at e
  rw [e, wo_some]
  have hd := idxN_head x (ws.map (·.nm)) 0
  have fin := q _ (x1.trans ((Ext.app h1 [LO.lst ((idxN x 0 (ws.map (·.nm))).map L.int)]).trans (Ext.app _ [.lst []])))
  simp at fin
  cases ei : idxN x 0 (ws.map (·.nm)) with
  | nil =>
    rw [ei] at hd
    rw [ei] at fin
    cases ef : fIx x (ws.map (·.nm)) with
    | none => rw [ef] at fin; simpa using fin
    | some j => rw [ef] at hd; simp at hd
  | cons a as =>
    rw [ei] at hd fin
    cases ef : fIx x (ws.map (·.nm)) with
    | none => rw [ef] at hd; simp at hd
    | some j =>
      rw [ef] at hd fin
      simp at hd
      subst hd
      simp
      rw [idx_ref (xs := (L.int (j : Int)) :: as.map .int) (by simp)]
      simpa using fin
theorem work_number {d : Nat} {ws : List Wk} {x : Str} {j : Nat} {h : LH} {Q : L → LH → Prop} (lw : ws.length < 1000) (hn : ∀ w ∈ ws, PyData.strOk w.nm = true) (ej : fIx x (ws.map (·.nm)) = some j)
    (q : ∀ h', Ext h h' → Q (.int j) h') : Wp (run (d + 2) Pg.f_work_number [imgL ws, .str x] h) Q := by
  refine wp_run rfl rfl ?_
  show Ws (evSs ⟨Pg.gl, Pg.gd, run (d + 1)⟩ Pg.b_work_number [some (imgL ws), some (.str x), none] h) _ _
  unfold Pg.b_work_number
  simp
  have hx : PyData.strOk x = true := by
    have := List.mem_of_getElem? (fIx_lt ej)
    obtain ⟨w, hw, rfl⟩ := List.mem_map.mp this
    exact hn w hw
  refine number_in lw hx hn fun h1 x1 => ?_
  rw [ej]
  simp
  exact q _ x1
end Lw
end
section
set_option Elab.async false
set_option linter.all false
set_option autoImplicit false
set_option maxRecDepth 100000
/-! turn_of, _law_turn -/
namespace Lw
open PySem Ly
theorem wo_onP {α β : Type} {o : Option α} {f : α → R β} {Q : β → LH → Prop} : Wp (onP o f) Q ↔ Wo o fun a => Wp (f a) Q := by cases o <;> exact Iff.rfl
@[simp] theorem e_slc {G : Gm} {x : Option L} {sl : LS} {h : LH} {Q : L → LH → Prop} {a l u : E} : Wp (evE G (.slc a l u) (x :: sl) h) Q ↔ Wp (evE G a (x :: sl) h) fun v h1 => Wp (evE G l (x :: sl) h1) fun y h2 => Wo (partX l.isNon y) fun lo =>
    Wp (evE G u (x :: sl) h2) fun z h3 => Wo (partX u.isNon z) fun hi => Wo (slcA v lo hi h3) fun p => Q p.1 p.2 := by
  show Wp (R.bind _ _) Q ↔ _
  simp only [wp_bind, wo_onP, wp_ofO']
@[simp] theorem part_t (v : L) : partX true v = some none := rfl
@[simp] theorem part_f (i : Int) : partX false (.int i) = some (some i) := rfl
@[simp] theorem is_non : E.isNon .non = true := rfl
@[simp] theorem is_int (i : Int) : E.isNon (.int i) = false := rfl
@[simp] theorem is_var (i : Nat) : E.isNon (.var i) = false := rfl
@[simp] theorem is_meth (m : Mth) (o : E) (es : Es) : E.isNon (.meth m o es) = false := rfl
@[simp] theorem is_blt (m : Blt) (es : Es) : E.isNon (.blt m es) = false := rfl
@[simp] theorem is_bin (m : Operator) (a b : E) : E.isNon (.bin m a b) = false := rfl
theorem slc_ref {h : LH} {r : Nat} {xs : List L} {lo hi : Option Int} (g : h[r]? = some (.lst xs)) : slcA (.ref r) lo hi h = newL h (cut xs lo hi) := by simp [slcA, lstAt, g]
@[simp] theorem slc_tup {h : LH} {xs : List L} {lo hi : Option Int} : slcA (.tup xs) lo hi h = some (.tup (cut xs lo hi), h) := rfl
theorem cut_take {α : Type} (xs : List α) (k : Nat) : cut xs none (some (k : Int)) = xs.take k := by
  unfold cut
  rw [HT.sIx_nat]
  show (xs.drop 0).take (min k xs.length - 0) = _
  rw [List.drop_zero, Nat.sub_zero]
  rcases Nat.le_total k xs.length with l | l
  · rw [Nat.min_eq_left l]
  · rw [Nat.min_eq_right l, List.take_of_length_le (Nat.le_refl _), List.take_of_length_le l]
theorem cut_drop {α : Type} (xs : List α) (k : Nat) : cut xs (some (k : Int)) none = xs.drop k := by
  unfold cut
  rw [HT.sIx_nat]
  show (xs.drop (min k xs.length)).take (xs.length - min k xs.length) = _
  rcases Nat.le_total k xs.length with l | l
  · rw [Nat.min_eq_left l, List.take_of_length_le (by simp)]
  · rw [Nat.min_eq_right l, List.drop_eq_nil_of_le l]
    simp
theorem lc_enc {α : Type} {nx : LH → Nat → Option (Option L)} {tg : L → LS → LH → RS} {c e : LS → LH → R L} {sl : LS} (enc : α → L) (xs : List α) (h0 : LH) (p : α → Bool) (g : α → L) (lx : xs.length < 1000000)
    (hx : ∀ i h, Ext h0 h → nx h i = some (xs.map enc)[i]?)
    (step : ∀ a h, a ∈ xs → Ext h0 h → ∃ sl1, tg (enc a) sl h = .nx sl1 h ∧ Wp (c sl1 h) fun v h2 => v = .bl (p a) ∧ Ext h h2 ∧ (p a = true → Wp (e sl1 h2) fun y h3 => y = g a ∧ Ext h2 h3)) :
    Wp (lcGo nx tg c e sl whileFuel 0 [] h0) fun ys h => ys = (xs.filter p).map g ∧ Ext h0 h := by
  have zl : sizeLine = 16777216 := by decide
  refine wp_lc (xs.map enc) (fun i acc h => acc = ((xs.take i).filter p).map g ∧ Ext h0 h) (fun i acc h w => hx i h w.2) ?_ ?_ (by rw [List.length_map]; omega) whileFuel 0 [] h0 (Nat.le_refl _) (Nat.zero_le _) (by rw [List.length_map]; show _ < 1000000000000 + 0; omega) ⟨by simp, Ext.refl _⟩
  · rintro i x acc h ex _ ⟨ea, x0⟩
    rw [List.getElem?_map] at ex
    obtain ⟨a, ea', rfl⟩ := Option.map_eq_some_iff.mp ex
    obtain ⟨sl1, et, w⟩ := step a h (List.mem_of_getElem? ea') x0
    refine ⟨sl1, h, et, w.mono ?_⟩
    rintro v h2 ⟨rfl, x2, w2⟩
    rcases ep : p a with _ | _
    · refine .inr ⟨rfl, ?_, x0.trans x2⟩
      rw [ea, List.take_add_one, ea']
      simp [ep]
    · refine .inl ⟨rfl, (w2 ep).mono ?_⟩
      rintro y h3 ⟨rfl, x3⟩
      refine ⟨?_, x0.trans (x2.trans x3)⟩
      rw [ea, List.take_add_one, ea']
      simp [ep]
  · rintro acc h _ ⟨ea, x0⟩
    rw [List.length_map, List.take_length] at ea
    exact ⟨ea, x0⟩
/-- a list of lists of ints -/
def LL (h : LH) (r : Nat) (cs : List (List Int)) : Prop := ∃ rs : List Nat, h[r]? = some (.lst (rs.map .ref)) ∧ rs.length = cs.length ∧ ∀ (i : Nat) (c : List Int), cs[i]? = some c → ∃ r' : Nat, rs[i]? = some r' ∧ h[r']? = some (.lst (c.map .int))
theorem LL.ext {h h' : LH} {r : Nat} {cs : List (List Int)} (l : LL h r cs) (x : Ext h h') : LL h' r cs := by
  obtain ⟨rs, e, n, g⟩ := l
  refine ⟨rs, x _ _ e, n, fun i c ec => ?_⟩
  obtain ⟨r', e1, e2⟩ := g i c ec
  exact ⟨r', e1, x _ _ e2⟩
theorem LL.len {h : LH} {r : Nat} {cs : List (List Int)} (l : LL h r cs) : bltL .len [.ref r] h = some (.int cs.length, h) := by
  obtain ⟨rs, e, n, g⟩ := l
  rw [len_ref e, List.length_map, n]
theorem LL.at {h : LH} {r : Nat} {cs : List (List Int)} (l : LL h r cs) {i : Int} (hi : 0 ≤ i ∧ i < cs.length) : ∃ r' : Nat, idxL (.ref r) (.int i) h = some (.ref r', h) ∧ h[r']? = some (.lst ((cl cs i).map .int)) := by
  obtain ⟨rs, e, n, g⟩ := l
  obtain ⟨k, rfl⟩ := Int.eq_ofNat_of_zero_le hi.1
  have lk : k < cs.length := by omega
  obtain ⟨r', e1, e2⟩ := g k cs[k] (List.getElem?_eq_getElem lk)
  refine ⟨r', ?_, ?_⟩
  · rw [idx_ref e]
    have : (rs.map L.ref)[k]? = some (.ref r') := by rw [List.getElem?_map, e1]; rfl
    rw [atI_nat this]
    rfl
  · rw [e2]
    unfold cl
    simp [List.getElem?_eq_getElem lk]
def csOf (ws : List Wk) : List (List Int) := ws.map Wk.calls
theorem all_new {h : LH} {xs : List Int} {p : Int → Bool} : bltL .all [.ref h.length] (h ++ [LO.lst (xs.map fun i => L.bl (p i))]) = some (.bl (xs.all p), h ++ [LO.lst (xs.map fun i => L.bl (p i))]) := by
  have : mapO L.bl? (xs.map fun i => L.bl (p i)) = some (xs.map p) := mapO_map L.bl? (fun i => .bl (p i)) p (fun _ => rfl) xs
  simp [bltL, one, all1, gotB, lstAt, this]
/-- as the program asks whether a work is ready -/
theorem ready_dk {G : Gm} {img : Option L} {rw' rf rp : Nat} {a b : Option L} {cs : List (List Int)} {f : List Int} {i : Int} {h : LH} (ll : LL h rw' cs) (g : h[rp]? = some (.dk (dkT f))) (hi : 0 ≤ i ∧ i < cs.length) (lc : (cl cs i).length < 1000000) :
    Wp (evE G (.and (.cmp .NotIn (.var 5) (.var 3)) (.blt .all (.cons (.lc [6] (.name 6) (.val (.idx (.var 1) (.var 5))) (.bl true) (.cmp .In (.var 6) (.var 3))) .nil))) [img, some (.ref rw'), some (.ref rf), some (.ref rp), a, some (.int i), none] h) fun v h2 => v = .bl (ready cs f i) ∧ Ext h h2 := by
  simp [in_dkT g]
  by_cases m : i ∈ f
  · simp [m, ready, Ext.refl]
  · simp [m]
    obtain ⟨r', e1, e2⟩ := ll.at hi
    rw [e1, wo_some]
    simp
    rw [walk_ref e2, wo_some]
    refine Wp.mono (lc_enc L.int (cl cs i) h (fun _ => true) (fun j => .bl (decide (j ∈ f))) lc (fun i h' x => lst_at (x _ _ e2)) ?_) ?_
    · rintro j h3 hj x3
      refine ⟨_, rfl, ?_⟩
      simp [wipeL, in_dkT (x3 _ _ g), Ext.refl]
    · rintro ys h3 ⟨rfl, x3⟩
      rw [filter_true, all_new, wo_some]
      refine ⟨?_, x3.trans (Ext.app _ _)⟩
      simp [ready, m]
/-- as the law asks it -/
theorem ready_lst {G : Gm} {rw' rf : Nat} {a b : Option L} {cs : List (List Int)} {f : List Int} {i : Int} {h : LH} (ll : LL h rw' cs) (g : h[rf]? = some (.lst (f.map .int))) (hi : 0 ≤ i ∧ i < cs.length) (lc : (cl cs i).length < 1000000) :
    Wp (evE G (.and (.cmp .NotIn (.var 4) (.var 1)) (.blt .all (.cons (.lc [5] (.name 5) (.val (.idx (.var 0) (.var 4))) (.bl true) (.cmp .In (.var 5) (.var 1))) .nil))) [some (.ref rw'), some (.ref rf), a, b, some (.int i), none] h) fun v h2 => v = .bl (ready cs f i) ∧ Ext h h2 := by
  simp [in_ints g]
  by_cases m : i ∈ f
  · simp [m, ready, Ext.refl]
  · simp [m]
    obtain ⟨r', e1, e2⟩ := ll.at hi
    rw [e1, wo_some]
    simp
    rw [walk_ref e2, wo_some]
    refine Wp.mono (lc_enc L.int (cl cs i) h (fun _ => true) (fun j => .bl (decide (j ∈ f))) lc (fun i h' x => lst_at (x _ _ e2)) ?_) ?_
    · rintro j h3 hj x3
      refine ⟨_, rfl, ?_⟩
      simp [wipeL, in_ints (x3 _ _ g), Ext.refl]
    · rintro ys h3 ⟨rfl, x3⟩
      rw [filter_true, all_new, wo_some]
      refine ⟨?_, x3.trans (Ext.app _ _)⟩
      simp [ready, m]
/-- graphs of a bounded size -/
structure OkG (cs : List (List Int)) : Prop where
  ln : cs.length < 1000
  wf : Wf cs
  so : ∀ x, List.Pairwise (· < ·) (cl cs x)
theorem OkG.cl_nd {cs : List (List Int)} (o : OkG cs) (x : Int) : (cl cs x).Nodup := (o.so x).imp fun h => by omega
theorem OkG.cl_len {cs : List (List Int)} (o : OkG cs) (x : Int) : (cl cs x).length < 1000000 := by
  have := len_le_rng (o.cl_nd x) (o.wf x)
  have := o.ln
  omega
theorem law_turn {d rw' : Nat} {cs : List (List Int)} {h : LH} {Q : L → LH → Prop} (ll : LL h rw' cs) (o : OkG cs)
    (q : ∀ h' r, Ext h h' → h.length ≤ r → h'[r]? = some (.lst ((turn cs).map .int)) → Q (.ref r) h') : Wp (run (d + 1) Pg.f__law_turn [.ref rw'] h) Q := by
  refine wp_run rfl rfl ?_
  show Ws (evSs ⟨Pg.gl, Pg.gd, run d⟩ Pg.b__law_turn [some (.ref rw'), none, none, none, none, none] h) _ _
  unfold Pg.b__law_turn
  have zl : sizeLine = 16777216 := by decide
  have ln := o.ln
  simp [zl, (ll.ext (Ext.app _ _)).len, near_small (show cs.length < 100000 by omega), rngV_rngI]
  refine ws_for ((rngI cs.length).map .int) (fun i sl h' => ∃ a b, sl = [some (.ref rw'), some (.ref h.length), a, b, none, none] ∧ Ext h h' ∧ h'[h.length]? = some (.lst ((turnK cs i []).map .int))) (fun _ _ _ _ => rfl) ?_ ?_ whileFuel 0 _ _ (by omega) (by show _ < 1000000000000 + 0; simp [rngI_len]; omega) ⟨_, _, rfl, Ext.app _ _, by simp [turnK]⟩
  · rintro i x sl h' e ⟨a, b, rfl, x0, g⟩
    refine ⟨_, _, rfl, ?_⟩
    simp [(ll.ext x0).len, near_small (show cs.length < 100000 by omega), rngV_rngI, wipeL]
    have iv := inv_turn i [] (Inv.nil (cs := cs))
    have fl := iv.len
    refine Wp.mono (lc_enc L.int (rngI cs.length) h' (ready cs (turnK cs i [])) L.int (by rw [rngI_len]; omega) (fun _ _ _ => rfl) ?_) ?_
    · rintro j h3 hj x3
      refine ⟨_, rfl, ?_⟩
      refine Wp.mono (ready_lst (ll.ext (x0.trans x3)) (x3 _ _ g) (mem_rngI.mp hj) (o.cl_len j)) ?_
      rintro v h4 ⟨rfl, x4⟩
      refine ⟨rfl, x4, fun _ => ?_⟩
      simp [Ext.refl]
    · rintro ys h3 ⟨rfl, x3⟩
      have g3 := (x3.trans (Ext.app h3 [.lst ((List.filter (ready cs (turnK cs i [])) (rngI cs.length)).map L.int)])) _ _ g
      have g4 := get_new h3 (.lst ((List.filter (ready cs (turnK cs i [])) (rngI cs.length)).map L.int))
      have c1 := cut_take ((List.filter (ready cs (turnK cs i [])) (rngI cs.length)).map L.int) 1
      have l3 := x0.len
      have l4 := x3.len
      have l5 := lt_of_get g
      have l6 := lt_of_get g4
      simp [lst_ref g3, slc_ref g4, wo_newL]
      rw [show ((1 : Int)) = ((1 : Nat) : Int) from rfl, c1]
      refine ⟨by rw [List.length_take]; omega, ?_⟩
      have g5 := Ext.app (h3 ++ [LO.lst ((List.filter (ready cs (turnK cs i [])) (rngI cs.length)).map L.int)]) [.lst (((List.filter (ready cs (turnK cs i [])) (rngI cs.length)).map L.int).take 1)] _ _ g3
      have g6 := get_new (h3 ++ [LO.lst ((List.filter (ready cs (turnK cs i [])) (rngI cs.length)).map L.int)]) (.lst (((List.filter (ready cs (turnK cs i [])) (rngI cs.length)).map L.int).take 1))
      simp only [List.append_assoc, List.length_append, List.length_cons, List.length_nil, List.cons_append, List.nil_append] at g5 g6 ⊢
      rw [ext_ref g5 g6 (by rw [List.length_take, List.length_map]; omega), wo_some]
      refine ⟨?_, ?_⟩
      · exact (x0.trans (x3.trans (Ext.app _ _))).set (Nat.le_refl _) _
      · rw [get_set_eq _ g5, turnK_succ]
        simp [tstep, free]
  · rintro sl h' ⟨a, b, rfl, x0, g⟩
    rw [List.length_map, rngI_len] at g
    simp
    exact q _ _ x0 (Nat.le_refl _) g
end Lw
end
section
set_option Elab.async false
set_option linter.all false
set_option autoImplicit false
set_option maxRecDepth 100000
/-! turn_of -/
namespace Lw
open PySem Ly
theorem idx_img1 {ws : List Wk} {h : LH} : idxL (imgL ws) (.int 1) h = some (.tup (ws.map Wk.l), h) := by
  simp [imgL]
  rfl
theorem get_app (h e : LH) (k : Nat) : (h ++ e)[h.length + k]? = e[k]? := by
  rw [List.getElem?_append_right (by omega)]
  congr 1
  omega
theorem cl_csOf {ws : List Wk} {n : Nat} {w : Wk} (e : ws[n]? = some w) : cl (csOf ws) n = w.calls := by
  unfold cl csOf
  simp [e]
theorem csOf_len (ws : List Wk) : (csOf ws).length = ws.length := by simp [csOf]
theorem addD_new {ds : List Int} {c : Int} (n : c ∉ ds) : addD ds c = ds ++ [c] := by simp [addD, n]
theorem put_dk2 {h : LH} {r : Nat} {ds : List Int} {c : Int} (e : h[r]? = some (.dk (dkT ds))) (n : c ∉ ds) (l : ds.length < 1000) : putL (.ref r) (.int c) (.bl true) h = some (h.set r (.dk (dkT (ds ++ [c])))) := by
  rw [put_dk e l, addD_new n]
theorem turn_of {d : Nat} {ws : List Wk} {h : LH} {Q : L → LH → Prop} (ok : OkI ws) (o : OkG (csOf ws))
    (q : ∀ h' r, Ext h h' → h.length ≤ r → h'[r]? = some (.lst ((turn (csOf ws)).map .int)) → Q (.ref r) h') : Wp (run (d + 10) Pg.f_turn_of [imgL ws] h) Q := by
  refine wp_run rfl rfl ?_
  show Ws (evSs ⟨Pg.gl, Pg.gd, run (d + 9)⟩ Pg.b_turn_of [some (imgL ws), none, none, none, none, none, none] h) _ _
  unfold Pg.b_turn_of
  have zl : sizeLine = 16777216 := by decide
  have ln := ok.1
  have cn := csOf_len ws
  have el := idx_img1 (ws := ws) (h := h)
  simp [el, near_small (show ws.length < 100000 by omega), rngV_rngI]
  refine wp_lc ((rngI ws.length).map .int) (fun i acc h' => Ext h h' ∧ ∃ rs : List Nat, acc = rs.map .ref ∧ rs.length = i ∧ ∀ (j : Nat) (c : List Int), j < i → (csOf ws)[j]? = some c → ∃ r' : Nat, rs[j]? = some r' ∧ h'[r']? = some (.lst (c.map .int))) (fun _ _ _ _ => rfl) ?_ ?_ (by simp [rngI_len, zl]; omega) whileFuel 0 [] h (Nat.le_refl _) (Nat.zero_le _) (by show _ < 1000000000000 + 0; simp [rngI_len]; omega) ⟨Ext.refl _, [], rfl, rfl, by omega⟩
  · rintro i x acc h1 e la ⟨x1, rs, rfl, lr, g⟩
    have li : i < ws.length := by
      have := (List.getElem?_eq_some_iff.mp e).1
      simpa [rngI_len] using this
    have ex : x = .int i := by
      simp [rngI, li] at e
      exact e.symm
    subst ex
    obtain ⟨w, ew⟩ : ∃ w, ws[i]? = some w := ⟨ws[i], List.getElem?_eq_getElem li⟩
    refine ⟨_, _, rfl, ?_⟩
    simp [wipeL]
    refine called ok ew fun h2 r x2 l2 g2 => ?_
    refine ⟨x1.trans x2, rs ++ [r], by simp, by simp [lr], fun j c hj ec => ?_⟩
    rcases Nat.lt_or_ge j i with l | l
    · obtain ⟨r', e1, e2⟩ := g j c l ec
      exact ⟨r', by rw [List.getElem?_append_left (by omega)]; exact e1, x2 _ _ e2⟩
    · have ej : j = i := by omega
      subst ej
      refine ⟨r, by rw [List.getElem?_append_right (by omega)]; simp [lr], ?_⟩
      have : c = w.calls := by
        simp [csOf, ew] at ec
        exact ec.symm
      rw [this]
      exact g2
  rintro acc h1 la ⟨x1, rs, rfl, lr, g⟩
  rw [List.length_map, rngI_len] at lr g
  have ll : LL (h1 ++ [.lst (rs.map .ref)]) h1.length (csOf ws) := by
    refine ⟨rs, get_new _ _, by omega, fun i c ec => ?_⟩
    have li := (List.getElem?_eq_some_iff.mp ec).1
    obtain ⟨r', e1, e2⟩ := g i c (by omega) ec
    exact ⟨r', e1, Ext.app _ _ _ _ e2⟩
  simp [zl]
  have lw : (h1 ++ [LO.lst (rs.map L.ref)] ++ [.lst []] ++ [.dk []])[h1.length + 1]? = some (.lst []) := by simp only [List.append_assoc, List.cons_append, List.nil_append]; exact get_app _ _ 1
  have lw2 : (h1 ++ [LO.lst (rs.map L.ref)] ++ [.lst []] ++ [.dk []])[h1.length + 1 + 1]? = some (.dk []) := by simp only [List.append_assoc, List.cons_append, List.nil_append]; exact get_app _ _ 2
  have xb : Ext h (h1 ++ [LO.lst (rs.map L.ref)]) := x1.trans (Ext.app _ _)
  have xc : Ext (h1 ++ [LO.lst (rs.map L.ref)]) (h1 ++ [LO.lst (rs.map L.ref)] ++ [.lst []] ++ [.dk []]) := (Ext.app _ _).trans (Ext.app _ _)
  have lb : (h1 ++ [LO.lst (rs.map L.ref)]).length = h1.length + 1 := by simp
  have hl := x1.len
  simp only [List.append_assoc, List.cons_append, List.nil_append] at lw lw2 xc
  generalize (h1 ++ [LO.lst (rs.map L.ref), .lst [], .dk []]) = h0 at *
  generalize (h1 ++ [LO.lst (rs.map L.ref)]) = hb at *
  refine ws_while (fun n sl h' => ∃ k a, k + n = ws.length ∧ sl = [some (imgL ws), some (.ref h1.length), some (.ref (h1.length + 1)), some (.ref (h1.length + 1 + 1)), a, none, none] ∧ Ext hb h' ∧
    h'[h1.length + 1]? = some (.lst ((turnK (csOf ws) k []).map .int)) ∧ h'[h1.length + 1 + 1]? = some (.dk (dkT (turnK (csOf ws) k []))) ∧ (turnK (csOf ws) k []).length = k) ?_ ws.length _ _ _ (by show _ < 1000000000000; omega) ⟨0, none, by omega, rfl, xc, by simpa [turnK] using lw, by simpa [turnK, dkT] using lw2, rfl⟩
  rintro n sl h' ⟨k, a, hk, rfl, x0, gf, gp, lk⟩
  have ll' := ll.ext x0
  have iv := inv_turn k [] (Inv.nil (cs := csOf ws))
  refine .inr ⟨rfl, ?_⟩
  simp [ll'.len, near_small (show (csOf ws).length < 100000 by omega), rngV_rngI]
  refine Wp.mono (lc_enc L.int (rngI (csOf ws).length) h' (ready (csOf ws) (turnK (csOf ws) k [])) L.int (by rw [rngI_len]; omega) (fun _ _ _ => rfl) ?_) ?_
  · rintro j h3 hj x3
    refine ⟨_, rfl, ?_⟩
    simp only [wipeL, List.set]
    refine Wp.mono (ready_dk (b := none) (ll'.ext x3) (x3 _ _ gp) (mem_rngI.mp hj) (o.cl_len j)) ?_
    rintro v h4 ⟨rfl, x4⟩
    refine ⟨rfl, x4, fun _ => ?_⟩
    simp [Ext.refl]
  · rintro ys h3 ⟨rfl, x3⟩
    have ef : (rngI (csOf ws).length).filter (ready (csOf ws) (turnK (csOf ws) k [])) = free (csOf ws) (turnK (csOf ws) k []) := rfl
    rw [ef]
    have g4 := get_new h3 (.lst ((free (csOf ws) (turnK (csOf ws) k [])).map L.int))
    have g5 := get_new (h3 ++ [.lst ((free (csOf ws) (turnK (csOf ws) k [])).map L.int)]) (.lst [])
    have en := eqL_nil (Ext.app _ [.lst []] _ _ g4) g5
    simp at en
    rw [en, wo_some]
    have xx := Ext.app h3 [LO.lst ((free (csOf ws) (turnK (csOf ws) k [])).map L.int), .lst []]
    have gf1 := xx _ _ (x3 _ _ gf)
    have gp1 := xx _ _ (x3 _ _ gp)
    have x00 := x0.trans (x3.trans xx)
    have ll4 := ll'.ext (x3.trans xx)
    have gs : (h3 ++ [LO.lst ((free (csOf ws) (turnK (csOf ws) k [])).map L.int), .lst []])[h3.length]? = some (.lst ((free (csOf ws) (turnK (csOf ws) k [])).map L.int)) := get_app _ _ 0
    generalize (h3 ++ [LO.lst ((free (csOf ws) (turnK (csOf ws) k [])).map L.int), .lst []]) = h4 at gf1 gp1 x00 gs ll4 ⊢
    cases e : free (csOf ws) (turnK (csOf ws) k []) with
    | nil =>
      simp
      rw [turn_of_stop (by omega) e] at gf1
      exact q _ _ (xb.trans x00) (by omega) gf1
    | cons z zs =>
      have mz : z ∈ free (csOf ws) (turnK (csOf ws) k []) := by rw [e]; exact List.mem_cons_self
      have nz := (mem_free.mp mz).2.1
      have l5 := tstep_len (cs := csOf ws) (f := turnK (csOf ws) k []) (by rw [e]; simp)
      have l6 := iv.step.len
      have et : turnK (csOf ws) (k + 1) [] = turnK (csOf ws) k [] ++ [z] := by
        rw [turnK_succ]
        unfold tstep
        rw [e]
        rfl
      rw [e] at gs
      simp [lst_ref gf1, idx_ref gs]
      rw [app_ref gf1 (by rw [List.length_map, zl]; omega), wo_some]
      have ne : h1.length + 1 ≠ h1.length + 1 + 1 := by omega
      have ns : h1.length + 1 ≠ h3.length := by
        have := lt_of_get (x3 _ _ gf)
        omega
      have gp2 := get_set_ne (.lst ((turnK (csOf ws) k []).map L.int ++ [L.int z])) gp1 ne
      have gs2 := get_set_ne (.lst ((turnK (csOf ws) k []).map L.int ++ [L.int z])) gs ns
      have gf2 := get_set_eq (.lst ((turnK (csOf ws) k []).map L.int ++ [L.int z])) gf1
      simp [idx_ref gs2]
      rw [put_dk2 gp2 nz (by omega), wo_some]
      refine ⟨n - 1, by omega, k + 1, by omega, (x00.set (by omega) _).set (by omega) _, ?_, ?_, by rw [et]; simp [lk]⟩
      · rw [get_set_ne _ gf2 ne.symm, et]
        simp
      · rw [get_set_eq _ gp2, et]
end Lw
end
section
set_option Elab.async false
set_option linter.all false
set_option autoImplicit false
set_option maxRecDepth 100000
/-! ring_in, _law_ring -/
namespace Lw
open PySem Ly
theorem idx_last {h : LH} {r : Nat} {row : List Int} (g : h[r]? = some (.lst (row.map .int))) (n : row ≠ []) : idxL (.ref r) (.int (-1)) h = some (.int (lastI row), h) := by
  rw [idx_ref g]
  rcases List.eq_nil_or_concat row with rfl | ⟨l, x, rfl⟩
  · exact (n rfl).elim
  · rw [List.concat_eq_append, lastI_snoc]
    have : L2.atI ((l ++ [x]).map L.int) (-1) = some (.int x) := by
      simp [L2.atI, L2.ixN]
      have e : (-1 + ((l.length : Int) + 1)).toNat = l.length := by omega
      rw [if_pos (by omega), e]
      simp
    rw [this]
    rfl
theorem firstEq_ints (x : Int) : ∀ {xs : List Int}, x ∈ xs → firstEq (.int x) (xs.map L2.V.int) = some (ixI x xs)
  | [], m => by cases m
  | y :: ys, m => by
    by_cases q : y = x
    · simp [firstEq, ixI, q, L2.eqV]
    · have : x ∈ ys := by
        rcases List.mem_cons.mp m with e | h
        · exact (q e.symm).elim
        · exact h
      simp [firstEq, ixI, q, L2.eqV, firstEq_ints x this]
theorem index_ints {h : LH} {r : Nat} {x : Int} {xs : List Int} (g : h[r]? = some (.lst (xs.map .int))) (m : x ∈ xs) : methL .index (.ref r) [.int x] h = some (.int (ixI x xs : Nat), h) := by
  simp [methL, idx2, lstAt, g, L.fv, fv_ints, firstEq_ints x m]
theorem minI_mnI : ∀ xs : List Int, minI xs = mnI xs
  | [] => rfl
  | [x] => rfl
  | x :: y :: l => by
    have := minI_mnI (y :: l)
    show (if minI (y :: l) < x then minI (y :: l) else x) = (if mnI (y :: l) < x then mnI (y :: l) else x)
    rw [this]
theorem gotI_ref {h : LH} {r : Nat} {xs : List Int} (g : h[r]? = some (.lst (xs.map .int))) : gotI h (.ref r) = some xs := by
  have := mapO_map L.int? L.int (fun x => x) (fun _ => rfl) xs
  simp [gotI, lstAt, g, this]
theorem min_ints {h : LH} {r : Nat} {xs : List Int} (g : h[r]? = some (.lst (xs.map .int))) (n : xs ≠ []) : bltL .min [.ref r] h = some (.int (mnI xs), h) := by
  cases xs with
  | nil => exact (n rfl).elim
  | cons x xs => simp [bltL, ot, min1, gotI_ref g, minN, minI_mnI]
theorem add_ref {h : LH} {a b : Nat} {xs ys : List L} (g : h[a]? = some (.lst xs)) (g' : h[b]? = some (.lst ys)) : binL .Add (.ref a) (.ref b) h = newL h (xs ++ ys) := by
  simp [binL, g, g']
/-- what a ring is told as -/
def RingL (h0 h : LH) (v : L) : Option (List Int) → Prop
  | none => v = .non
  | some l => ∃ r : Nat, v = .ref r ∧ h0.length ≤ r ∧ h[r]? = some (.lst (l.map .int))
theorem left_filter (cs : List (List Int)) : (rngI cs.length).filter (fun i => !decide (i ∈ turn cs)) = leftI cs := rfl
theorem nexts_sorted {cs : List (List Int)} (o : OkG cs) {x : Int} (m : x ∈ leftI cs) : nexts cs x ≠ [] ∧ mnI (nexts cs x) = nxt cs x := by
  obtain ⟨r, e⟩ := nxt_mem o.wf m
  refine ⟨by rw [e]; simp, ?_⟩
  have p : List.Pairwise (· < ·) (nexts cs x) := (o.so x).filter _
  rw [e] at p ⊢
  exact mnI_sorted r _ p
/-- the ring's end, as both tell it: ring, then its least one first -/
theorem ring_end {h : LH} {ro : Nat} {row : List Int} {late : Int} (g : h[ro]? = some (.lst (row.map .int))) (lr : row.length < 1000) (m : late ∈ row) {G : Gm} {T : L → LH → Prop} {N : LS → LH → Prop} {s0 s1 s2 s4 s5 s6 s7 : Option L}
    (q : ∀ h' r, Ext h h' → h.length ≤ r → h'[r]? = some (.lst ((rot (row.drop (ixI late row))).map .int)) → T (.ref r) h') :
    Ws (evSs G (.cons (.set 6 (.slc (.var 3) (.meth .index (.var 3) (.cons (.var 4) .nil)) .non)) (.cons (.set 7 (.meth .index (.var 6) (.cons (.blt .min (.cons (.var 6) .nil)) .nil))) (.cons (.ret (.bin .Add (.slc (.var 6) (.var 7) .non) (.slc (.var 6) .non (.var 7)))) .nil)))
      [s0, s1, s2, some (.ref ro), some (.int late), s4, s5, s6, s7] h) N T := by
  have zl : sizeLine = 16777216 := by decide
  have gi := ixI_get m
  have li := (List.getElem?_eq_some_iff.mp gi).1
  have ne : row.drop (ixI late row) ≠ [] := by
    intro e
    have := congrArg List.length e
    simp at this
    omega
  have ld : (row.drop (ixI late row)).length ≤ row.length := by simp
  simp [lst_ref g, index_ints g m, slc_ref g, wo_newL, cut_drop, zl]
  refine ⟨by omega, ?_⟩
  have g1 : (h ++ [LO.lst ((row.drop (ixI late row)).map L.int)])[h.length]? = some (.lst ((row.drop (ixI late row)).map .int)) := get_new _ _
  have x1 : Ext h (h ++ [LO.lst ((row.drop (ixI late row)).map L.int)]) := Ext.app _ _
  rw [← List.map_drop]
  generalize (h ++ [LO.lst ((row.drop (ixI late row)).map L.int)]) = h1 at g1 x1 ⊢
  generalize row.drop (ixI late row) = l at *
  rw [min_ints g1 ne, wo_some]
  simp only []
  rw [index_ints g1 (mnI_mem l ne), wo_some]
  refine ⟨by rw [lst_ref g1]; rfl, ?_⟩
  simp only [part_f, wo_some]
  rw [slc_ref g1, wo_newL]
  simp only [cut_drop]
  refine ⟨by simp [zl]; omega, ?_⟩
  rw [slc_ref (Ext.app _ _ _ _ g1), wo_newL]
  simp only [cut_take]
  refine ⟨by simp [zl]; omega, ?_⟩
  rw [add_ref (Ext.app _ _ _ _ (get_new _ _)) (get_new _ _), wo_newL]
  refine ⟨by simp [zl]; omega, ?_⟩
  refine q _ _ (x1.trans ((Ext.app _ _).trans ((Ext.app _ _).trans (Ext.app _ _)))) (by simp; have := x1.len; omega) ?_
  rw [get_new]
  simp [rot]
theorem ring_end2 {h : LH} {ro : Nat} {row : List Int} {late : Int} (g : h[ro]? = some (.lst (row.map .int))) (lr : row.length < 1000) (m : late ∈ row) {G : Gm} {T : L → LH → Prop} {N : LS → LH → Prop} {s0 s1 s2 s3 s5 s6 s7 s8 : Option L}
    (q : ∀ h' r, Ext h h' → h.length ≤ r → h'[r]? = some (.lst ((rot (row.drop (ixI late row))).map .int)) → T (.ref r) h') :
    Ws (evSs G (.cons (.set 7 (.slc (.var 3) (.meth .index (.var 3) (.cons (.var 5) .nil)) .non)) (.cons (.set 8 (.meth .index (.var 7) (.cons (.blt .min (.cons (.var 7) .nil)) .nil))) (.cons (.ret (.bin .Add (.slc (.var 7) (.var 8) .non) (.slc (.var 7) .non (.var 8)))) .nil)))
      [s0, s1, s2, some (.ref ro), s3, some (.int late), s5, s6, s7, s8] h) N T := by
  have zl : sizeLine = 16777216 := by decide
  have gi := ixI_get m
  have li := (List.getElem?_eq_some_iff.mp gi).1
  have ne : row.drop (ixI late row) ≠ [] := by
    intro e
    have := congrArg List.length e
    simp at this
    omega
  have ld : (row.drop (ixI late row)).length ≤ row.length := by simp
  simp [lst_ref g, index_ints g m, slc_ref g, wo_newL, cut_drop, zl]
  refine ⟨by omega, ?_⟩
  have g1 : (h ++ [LO.lst ((row.drop (ixI late row)).map L.int)])[h.length]? = some (.lst ((row.drop (ixI late row)).map .int)) := get_new _ _
  have x1 : Ext h (h ++ [LO.lst ((row.drop (ixI late row)).map L.int)]) := Ext.app _ _
  rw [← List.map_drop]
  generalize (h ++ [LO.lst ((row.drop (ixI late row)).map L.int)]) = h1 at g1 x1 ⊢
  generalize row.drop (ixI late row) = l at *
  rw [min_ints g1 ne, wo_some]
  simp only []
  rw [index_ints g1 (mnI_mem l ne), wo_some]
  refine ⟨by rw [lst_ref g1]; rfl, ?_⟩
  simp only [part_f, wo_some]
  rw [slc_ref g1, wo_newL]
  simp only [cut_drop]
  refine ⟨by simp [zl]; omega, ?_⟩
  rw [slc_ref (Ext.app _ _ _ _ g1), wo_newL]
  simp only [cut_take]
  refine ⟨by simp [zl]; omega, ?_⟩
  rw [add_ref (Ext.app _ _ _ _ (get_new _ _)) (get_new _ _), wo_newL]
  refine ⟨by simp [zl]; omega, ?_⟩
  refine q _ _ (x1.trans ((Ext.app _ _).trans ((Ext.app _ _).trans (Ext.app _ _)))) (by simp; have := x1.len; omega) ?_
  rw [get_new]
  simp [rot]
def RingI (cs : List (List Int)) (res : List Int) (k : Nat) (row : List Int) : Prop := ringK cs k row = some res ∧ RowI cs row
theorem ringI_step {cs : List (List Int)} (o : OkG cs) {res row : List Int} {k : Nat} (i : RingI cs res k row) : ∃ m, k = m + 1 ∧ ((nxt cs (lastI row) ∈ row ∧ rot (row.drop (ixI (nxt cs (lastI row)) row)) = res) ∨ (nxt cs (lastI row) ∉ row ∧ RingI cs res m (row ++ [nxt cs (lastI row)]))) := by
  obtain ⟨e, r⟩ := i
  cases k with
  | zero => cases e
  | succ m =>
    refine ⟨m, rfl, ?_⟩
    unfold ringK at e
    by_cases c : nxt cs (lastI row) ∈ row
    · rw [if_pos c] at e
      exact .inl ⟨c, Option.some.inj e⟩
    · rw [if_neg c] at e
      exact .inr ⟨c, e, r.step o.wf c⟩
theorem law_ring {d rw' : Nat} {cs : List (List Int)} {h : LH} {Q : L → LH → Prop} (ll : LL h rw' cs) (o : OkG cs)
    (q : ∀ h' v, Ext h h' → RingL h h' v (ring cs) → Q v h') : Wp (run (d + 2) Pg.f__law_ring [.ref rw'] h) Q := by
  refine wp_run rfl rfl ?_
  show Ws (evSs ⟨Pg.gl, Pg.gd, run (d + 1)⟩ Pg.b__law_ring [some (.ref rw'), none, none, none, none, none, none, none, none, none] h) _ _
  unfold Pg.b__law_ring
  have zl : sizeLine = 16777216 := by decide
  have ln := o.ln
  simp
  refine law_turn ll o fun h1 r1 x1 l1 g1 => ?_
  simp [zl, (ll.ext x1).len, near_small (show cs.length < 100000 by omega), rngV_rngI, wipeL]
  refine Wp.mono (lc_enc L.int (rngI cs.length) h1 (fun i => !decide (i ∈ turn cs)) L.int (by rw [rngI_len]; omega) (fun _ _ _ => rfl) ?_) ?_
  · rintro j h3 hj x3
    refine ⟨_, rfl, ?_⟩
    simp [in_ints (x3 _ _ g1), Ext.refl]
  rintro ys h2 ⟨rfl, x2⟩
  rw [left_filter]
  have g4 := get_new h2 (.lst ((leftI cs).map L.int))
  have g5 := get_new (h2 ++ [.lst ((leftI cs).map L.int)]) (.lst [])
  have en := eqL_nil (Ext.app _ [.lst []] _ _ g4) g5
  simp at en
  rw [en, wo_some]
  have xx := x1.trans (x2.trans (Ext.app h2 [LO.lst ((leftI cs).map L.int), .lst []]))
  have gs : (h2 ++ [LO.lst ((leftI cs).map L.int), .lst []])[h2.length]? = some (.lst ((leftI cs).map L.int)) := get_app _ _ 0
  have l2 := (x1.trans x2).len
  generalize (h2 ++ [LO.lst ((leftI cs).map L.int), .lst []]) = h4 at xx gs ⊢
  cases e : leftI cs with
  | nil =>
    simp
    refine q _ _ xx ?_
    rw [(ring_none o.wf).mpr e]
    rfl
  | cons z zs =>
    obtain ⟨res, er, ek, _⟩ := ring_left o.wf e
    rw [er] at q
    have gz := gs
    rw [e] at gz
    simp [idx_ref gz, zl]
    have lx := xx.len
    have ll4 := (ll.ext xx).ext (Ext.app h4 [.lst [.int z]])
    simp [ll4.len, (show near62 ((cs.length : Int) + 1) = true from near_small (n := cs.length + 1) (by omega))]
    refine ws_for ((rngI (cs.length + 1)).map .int) (fun i sl h' => ∃ a b row, sl = [some (.ref rw'), some (.ref r1), some (.ref h2.length), some (.ref h4.length), a, b, none, none, none, none] ∧ Ext h4 h' ∧ h'[h4.length]? = some (.lst (row.map .int)) ∧ RingI cs res (cs.length + 1 - i) row) (fun _ _ _ _ => rfl) ?_ ?_ whileFuel 0 _ _ (by omega) (by show _ < 1000000000000 + 0; simp [rngI_len]; omega) ⟨_, _, [z], rfl, Ext.app _ _, get_new _ _, ek, row_one (by rw [e]; exact List.mem_cons_self)⟩
    · rintro i x sl h' ei ⟨a, b, row, rfl, x0, g, ri⟩
      obtain ⟨m, em, st⟩ := ringI_step o ri
      refine ⟨_, _, rfl, ?_⟩
      have ml := ri.2.ls _ ri.2.last
      have rl := ri.2.len
      obtain ⟨n1, n2⟩ := nexts_sorted o ml
      obtain ⟨r', e1, e2⟩ := ((ll.ext xx).ext x0).at (mem_left.mp ml).1
      simp [idx_last g ri.2.ne, e1]
      rw [walk_ref e2, wo_some]
      refine Wp.mono (lc_enc L.int (cl cs (lastI row)) h' (fun y => decide (y ∈ leftI cs)) L.int (o.cl_len _) (fun i h' x => lst_at (x _ _ e2)) ?_) ?_
      · rintro j h5 hj x5
        refine ⟨_, rfl, ?_⟩
        simp [wipeL, in_ints (x5 _ _ (x0 _ _ gs)), Ext.refl]
      rintro ys h5 ⟨rfl, x5⟩
      have en : (cl cs (lastI row)).filter (fun y => decide (y ∈ leftI cs)) = nexts cs (lastI row) := rfl
      rw [en, min_ints (get_new _ _) n1, n2, wo_some]
      have x6 := x5.trans (Ext.app h5 [.lst ((nexts cs (lastI row)).map L.int)])
      have g6 := x6 _ _ g
      have lx6 := xx.trans (x0.trans x6)
      have l6 := (x0.trans x6).len
      simp [in_ints g6]
      rcases st with ⟨mi, rfl⟩ | ⟨nm, ri'⟩
      · simp only [mi, decide_true, wif_t]
        have w := ring_end2 (G := ⟨Pg.gl, Pg.gd, run (d + 1)⟩) (T := Q) (N := fun _ _ => False) (s0 := none) (s1 := none) (s2 := none) (s3 := none) (s5 := none) (s6 := none) (s7 := none) (s8 := none) g6 (by omega) mi
          fun h7 r7 x7 l7 g7 => q _ _ (lx6.trans x7) ⟨r7, rfl, by have := lx6.len; omega, g7⟩
        simp at w
        exact w
      · simp only [nm, decide_false, wif_f]
        simp [lst_ref g6]
        rw [app_ref g6 (by simp [zl]; omega), wo_some]
        have l0 := (x0.trans x6).len
        refine ⟨(x0.trans x6).set (Nat.le_refl _) _, row ++ [nxt cs (lastI row)], ?_, ?_⟩
        · rw [get_set_eq _ g6]
          simp
        · have : m = cs.length - i := by omega
          rw [← this]
          exact ri'
    · rintro sl h' ⟨a, b, row, rfl, x0, g, ri⟩
      rw [List.length_map, rngI_len, Nat.sub_self] at ri
      cases ri.1
theorem nexts_idx {h : LH} {r : Nat} {cs : List (List Int)} (o : OkG cs) {x : Int} (m : x ∈ leftI cs) (g : h[r]? = some (.lst ((nexts cs x).map .int))) : idxL (.ref r) (.int 0) h = some (.int (nxt cs x), h) := by
  obtain ⟨t, e⟩ := nxt_mem o.wf m
  rw [e] at g
  rw [idx_ref g]
  simp
  rfl
theorem ring_in {d : Nat} {ws : List Wk} {h : LH} {Q : L → LH → Prop} (ok : OkI ws) (o : OkG (csOf ws))
    (q : ∀ h' v, Ext h h' → RingL h h' v (ring (csOf ws)) → Q v h') : Wp (run (d + 11) Pg.f_ring_in [imgL ws] h) Q := by
  refine wp_run rfl rfl ?_
  show Ws (evSs ⟨Pg.gl, Pg.gd, run (d + 10)⟩ Pg.b_ring_in [some (imgL ws), none, none, none, none, none, none, none, none] h) _ _
  unfold Pg.b_ring_in
  have zl : sizeLine = 16777216 := by decide
  have ln := ok.1
  have cn := csOf_len ws
  simp
  refine turn_of ok o fun h1 r1 x1 l1 g1 => ?_
  have el := idx_img1 (ws := ws) (h := h1)
  simp [zl, el, near_small (show ws.length < 100000 by omega), rngV_rngI, wipeL]
  rw [← cn]
  refine Wp.mono (lc_enc L.int (rngI (csOf ws).length) h1 (fun i => !decide (i ∈ turn (csOf ws))) L.int (by rw [rngI_len]; omega) (fun _ _ _ => rfl) ?_) ?_
  · rintro j h3 hj x3
    refine ⟨_, rfl, ?_⟩
    simp [in_ints (x3 _ _ g1), Ext.refl]
  rintro ys h2 ⟨rfl, x2⟩
  rw [left_filter]
  have g4 := get_new h2 (.lst ((leftI (csOf ws)).map L.int))
  have g5 := get_new (h2 ++ [.lst ((leftI (csOf ws)).map L.int)]) (.lst [])
  have en := eqL_nil (Ext.app _ [.lst []] _ _ g4) g5
  simp at en
  rw [en, wo_some]
  have xx := x1.trans (x2.trans (Ext.app h2 [LO.lst ((leftI (csOf ws)).map L.int), .lst []]))
  have gs : (h2 ++ [LO.lst ((leftI (csOf ws)).map L.int), .lst []])[h2.length]? = some (.lst ((leftI (csOf ws)).map L.int)) := get_app _ _ 0
  have l2 := (x1.trans x2).len
  generalize (h2 ++ [LO.lst ((leftI (csOf ws)).map L.int), .lst []]) = h4 at xx gs ⊢
  cases e : leftI (csOf ws) with
  | nil =>
    simp
    refine q _ _ xx ?_
    rw [(ring_none o.wf).mpr e]
    rfl
  | cons z zs =>
    obtain ⟨res, er, ek, _⟩ := ring_left o.wf e
    rw [er] at q
    have gz := gs
    rw [e] at gz
    simp [idx_ref gz, zl]
    have lx := xx.len
    refine ws_while (fun n sl h' => ∃ a row, sl = [some (imgL ws), some (.ref r1), some (.ref h2.length), some (.ref h4.length), a, none, none, none, none] ∧ Ext h4 h' ∧ h'[h4.length]? = some (.lst (row.map .int)) ∧ RingI (csOf ws) res (n + 1) row) ?_ (csOf ws).length whileFuel _ _ (by show _ < 1000000000000; omega) ⟨_, [z], rfl, Ext.app _ _, get_new _ _, ek, row_one (by rw [e]; exact List.mem_cons_self)⟩
    rintro n sl h' ⟨a, row, rfl, x0, g, ri⟩
    obtain ⟨m, em, st⟩ := ringI_step o ri
    refine .inr ⟨rfl, ?_⟩
    have ml := ri.2.ls _ ri.2.last
    have rl := ri.2.len
    have rg := (mem_left.mp ml).1
    obtain ⟨k, ek'⟩ := Int.eq_ofNat_of_zero_le rg.1
    obtain ⟨w, ew⟩ : ∃ w, ws[k]? = some w := ⟨ws[k]'(by omega), List.getElem?_eq_getElem (by omega)⟩
    simp [idx_last g ri.2.ne]
    rw [ek']
    refine called ok ew fun h8 r8 x8 l8 g8 => ?_
    rw [← cl_csOf ew, ← ek'] at g8
    rw [walk_ref g8, wo_some]
    refine Wp.mono (lc_enc L.int (cl (csOf ws) (lastI row)) h8 (fun y => decide (y ∈ leftI (csOf ws))) L.int (o.cl_len _) (fun i h' x => lst_at (x _ _ g8)) ?_) ?_
    · rintro j h5 hj x5
      refine ⟨_, rfl, ?_⟩
      simp [wipeL, in_ints (x5 _ _ (x8 _ _ (x0 _ _ gs))), Ext.refl]
    rintro ys h5 ⟨rfl, x5⟩
    have en : (cl (csOf ws) (lastI row)).filter (fun y => decide (y ∈ leftI (csOf ws))) = nexts (csOf ws) (lastI row) := rfl
    rw [en, nexts_idx o ml (get_new _ _), wo_some]
    have x6 := x8.trans (x5.trans (Ext.app h5 [.lst ((nexts (csOf ws) (lastI row)).map L.int)]))
    have g6 := x6 _ _ g
    have lx6 := xx.trans (x0.trans x6)
    have l6 := (x0.trans x6).len
    simp [in_ints g6]
    rcases st with ⟨mi, rfl⟩ | ⟨nm, ri'⟩
    · simp only [mi, decide_true, wif_t]
      have w := ring_end (G := ⟨Pg.gl, Pg.gd, run (d + 10)⟩) (T := Q) (N := fun _ _ => False) (s0 := none) (s1 := none) (s2 := none) (s4 := none) (s5 := none) (s6 := none) (s7 := none) g6 (by omega) mi
        fun h7 r7 x7 l7 g7 => q _ _ (lx6.trans x7) ⟨r7, rfl, by have := lx6.len; omega, g7⟩
      simp at w
      exact w
    · simp only [nm, decide_false, wif_f]
      simp [lst_ref g6]
      rw [app_ref g6 (by simp [zl]; omega), wo_some]
      have l0 := (x0.trans x6).len
      cases n with
      | zero =>
        have : m = 0 := by omega
        subst this
        cases ri'.1
      | succ n =>
        have : m = n + 1 := by omega
        subst this
        refine ⟨n, rfl, (x0.trans x6).set (Nat.le_refl _) _, row ++ [nxt (csOf ws) (lastI row)], ?_, ri'⟩
        rw [get_set_eq _ g6]
        simp
end Lw
end
section
set_option Elab.async false
set_option linter.all false
set_option autoImplicit false
set_option maxRecDepth 100000
/-! Sorted texts; what is reached -/
namespace Lw
open PySem Ly
theorem cps_inj {a b : Str} (e : a.cps.toList = b.cps.toList) : a = b := by
  cases a
  cases b
  simp at e
  rw [e]
theorem lt_asym {a b : Str} (h : Spec.ltCps a.cps.toList b.cps.toList = true) : Spec.ltCps b.cps.toList a.cps.toList = false := by
  rw [PyProof.Rows.ltCps_eq] at h ⊢
  have h := of_decide_eq_true h
  exact decide_eq_false (List.lt_asymm h)
theorem lt_tri {a b : Str} (h : Spec.ltCps a.cps.toList b.cps.toList = false) (h' : Spec.ltCps b.cps.toList a.cps.toList = false) : a = b := by
  rw [PyProof.Rows.ltCps_eq] at h h'
  have h := of_decide_eq_false h
  have h' := of_decide_eq_false h'
  exact cps_inj (List.le_antisymm (List.not_lt.mp h') (List.not_lt.mp h))
theorem lt_mix {y a b : Str} (h : Spec.ltCps y.cps.toList b.cps.toList = false) (h' : Spec.ltCps y.cps.toList a.cps.toList = true) : Spec.ltCps b.cps.toList a.cps.toList = true := by
  rw [PyProof.Rows.ltCps_eq] at h h' ⊢
  have h := of_decide_eq_false h
  have h' := of_decide_eq_true h'
  exact decide_eq_true (List.lt_of_le_of_lt (List.not_lt.mp h) h')
theorem insS_two (a b : Str) (l : List Str) : (if Spec.ltCps b.cps.toList a.cps.toList = true then b :: a :: l else a :: b :: l) = (if Spec.ltCps a.cps.toList b.cps.toList = true then a :: b :: l else b :: a :: l) := by
  cases h : Spec.ltCps b.cps.toList a.cps.toList with
  | true => simp [lt_asym h]
  | false =>
    cases h' : Spec.ltCps a.cps.toList b.cps.toList with
    | true => simp
    | false =>
      have := lt_tri h h'
      simp [this]
theorem insS_comm (a b : Str) : ∀ l, insS a (insS b l) = insS b (insS a l)
  | [] => insS_two a b []
  | y :: l => by
    have ih := insS_comm a b l
    cases ha : Spec.ltCps y.cps.toList a.cps.toList with
    | true =>
      cases hb : Spec.ltCps y.cps.toList b.cps.toList with
      | true => simp [insS, ha, hb, ih]
      | false => simp [insS, ha, hb, lt_mix hb ha]
    | false =>
      cases hb : Spec.ltCps y.cps.toList b.cps.toList with
      | true => simp [insS, ha, hb, lt_mix ha hb]
      | false =>
        have := insS_two a b (y :: l)
        simp [insS, ha, hb]
        exact this
theorem sortS_perm {l m : List Str} (p : l.Perm m) : sortS l = sortS m := by
  induction p with
  | nil => rfl
  | cons x _ ih => simp [sortS, ih]
  | swap x y l => exact insS_comm y x (sortS l)
  | trans _ _ a b => exact a.trans b
theorem insS_len (x : Str) : ∀ ys, (insS x ys).length = ys.length + 1
  | [] => rfl
  | y :: ys => by
    unfold insS
    by_cases q : Spec.ltCps y.cps.toList x.cps.toList = true <;> simp [q, insS_len x ys]
theorem sortS_len : ∀ ys, (sortS ys).length = ys.length
  | [] => rfl
  | y :: ys => by
    unfold sortS
    rw [insS_len, sortS_len ys]
    rfl
theorem sorted_strs {h : LH} {r : Nat} {xs : List Str} (g : h[r]? = some (.lst (xs.map .str))) (n : xs ≠ []) (l : xs.length < 64) : bltL .sorted [.ref r] h = newL h ((sortS xs).map .str) := by
  have m := mapO_map L.str? L.str (fun x => x) (fun _ => rfl) xs
  have m0 : mapO L.int? (xs.map .str) = none := by
    cases xs with
    | nil => exact (n rfl).elim
    | cons x xs => rfl
  simp [bltL, one, srt1, lstAt, g, srtL, l, m0, srtI, srtS, m]
theorem pop_ref {h : LH} {r : Nat} {xs : List Int} {x : Int} (g : h[r]? = some (.lst ((xs ++ [x]).map .int))) : methL .pop (.ref r) [] h = some (.int x, h.set r (.lst (xs.map .int))) := by
  simp only [List.map_append] at g
  simp [methL, g, popO, popN]
/-! ### the program's own going -/
def wsum (cs : List (List Int)) (f : List Int) : Nat := (((rngI cs.length).filter fun i => !decide (i ∈ f)).map fun i => (cl cs i).length).sum
theorem sum_drop (g : Int → Nat) (f : List Int) (x : Int) (nf : x ∉ f) : ∀ l : List Int, l.Nodup → ((l.filter fun i => !decide (i ∈ f)).map g).sum = (if x ∈ l then g x else 0) + ((l.filter fun i => !decide (i ∈ f ++ [x])).map g).sum
  | [], _ => rfl
  | y :: l, nd => by
    have nd' := List.nodup_cons.mp nd
    have ih := sum_drop g f x nf l nd'.2
    by_cases e : y = x
    · subst e
      simp only [nd'.1, if_false, Nat.zero_add] at ih
      simp [nf, ih]
    · have e' : x ≠ y := fun q => e q.symm
      by_cases m : y ∈ f
      · simp [m, e, e'] at ih ⊢
        exact ih
      · simp [m, e, e'] at ih ⊢
        omega
theorem wsum_drop {cs : List (List Int)} {f : List Int} {x : Int} (nf : x ∉ f) (hx : 0 ≤ x ∧ x < cs.length) : wsum cs f = (cl cs x).length + wsum cs (f ++ [x]) := by
  have := sum_drop (fun i => (cl cs i).length) f x nf (rngI cs.length) (rngI_nodup _)
  rw [if_pos (mem_rngI.mpr hx)] at this
  exact this
structure DI (cs : List (List Int)) (a : Int) (left f : List Int) : Prop where
  nd : f.Nodup
  rl : ∀ x ∈ left, Rch cs a x
  rf : ∀ x ∈ f, Rch cs a x
  ma : a ∈ f ∨ a ∈ left
  cl : ∀ x ∈ f, ∀ y ∈ cl cs x, y ∈ f ∨ y ∈ left
theorem DI.skip {cs : List (List Int)} {a x : Int} {left f : List Int} (i : DI cs a (left ++ [x]) f) (m : x ∈ f) : DI cs a left f := by
  refine ⟨i.nd, fun y h => i.rl y (List.mem_append_left _ h), i.rf, ?_, fun u hu y hy => ?_⟩
  · rcases i.ma with h | h
    · exact .inl h
    · rcases List.mem_append.mp h with h | h
      · exact .inr h
      · simp at h
        subst h
        exact .inl m
  · rcases i.cl u hu y hy with h | h
    · exact .inl h
    · rcases List.mem_append.mp h with h | h
      · exact .inr h
      · simp at h
        subst h
        exact .inl m
theorem DI.take {cs : List (List Int)} {a x : Int} {left f : List Int} (i : DI cs a (left ++ [x]) f) (m : x ∉ f) : DI cs a (left ++ Lw.cl cs x) (f ++ [x]) := by
  have rx : Rch cs a x := i.rl x (by simp)
  refine ⟨?_, fun y h => ?_, fun y h => ?_, ?_, fun u hu y hy => ?_⟩
  · rw [List.nodup_append]
    refine ⟨i.nd, by simp, ?_⟩
    intro u hu v hv e
    simp at hv
    subst hv
    subst e
    exact m hu
  · rcases List.mem_append.mp h with h | h
    · exact i.rl y (List.mem_append_left _ h)
    · exact .step rx h
  · rcases List.mem_append.mp h with h | h
    · exact i.rf y h
    · simp at h
      subst h
      exact rx
  · rcases i.ma with h | h
    · exact .inl (List.mem_append_left _ h)
    · rcases List.mem_append.mp h with h | h
      · exact .inr (List.mem_append_left _ h)
      · exact .inl (List.mem_append_right _ h)
  · rcases List.mem_append.mp hu with h | h
    · rcases i.cl u h y hy with h2 | h2
      · exact .inl (List.mem_append_left _ h2)
      · rcases List.mem_append.mp h2 with h3 | h3
        · exact .inr (List.mem_append_left _ h3)
        · exact .inl (List.mem_append_right _ h3)
    · simp at h
      subst h
      exact .inr (List.mem_append_right _ hy)
theorem DI.done {cs : List (List Int)} {a : Int} {f : List Int} (i : DI cs a [] f) (x : Int) : x ∈ f ↔ Rch cs a x := by
  refine ⟨i.rf x, fun r => ?_⟩
  refine rch_sub ?_ (fun u hu y hy => ?_) r
  · rcases i.ma with h | h
    · exact h
    · cases h
  · rcases i.cl u hu y hy with h | h
    · exact h
    · cases h
end Lw
end
section
set_option Elab.async false
set_option linter.all false
set_option autoImplicit false
set_option maxRecDepth 100000
/-! works_reached, _law_reached -/
namespace Lw
open PySem Ly
theorem law_reached {d rw' : Nat} {cs : List (List Int)} {a : Int} {h : LH} {Q : L → LH → Prop} (ll : LL h rw' cs) (o : OkG cs) (ha : 0 ≤ a ∧ a < cs.length)
    (q : ∀ h' r, Ext h h' → h.length ≤ r → h'[r]? = some (.lst ((rounds cs cs.length [a]).map .int)) → Q (.ref r) h') : Wp (run (d + 1) Pg.f__law_reached [.ref rw', .int a] h) Q := by
  refine wp_run rfl rfl ?_
  show Ws (evSs ⟨Pg.gl, Pg.gd, run d⟩ Pg.b__law_reached [some (.ref rw'), some (.int a), none, none, none, none] h) _ _
  unfold Pg.b__law_reached
  have zl : sizeLine = 16777216 := by decide
  have ln := o.ln
  simp [zl, (ll.ext (Ext.app _ _)).len, near_small (show cs.length < 100000 by omega), rngV_rngI]
  have ri0 : RI cs a [a] := ⟨by simp, by simp, fun x m => by simp at m; subst m; exact .refl⟩
  refine ws_for ((rngI cs.length).map .int) (fun i sl h' => ∃ b c f, sl = [some (.ref rw'), some (.int a), some (.ref h.length), b, c, none] ∧ Ext h h' ∧ h'[h.length]? = some (.lst (f.map .int)) ∧ RI cs a f ∧ rounds cs (cs.length - i) f = rounds cs cs.length [a]) (fun _ _ _ _ => rfl) ?_ ?_ whileFuel 0 _ _ (by omega) (by show _ < 1000000000000 + 0; simp [rngI_len]; omega) ⟨_, _, [a], rfl, Ext.app _ _, get_new _ _, ri0, rfl⟩
  · rintro i x sl h1 ei ⟨b, c, f, rfl, x1, g1, ri, er⟩
    have li : i < cs.length := by
      have := (List.getElem?_eq_some_iff.mp ei).1
      simpa [rngI_len] using this
    have lf : f.length ≤ cs.length := len_le_rng ri.nd fun x m => rch_lt o.wf ha (ri.rc x m)
    refine ⟨_, _, rfl, ?_⟩
    have el : bltL .list [.ref h.length] h1 = newL h1 (f.map .int) := by simp [bltL, one, lst1, seqAt, lstAt, g1]
    simp [el, wo_newL]
    refine ⟨by rw [zl]; omega, ?_⟩
    have gc := get_new h1 (.lst (f.map L.int))
    rw [walk_ref gc, wo_some]
    refine ws_for (f.map .int) (fun j sl h' => ∃ c, sl = [some (.ref rw'), some (.int a), some (.ref h.length), some x, c, none] ∧ Ext h h' ∧ h'[h1.length]? = some (.lst (f.map .int)) ∧ h'[h.length]? = some (.lst (((f.take j).foldl (ext1 cs) f).map .int))) ?_ ?_ ?_ whileFuel 0 _ _ (by omega) (by show _ < 1000000000000 + 0; simp; omega) ⟨_, rfl, x1.trans (Ext.app _ _), gc, by simpa using Ext.app _ _ _ _ g1⟩
    · rintro j sl h' ⟨c, rfl, x2, g2, g3⟩
      exact lst_at g2
    · rintro j y sl h' ey ⟨c, rfl, x2, g2, g3⟩
      rw [List.getElem?_map] at ey
      obtain ⟨k, ek, rfl⟩ := Option.map_eq_some_iff.mp ey
      have rk := ri.rc k (List.mem_of_getElem? ek)
      have rgk := rch_lt o.wf ha rk
      have rj : RI cs a ((f.take j).foldl (ext1 cs) f) := RI.fold o.cl_nd _ _ ri fun x m => ri.rc x (List.mem_of_mem_take m)
      have rj' : RI cs a (ext1 cs ((f.take j).foldl (ext1 cs) f) k) := rj.ext o.cl_nd rk
      have le : (ext1 cs ((f.take j).foldl (ext1 cs) f) k).length ≤ cs.length := len_le_rng rj'.nd fun x m => rch_lt o.wf ha (rj'.rc x m)
      generalize ef : (f.take j).foldl (ext1 cs) f = fj at *
      obtain ⟨r', e1, e2⟩ := (ll.ext x2).at rgk
      refine ⟨_, _, rfl, ?_⟩
      simp [lst_ref g3, e1]
      rw [walk_ref e2, wo_some]
      refine Wp.mono (lc_enc L.int (cl cs k) h' (fun y => !decide (y ∈ fj)) L.int (o.cl_len _) (fun i h' x => lst_at (x _ _ e2)) ?_) ?_
      · rintro j h5 hj x5
        refine ⟨_, rfl, ?_⟩
        simp [wipeL, in_ints (x5 _ _ g3), Ext.refl]
      rintro ys h5 ⟨rfl, x5⟩
      have x6 := x5.trans (Ext.app h5 [.lst (((cl cs k).filter (fun y => !decide (y ∈ fj))).map L.int)])
      have l2 := x2.len
      have nl : h1.length ≠ h.length := by
        have := lt_of_get g1
        omega
      rw [ext_ref (x6 _ _ g3) (get_new _ _) (by
        unfold ext1 at le
        rw [List.length_append] at le
        rw [List.length_map, List.length_map, zl]
        omega), wo_some]
      refine ⟨(x2.trans x6).set (Nat.le_refl _) _, get_set_ne _ (x6 _ _ g2) nl.symm, ?_⟩
      rw [get_set_eq _ (x6 _ _ g3), List.take_add_one, ek]
      simp [ef, ext1]
    · rintro sl h' ⟨c, rfl, x2, g2, g3⟩
      rw [List.length_map, List.take_length] at g3
      refine ⟨⟨_, _, rfl⟩, x2, round cs f, g3, RI.fold o.cl_nd f f ri ri.rc, ?_⟩
      rw [← er]
      have : cs.length - i = (cs.length - (i + 1)) + 1 := by omega
      rw [this]
      rfl
  · rintro sl h' ⟨b, c, f, rfl, x0, g, ri, er⟩
    rw [List.length_map, rngI_len, Nat.sub_self] at er
    simp
    refine q _ _ x0 (Nat.le_refl _) ?_
    rw [g, ← er]
    rfl
theorem eqL_nilS {h : LH} {r q : Nat} {xs : List Int} (g : h[r]? = some (.lst (xs.map .int))) (g' : h[q]? = some (.lst [])) : Option.map not (eqL (.ref r) (.ref q) h) = some (decide (xs ≠ [])) := by
  rw [eqL_nil g g']
  simp
theorem kys_at {h : LH} {r i : Nat} {ds : List Int} (g : h[r]? = some (.fz (dkT ds))) : (LIt.kys r).at h i = some (ds.map L.int)[i]? := by
  simp only [LIt.at, g, fzO, Option.map_some, dkT, List.getElem?_map]
  cases ds[i]? <;> rfl
theorem keys_ref {h : LH} {r : Nat} {kvs : List (L2.Key × L)} (g : h[r]? = some (.dk kvs)) : keysL (.ref r) h = .ok (.kys r) (h.set r (.fz kvs)) := by
  simp [keysL, g]
/-- the name of the work of a number -/
def nmAt (ws : List Wk) (i : Int) : Str := (ws[i.toNat]?.map (·.nm)).getD ""
theorem idx_work {ws : List Wk} {i : Int} {h : LH} (hi : 0 ≤ i ∧ i < ws.length) : ∃ w, L2.atI (ws.map Wk.l) i = some w ∧ idxL w (.int 0) h = some (.str (nmAt ws i), h) := by
  obtain ⟨k, rfl⟩ := Int.eq_ofNat_of_zero_le hi.1
  have lk : k < ws.length := by omega
  refine ⟨(ws[k]).l, ?_, ?_⟩
  · have : (ws.map Wk.l)[k]? = some (ws[k]).l := by simp [lk]
    simp [atI_nat this]
  · simp [Wk.l, workL, nmAt, lk]
    rfl
theorem sum_le (g : Int → Nat) (B : Nat) (hB : ∀ x, g x ≤ B) : ∀ l : List Int, (l.map g).sum ≤ l.length * B
  | [] => by simp
  | x :: l => by
    have := sum_le g B hB l
    have := hB x
    simp [Nat.add_mul]
    omega
theorem wsum_le {cs : List (List Int)} (nd : ∀ x, (cl cs x).Nodup) (w : Wf cs) : wsum cs [] ≤ cs.length * cs.length := by
  unfold wsum
  refine Nat.le_trans (sum_le _ cs.length (fun x => len_le_rng (nd x) (w x)) _) ?_
  refine Nat.mul_le_mul_right _ ?_
  refine Nat.le_trans (List.length_filter_le _ _) ?_
  rw [rngI_len]
  exact Nat.le_refl _
theorem works_reached {d : Nat} {ws : List Wk} {x : Str} {a : Nat} {h : LH} {Q : L → LH → Prop} (ok : OkI ws) (o : OkG (csOf ws)) (hn : ∀ w ∈ ws, PyData.strOk w.nm = true) (ea : fIx x (ws.map (·.nm)) = some a)
    (q : ∀ (h' : LH) (r : Nat) (f : List Int), Ext h h' → h.length ≤ r → f.Nodup → (∀ y, y ∈ f ↔ Rch (csOf ws) a y) → h'[r]? = some (.lst ((sortS (f.map (nmAt ws))).map .str)) → Q (.ref r) h') : Wp (run (d + 10) Pg.f_works_reached [imgL ws, .str x] h) Q := by
  refine wp_run rfl rfl ?_
  show Ws (evSs ⟨Pg.gl, Pg.gd, run (d + 9)⟩ Pg.b_works_reached [some (imgL ws), some (.str x), none, none, none, none] h) _ _
  unfold Pg.b_works_reached
  have zl : sizeLine = 16777216 := by decide
  have ln := ok.1
  have cn := csOf_len ws
  simp
  refine work_number (by omega) hn ea fun h1 x1 => ?_
  simp [zl]
  have la : a < ws.length := by
    have := (List.getElem?_eq_some_iff.mp (fIx_lt ea)).1
    simpa using this
  have hl := x1.len
  have g1 : (h1 ++ [LO.lst [.int a], .dk []])[h1.length]? = some (.lst ([(a : Int)].map .int)) := get_app _ _ 0
  have g2 : (h1 ++ [LO.lst [.int a], .dk []])[h1.length + 1]? = some (.dk (dkT [])) := get_app _ _ 1
  have xx : Ext h1 (h1 ++ [LO.lst [.int a], .dk []]) := Ext.app _ _
  generalize (h1 ++ [LO.lst [.int a], .dk []]) = h2 at g1 g2 xx ⊢
  refine ws_while (fun n sl h' => ∃ b left f, n = left.length + wsum (csOf ws) f ∧ sl = [some (imgL ws), some (.str x), some (.ref h1.length), some (.ref (h1.length + 1)), b, none] ∧ Ext h1 h' ∧ h'[h1.length]? = some (.lst (left.map .int)) ∧ h'[h1.length + 1]? = some (.dk (dkT f)) ∧ DI (csOf ws) a left f ∧ n < 10000) ?_ (1 + wsum (csOf ws) []) _ _ _ ?_ ⟨none, [(a : Int)], [], rfl, rfl, xx, g1, g2, ⟨by simp, fun y m => by simp at m; subst m; exact .refl, by simp, by simp, by simp⟩, by
      have := wsum_le (cs := csOf ws) o.cl_nd o.wf
      rw [cn] at this
      have : ws.length * ws.length ≤ 64 * 64 := Nat.mul_le_mul (by omega) (by omega)
      omega⟩
  · rintro n sl h' ⟨b, left, f, hn', rfl, x0, gl, gf, di, ll⟩
    have gl' := Ext.app h' [.lst []] _ _ gl
    have gf' := Ext.app h' [.lst []] _ _ gf
    have x0' := x0.trans (Ext.app h' [.lst []])
    have en := eqL_nilS gl' (get_new h' (.lst []))
    simp [zl]
    rw [eqL_nil gl' (get_new _ _), wo_some]
    generalize (h' ++ [LO.lst []]) = h4 at gl' gf' x0' ⊢
    rcases List.eq_nil_or_concat left with rfl | ⟨lf, y, rfl⟩
    · simp [keys_ref gf']
      have lf : f.length ≤ ws.length := by
        have := len_le_rng di.nd fun u m => rch_lt o.wf (a := (a : Int)) (by omega) (di.rf u m)
        omega
      have rgf : ∀ u ∈ f, 0 ≤ u ∧ u < ws.length := fun u m => by
        have := rch_lt o.wf (a := (a : Int)) (by omega) (di.rf u m)
        omega
      have gz := get_set_eq (.fz (dkT f)) gf'
      have xz : Ext h1 (h4.set (h1.length + 1) (.fz (dkT f))) := x0'.set (by omega) _
      generalize (h4.set (h1.length + 1) (.fz (dkT f))) = h5 at gz xz ⊢
      refine Wp.mono (lc_enc L.int f h5 (fun _ => true) (fun u => .str (nmAt ws u)) (by omega) (fun i h' x => kys_at (x _ _ gz)) ?_) ?_
      · rintro j h6 hj x6
        refine ⟨_, rfl, ?_⟩
        obtain ⟨w, w1, w2⟩ := idx_work (h := h6) (rgf j hj)
        simp [wipeL, idx_img1, w1, w2, Ext.refl]
      rintro ys h6 ⟨rfl, x6⟩
      rw [filter_true]
      have fn : f.map (nmAt ws) ≠ [] := by
        have : (a : Int) ∈ f := (di.done a).mpr .refl
        cases f with
        | nil => cases this
        | cons _ _ => simp
      have g7 := get_new h6 (.lst (f.map fun u => L.str (nmAt ws u)))
      rw [show (f.map fun u => L.str (nmAt ws u)) = (f.map (nmAt ws)).map .str by simp] at g7 ⊢
      rw [sorted_strs g7 fn (by simp; omega), wo_newL]
      refine ⟨by simp [sortS_len, zl]; omega, ?_⟩
      have x9 := x1.trans (xz.trans (x6.trans ((Ext.app h6 [LO.lst ((f.map (nmAt ws)).map L.str)]).trans (Ext.app _ [.lst ((sortS (f.map (nmAt ws))).map L.str)]))))
      refine q _ _ f x9 ?_ di.nd di.done (get_new _ _)
      have := (x1.trans (xz.trans x6)).len
      simp
      omega
    · rw [List.concat_eq_append] at *
      simp [lst_ref gl']
      rw [pop_ref gl', wo_some]
      simp
      have ne : h1.length ≠ h1.length + 1 := by omega
      have gf2 := get_set_ne (.lst (lf.map L.int)) gf' ne
      have gl2 := get_set_eq (.lst (lf.map L.int)) gl'
      have x2 : Ext h1 (h4.set h1.length (.lst (lf.map L.int))) := x0'.set (Nat.le_refl _) _
      have ry := rch_lt o.wf (a := (a : Int)) (by omega) (di.rl y (by simp))
      rw [in_dkT gf2, wo_some]
      simp at hn'
      by_cases m : y ∈ f
      · simp only [m, decide_true, Bool.not_true, wif_f]
        exact ⟨n - 1, by omega, _, lf, f, by omega, rfl, x2, gl2, gf', di.skip m, by omega⟩
      · simp only [m, decide_false, Bool.not_false, wif_t]
        have l9 := len_le_rng di.nd fun u m => rch_lt o.wf (a := (a : Int)) (by omega) (di.rf u m)
        rw [put_dk2 gf2 m (by omega), wo_some]
        have gf3 := get_set_eq (.dk (dkT (f ++ [y]))) gf2
        have gl3 := get_set_ne (.dk (dkT (f ++ [y]))) gl2 ne.symm
        have x3 := x2.set (show h1.length ≤ h1.length + 1 by omega) (.dk (dkT (f ++ [y])))
        generalize ((h4.set h1.length (.lst (lf.map L.int))).set (h1.length + 1) (.dk (dkT (f ++ [y])))) = h6 at gf3 gl3 x3 ⊢
        refine ⟨by rw [lst_ref gl3]; rfl, ?_⟩
        obtain ⟨k, rfl⟩ := Int.eq_ofNat_of_zero_le ry.1
        obtain ⟨w, ew⟩ : ∃ w, ws[k]? = some w := ⟨ws[k]'(by omega), List.getElem?_eq_getElem (by omega)⟩
        refine called ok ew fun h8 r8 x8 l8 g8 => ?_
        rw [← cl_csOf ew] at g8
        have wd := wsum_drop m ry
        rw [ext_ref (x8 _ _ gl3) g8 (by rw [List.length_map, List.length_map, zl]; omega), wo_some]
        have n8 : h1.length ≠ r8 := by
          have := lt_of_get gl3
          omega
        refine ⟨n - 1, by omega, _, lf ++ cl (csOf ws) k, f ++ [(k : Int)], ?_, rfl, (x3.trans x8).set (Nat.le_refl _) _, ?_, get_set_ne _ (x8 _ _ gf3) ne, di.take m, by omega⟩
        · rw [List.length_append]
          omega
        · rw [get_set_eq _ (x8 _ _ gl3)]
          simp
  · show _ < 1000000000000
    have := wsum_le (cs := csOf ws) o.cl_nd o.wf
    rw [cn] at this
    have : ws.length * ws.length ≤ 64 * 64 := Nat.mul_le_mul (by omega) (by omega)
    omega
end Lw
end
section
set_option Elab.async false
set_option linter.all false
set_option autoImplicit false
set_option maxRecDepth 100000
/-! call_turn, call_ring, deepest_call, _law_deep, users_of -/
namespace Lw
open PySem Ly
def StrL (h0 h : LH) (v : L) : Option (List Str) → Prop
  | none => v = .non
  | some l => ∃ r : Nat, v = .ref r ∧ h0.length ≤ r ∧ h[r]? = some (.lst (l.map .str))
/-- names of numbers, as the program tells them -/
theorem names_lc {G : Gm} {ws : List Wk} {r : Nat} {l : List Int} {h : LH} {s : Option L} (g : h[r]? = some (.lst (l.map .int))) (rg : ∀ x ∈ l, 0 ≤ x ∧ x < ws.length) (ll : l.length < 1000000) :
    Wp (lcGo (LIt.lst r).at (evT G (.name 2)) (evE G (.bl true)) (evE G (.idx (.idx (.idx (.var 0) (.int 1)) (.var 2)) (.int 0))) (wipeL [some (imgL ws), s, none] [2]) whileFuel 0 [] h) fun ys h2 => ys = (l.map (nmAt ws)).map .str ∧ Ext h h2 := by
  refine Wp.mono (lc_enc L.int l h (fun _ => true) (fun u => .str (nmAt ws u)) ll (fun i h' x => lst_at (x _ _ g)) ?_) ?_
  · rintro j h6 hj x6
    refine ⟨_, rfl, ?_⟩
    obtain ⟨w, w1, w2⟩ := idx_work (h := h6) (rg j hj)
    simp [wipeL, idx_img1, w1, w2, Ext.refl]
  rintro ys h6 ⟨rfl, x6⟩
  rw [filter_true]
  exact ⟨by simp, x6⟩
def turnN (ws : List Wk) : Option (List Str) := if leftI (csOf ws) = [] then some ((turn (csOf ws)).map (nmAt ws)) else none
def ringN (ws : List Wk) : Option (List Str) := (ring (csOf ws)).map fun l => l.map (nmAt ws)
theorem call_turn {d : Nat} {ws : List Wk} {h : LH} {Q : L → LH → Prop} (ok : OkI ws) (o : OkG (csOf ws))
    (q : ∀ h' v, Ext h h' → StrL h h' v (turnN ws) → Q v h') : Wp (run (d + 11) Pg.f_call_turn [imgL ws] h) Q := by
  refine wp_run rfl rfl ?_
  show Ws (evSs ⟨Pg.gl, Pg.gd, run (d + 10)⟩ Pg.b_call_turn [some (imgL ws), none, none] h) _ _
  unfold Pg.b_call_turn
  have ln := ok.1
  have cn := csOf_len ws
  simp
  refine turn_of ok o fun h1 r1 x1 l1 g1 => ?_
  simp [idx_img1, len_ref g1]
  have iv := turn_inv (cs := csOf ws)
  have ivl := iv.len
  by_cases e : leftI (csOf ws) = []
  · have e' := left_nil.mp e
    have e2 : (turn (csOf ws)).length = ws.length := by omega
    simp only [e2, decide_true, wif_t]
    rw [walk_ref g1, wo_some]
    refine Wp.mono (names_lc g1 (fun x m => by have := iv.rg x m; omega) (by omega)) ?_
    rintro ys h2 ⟨rfl, x2⟩
    refine q _ _ (x1.trans (x2.trans (Ext.app _ _))) ?_
    unfold turnN
    rw [if_pos e]
    exact ⟨_, rfl, (x1.trans x2).len, get_new _ _⟩
  · have e2 : ¬ ((turn (csOf ws)).length : Int) = ws.length := by
      have : ¬ (turn (csOf ws)).length = (csOf ws).length := fun q => e (left_nil.mpr q)
      omega
    simp only [e2, decide_false, wif_f]
    refine q _ _ x1 ?_
    unfold turnN
    rw [if_neg e]
    rfl
theorem ring_rg {cs : List (List Int)} (w : Wf cs) {l : List Int} (e : ring cs = some l) : ∀ x ∈ l, 0 ≤ x ∧ x < cs.length := by
  intro x hx
  unfold ring at e
  cases el : leftI cs with
  | nil => rw [el] at e; cases e
  | cons z zs =>
    obtain ⟨r, e1, _, _, _, hr⟩ := ring_left w el
    unfold ring at e1
    rw [e] at e1
    cases e1
    exact (mem_left.mp (hr x hx)).1
theorem rot_len (l : List Int) : (rot l).length = l.length := by
  unfold rot
  simp
  omega
theorem ringK_len {cs : List (List Int)} (o : OkG cs) : ∀ (k : Nat) (row l : List Int), RowI cs row → ringK cs k row = some l → l.length ≤ cs.length
  | 0, _, _, _, e => by cases e
  | k + 1, row, l, i, e => by
    unfold ringK at e
    by_cases c : nxt cs (lastI row) ∈ row
    · rw [if_pos c] at e
      have := Option.some.inj e
      rw [← this, rot_len]
      have := i.len
      simp
      omega
    · rw [if_neg c] at e
      exact ringK_len o k _ l (i.step o.wf c) e
theorem ring_len {cs : List (List Int)} (o : OkG cs) {l : List Int} (e : ring cs = some l) : l.length ≤ cs.length := by
  unfold ring at e
  cases el : leftI cs with
  | nil => rw [el] at e; cases e
  | cons z zs =>
    rw [el] at e
    exact ringK_len o _ _ l (row_one (by rw [el]; exact List.mem_cons_self)) e
theorem call_ring {d : Nat} {ws : List Wk} {h : LH} {Q : L → LH → Prop} (ok : OkI ws) (o : OkG (csOf ws))
    (q : ∀ h' v, Ext h h' → StrL h h' v (ringN ws) → Q v h') : Wp (run (d + 12) Pg.f_call_ring [imgL ws] h) Q := by
  refine wp_run rfl rfl ?_
  show Ws (evSs ⟨Pg.gl, Pg.gd, run (d + 11)⟩ Pg.b_call_ring [some (imgL ws), none, none] h) _ _
  unfold Pg.b_call_ring
  have ln := ok.1
  have cn := csOf_len ws
  simp
  refine ring_in ok o fun h1 v x1 rl => ?_
  unfold ringN at q
  cases er : ring (csOf ws) with
  | none =>
    rw [er] at rl q
    have rl : v = .non := rl
    subst rl
    simp
    exact q _ _ x1 rfl
  | some l =>
    rw [er] at rl q
    obtain ⟨r, rfl, lr, g⟩ := rl
    simp
    rw [walk_ref g, wo_some]
    have l1 := ring_len o er
    refine Wp.mono (names_lc g (fun x m => by have := ring_rg o.wf er x m; omega) (by omega)) ?_
    rintro ys h2 ⟨rfl, x2⟩
    refine q _ _ (x1.trans (x2.trans (Ext.app _ _))) ?_
    exact ⟨_, rfl, (x1.trans x2).len, get_new _ _⟩
/-! ### depths -/
def lk (ds : List (Int × Int)) (i : Int) : Int := ((ds.find? fun p => decide (p.1 = i)).map (·.2)).getD 0
def dpt (cs : List (List Int)) (ds : List (Int × Int)) (x : Int) : Int := 1 + maxI ((cl cs x).map (lk ds) ++ [0])
def deepD (cs : List (List Int)) (l : List Int) : List (Int × Int) := l.foldl (fun ds x => ds ++ [(x, dpt cs ds x)]) []
theorem deepD_snoc (cs : List (List Int)) (l : List Int) (x : Int) : deepD cs (l ++ [x]) = deepD cs l ++ [(x, dpt cs (deepD cs l) x)] := by simp [deepD]
theorem deepF_fst (cs : List (List Int)) : ∀ (l : List Int) (ds : List (Int × Int)), (l.foldl (fun ds x => ds ++ [(x, dpt cs ds x)]) ds).map (·.1) = ds.map (·.1) ++ l
  | [], ds => by simp
  | x :: l, ds => by
    rw [List.foldl_cons, deepF_fst cs l]
    simp
theorem deepD_fst (cs : List (List Int)) (l : List Int) : (deepD cs l).map (·.1) = l := by
  unfold deepD
  rw [deepF_fst]
  simp
def dkI (ds : List (Int × Int)) : List (L2.Key × L) := ds.map fun p => (.inl p.1, .int p.2)
theorem valK_dkI (i : Int) : ∀ ds : List (Int × Int), valK (dkI ds) (.inl i) = (ds.find? fun p => decide (p.1 = i)).map fun p => .int p.2
  | [] => rfl
  | d :: ds => by
    have := valK_dkI i ds
    unfold valK dkI at *
    simp only [List.map_cons, List.find?_cons]
    by_cases q : d.1 = i
    · simp [q]
    · simp [q] at this ⊢
      exact this
theorem valK_mem {i : Int} {ds : List (Int × Int)} (m : i ∈ ds.map (·.1)) : valK (dkI ds) (.inl i) = some (.int (lk ds i)) := by
  rw [valK_dkI]
  unfold lk
  obtain ⟨p, hp, rfl⟩ := List.mem_map.mp m
  cases e : ds.find? fun q => decide (q.1 = p.1) with
  | none =>
    have := List.find?_eq_none.mp e p hp
    simp at this
  | some q => rfl
theorem valK_not {i : Int} {ds : List (Int × Int)} (m : i ∉ ds.map (·.1)) : valK (dkI ds) (.inl i) = none := by
  rw [valK_dkI]
  rw [Option.map_eq_none_iff, List.find?_eq_none]
  intro p hp q
  simp at q
  exact m (List.mem_map.mpr ⟨p, hp, q⟩)
theorem put_dkI {h : LH} {r : Nat} {ds : List (Int × Int)} {i j : Int} (g : h[r]? = some (.dk (dkI ds))) (l : ds.length < 1000) (n : i ∉ ds.map (·.1)) : putL (.ref r) (.int i) (.int j) h = some (h.set r (.dk (dkI (ds ++ [(i, j)])))) := by
  have z : (dkI ds).length < sizeLine := by
    rw [show sizeLine = 16777216 from by decide]
    simp [dkI]
    omega
  simp [putL, putO, g, putK', L.key, putD_new _ _ _ (valK_not n), z]
  simp [dkI]
theorem max_ints {h : LH} {r : Nat} {xs : List Int} (g : h[r]? = some (.lst (xs.map .int))) (n : xs ≠ []) : bltL .max [.ref r] h = some (.int (maxI xs), h) := by
  cases xs with
  | nil => exact (n rfl).elim
  | cons x xs => simp [bltL, ot, max1, gotI_ref g, maxN]
theorem turn_split {f : List Int} {i : Nat} {x : Int} (e : f[i]? = some x) : f = f.take i ++ x :: f.drop (i + 1) := by
  obtain ⟨l, rfl⟩ := List.getElem?_eq_some_iff.mp e
  rw [List.getElem_cons_drop, List.take_append_drop]
theorem law_deep {d rw' rt : Nat} {cs : List (List Int)} {a : Int} {h : LH} {Q : L → LH → Prop} (ll : LL h rw' cs) (o : OkG cs) (gt : h[rt]? = some (.lst ((turn cs).map .int))) (ha : a ∈ turn cs)
    (q : ∀ h', Ext h h' → Q (.int (lk (deepD cs (turn cs)) a)) h') : Wp (run (d + 1) Pg.f__law_deep [.ref rw', .ref rt, .int a] h) Q := by
  refine wp_run rfl rfl ?_
  show Ws (evSs ⟨Pg.gl, Pg.gd, run d⟩ Pg.b__law_deep [some (.ref rw'), some (.ref rt), some (.int a), none, none, none] h) _ _
  unfold Pg.b__law_deep
  have zl : sizeLine = 16777216 := by decide
  have ln := o.ln
  have iv := turn_inv (cs := cs)
  have il := iv.len
  simp
  rw [walk_ref (Ext.app _ _ _ _ gt), wo_some]
  refine ws_for ((turn cs).map .int) (fun i sl h' => ∃ b, sl = [some (.ref rw'), some (.ref rt), some (.int a), some (.ref h.length), b, none] ∧ Ext h h' ∧ h'[h.length]? = some (.dk (dkI (deepD cs ((turn cs).take i))))) ?_ ?_ ?_ whileFuel 0 _ _ (by omega) (by show _ < 1000000000000 + 0; simp; omega) ⟨_, rfl, Ext.app _ _, by simp [deepD, dkI]⟩
  · rintro i sl h' ⟨b, rfl, x0, g⟩
    exact lst_at (x0 _ _ gt)
  · rintro i x sl h' ei ⟨b, rfl, x0, g⟩
    rw [List.getElem?_map] at ei
    obtain ⟨y, ey, rfl⟩ := Option.map_eq_some_iff.mp ei
    have es := turn_split ey
    have bh := iv.bh _ _ _ es
    have rg := iv.rg y (List.mem_of_getElem? ey)
    have li := (List.getElem?_eq_some_iff.mp ey).1
    have ny : y ∉ (turn cs).take i := by
      have := iv.nd
      rw [es, List.nodup_append] at this
      intro m
      exact this.2.2 y m y List.mem_cons_self rfl
    obtain ⟨r', e1, e2⟩ := (ll.ext x0).at rg
    refine ⟨_, _, rfl, ?_⟩
    simp [e1]
    rw [walk_ref e2, wo_some]
    refine Wp.mono (lc_enc L.int (cl cs y) h' (fun _ => true) (fun u => .int (lk (deepD cs ((turn cs).take i)) u)) (o.cl_len _) (fun i h' x => lst_at (x _ _ e2)) ?_) ?_
    · rintro j h5 hj x5
      refine ⟨_, rfl, ?_⟩
      have := valK_mem (i := j) (ds := deepD cs ((turn cs).take i)) (by rw [deepD_fst]; exact bh j hj)
      simp [wipeL, atD_int (x5 _ _ g), this, Ext.refl]
    rintro ys h5 ⟨rfl, x5⟩
    rw [filter_true]
    simp [zl]
    have g6 : (h5 ++ [LO.lst ((cl cs y).map fun u => L.int (lk (deepD cs ((turn cs).take i)) u)), .lst [.int 0]])[h5.length]? = some (.lst ((cl cs y).map fun u => L.int (lk (deepD cs ((turn cs).take i)) u))) := get_app _ _ 0
    have g7 : (h5 ++ [LO.lst ((cl cs y).map fun u => L.int (lk (deepD cs ((turn cs).take i)) u)), .lst [.int 0]])[h5.length + 1]? = some (.lst [.int 0]) := get_app _ _ 1
    have x6 := x5.trans (Ext.app h5 [.lst ((cl cs y).map fun u => L.int (lk (deepD cs ((turn cs).take i)) u)), .lst [.int 0]])
    generalize (h5 ++ [LO.lst ((cl cs y).map fun u => L.int (lk (deepD cs ((turn cs).take i)) u)), .lst [.int 0]]) = h6 at g6 g7 x6 ⊢
    rw [add_ref g6 g7, wo_newL]
    have cl9 := o.cl_len y
    refine ⟨by simp [zl]; omega, ?_⟩
    have g8 := get_new h6 (.lst (((cl cs y).map (lk (deepD cs ((turn cs).take i))) ++ [0]).map .int))
    have e8 : ((cl cs y).map fun u => L.int (lk (deepD cs ((turn cs).take i)) u)) ++ [.int 0] = (((cl cs y).map (lk (deepD cs ((turn cs).take i))) ++ [0]).map .int) := by simp
    rw [e8, max_ints g8 (by simp), wo_some]
    have x9 := x6.trans (Ext.app h6 [.lst (((cl cs y).map (lk (deepD cs ((turn cs).take i))) ++ [0]).map .int)])
    have ld : (deepD cs ((turn cs).take i)).length < 1000 := by
      have := congrArg List.length (deepD_fst cs ((turn cs).take i))
      rw [List.length_map, List.length_take] at this
      omega
    generalize (h6 ++ [LO.lst (((cl cs y).map (lk (deepD cs ((turn cs).take i))) ++ [0]).map .int)]) = h9 at x9 ⊢
    simp
    rw [put_dkI (x9 _ _ g) ld (by rw [deepD_fst]; exact ny), wo_some]
    refine ⟨(x0.trans x9).set (Nat.le_refl _) _, ?_⟩
    rw [get_set_eq _ (x9 _ _ g)]
    have : (turn cs).take (i + 1) = (turn cs).take i ++ [y] := by rw [List.take_add_one, ey]; rfl
    rw [this, deepD_snoc]
    rfl
  · rintro sl h' ⟨b, rfl, x0, g⟩
    rw [List.length_map, List.take_length] at g
    have := valK_mem (i := a) (ds := deepD cs (turn cs)) (by rw [deepD_fst]; exact ha)
    simp [atD_int g, this]
    exact q _ x0
def deepN (cs : List (List Int)) (a : Int) : L := if leftI cs = [] then .int (lk (deepD cs (turn cs)) a) else .non
theorem deepest_call {d : Nat} {ws : List Wk} {x : Str} {a : Nat} {h : LH} {Q : L → LH → Prop} (ok : OkI ws) (o : OkG (csOf ws)) (hn : ∀ w ∈ ws, PyData.strOk w.nm = true) (ea : fIx x (ws.map (·.nm)) = some a)
    (q : ∀ h', Ext h h' → Q (deepN (csOf ws) a) h') : Wp (run (d + 11) Pg.f_deepest_call [imgL ws, .str x] h) Q := by
  refine wp_run rfl rfl ?_
  show Ws (evSs ⟨Pg.gl, Pg.gd, run (d + 10)⟩ Pg.b_deepest_call [some (imgL ws), some (.str x), none, none, none, none, none] h) _ _
  unfold Pg.b_deepest_call
  have zl : sizeLine = 16777216 := by decide
  have ln := ok.1
  have cn := csOf_len ws
  have iv := turn_inv (cs := csOf ws)
  have il := iv.len
  have la : a < ws.length := by
    have := (List.getElem?_eq_some_iff.mp (fIx_lt ea)).1
    simpa using this
  simp
  refine work_number (by omega) hn ea fun h1 x1 => ?_
  refine turn_of ok o fun h2 rt x2 l2 gt => ?_
  simp [idx_img1, len_ref gt, zl]
  have x12 := x1.trans x2
  unfold deepN at q
  by_cases e : leftI (csOf ws) = []
  · have e' := left_nil.mp e
    have e2 : ¬ (turn (csOf ws)).length < ws.length := by omega
    rw [if_pos e] at q
    simp only [e2, decide_false, wif_f]
    have gt' := Ext.app h2 [.dk []] _ _ gt
    rw [walk_ref gt', wo_some]
    have hl := x12.len
    refine ws_for ((turn (csOf ws)).map .int) (fun i sl h' => ∃ b, sl = [some (imgL ws), some (.str x), some (.ref h2.length), b, some (.int a), some (.ref rt), none] ∧ Ext h2 h' ∧ h'[h2.length]? = some (.dk (dkI (deepD (csOf ws) ((turn (csOf ws)).take i))))) ?_ ?_ ?_ whileFuel 0 _ _ (by omega) (by show _ < 1000000000000 + 0; simp; omega) ⟨_, rfl, Ext.app _ _, by simp [deepD, dkI]⟩
    · rintro i sl h' ⟨b, rfl, x0, g⟩
      exact lst_at (x0 _ _ gt)
    · rintro i x' sl h' ei ⟨b, rfl, x0, g⟩
      rw [List.getElem?_map] at ei
      obtain ⟨y, ey, rfl⟩ := Option.map_eq_some_iff.mp ei
      have es := turn_split ey
      have bh := iv.bh _ _ _ es
      have rg := iv.rg y (List.mem_of_getElem? ey)
      have li := (List.getElem?_eq_some_iff.mp ey).1
      have ny : y ∉ (turn (csOf ws)).take i := by
        have := iv.nd
        rw [es, List.nodup_append] at this
        intro m
        exact this.2.2 y m y List.mem_cons_self rfl
      refine ⟨_, _, rfl, ?_⟩
      simp
      obtain ⟨k, rfl⟩ := Int.eq_ofNat_of_zero_le rg.1
      obtain ⟨w, ew⟩ : ∃ w, ws[k]? = some w := ⟨ws[k]'(by omega), List.getElem?_eq_getElem (by omega)⟩
      refine called ok ew fun h4 r4 x4 l4 e2 => ?_
      rw [← cl_csOf ew] at e2
      rw [walk_ref e2, wo_some]
      refine Wp.mono (lc_enc L.int (cl (csOf ws) k) h4 (fun _ => true) (fun u => .int (lk (deepD (csOf ws) ((turn (csOf ws)).take i)) u)) (o.cl_len _) (fun i h' x => lst_at (x _ _ e2)) ?_) ?_
      · rintro j h5 hj x5
        refine ⟨_, rfl, ?_⟩
        have := valK_mem (i := j) (ds := deepD (csOf ws) ((turn (csOf ws)).take i)) (by rw [deepD_fst]; exact bh j hj)
        simp [wipeL, atD_int (x5 _ _ (x4 _ _ g)), this, Ext.refl]
      rintro ys h5 ⟨rfl, x5⟩
      rw [filter_true]
      simp [zl]
      have g6 : (h5 ++ [LO.lst ((cl (csOf ws) k).map fun u => L.int (lk (deepD (csOf ws) ((turn (csOf ws)).take i)) u)), .lst [.int 0]])[h5.length]? = some (.lst ((cl (csOf ws) k).map fun u => L.int (lk (deepD (csOf ws) ((turn (csOf ws)).take i)) u))) := get_app _ _ 0
      have g7 : (h5 ++ [LO.lst ((cl (csOf ws) k).map fun u => L.int (lk (deepD (csOf ws) ((turn (csOf ws)).take i)) u)), .lst [.int 0]])[h5.length + 1]? = some (.lst [.int 0]) := get_app _ _ 1
      have x6 := x4.trans (x5.trans (Ext.app h5 [.lst ((cl (csOf ws) k).map fun u => L.int (lk (deepD (csOf ws) ((turn (csOf ws)).take i)) u)), .lst [.int 0]]))
      generalize (h5 ++ [LO.lst ((cl (csOf ws) k).map fun u => L.int (lk (deepD (csOf ws) ((turn (csOf ws)).take i)) u)), .lst [.int 0]]) = h6 at g6 g7 x6 ⊢
      rw [add_ref g6 g7, wo_newL]
      have cl9 := o.cl_len k
      refine ⟨by simp [zl]; omega, ?_⟩
      have g8 := get_new h6 (.lst (((cl (csOf ws) k).map (lk (deepD (csOf ws) ((turn (csOf ws)).take i))) ++ [0]).map .int))
      have e8 : ((cl (csOf ws) k).map fun u => L.int (lk (deepD (csOf ws) ((turn (csOf ws)).take i)) u)) ++ [.int 0] = (((cl (csOf ws) k).map (lk (deepD (csOf ws) ((turn (csOf ws)).take i))) ++ [0]).map .int) := by simp
      rw [e8, max_ints g8 (by simp), wo_some]
      have x9 := x6.trans (Ext.app h6 [.lst (((cl (csOf ws) k).map (lk (deepD (csOf ws) ((turn (csOf ws)).take i))) ++ [0]).map .int)])
      have ld : (deepD (csOf ws) ((turn (csOf ws)).take i)).length < 1000 := by
        have := congrArg List.length (deepD_fst (csOf ws) ((turn (csOf ws)).take i))
        rw [List.length_map, List.length_take] at this
        omega
      generalize (h6 ++ [LO.lst (((cl (csOf ws) k).map (lk (deepD (csOf ws) ((turn (csOf ws)).take i))) ++ [0]).map .int)]) = h9 at x9 ⊢
      simp
      rw [put_dkI (x9 _ _ g) ld (by rw [deepD_fst]; exact ny), wo_some]
      refine ⟨(x0.trans x9).set (Nat.le_refl _) _, ?_⟩
      rw [get_set_eq _ (x9 _ _ g)]
      have : (turn (csOf ws)).take (i + 1) = (turn (csOf ws)).take i ++ [(k : Int)] := by rw [List.take_add_one, ey]; rfl
      rw [this, deepD_snoc]
      rfl
    · rintro sl h' ⟨b, rfl, x0, g⟩
      rw [List.length_map, List.take_length] at g
      have := valK_mem (i := a) (ds := deepD (csOf ws) (turn (csOf ws))) (by rw [deepD_fst]; exact mem_turn e (by omega))
      simp [atD_int g, this]
      exact q _ (x12.trans x0)
  · have e2 : (turn (csOf ws)).length < ws.length := by
      have : ¬ (turn (csOf ws)).length = (csOf ws).length := fun q => e (left_nil.mpr q)
      omega
    rw [if_neg e] at q
    simp only [e2, decide_true, wif_t]
    exact q _ x12
/-! ### users -/
def enumP : Nat → List Pk → List (Nat × Pk)
  | _, [] => []
  | k, p :: ps => (k, p) :: enumP (k + 1) ps
def encP (e : Nat × Pk) : L := .tup [.int (e.1 : Nat), e.2.l]
theorem enumP_enc : ∀ (ps : List Pk) (k : Nat), enumV k (ps.map Pk.l) = (enumP k ps).map encP
  | [], _ => rfl
  | p :: ps, k => by
    have := enumP_enc ps (k + 1)
    simp [enumV, enumP, encP, this]
theorem enumP_len : ∀ (ps : List Pk) (k : Nat), (enumP k ps).length = ps.length
  | [], _ => rfl
  | p :: ps, k => congrArg (· + 1) (enumP_len ps (k + 1))
theorem enumP_mem : ∀ (ps : List Pk) (k : Nat) (e : Nat × Pk), e ∈ enumP k ps → e.2 ∈ ps
  | p :: ps, k, e, m => by
    rcases List.mem_cons.mp m with rfl | m
    · exact List.mem_cons_self
    · exact List.mem_cons_of_mem _ (enumP_mem ps (k + 1) e m)
def users (x : Str) (ps : List Pk) : List Int := ((enumP 0 ps).filter fun e => decide (x ∈ e.2.uses)).map fun e => (e.1 : Int)
theorem users_of {d : Nat} {ps : List Pk} {v : L} {x : Str} {h : LH} {Q : L → LH → Prop} (s : Sq h v (ps.map Pk.l)) (o : OkU ps)
    (q : ∀ (h' : LH) (r : Nat), Ext h h' → h.length ≤ r → h'[r]? = some (.lst ((users x ps).map .int)) → Q (.ref r) h') : Wp (run (d + 1) Pg.f_users_of [v, .str x] h) Q := by
  refine wp_run rfl rfl ?_
  show Ws (evSs ⟨Pg.gl, Pg.gd, run d⟩ Pg.b_users_of [some v, some (.str x), none, none, none] h) _ _
  unfold Pg.b_users_of
  have lp := o.lp
  simp
  refine wp_enum s (Ext.refl _) fun w hw => ?_
  refine Wp.mono (lc_enc encP (enumP 0 ps) h (fun e => decide (x ∈ e.2.uses)) (fun e => .int (e.1 : Nat)) (by rw [enumP_len]; omega) (fun i h' x => by rw [hw i h' x, enumP_enc]) ?_) ?_
  · rintro e h1 he x1
    have lu := o.lu _ (enumP_mem ps 0 e he)
    refine ⟨_, rfl, ?_⟩
    simp [wipeL, Pk.l]
    simp [walkOf]
    refine Wp.mono (lc_enc useL e.2.uses h1 (fun _ => true) L.str (by omega) (fun _ _ _ => rfl) ?_) ?_
    · rintro u h2 hu x2
      refine ⟨_, rfl, ?_⟩
      simp [useL, Ext.refl]
    rintro ys h2 ⟨rfl, x2⟩
    rw [filter_true, in_strs (get_new _ _), wo_some]
    exact ⟨rfl, x2.trans (Ext.app _ _), fun _ => Ext.refl _⟩
  rintro ys h2 ⟨rfl, x2⟩
  refine q _ _ (x2.trans (Ext.app _ _)) x2.len ?_
  rw [get_new]
  simp [users]
end Lw
end
section
set_option Elab.async false
set_option linter.all false
set_option autoImplicit false
set_option maxRecDepth 100000
/-! _law_graph -/
namespace Lw
open PySem Ly
/-- all but some objects are as they were -/
def Keep (S : Nat → Prop) (h h' : LH) : Prop := ∀ (r : Nat) (o : LO), ¬ S r → h[r]? = some o → h'[r]? = some o
theorem Keep.refl (S : Nat → Prop) (h : LH) : Keep S h h := fun _ _ _ e => e
theorem Keep.trans {S : Nat → Prop} {h h1 h2 : LH} (a : Keep S h h1) (b : Keep S h1 h2) : Keep S h h2 := fun r o n e => b r o n (a r o n e)
theorem Ext.keep {S : Nat → Prop} {h h' : LH} (x : Ext h h') : Keep S h h' := fun r o _ e => x r o e
theorem Keep.set {S : Nat → Prop} {h : LH} {r : Nat} (m : S r) (o : LO) : Keep S h (h.set r o) := fun q p n e => by
  have : r ≠ q := fun z => n (z ▸ m)
  rw [List.getElem?_set_ne this]
  exact e
theorem Keep.toExt {S : Nat → Prop} {h0 h h' : LH} (k : Keep S h h') (x : Ext h0 h) (l : ∀ r, S r → h0.length ≤ r) : Ext h0 h' := fun r o e => k r o (fun s => by
  have := l r s
  have := lt_of_get e
  omega) (x r o e)
/-- lists of ints, told by their numbers -/
def LLs (h : LH) (rs : List Nat) (cs : List (List Int)) : Prop := rs.length = cs.length ∧ ∀ (i : Nat) (c : List Int), cs[i]? = some c → ∃ r' : Nat, rs[i]? = some r' ∧ h[r']? = some (.lst (c.map .int))
theorem LLs.nil (h : LH) : LLs h [] [] := ⟨rfl, fun i c e => by simp at e⟩
theorem LLs.snoc {h : LH} {rs : List Nat} {cs : List (List Int)} {r : Nat} {c : List Int} (l : LLs h rs cs) (g : h[r]? = some (.lst (c.map .int))) : LLs h (rs ++ [r]) (cs ++ [c]) := by
  refine ⟨by simp [l.1], fun i c' e => ?_⟩
  rcases Nat.lt_or_ge i cs.length with q | q
  · rw [List.getElem?_append_left q] at e
    obtain ⟨r', e1, e2⟩ := l.2 i c' e
    exact ⟨r', by rw [List.getElem?_append_left (by rw [l.1]; exact q)]; exact e1, e2⟩
  · rw [List.getElem?_append_right q] at e
    have : i - cs.length = 0 := by
      rcases Nat.eq_zero_or_pos (i - cs.length) with z | z
      · exact z
      · rw [List.getElem?_eq_none (by simp; omega)] at e
        cases e
    rw [this] at e
    simp at e
    subst e
    exact ⟨r, by rw [List.getElem?_append_right (by rw [l.1]; exact q), l.1, this]; rfl, g⟩
theorem LLs.keep {S : Nat → Prop} {h h' : LH} {rs : List Nat} {cs : List (List Int)} (l : LLs h rs cs) (k : Keep S h h') (n : ∀ r ∈ rs, ¬ S r) : LLs h' rs cs := by
  refine ⟨l.1, fun i c e => ?_⟩
  obtain ⟨r', e1, e2⟩ := l.2 i c e
  exact ⟨r', e1, k _ _ (n r' (List.mem_of_getElem? e1)) e2⟩
theorem LLs.ll {h : LH} {rs : List Nat} {cs : List (List Int)} {r : Nat} (l : LLs h rs cs) (g : h[r]? = some (.lst (rs.map .ref))) : LL h r cs := ⟨rs, g, l.1, l.2⟩
/-! sorted sets -/
theorem insI_comm (a b : Int) : ∀ l, insI a (insI b l) = insI b (insI a l)
  | [] => by
    simp only [insI]
    by_cases h : a ≤ b
    · by_cases h' : b ≤ a
      · have : a = b := by omega
        simp [this]
      · simp [h, h']
    · simp [h, show b ≤ a by omega]
  | y :: l => by
    have ih := insI_comm a b l
    simp only [insI]
    by_cases ha : a ≤ y <;> by_cases hb : b ≤ y
    · simp only [ha, hb, if_true, insI]
      by_cases h : a ≤ b
      · by_cases h' : b ≤ a
        · have : a = b := by omega
          simp [this]
        · simp [h, h']
      · simp [h, show b ≤ a by omega]
    · simp only [ha, hb, if_true, if_false, insI]
      simp [show ¬ b ≤ a by omega]
    · simp only [ha, hb, if_true, if_false, insI]
      simp [show ¬ a ≤ b by omega]
    · simp only [ha, hb, if_false, insI, ih]
theorem sortI_perm {l m : List Int} (p : l.Perm m) : sortI l = sortI m := by
  induction p with
  | nil => rfl
  | cons x _ ih => simp [sortI, ih]
  | swap x y l => exact insI_comm y x (sortI l)
  | trans _ _ a b => exact a.trans b
theorem dedI_mem (x : Int) : ∀ l : List Int, x ∈ dedI l ↔ x ∈ l
  | [] => by simp [dedI]
  | y :: l => by
    have ih := dedI_mem x l
    unfold dedI
    by_cases h : y ∈ l
    · simp only [h, if_true, ih, List.mem_cons]
      exact ⟨.inr, fun q => q.elim (fun e => e ▸ h) id⟩
    · simp [h, ih]
theorem dedI_nd : ∀ l : List Int, (dedI l).Nodup
  | [] => by simp [dedI]
  | y :: l => by
    unfold dedI
    by_cases h : y ∈ l
    · simp only [h, if_true]
      exact dedI_nd l
    · simp only [h, if_false]
      exact List.nodup_cons.mpr ⟨by rw [dedI_mem]; exact h, dedI_nd l⟩
theorem addD_mem (x c : Int) (ds : List Int) : x ∈ addD ds c ↔ x ∈ ds ∨ x = c := by
  unfold addD
  by_cases h : c ∈ ds
  · simp only [h, if_true]
    exact ⟨.inl, fun q => q.elim id fun e => e ▸ h⟩
  · simp [h]
theorem addD_nd {c : Int} {ds : List Int} (n : ds.Nodup) : (addD ds c).Nodup := by
  unfold addD
  by_cases h : c ∈ ds
  · simpa [h] using n
  · simp only [h, if_false]
    rw [List.nodup_append]
    refine ⟨n, by simp, ?_⟩
    intro a ha b hb e
    simp at hb
    subst hb
    subst e
    exact h ha
theorem foldl_addD_mem (x : Int) : ∀ (l ds : List Int), x ∈ l.foldl addD ds ↔ x ∈ ds ∨ x ∈ l
  | [], ds => by simp
  | c :: l, ds => by
    rw [List.foldl_cons, foldl_addD_mem x l, addD_mem, List.mem_cons]
    exact or_assoc
theorem foldl_addD_nd : ∀ (l ds : List Int), ds.Nodup → (l.foldl addD ds).Nodup
  | [], _, n => n
  | c :: l, ds, n => foldl_addD_nd l _ (addD_nd n)
theorem ded_fold (l : List Int) : sortI (dedI l) = sortI (l.foldl addD []) := by
  refine sortI_perm ((List.perm_ext_iff_of_nodup (dedI_nd l) (foldl_addD_nd l [] (by simp))).mpr fun x => ?_)
  rw [dedI_mem, foldl_addD_mem]
  simp
theorem dedI_len : ∀ l : List Int, (dedI l).length ≤ l.length
  | [] => by simp [dedI]
  | y :: l => by
    have := dedI_len l
    unfold dedI
    by_cases h : y ∈ l <;> simp [h] <;> omega
theorem set_ints {h : LH} {r : Nat} {xs : List Int} (g : h[r]? = some (.lst (xs.map .int))) (l : xs.length ≤ 1000) : bltL .set [.ref r] h = some (.ref h.length, h ++ [.si (dedI xs)]) := by
  simp [bltL, one, set1, gotI_ref g, l]
theorem sorted_si {h : LH} {r : Nat} {ns : List Int} (g : h[r]? = some (.si ns)) (l : ns.length < 64) : bltL .sorted [.ref r] h = newL h ((sortI ns).map .int) := by
  simp [bltL, one, srt1, lstAt, g, refO, srtO, l]
theorem firstEq_strs (x : Str) : ∀ {xs : List Str} {j : Nat}, fIx x xs = some j → firstEq (.str x) (xs.map L2.V.str) = some j
  | [], j, m => by cases m
  | y :: ys, j, m => by
    by_cases q : y = x
    · simp [fIx, q] at m
      subst m
      simp [firstEq, q, L2.eqV]
    · simp [fIx, q] at m
      obtain ⟨i, hi, rfl⟩ := m
      simp [firstEq, q, L2.eqV, firstEq_strs x hi]
theorem index_strs {h : LH} {r j : Nat} {x : Str} {xs : List Str} (g : h[r]? = some (.lst (xs.map .str))) (m : fIx x xs = some j) : methL .index (.ref r) [.str x] h = some (.int (j : Nat), h) := by
  simp [methL, idx2, lstAt, g, L.fv, fv_strs, firstEq_strs x m]
theorem entsN_take : ∀ (ps : List Pk) (n i : Nat) (p : Pk), ps[i]? = some p → entsN n (ps.take (i + 1)) = entsN n (ps.take i) ++ p.codes.map (fun c => (n + i, c))
  | [], _, _, _, e => by simp at e
  | q :: ps, n, 0, p, e => by
    simp at e
    subst e
    simp [entsN]
  | q :: ps, n, i + 1, p, e => by
    have := entsN_take ps (n + 1) i p (by simpa using e)
    simp only [List.take_succ_cons, entsN] at this ⊢
    rw [this, List.append_assoc]
    have : n + 1 + i = n + (i + 1) := by omega
    rw [this]
end Lw
end
section
set_option Elab.async false
set_option linter.all false
set_option autoImplicit false
set_option maxRecDepth 100000
/-! _law_graph: whom a code calls; one package -/
namespace Lw
open PySem Ly
@[simp] theorem i_rng3 {G : Gm} {x : Option L} {sl : LS} {h : LH} {Qi : LIt → LH → Prop} {a b c : E} : Wp (evI G (.rng3 a b c) (x :: sl) h) Qi ↔ Wp (evE G a (x :: sl) h) fun v h1 => Wp (evE G b (x :: sl) h1) fun u h2 => Wp (evE G c (x :: sl) h2) fun z h3 =>
    Wint v fun i => Wint u fun j => Wint z fun k => (0 < k ∧ k < 1000000 ∧ -1000000000 < i ∧ i < 1000000000 ∧ -1000000000 < j ∧ j < 1000000000) ∧ Qi (.vals (rngV i k ((j - i + k - 1) / k).toNat)) h3 := by
  show Wp (R.bind _ _) Qi ↔ _
  rw [wp_bind]
  refine wp_congr fun v h1 => ?_
  rw [wp_bind]
  refine wp_congr fun u h2 => ?_
  rw [wp_bind]
  refine wp_congr fun z h3 => ?_
  cases v with
  | int i =>
    cases u with
    | int j =>
      cases z with
      | int k => exact wp_ite
      | _ => exact Iff.rfl
    | _ => exact Iff.rfl
  | _ => exact Iff.rfl
theorem atI_snoc {α : Type} (xs : List α) (x : α) : L2.atI (xs ++ [x]) (-1) = some x := by
  simp [L2.atI, L2.ixN]
  have e : (-1 + ((xs.length : Int) + 1)).toNat = xs.length := by omega
  rw [if_pos (by omega), e]
  simp
theorem row_last (ks : List Int) (bad : Bool) : L2.atI (rowOf ks bad) (-1) = some (.int (if bad then 99 else 0)) := by
  cases bad with
  | true =>
    have : rowOf ks true = (cbs ks ++ [.int 13, .int 0]) ++ [.int 99] := by simp [rowOf]
    rw [this, atI_snoc]
    rfl
  | false =>
    have : rowOf ks false = (cbs ks ++ [.int 13]) ++ [.int 0] := by simp [rowOf]
    rw [this, atI_snoc]
    rfl
theorem callsOf_map {tab ks : List Int} (hk : ∀ k ∈ ks, 0 ≤ k ∧ k < tab.length) : ks.map (fun k => (tab[k.toNat]?).getD 0) = callsOf tab ks := by
  induction ks with
  | nil => rfl
  | cons k ks ih =>
    obtain ⟨c, e1, e2⟩ := atI_int (hk k List.mem_cons_self).1 (hk k List.mem_cons_self).2
    have := ih fun q m => hk q (List.mem_cons_of_mem _ m)
    simp only [List.map_cons, this, e2, callsOf, List.filterMap_cons, e1]
    rfl
theorem told_of {G : Gm} {c : Cd} {tab : List Int} {rt : Nat} {h : LH} {s0 s1 s2 s3 s4 s5 s8 : Option L} (g : h[rt]? = some (.lst (tab.map .int))) (hk : ∀ k ∈ c.ks, 0 ≤ k ∧ k < tab.length) (lk : c.ks.length < 64) :
    Wp (evE G (.ife (.cmp .Eq (.idx (.idx (.var 7) (.int 7)) (.neg (.int 1))) (.int 99)) (.lst .nil) (.blt .sorted (.cons (.blt .set (.cons (.lc [9] (.name 9) (.rng3 (.int 0) (.bin .Sub (.blt .len (.cons (.idx (.var 7) (.int 7)) .nil)) (.int 2)) (.int 5)) (.bl true) (.idx (.var 6) (.idx (.idx (.var 7) (.int 7)) (.bin .Add (.var 9) (.int 2))))) .nil)) .nil)))
      [s0, s1, s2, s3, s4, s5, some (.ref rt), some c.l, s8, none, none] h) fun v h' => ∃ r : Nat, v = .ref r ∧ h.length ≤ r ∧ h'[r]? = some (.lst ((calledOf c.ks c.bad tab).map .int)) ∧ Ext h h' := by
  have zl : sizeLine = 16777216 := by decide
  have rl := row_len c.ks c.bad
  simp [Cd.l, row_last]
  cases eb : c.bad with
  | true =>
    simp [zl]
    exact ⟨by simp [calledOf], Ext.app _ _⟩
  | false =>
    rw [eb] at rl
    simp at rl
    simp [rl, zl]
    refine ⟨by omega, ?_⟩
    have e5 : ((5 * (c.ks.length : Int) + 5 - 1) / 5).toNat = c.ks.length := by omega
    rw [e5]
    have er : rngV 0 5 c.ks.length = (List.range c.ks.length).map fun i : Nat => L.int (0 + (i : Int) * 5) := rfl
    rw [er]
    refine Wp.mono (lc_enc (fun i : Nat => L.int (0 + (i : Int) * 5)) (List.range c.ks.length) h (fun _ => true) (fun i => .int (tab[((c.ks[i]?).getD 0).toNat]?.getD 0)) (by simp; omega) (fun _ _ _ => rfl) ?_) ?_
    · rintro i h1 hi x1
      have li := List.mem_range.mp hi
      obtain ⟨k, ek⟩ : ∃ k, c.ks[i]? = some k := ⟨c.ks[i], List.getElem?_eq_getElem li⟩
      obtain ⟨b0, b1, b2, b3, b4⟩ := cbs_get c.ks ([.int 13, .int 0] ++ if false then [.int 99] else []) i k ek
      obtain ⟨u, e1, e2⟩ := atI_int (hk k (List.mem_of_getElem? ek)).1 (hk k (List.mem_of_getElem? ek)).2
      have b2' : (rowOf c.ks false)[5 * i + 2]? = some (.int k) := b2
      refine ⟨_, rfl, ?_⟩
      have ei : (i : Int) * 5 + 2 = ((5 * i + 2 : Nat) : Int) := by omega
      simp [wipeL, ei]
      rw [show (5 * (i : Int) + 2) = ((5 * i + 2 : Nat) : Int) by omega, atI_nat b2']
      simp [idx_ref (x1 _ _ g), atI_map, e1, e2, ek, Ext.refl]
    rintro ys h1 ⟨rfl, x1⟩
    rw [filter_true]
    have em : (List.range c.ks.length).map (fun i => L.int (tab[((c.ks[i]?).getD 0).toNat]?.getD 0)) = (callsOf tab c.ks).map .int := by
      rw [← callsOf_map hk, List.map_map]
      refine List.ext_getElem? fun i => ?_
      rw [List.getElem?_map, List.getElem?_map]
      rcases Nat.lt_or_ge i c.ks.length with l | l
      · simp [l]
      · simp [l]
    rw [em]
    have lc : (callsOf tab c.ks).length ≤ c.ks.length := List.length_filterMap_le _ _
    rw [set_ints (get_new _ _) (by omega), wo_some]
    have ld := dedI_len (callsOf tab c.ks)
    rw [sorted_si (get_new _ _) (by omega), wo_newL]
    refine ⟨by rw [List.length_map, sortI_len, zl]; omega, _, rfl, ?_, ?_, ?_⟩
    · have := x1.len
      simp
      omega
    · rw [get_new, ded_fold]
      rfl
    · exact x1.trans ((Ext.app _ _).trans ((Ext.app _ _).trans (Ext.app _ _)))
end Lw
end
section
set_option Elab.async false
set_option linter.all false
set_option autoImplicit false
set_option maxRecDepth 100000
/-! _law_graph -/
namespace Lw
open PySem Ly
/-- the works' packages call numbers that the tables have -/
structure OkA (ps : List Pk) : Prop extends OkU ps where
  ks : ∀ (i : Nat) (p : Pk), ps[i]? = some p → ∀ c ∈ p.codes, c.ks.length < 64 ∧ ∀ k ∈ c.ks, 0 ≤ k ∧ k < (tabOf ps i p).length
def S3 (n : Nat) (r : Nat) : Prop := n ≤ r ∧ r < n + 3
/-- what the first loop tells of -/
def G1 (v : L) (ps : List Pk) (h : LH) (i : Nat) (sl : LS) (h' : LH) : Prop :=
  ∃ a, sl = [some v, a, some (.ref h.length), some (.ref (h.length + 1)), some (.int 0), some (.ref (h.length + 2)), none, none, none, none, none] ∧ Ext h h' ∧
    h'[h.length]? = some (.lst (((entsN 0 (ps.take i)).map fun e => e.2.nm).map .str)) ∧ h'[h.length + 1]? = some (.lst []) ∧ h'[h.length + 2]? = some (.lst [])
def G2 (v : L) (ps : List Pk) (n : Nat) (h : LH) (i : Nat) (W : List Wk) (rest : Option L → Option L → Option L → Option L → LS) (sl : LS) (h' : LH) : Prop :=
  ∃ a b c e, sl = rest a b c e ∧ Keep (S3 n) h h' ∧ n + 3 ≤ h'.length ∧ h'[n]? = some (.lst ((namesOf ps).map .str)) ∧ (∃ rs : List Nat, h'[n + 1]? = some (.lst (rs.map .ref)) ∧ LLs h' rs (csOf W) ∧ ∀ r ∈ rs, n + 3 ≤ r) ∧ h'[n + 2]? = some (.lst (W.map Wk.l))
theorem csOf_snoc (W : List Wk) (w : Wk) : csOf (W ++ [w]) = csOf W ++ [w.calls] := by simp [csOf]
theorem keep_app {S : Nat → Prop} (h e : LH) : Keep S h (h ++ e) := (Ext.app h e).keep
theorem law_graph {d : Nat} {ps : List Pk} {v : L} {h : LH} {Q : L → LH → Prop} (s : Sq h v (ps.map Pk.l)) (o : OkA ps)
    (q : ∀ (h' : LH) (rn rc : Nat), Ext h h' → h.length ≤ rn → h.length ≤ rc → h'[rn]? = some (.lst ((namesOf ps).map .str)) → LL h' rc (csOf (worksOf ps)) → Q (.tup [.ref rn, .ref rc, .tup ((worksOf ps).map Wk.l)]) h') : Wp (run (d + 1) Pg.f__law_graph [v] h) Q := by
  refine wp_run rfl rfl ?_
  show Ws (evSs ⟨Pg.gl, Pg.gd, run d⟩ Pg.b__law_graph [some v, none, none, none, none, none, none, none, none, none, none] h) _ _
  unfold Pg.b__law_graph
  have zl : sizeLine = 16777216 := by decide
  have lp := o.lp
  have le := entsN_len o.toOkP
  simp [zl]
  have a0 : (h ++ [LO.lst [], .lst [], .lst []])[h.length]? = some (.lst []) := get_app _ _ 0
  have a1 : (h ++ [LO.lst [], .lst [], .lst []])[h.length + 1]? = some (.lst []) := get_app _ _ 1
  have a2 : (h ++ [LO.lst [], .lst [], .lst []])[h.length + 2]? = some (.lst []) := get_app _ _ 2
  have x0 : Ext h (h ++ [LO.lst [], .lst [], .lst []]) := Ext.app _ _
  generalize (h ++ [LO.lst [], .lst [], .lst []]) = h0 at a0 a1 a2 x0 ⊢
  refine wo_walk s x0 fun w hw => ?_
  refine ws_for (ps.map Pk.l) (G1 v ps h) ?_ ?_ ?_ whileFuel 0 _ _ (by omega) (by show _ < 1000000000000 + 0; simp; omega) ⟨_, rfl, x0, by simpa [entsN] using a0, a1, a2⟩
  · rintro i sl h' ⟨a, rfl, x, _⟩
    exact hw i h' x
  · rintro i x sl h' e ⟨a, rfl, x1, b0, b1, b2⟩
    rw [List.getElem?_map] at e
    obtain ⟨p, ep, rfl⟩ := Option.map_eq_some_iff.mp e
    have mp := List.mem_of_getElem? ep
    have lc := o.lc p mp
    refine ⟨_, _, rfl, ?_⟩
    simp [lst_ref b0, Pk.l]
    simp [walkOf, wipeL]
    refine Wp.mono (lc_enc Cd.l p.codes h' (fun _ => true) (fun c => .str c.nm) (by omega) (fun _ _ _ => rfl) ?_) ?_
    · rintro c h1 hc x1
      refine ⟨_, rfl, ?_⟩
      simp [Cd.l, Ext.refl]
    rintro ys h1 ⟨rfl, x2⟩
    rw [filter_true]
    have x3 := x2.trans (Ext.app h1 [.lst (p.codes.map fun c => L.str c.nm)])
    have l1 := x1.len
    have lt : (entsN 0 (ps.take i)).length < 10000 := entsN_len ⟨by rw [List.length_take]; omega, fun p m => o.lc p (List.mem_of_mem_take m)⟩
    rw [ext_ref (x3 _ _ b0) (get_new _ _) (by rw [List.length_map, List.length_map, List.length_map, zl]; omega), wo_some]
    refine ⟨_, rfl, (x1.trans x3).set (Nat.le_refl _) _, ?_, get_set_ne _ (x3 _ _ b1) (by omega), get_set_ne _ (x3 _ _ b2) (by omega)⟩
    rw [get_set_eq _ (x3 _ _ b0), entsN_take ps 0 i p ep]
    simp [List.map_append, Function.comp_def]
  rintro sl h1 ⟨a, rfl, x1, b0, b1, b2⟩
  rw [List.length_map, List.take_length] at b0
  simp
  refine wo_walk s x1 fun w hw => ?_
  have l3 : h.length + 3 ≤ h1.length := by
    have := lt_of_get b2
    omega
  have kx : ∀ h', Keep (S3 h.length) h1 h' → Ext h h' := fun h' k => k.toExt x1 fun r m => m.1
  refine ws_for (ps.map Pk.l) (fun i => G2 v ps h.length h1 i ((entsN 0 (ps.take i)).map (wkOf ps)) fun a b c e => [some v, a, some (.ref h.length), some (.ref (h.length + 1)), some (.int (cum ps i : Nat)), some (.ref (h.length + 2)), b, c, e, none, none]) ?_ ?_ ?_ whileFuel 0 _ _ (by omega) (by show _ < 1000000000000 + 0; simp; omega)
    ⟨_, _, _, _, rfl, Keep.refl _ _, l3, b0, ⟨[], b1, LLs.nil _, by simp⟩, by simpa [entsN] using b2⟩
  · rintro i sl h' ⟨a, b, c, e, rfl, k, _⟩
    exact hw i h' (kx h' k)
  · rintro i x sl h' e ⟨a, b, c, f, rfl, k, l4, c0, ⟨rs, c1, lls, rb⟩, c2⟩
    rw [List.getElem?_map] at e
    obtain ⟨p, ep, rfl⟩ := Option.map_eq_some_iff.mp e
    have mp := List.mem_of_getElem? ep
    have lc := o.lc p mp
    have lu := o.lu p mp
    refine ⟨_, _, rfl, ?_⟩
    simp [Pk.l, near_small (show p.codes.length < 100000 by omega), rngV_rngI, wipeL]
    refine Wp.mono (lc_enc L.int (rngI p.codes.length) h' (fun _ => true) (fun i' => .int ((cum ps i : Int) + i')) (by rw [rngI_len]; omega) (fun _ _ _ => rfl) ?_) ?_
    · rintro j h2 hj x2
      refine ⟨_, rfl, ?_⟩
      simp [Ext.refl]
    rintro ys h2 ⟨rfl, x2⟩
    rw [filter_true]
    simp [walkOf]
    have y2 := x2.trans (Ext.app h2 [.lst ((rngI p.codes.length).map fun i' => L.int ((cum ps i : Int) + i'))])
    have g2 := get_new h2 (.lst ((rngI p.codes.length).map fun i' => L.int ((cum ps i : Int) + i')))
    have l2 := x2.len
    generalize (h2 ++ [LO.lst ((rngI p.codes.length).map fun i' => L.int ((cum ps i : Int) + i'))]) = h3 at y2 g2 ⊢
    refine Wp.mono (lc_enc useL p.uses h3 (fun _ => true) (fun u => .int ((fIx u (namesOf ps)).getD 0 : Nat)) (by omega) (fun _ _ _ => rfl) ?_) ?_
    · rintro u h4 hu x4
      obtain ⟨j, ej⟩ := fIx_some (o.us p mp u hu)
      refine ⟨_, rfl, ?_⟩
      have g4 := x4 _ _ (y2 _ _ c0)
      simp [useL, lst_ref g4, index_strs g4 ej, ej, Ext.refl]
    rintro ys h4 ⟨rfl, x4⟩
    rw [filter_true]
    rw [add_ref (Ext.app _ _ _ _ (x4 _ _ g2)) (get_new _ _), wo_newL]
    refine ⟨by simp [rngI_len, zl]; omega, ?_⟩
    have et : ((rngI p.codes.length).map fun i' => L.int ((cum ps i : Int) + i')) ++ (p.uses.map fun u => L.int ((fIx u (namesOf ps)).getD 0 : Nat)) = (tabOf ps i p).map .int := by
      simp [tabOf, Function.comp_def]
    rw [et]
    have g5 := get_new (h4 ++ [.lst (p.uses.map fun u => L.int ((fIx u (namesOf ps)).getD 0 : Nat))]) (.lst ((tabOf ps i p).map L.int))
    have x5 := y2.trans (x4.trans ((Ext.app h4 [.lst (p.uses.map fun u => L.int ((fIx u (namesOf ps)).getD 0 : Nat))]).trans (Ext.app _ [.lst ((tabOf ps i p).map L.int)])))
    have l5 : h'.length ≤ (h4 ++ [LO.lst (p.uses.map fun u => L.int ((fIx u (namesOf ps)).getD 0 : Nat))]).length := by
      have := (y2.trans x4).len
      simp
      omega
    generalize (h4 ++ [LO.lst (p.uses.map fun u => L.int ((fIx u (namesOf ps)).getD 0 : Nat))]).length = rt at g5 l5 ⊢
    generalize (h4 ++ [LO.lst (p.uses.map fun u => L.int ((fIx u (namesOf ps)).getD 0 : Nat))] ++ [LO.lst ((tabOf ps i p).map L.int)]) = h5 at g5 x5 ⊢
    have k5 := k.trans x5.keep
    have l6 := x5.len
    have lt : (entsN 0 (ps.take i)).length < 10000 := entsN_len ⟨by rw [List.length_take]; omega, fun p m => o.lc p (List.mem_of_mem_take m)⟩
    refine ws_for (p.codes.map Cd.l) (fun j sl h' => G2 v ps h.length h1 j (((entsN 0 (ps.take i)).map (wkOf ps)) ++ (p.codes.take j).map fun c => wkOf ps (i, c)) (fun a b c _ => [some v, some p.l, some (.ref h.length), some (.ref (h.length + 1)), some (.int (cum ps i : Nat)), some (.ref (h.length + 2)), some (.ref rt), b, c, none, none]) sl h' ∧ h'[rt]? = some (.lst ((tabOf ps i p).map .int))) (fun _ _ _ _ => rfl) ?_ ?_ whileFuel 0 _ _ (by omega) (by show _ < 1000000000000 + 0; simp; omega)
      ⟨⟨none, _, _, none, rfl, k5, by show _ ≤ h5.length; omega, x5 _ _ c0, ⟨rs, x5 _ _ c1, by simpa using lls.keep (S := fun _ => False) x5.keep (fun _ _ h => h), rb⟩, by simpa using x5 _ _ c2⟩, g5⟩
    · rintro j x sl h' e ⟨⟨a, b, c, f, rfl, k, l4, c0, ⟨rs, c1, lls, rb⟩, c2⟩, g5⟩
      rw [List.getElem?_map] at e
      obtain ⟨cd, ec, rfl⟩ := Option.map_eq_some_iff.mp e
      have oc := o.ks i p ep cd (List.mem_of_getElem? ec)
      refine ⟨_, _, rfl, ?_⟩
      simp only [List.set]
      rw [s_cons, s_set]
      refine Wp.mono (told_of g5 oc.2 oc.1) ?_
      rintro w h6 ⟨r6, rfl, l6, g6, x6⟩
      have d2 := x6 _ _ c2
      have d1 := x6 _ _ c1
      have lj := (List.getElem?_eq_some_iff.mp ec).1
      have tj : (p.codes.take j).length ≤ p.codes.length := by simp; omega
      simp [lst_ref d2, Cd.l, tup_ref (x6 _ _ g5), zl]
      rw [app_ref d2 (by simp [zl]; omega), wo_some]
      have ne : h.length + 2 ≠ h.length + 1 := by omega
      have ne0 : h.length + 2 ≠ h.length := by omega
      have ne1 : h.length + 1 ≠ h.length := by omega
      have nt : ∀ q, S3 h.length q → q ≠ rt := fun q m e => by
        have := m.2
        have := l5
        omega
      have d1' := get_set_ne (.lst ((((entsN 0 (ps.take i)).map (wkOf ps)) ++ (p.codes.take j).map fun c => wkOf ps (i, c)).map Wk.l ++ [L.tup [L.str cd.nm, .int 0, .int 0, .int 1, .tup (rowOf cd.ks cd.bad), .tup ((tabOf ps i p).map .int)]])) d1 ne
      have m2 : S3 h.length (h.length + 2) := ⟨by omega, by omega⟩
      have m1 : S3 h.length (h.length + 1) := ⟨by omega, by omega⟩
      have k7 := (k.trans x6.keep).trans (Keep.set m2 (.lst ((((entsN 0 (ps.take i)).map (wkOf ps)) ++ (p.codes.take j).map fun c => wkOf ps (i, c)).map Wk.l ++ [L.tup [L.str cd.nm, .int 0, .int 0, .int 1, .tup (rowOf cd.ks cd.bad), .tup ((tabOf ps i p).map .int)]])))
      have d2' := get_set_eq (.lst ((((entsN 0 (ps.take i)).map (wkOf ps)) ++ (p.codes.take j).map fun c => wkOf ps (i, c)).map Wk.l ++ [L.tup [L.str cd.nm, .int 0, .int 0, .int 1, .tup (rowOf cd.ks cd.bad), .tup ((tabOf ps i p).map .int)]])) d2
      have d0' := get_set_ne (.lst ((((entsN 0 (ps.take i)).map (wkOf ps)) ++ (p.codes.take j).map fun c => wkOf ps (i, c)).map Wk.l ++ [L.tup [L.str cd.nm, .int 0, .int 0, .int 1, .tup (rowOf cd.ks cd.bad), .tup ((tabOf ps i p).map .int)]])) (x6 _ _ c0) ne0
      have k67 : Keep (S3 h.length) h6 (h6.set (h.length + 2) (.lst ((((entsN 0 (ps.take i)).map (wkOf ps)) ++ (p.codes.take j).map fun c => wkOf ps (i, c)).map Wk.l ++ [L.tup [L.str cd.nm, .int 0, .int 0, .int 1, .tup (rowOf cd.ks cd.bad), .tup ((tabOf ps i p).map .int)]]))) := Keep.set m2 _
      have l7 : (h6.set (h.length + 2) (.lst ((((entsN 0 (ps.take i)).map (wkOf ps)) ++ (p.codes.take j).map fun c => wkOf ps (i, c)).map Wk.l ++ [L.tup [L.str cd.nm, .int 0, .int 0, .int 1, .tup (rowOf cd.ks cd.bad), .tup ((tabOf ps i p).map .int)]]))).length = h6.length := by simp
      generalize (h6.set (h.length + 2) (.lst ((((entsN 0 (ps.take i)).map (wkOf ps)) ++ (p.codes.take j).map fun c => wkOf ps (i, c)).map Wk.l ++ [L.tup [L.str cd.nm, .int 0, .int 0, .int 1, .tup (rowOf cd.ks cd.bad), .tup ((tabOf ps i p).map .int)]]))) = h7 at *
      have l6b := lt_of_get g6
      have lrs : rs.length = ((entsN 0 (ps.take i)).map (wkOf ps)).length + (p.codes.take j).length := by
        have := lls.1
        simp only [csOf, List.length_map, List.length_append] at this ⊢
        exact this
      rw [List.length_map] at lrs
      refine ⟨by rw [lst_ref d1']; rfl, ?_⟩
      rw [app_ref d1' (by rw [List.length_map, zl]; omega), wo_some]
      have n37 : ∀ q : Nat, h.length + 3 ≤ q → ¬ S3 h.length q := fun q a b => by
        have := b.2
        omega
      have k8 := k67.trans (Keep.set m1 (.lst (rs.map L.ref ++ [.ref r6])))
      have ew : (wkOf ps (i, cd)).calls = calledOf cd.ks cd.bad (tabOf ps i p) := by simp [wkOf, Wk.calls, tabN, ep]
      have el : (wkOf ps (i, cd)).l = .tup [.str cd.nm, .int 0, .int 0, .int 1, .tup (rowOf cd.ks cd.bad), .tup ((tabOf ps i p).map .int)] := by simp [wkOf, Wk.l, workL, tabN, ep]
      refine ⟨⟨none, _, _, none, rfl, k7.trans (Keep.set m1 _), by show _ ≤ (h7.set _ _).length; simp; omega, get_set_ne _ d0' ne1, ⟨rs ++ [r6], ?_, ?_, ?_⟩, ?_⟩, ?_⟩
      · rw [get_set_eq _ d1']
        simp
      · rw [take_map_snoc _ ec, ← List.append_assoc, csOf_snoc, ew]
        have lls' := (lls.keep (S := fun _ => False) x6.keep (fun _ _ h => h)).snoc g6
        refine lls'.keep k8 fun q m => ?_
        rcases List.mem_append.mp m with m | m
        · exact n37 q (rb q m)
        · simp at m
          subst m
          exact n37 _ (by omega)
      · intro q m
        rcases List.mem_append.mp m with m | m
        · exact rb q m
        · simp at m
          subst m
          omega
      · rw [get_set_ne _ d2' ne.symm, take_map_snoc _ ec, ← List.append_assoc, List.map_append, List.map_append]
        simp [el]
      · exact k8 _ _ (fun m => nt _ m rfl) (x6 _ _ g5)
    · rintro sl h' ⟨⟨a, b, c, f, rfl, k, l4, c0, ⟨rs, c1, lls, rb⟩, c2⟩, g5⟩
      rw [List.length_map, List.take_length] at lls c2
      simp [Pk.l]
      have ec := cum_succ ep
      have en : (entsN 0 (ps.take (i + 1))).map (wkOf ps) = (entsN 0 (ps.take i)).map (wkOf ps) ++ p.codes.map fun c => wkOf ps (i, c) := by
        rw [entsN_take ps 0 i p ep]
        simp
      refine ⟨_, _, _, _, by rw [ec]; simp; exact ⟨rfl, rfl, rfl, rfl⟩, k, l4, c0, ⟨rs, c1, ?_, rb⟩, ?_⟩
      · rw [en]
        exact lls
      · rw [en]
        exact c2
  · rintro sl h' ⟨a, b, c, e, rfl, k, l4, c0, ⟨rs, c1, lls, rb⟩, c2⟩
    rw [List.length_map, List.take_length] at lls c2
    simp
    rw [tup_ref c2]
    simp [zl]
    have fin := q _ _ _ (kx h' k) (Nat.le_refl _) (by omega) c0 (lls.ll c1)
    unfold worksOf at fin
    rw [List.map_map] at fin
    exact fin
end Lw
end
section
set_option Elab.async false
set_option linter.all false
set_option autoImplicit false
set_option maxRecDepth 100000
/-! _law_pot, _law_draw; what is drawn of a list -/
namespace Lw
open PySem Ly
def PotOk (h : LH) (p : Nat) : Prop := ∃ a b : Int, h[p]? = some (.lst [.int a, .int b]) ∧ 0 ≤ a ∧ 0 ≤ b ∧ b < 2147483564
abbrev KP (p : Nat) (h h' : LH) : Prop := Keep (fun r => r = p) h h'
theorem mulOk_small {i j : Int} (h : -(2 ^ 64) < j) (h' : j < 2 ^ 64) : mulOk i j = true := by
  unfold mulOk
  simp
  right
  exact ⟨h, h'⟩
theorem fmod_lt {i j : Int} (h : 0 < j) : 0 ≤ i.fmod j ∧ i.fmod j < j := ⟨Int.fmod_nonneg_of_pos i h, Int.fmod_lt_of_pos i h⟩
theorem law_draw {d p : Nat} {many : Int} {h : LH} {Q : L → LH → Prop} (po : PotOk h p) (m0 : 0 < many) (m1 : many < 1000)
    (q : ∀ (h' : LH) (k : Int), 0 ≤ k → k < many → PotOk h' p → KP p h h' → h'.length = h.length → Q (.int k) h') : Wp (run (d + 1) Pg.f__law_draw [.ref p, .int many] h) Q := by
  refine wp_run rfl rfl ?_
  show Ws (evSs ⟨Pg.gl, Pg.gd, run d⟩ Pg.b__law_draw [some (.ref p), some (.int many), none] h) _ _
  unfold Pg.b__law_draw
  obtain ⟨a, b, g, ha, hb, hb'⟩ := po
  simp [idx_ref g]
  by_cases c : 0 < a
  · simp only [c, decide_true, wif_t]
    have e0 : bltL .divmod [.int a, .int many] h = some (.tup [.int (a / many), .int (a % many)], h) := by
      simp [bltL, two, dvm2, m0, show many < 1073741824 by omega]
    have e1 : putL (.ref p) (.int 0) (.int (a / many)) h = some (h.set p (.lst [.int (a / many), .int b])) := by
      simp [putL, putO, g, putA, L2.ixN]
    simp [e0, e1]
    refine q _ _ (Int.emod_nonneg _ (by omega)) (Int.emod_lt_of_pos _ m0) ⟨a / many, b, get_set_eq _ g, Int.ediv_nonneg ha (by omega), hb, hb'⟩ (Keep.set (S := fun r => r = p) rfl _) (by simp)
  · simp only [c, decide_false, wif_f]
    have i1 : ∀ i : Int, bltL .int [.int i] h = some (.int i, h) := fun i => rfl
    have q1 := fmod_lt (i := b * 42024 + 4271) (j := 2147483563) (by decide)
    have e1 : putL (.ref p) (.int 1) (.int ((b * 42024 + 4271).fmod 2147483563)) h = some (h.set p (.lst [.int a, .int ((b * 42024 + 4271).fmod 2147483563)])) := by
      simp [putL, putO, g, putA, L2.ixN]
    have g1 := get_set_eq (.lst [.int a, .int ((b * 42024 + 4271).fmod 2147483563)]) g
    have i2 : ∀ (i : Int) (h : LH), bltL .int [.int i] h = some (.int i, h) := fun i h => rfl
    simp [i2, e1, idx_ref g1, mulOk_small (i := b) (j := 42024) (by decide) (by decide)]
    refine ⟨mulOk_small (by omega) (by omega), ?_⟩
    rw [if_neg (by omega), wo_some]
    have q2 := fmod_lt (i := ((b * 42024 + 4271).fmod 2147483563 * (b * 42024 + 4271).fmod 2147483563).fmod 2147483549 |>.fdiv 131) (j := many) m0
    exact q _ _ q2.1 q2.2 ⟨a, _, g1, ha, q1.1, by omega⟩ (Keep.set (S := fun r => r = p) rfl _) (by simp)
theorem PotOk.keep {h h' : LH} {p : Nat} (po : PotOk h p) (x : Ext h h') : PotOk h' p := by
  obtain ⟨a, b, g, r⟩ := po
  exact ⟨a, b, x _ _ g, r⟩
/-- some of a list, as drawn -/
theorem lc_draw {d p : Nat} {α : Type} {nx : LH → Nat → Option (Option L)} {G : Gm} {sl : LS} {v : Nat} {many : Int} (enc : α → L) (xs : List α) (h0 : LH) (m0 : 0 < many) (m1 : many < 1000) (lx : xs.length < 1000000) (hG : G.cl = run (d + 1)) (po : PotOk h0 p)
    (hx : ∀ i h, KP p h0 h → nx h i = some (xs.map enc)[i]?)
    (hv : ∀ a, ((some (.ref p) :: sl).set v (some (enc a)))[0]? = some (some (.ref p)) ∧ ((some (.ref p) :: sl).set v (some (enc a)))[v]? = some (some (enc a))) :
    Wp (lcGo nx (evT G (.name v)) (evE G (.cmp .Eq (.call 29 (.cons (.var 0) (.cons (.int many) .nil))) (.int 0))) (evE G (.var v)) (some (.ref p) :: sl) whileFuel 0 [] h0) fun ys h => ∃ zs : List α, ys = zs.map enc ∧ zs.Sublist xs ∧ KP p h0 h ∧ PotOk h p ∧ h.length = h0.length := by
  have zl : sizeLine = 16777216 := by decide
  have vp : ∀ a, ∃ t, (some (L.ref p) :: sl).set v (some (enc a)) = some (.ref p) :: t := fun a => by
    have := (hv a).1
    cases e : (some (L.ref p) :: sl).set v (some (enc a)) with
    | nil => rw [e] at this; simp at this
    | cons x t =>
      rw [e] at this
      simp at this
      exact ⟨t, by rw [this]⟩
  refine wp_lc (xs.map enc) (fun i acc h => ∃ zs : List α, acc = zs.map enc ∧ zs.Sublist (xs.take i) ∧ KP p h0 h ∧ PotOk h p ∧ h.length = h0.length) ?_ ?_ ?_ (by rw [List.length_map]; omega) whileFuel 0 [] h0 (Nat.le_refl _) (Nat.zero_le _) (by rw [List.length_map]; show _ < 1000000000000 + 0; omega) ⟨[], rfl, by simp, Keep.refl _ _, po, rfl⟩
  · rintro i acc h ⟨zs, _, _, k, _⟩
    exact hx i h k
  · rintro i x acc h ex _ ⟨zs, rfl, sb, k, po, hl⟩
    rw [List.getElem?_map] at ex
    obtain ⟨a, ea, rfl⟩ := Option.map_eq_some_iff.mp ex
    refine ⟨_, h, rfl, ?_⟩
    obtain ⟨t, et⟩ := vp a
    have h2 := (hv a).2
    rw [et] at h2 ⊢
    simp [hG]
    refine law_draw po m0 m1 fun h1 c c0 c1 po1 k1 l1 => ?_
    have tk : xs.take (i + 1) = xs.take i ++ [a] := by rw [List.take_add_one, ea]; rfl
    rw [eqL_int, wo_some]
    by_cases e : c = 0
    · refine .inl ⟨by simp [e], ?_⟩
      rw [h2, wv_some]
      refine ⟨zs ++ [a], by simp, ?_, k.trans k1, po1, by omega⟩
      rw [tk]
      exact sb.append (List.Sublist.refl _)
    · refine .inr ⟨by simp [e], zs, rfl, ?_, k.trans k1, po1, by omega⟩
      rw [tk]
      exact sb.trans (List.sublist_append_left _ _)
  · rintro acc h _ ⟨zs, e, sb, r⟩
    rw [List.length_map, List.take_length] at sb
    exact ⟨zs, e, sb, r⟩
end Lw
end
section
set_option Elab.async false
set_option linter.all false
set_option autoImplicit false
set_option maxRecDepth 100000
/-! _law_packages: names, sums of lists, the bytes of a code -/
namespace Lw
open PySem Ly
def chA (i : Nat) : Str := ⟨#[97 + i]⟩
def chX (i : Nat) : Str := ⟨#[120 + i]⟩
def nmOf (i j : Nat) : Str := (("work" : Str) ++ chA i) ++ chX j
theorem nmOf_cps (i j : Nat) : (nmOf i j).cps.toList = [119, 111, 114, 107, 97 + i, 120 + j] := rfl
theorem nmOf_inj {i j i' j' : Nat} (e : nmOf i j = nmOf i' j') : i = i' ∧ j = j' := by
  have h := congrArg (fun s : Str => s.cps.toList) e
  simp only [nmOf_cps] at h
  simp at h
  exact ⟨h.1, h.2⟩
theorem nmOf_ok {i j : Nat} (hi : i < 4) (hj : j < 3) : PyData.strOk (nmOf i j) = true := by
  unfold PyData.strOk
  rw [Array.all_eq_true_iff_forall_mem]
  intro x m
  have m' : x ∈ (nmOf i j).cps.toList := Array.mem_toList_iff.mpr m
  rw [nmOf_cps] at m'
  simp at m' ⊢
  omega
theorem idx_abcd {i : Nat} (hi : i < 4) {h : LH} : idxL (.str "abcd") (.int i) h = some (.str (chA i), h) := by
  match i, hi with
  | 0, _ => rfl
  | 1, _ => rfl
  | 2, _ => rfl
  | 3, _ => rfl
theorem idx_xyz {i : Nat} (hi : i < 3) {h : LH} : idxL (.str "xyz") (.int i) h = some (.str (chX i), h) := by
  match i, hi with
  | 0, _ => rfl
  | 1, _ => rfl
  | 2, _ => rfl
theorem add_work {i : Nat} {h : LH} : binL .Add (.str "work") (.str (chA i)) h = some (.str (("work" : Str) ++ chA i), h) := rfl
theorem add_work2 {i j : Nat} {h : LH} : binL .Add (.str (("work" : Str) ++ chA i)) (.str (chX j)) h = some (.str (nmOf i j), h) := rfl
@[simp] theorem e_lrg {G : Gm} {x : Option L} {sl : LS} {h : LH} {Q : L → LH → Prop} {a : E} : Wp (evE G (.lrg a) (x :: sl) h) Q ↔ Wp (evE G a (x :: sl) h) fun v h1 => Wint v fun j => (-1000000 < j ∧ j < 1000000) ∧ Wo (newL h1 (rngV 0 1 j.toNat)) fun p => Q p.1 p.2 := by
  show Wp (R.bind _ _) Q ↔ _
  rw [wp_bind]
  refine wp_congr fun v h1 => ?_
  cases v with
  | int j =>
    show Wp (if -1000000 < j ∧ j < 1000000 then ofO (newL h1 (rngV 0 1 j.toNat)) else .bad) Q ↔ _
    rw [wp_ite, wp_ofO']
    exact Iff.rfl
  | _ => exact Iff.rfl
/-- lists of lists of anything, by their numbers -/
def LLe {α : Type} (enc : α → L) (h : LH) (rs : List Nat) (cs : List (List α)) : Prop := rs.length = cs.length ∧ ∀ (i : Nat) (c : List α), cs[i]? = some c → ∃ r' : Nat, rs[i]? = some r' ∧ h[r']? = some (.lst (c.map enc))
theorem LLe.ext {α : Type} {enc : α → L} {h h' : LH} {rs : List Nat} {cs : List (List α)} (l : LLe enc h rs cs) (k : Ext h h') : LLe enc h' rs cs := by
  refine ⟨l.1, fun i c e => ?_⟩
  obtain ⟨r', e1, e2⟩ := l.2 i c e
  exact ⟨r', e1, k _ _ e2⟩
theorem LLe.snoc {α : Type} {enc : α → L} {h : LH} {rs : List Nat} {cs : List (List α)} {r : Nat} {c : List α} (l : LLe enc h rs cs) (g : h[r]? = some (.lst (c.map enc))) : LLe enc h (rs ++ [r]) (cs ++ [c]) := by
  refine ⟨by simp [l.1], fun i c' e => ?_⟩
  rcases Nat.lt_or_ge i cs.length with q | q
  · rw [List.getElem?_append_left q] at e
    obtain ⟨r', e1, e2⟩ := l.2 i c' e
    exact ⟨r', by rw [List.getElem?_append_left (by rw [l.1]; exact q)]; exact e1, e2⟩
  · rw [List.getElem?_append_right q] at e
    have : i - cs.length = 0 := by
      rcases Nat.eq_zero_or_pos (i - cs.length) with z | z
      · exact z
      · rw [List.getElem?_eq_none (by simp; omega)] at e
        cases e
    rw [this] at e
    simp at e
    subst e
    exact ⟨r, by rw [List.getElem?_append_right (by rw [l.1]; exact q), l.1, this]; rfl, g⟩
theorem catR_lle {α : Type} {enc : α → L} {h : LH} : ∀ (rs : List Nat) (cs : List (List α)), LLe enc h rs cs → catR h (rs.map .ref) = some (cs.flatten.map enc)
  | [], [], _ => rfl
  | [], _ :: _, l => by cases l.1
  | _ :: _, [], l => by cases l.1
  | r :: rs, c :: cs, l => by
    obtain ⟨r', e1, e2⟩ := l.2 0 c rfl
    simp at e1
    subst e1
    have ih := catR_lle rs cs ⟨by simpa using l.1, fun i c' e => by
      obtain ⟨r', e1, e2⟩ := l.2 (i + 1) c' (by simpa using e)
      exact ⟨r', by simpa using e1, e2⟩⟩
    simp only [List.map_cons, catR, refO, e2, ih]
    simp
/-- sum(lists, []) -/
theorem sum_lle {α : Type} {enc : α → L} {h : LH} {r w : Nat} {rs : List Nat} {cs : List (List α)} {Q : L × LH → Prop} (g : h[r]? = some (.lst (rs.map .ref))) (gw : h[w]? = some (.lst [])) (l : LLe enc h rs cs) (lz : cs.flatten.length < 1000000)
    (q : ∀ (h' : LH) (r' : Nat), Ext h h' → w ≤ r' ∨ h.length ≤ r' → h'[r']? = some (.lst (cs.flatten.map enc)) → Q (.ref r', h')) : Wo (bltL .sum [.ref r, .ref w] h) Q := by
  have zl : sizeLine = 16777216 := by decide
  have e0 : bltL .sum [.ref r, .ref w] h = sumX h (.ref w) (rs.map .ref) (cs.flatten.map enc) := by
    simp [bltL, ot, sum2, lstAt, g, sumW, refO, gw, catR_lle rs cs l]
  rw [e0]
  cases rs with
  | nil =>
    have : cs = [] := by
      have := l.1
      simp at this
      exact List.eq_nil_of_length_eq_zero this.symm
    subst this
    exact q h w (Ext.refl _) (.inl (Nat.le_refl _)) (by simpa using gw)
  | cons a rs =>
    show Wo (newL h (cs.flatten.map enc)) _
    rw [wo_newL]
    exact ⟨by rw [List.length_map, zl]; omega, q _ _ (Ext.app _ _) (.inr (Nat.le_refl _)) (get_new _ _)⟩
end Lw
end
section
set_option Elab.async false
set_option linter.all false
set_option autoImplicit false
set_option maxRecDepth 100000
/-! _law_packages: one code -/
namespace Lw
open PySem Ly
def b_code : Ss := (.cons (.set 12 (.ife (.var 1) (.lrg (.blt .len (.cons (.var 6) .nil))) (.lrg (.var 10)))) (.cons (.set 12 (.lc [15] (.name 15) (.val (.bin .Add (.var 12) (.lc [16] (.name 16) (.rng1 (.blt .len (.cons (.var 8) .nil))) (.bl true) (.bin .Add (.blt .len (.cons (.var 6) .nil)) (.var 16))))) (.cmp .Eq (.call 29 (.cons (.var 0) (.cons (.int 3) .nil))) (.int 0)) (.var 15))) (.cons (.set 13 (.bin .Add (.blt .sum (.cons (.lc [15] (.name 15) (.val (.var 12)) (.bl true) (.lst (.cons (.int 10) (.cons (.int 0) (.cons (.var 15) (.cons (.int 0) (.cons (.int 0) .nil))))))) (.cons (.lst .nil) .nil))) (.lst (.cons (.int 13) (.cons (.int 0) .nil))))) (.cons (.ifs (.cmp .Eq (.call 29 (.cons (.var 0) (.cons (.int 12) .nil))) (.int 0)) (.cons (.set 13 (.bin .Add (.var 13) (.lst (.cons (.int 99) .nil)))) .nil) .nil) (.cons (.expr (.meth .append (.var 9) (.cons (.tup (.cons (.str "code") (.cons (.var 11) (.cons (.int 0) (.cons (.int 0) (.cons (.int 1) (.cons (.tup .nil) (.cons (.tup .nil) (.cons (.blt .tuple (.cons (.var 13) .nil)) (.cons (.tup .nil) (.cons (.tup .nil) .nil))))))))))) .nil))) .nil)))))
theorem Keep.weaken {S S' : Nat → Prop} {h h' : LH} (k : Keep S h h') (f : ∀ r, S r → S' r) : Keep S' h h' := fun r o n e => k r o (fun m => n (f r m)) e
theorem cbs_flat (ks : List Int) : (ks.map fun k => [L.int 10, .int 0, .int k, .int 0, .int 0]).flatten = cbs ks := by
  induction ks with
  | nil => rfl
  | cons k ks ih => simp [cbs, ih]
theorem lle_id {h : LH} {rs : List Nat} {cs : List (List L)} (a : rs.length = cs.length) (b : ∀ (i : Nat) (c : List L), cs[i]? = some c → ∃ r' : Nat, rs[i]? = some r' ∧ h[r']? = some (.lst c)) : LLe (fun x => x) h rs cs := ⟨a, fun i c e => by
  obtain ⟨r', e1, e2⟩ := b i c e
  exact ⟨r', e1, by simpa using e2⟩⟩
theorem code_step {d p rown ruse rcodes j : Nat} {wild : Bool} {own uses : List Str} {name : Str} {cs : List Cd} {h : LH} {s2 s3 s4 s5 s7 s12 s13 s14 : Option L} {N : LS → LH → Prop} {T : L → LH → Prop}
    (go : h[rown]? = some (.lst (own.map .str))) (gu : h[ruse]? = some (.lst (uses.map .str))) (gc : h[rcodes]? = some (.lst (cs.map Cd.l))) (po : PotOk h p) (np : p ≠ rcodes) (lj : j < own.length) (lo : own.length ≤ 3) (lu : uses.length ≤ 12) (lc : cs.length ≤ 3) (nu : ruse ≠ p) (no : rown ≠ p)
    (q : ∀ (h' : LH) (a b : Option L) (ks : List Int) (bad : Bool), Keep (fun r => r = p ∨ r = rcodes) h h' → h.length ≤ h'.length → PotOk h' p → h'[rcodes]? = some (.lst ((cs ++ [(⟨name, ks, bad⟩ : Cd)]).map Cd.l)) → ks.length ≤ 15 → (∀ k ∈ ks, 0 ≤ k ∧ k < own.length + uses.length) →
      N [some (.ref p), some (.bl wild), s2, s3, s4, s5, some (.ref rown), s7, some (.ref ruse), some (.ref rcodes), some (.int j), some (.str name), a, b, s14, none, none] h') :
    Ws (evSs ⟨Pg.gl, Pg.gd, run (d + 1)⟩ b_code [some (.ref p), some (.bl wild), s2, s3, s4, s5, some (.ref rown), s7, some (.ref ruse), some (.ref rcodes), some (.int j), some (.str name), s12, s13, s14, none, none] h) N T := by
  unfold b_code
  have zl : sizeLine = 16777216 := by decide
  -- the first list
  have st1 : ∃ m : Nat, m ≤ own.length ∧ ∀ {Q : L → LH → Prop}, Q (.ref h.length) (h ++ [.lst ((rngI m).map .int)]) → Wp (evE ⟨Pg.gl, Pg.gd, run (d + 1)⟩ (.ife (.var 1) (.lrg (.blt .len (.cons (.var 6) .nil))) (.lrg (.var 10))) [some (.ref p), some (.bl wild), s2, s3, s4, s5, some (.ref rown), s7, some (.ref ruse), some (.ref rcodes), some (.int j), some (.str name), s12, s13, s14, none, none] h) Q := by
    cases wild with
    | true =>
      refine ⟨own.length, Nat.le_refl _, fun {Q} w => ?_⟩
      simp [len_ref go, rngV_rngI, wo_newL, rngI_len, zl]
      exact ⟨by omega, by omega, w⟩
    | false =>
      refine ⟨j, by omega, fun {Q} w => ?_⟩
      simp [rngV_rngI, wo_newL, rngI_len, zl]
      exact ⟨by omega, by omega, w⟩
  obtain ⟨m, lm, w1⟩ := st1
  rw [s_cons, s_set]
  refine w1 ?_
  simp only [List.set]
  have g1 := get_new h (.lst ((rngI m).map L.int))
  have x1 := Ext.app h [.lst ((rngI m).map L.int)]
  have hl1 : (h ++ [LO.lst ((rngI m).map L.int)]).length = h.length + 1 := by simp
  generalize (h ++ [LO.lst ((rngI m).map L.int)]) = h1 at g1 x1 hl1 ⊢
  simp [len_ref (x1 _ _ gu), near_small (show uses.length < 100000 by omega), rngV_rngI, wipeL]
  refine Wp.mono (lc_enc L.int (rngI uses.length) h1 (fun _ => true) (fun i => .int ((own.length : Int) + i)) (by rw [rngI_len]; omega) (fun _ _ _ => rfl) ?_) ?_
  · rintro i h2 hi x2
    refine ⟨_, rfl, ?_⟩
    simp [len_ref (x2 _ _ (x1 _ _ go)), Ext.refl]
  rintro ys h2 ⟨rfl, x2⟩
  rw [filter_true]
  have hl2 := x2.len
  rw [add_ref (Ext.app _ _ _ _ (x2 _ _ g1)) (get_new _ _), wo_newL]
  refine ⟨by simp [rngI_len, zl]; omega, ?_⟩
  have ec : (rngI m).map L.int ++ ((rngI uses.length).map fun i => L.int ((own.length : Int) + i)) = (rngI m ++ (rngI uses.length).map fun i => (own.length : Int) + i).map .int := by simp [Function.comp_def]
  rw [ec]
  have g3 := get_new (h2 ++ [.lst ((rngI uses.length).map fun i => L.int ((own.length : Int) + i))]) (.lst ((rngI m ++ (rngI uses.length).map fun i => (own.length : Int) + i).map L.int))
  have x3 := x1.trans (x2.trans ((Ext.app h2 [.lst ((rngI uses.length).map fun i => L.int ((own.length : Int) + i))]).trans (Ext.app _ [.lst ((rngI m ++ (rngI uses.length).map fun i => (own.length : Int) + i).map L.int)])))
  have hr3 : h.length ≤ (h2 ++ [LO.lst ((rngI uses.length).map fun i => L.int ((own.length : Int) + i))]).length := by
    have := (x1.trans x2).len
    simp
    omega
  generalize (h2 ++ [LO.lst ((rngI uses.length).map fun i => L.int ((own.length : Int) + i))]).length = r3 at g3 hr3 ⊢
  generalize (h2 ++ [LO.lst ((rngI uses.length).map fun i => L.int ((own.length : Int) + i))] ++ [LO.lst ((rngI m ++ (rngI uses.length).map fun i => (own.length : Int) + i).map L.int)]) = h3 at g3 x3 ⊢
  have lcand : (rngI m ++ (rngI uses.length).map fun i => (own.length : Int) + i).length ≤ 15 := by
    simp [rngI_len]
    omega
  have mcand : ∀ k ∈ (rngI m ++ (rngI uses.length).map fun i => (own.length : Int) + i), 0 ≤ k ∧ k < own.length + uses.length := by
    intro k hk
    rcases List.mem_append.mp hk with hk | hk
    · have := mem_rngI.mp hk
      omega
    · obtain ⟨i, hi, rfl⟩ := List.mem_map.mp hk
      have := mem_rngI.mp hi
      omega
  generalize (rngI m ++ (rngI uses.length).map fun i => (own.length : Int) + i) = cand at g3 lcand mcand ⊢
  simp
  rw [walk_ref g3, wo_some]
  have np3 : r3 ≠ p := by
    obtain ⟨_, _, gp, _⟩ := po
    have := lt_of_get gp
    omega
  refine Wp.mono (lc_draw (d := d) (many := 3) L.int cand h3 (by decide) (by decide) (by omega) rfl (po.keep x3) (fun i h' k => lst_at (k _ _ np3 g3)) (fun a => ⟨rfl, rfl⟩)) ?_
  rintro ys h4 ⟨ks, rfl, sb, k4, po4, l4⟩
  have lks : ks.length ≤ 15 := Nat.le_trans sb.length_le lcand
  have mks : ∀ k ∈ ks, 0 ≤ k ∧ k < own.length + uses.length := fun k m => mcand k (sb.subset m)
  have g5 := get_new h4 (.lst (ks.map L.int))
  have k5 : KP p h (h4 ++ [.lst (ks.map .int)]) := x3.keep.trans (k4.trans (keep_app _ _))
  have po5 : PotOk (h4 ++ [.lst (ks.map .int)]) p := po4.keep (Ext.app _ _)
  have lp : p < h.length := by
    obtain ⟨_, _, gp, _⟩ := po
    exact lt_of_get gp
  have hl4 : h.length ≤ h4.length := by
    have := x3.len
    omega
  have hl5 : h4.length < (h4 ++ [LO.lst (ks.map L.int)]).length := by simp
  generalize (h4 ++ [LO.lst (ks.map L.int)]) = h5 at g5 k5 po5 hl5 ⊢
  rw [walk_ref g5, wo_some]
  refine Wp.mono (wp_lc (ks.map L.int) (fun i acc h' => Ext h5 h' ∧ ∃ rs : List Nat, acc = rs.map .ref ∧ LLe (fun x => x) h' rs ((ks.take i).map fun k => [L.int 10, .int 0, .int k, .int 0, .int 0])) (fun i acc h' w => lst_at (w.1 _ _ g5)) ?_ (fun acc h' l w => w) (by rw [List.length_map]; omega) whileFuel 0 [] h5 (Nat.le_refl _) (Nat.zero_le _) (by rw [List.length_map]; show _ < 1000000000000 + 0; omega) ⟨Ext.refl _, [], rfl, rfl, fun i c e => by simp at e⟩) ?_
  · rintro i x acc h6 ex la ⟨x6, rs, rfl, ll⟩
    rw [List.getElem?_map] at ex
    obtain ⟨k, ek, rfl⟩ := Option.map_eq_some_iff.mp ex
    refine ⟨_, _, rfl, ?_⟩
    simp [zl]
    refine ⟨x6.trans (Ext.app _ _), rs ++ [h6.length], by simp, ?_⟩
    rw [take_map_snoc _ ek]
    exact (ll.ext (Ext.app _ _)).snoc (by simp)
  rintro acc h6 ⟨x6, rs, rfl, ll⟩
  rw [List.length_map, List.take_length] at ll
  have gr : (h6 ++ [LO.lst (rs.map L.ref), .lst []])[h6.length]? = some (.lst (rs.map .ref)) := get_app _ _ 0
  have gw : (h6 ++ [LO.lst (rs.map L.ref), .lst []])[h6.length + 1]? = some (.lst []) := get_app _ _ 1
  have x7 := x6.trans (Ext.app h6 [LO.lst (rs.map L.ref), .lst []])
  have ll7 := ll.ext (Ext.app h6 [LO.lst (rs.map L.ref), .lst []])
  have hl6 := x6.len
  have hl7 : (h6 ++ [LO.lst (rs.map L.ref), .lst []]).length = h6.length + 2 := by simp
  generalize (h6 ++ [LO.lst (rs.map L.ref), .lst []]) = h7 at gr gw x7 ll7 hl7 ⊢
  have cl := cbs_len ks
  refine sum_lle gr gw ll7 (by rw [cbs_flat, cl]; omega) fun h8 r8 x8 lr8 g8 => ?_
  rw [cbs_flat, List.map_id'] at g8
  simp only []
  refine ⟨by rw [zl]; omega, ?_⟩
  rw [add_ref (Ext.app _ _ _ _ g8) (get_new _ _), wo_newL]
  refine ⟨by simp [cl, zl]; omega, ?_⟩
  have g9 := get_new (h8 ++ [.lst [.int 13, .int 0]]) (.lst (cbs ks ++ [L.int 13, .int 0]))
  have x9 := x7.trans (x8.trans ((Ext.app h8 [.lst [.int 13, .int 0]]).trans (Ext.app _ [.lst (cbs ks ++ [L.int 13, .int 0])])))
  have hr9 : h.length ≤ (h8 ++ [LO.lst [.int 13, .int 0]]).length := by
    have := x8.len
    simp
    omega
  generalize (h8 ++ [LO.lst [.int 13, .int 0]]).length = r9 at g9 hr9 ⊢
  generalize (h8 ++ [LO.lst [.int 13, .int 0]] ++ [LO.lst (cbs ks ++ [L.int 13, .int 0])]) = h9 at g9 x9 ⊢
  have k9 := k5.trans x9.keep
  have po9 := po5.keep x9
  have hl9 := x9.len
  refine law_draw po9 (by decide) (by decide) fun h10 c c0 c1 po10 k10 l10 => ?_
  have k10' : Keep (fun r => r = p ∨ r = rcodes) h h10 := (k9.trans k10).weaken fun r m => .inl m
  have g10 := k10 _ _ (show r9 ≠ p by omega) g9
  have gc10 : h10[rcodes]? = some (.lst (cs.map Cd.l)) := (k9.trans k10) _ _ np.symm gc
  rw [eqL_int, wo_some]
  have kr : ∀ (h11 : LH), Keep (fun r => r = p ∨ r = rcodes) h10 (h11) → Keep (fun r => r = p ∨ r = rcodes) h h11 := fun h11 k => k10'.trans k
  have fin : ∀ (bad : Bool) (r11 : Nat) (h11 : LH), Ext h10 h11 → h11[r11]? = some (.lst (rowOf ks bad)) →
      (lstAt h11 (L.ref rcodes)).isSome = true ∧
        Wo (bltL Blt.tuple [L.ref r11] h11) fun p_1 =>
          10 ≤ sizeLine ∧
            Wo (methL Mth.append (L.ref rcodes) [L.tup [L.str "code", L.str name, L.int 0, L.int 0, L.int 1, L.tup [], L.tup [], p_1.fst, L.tup [], L.tup []]] p_1.snd) fun p_2 =>
              N [some (L.ref p), some (L.bl wild), s2, s3, s4, s5, some (L.ref rown), s7, some (L.ref ruse), some (L.ref rcodes), some (L.int (j : Int)), some (L.str name), some (L.ref (List.length h4)), some (L.ref r11), s14, none, none] p_2.snd := fun bad r11 h11 x11 g11 => by
    have gc11 := x11 _ _ gc10
    refine ⟨by rw [lst_ref gc11]; rfl, ?_⟩
    rw [tup_ref g11, wo_some]
    refine ⟨by rw [zl]; omega, ?_⟩
    rw [app_ref gc11 (by rw [List.length_map, zl]; omega), wo_some]
    refine q _ _ _ ks bad (kr _ (x11.keep.trans (Keep.set (.inr rfl) _))) ?_ ?_ ?_ lks mks
    · have e1 : h.length ≤ h9.length := by omega
      have e2 : h.length ≤ h10.length := l10 ▸ e1
      have e3 : h.length ≤ h11.length := Nat.le_trans e2 x11.len
      simp only [List.length_set]
      exact e3
    · obtain ⟨a, b, gp, r⟩ := po10.keep x11
      exact ⟨a, b, get_set_ne _ gp np.symm, r⟩
    · rw [get_set_eq _ gc11]
      simp [Cd.l]
  by_cases e : c = 0
  · simp [e]
    refine ⟨by rw [zl]; omega, ?_⟩
    rw [add_ref (Ext.app _ _ _ _ g10) (get_new _ _), wo_newL]
    refine ⟨by simp [cl, zl]; omega, ?_⟩
    exact fin true _ _ ((Ext.app _ _).trans (Ext.app _ _)) (by rw [get_new]; simp [rowOf])
  · simp [e]
    exact fin false _ _ (Ext.refl _) (by rw [g10]; simp [rowOf])
end Lw
end
section
set_option Elab.async false
set_option linter.all false
set_option autoImplicit false
set_option maxRecDepth 100000
/-! _law_packages: one package -/
namespace Lw
open PySem Ly
def b_pack : Ss := (.cons (.set 7 (.blt .sum (.cons (.lc [16] (.name 16) (.rng1 (.blt .len (.cons (.var 3) .nil))) (.and (.cmp .NotEq (.var 16) (.var 5)) (.or (.var 1) (.cmp .Gt (.var 16) (.var 5)))) (.idx (.var 3) (.var 16))) (.cons (.lst .nil) .nil)))) (.cons (.set 8 (.lc [15] (.name 15) (.val (.var 7)) (.cmp .Eq (.call 29 (.cons (.var 0) (.cons (.int 3) .nil))) (.int 0)) (.var 15))) (.cons (.set 9 (.lst .nil)) (.cons (.fors (.tup (.cons (.name 10) (.cons (.name 11) .nil))) (.enum (.var 6)) (.cons (.set 12 (.ife (.var 1) (.lrg (.blt .len (.cons (.var 6) .nil))) (.lrg (.var 10)))) (.cons (.set 12 (.lc [15] (.name 15) (.val (.bin .Add (.var 12) (.lc [16] (.name 16) (.rng1 (.blt .len (.cons (.var 8) .nil))) (.bl true) (.bin .Add (.blt .len (.cons (.var 6) .nil)) (.var 16))))) (.cmp .Eq (.call 29 (.cons (.var 0) (.cons (.int 3) .nil))) (.int 0)) (.var 15))) (.cons (.set 13 (.bin .Add (.blt .sum (.cons (.lc [15] (.name 15) (.val (.var 12)) (.bl true) (.lst (.cons (.int 10) (.cons (.int 0) (.cons (.var 15) (.cons (.int 0) (.cons (.int 0) .nil))))))) (.cons (.lst .nil) .nil))) (.lst (.cons (.int 13) (.cons (.int 0) .nil))))) (.cons (.ifs (.cmp .Eq (.call 29 (.cons (.var 0) (.cons (.int 12) .nil))) (.int 0)) (.cons (.set 13 (.bin .Add (.var 13) (.lst (.cons (.int 99) .nil)))) .nil) .nil) (.cons (.expr (.meth .append (.var 9) (.cons (.tup (.cons (.str "code") (.cons (.var 11) (.cons (.int 0) (.cons (.int 0) (.cons (.int 1) (.cons (.tup .nil) (.cons (.tup .nil) (.cons (.blt .tuple (.cons (.var 13) .nil)) (.cons (.tup .nil) (.cons (.tup .nil) .nil))))))))))) .nil))) .nil)))))) (.cons (.expr (.meth .append (.var 4) (.cons (.tup (.cons (.str "package") (.cons (.blt .tuple (.cons (.var 9) .nil)) (.cons (.blt .tuple (.cons (.lc [15] (.name 15) (.val (.var 8)) (.bl true) (.tup (.cons (.str "contract") (.cons (.var 15) (.cons (.int 0) (.cons (.int 0) (.cons (.tup .nil) (.cons (.tup .nil) .nil)))))))) .nil)) (.cons (.tup .nil) .nil))))) .nil))) .nil)))))
theorem LLe.sel {α : Type} {enc : α → L} {h : LH} {rs : List Nat} {cs : List (List α)} (l : LLe enc h rs cs) {F : List Int} (hF : ∀ x ∈ F, 0 ≤ x ∧ x < cs.length) : LLe enc h (F.map fun x => (rs[x.toNat]?).getD 0) (F.map fun x => (cs[x.toNat]?).getD []) := by
  refine ⟨by simp, fun i c e => ?_⟩
  rw [List.getElem?_map] at e
  obtain ⟨x, ex, rfl⟩ := Option.map_eq_some_iff.mp e
  have hx := hF x (List.mem_of_getElem? ex)
  obtain ⟨k, rfl⟩ := Int.eq_ofNat_of_zero_le hx.1
  have lk : k < cs.length := by omega
  obtain ⟨r', e1, e2⟩ := l.2 k cs[k] (List.getElem?_eq_getElem lk)
  refine ⟨r', ?_, ?_⟩
  · rw [List.getElem?_map, ex]
    simp [e1]
  · rw [e2]
    simp [List.getElem?_eq_getElem lk]
structure PkI (nms : List (List Str)) (own : List Str) (p : Pk) : Prop where
  nm : p.codes.map (·.nm) = own
  us : ∀ u ∈ p.uses, u ∈ nms.flatten
  lu : p.uses.length ≤ 12
  ks : ∀ c ∈ p.codes, c.ks.length ≤ 15 ∧ ∀ k ∈ c.ks, 0 ≤ k ∧ k < p.codes.length + p.uses.length
theorem flatten_len (nms : List (List Str)) (h : ∀ n ∈ nms, n.length ≤ 3) : nms.flatten.length ≤ 3 * nms.length := by
  induction nms with
  | nil => simp
  | cons a l ih =>
    have := ih fun n m => h n (List.mem_cons_of_mem _ m)
    have := h a List.mem_cons_self
    rw [List.flatten_cons, List.length_append, List.length_cons]
    omega
theorem pack_step {d p rnames rfound rown i : Nat} {wild : Bool} {own : List Str} {nms : List (List Str)} {rs : List Nat} {ps : List Pk} {h : LH} {s2 s7 s8 s9 s10 s11 s12 s13 : Option L} {N : LS → LH → Prop} {T : L → LH → Prop}
    (gn : h[rnames]? = some (.lst (rs.map .ref))) (ll : LLe L.str h rs nms) (eo : nms[i]? = some own) (er : rs[i]? = some rown) (gf : h[rfound]? = some (.lst (ps.map Pk.l))) (po : PotOk h p) (np : p ≠ rfound) (ln : nms.length ≤ 4) (l3 : ∀ n ∈ nms, n.length ≤ 3) (lps : ps.length ≤ 4) (npr : rnames ≠ p) (nrs : ∀ r ∈ rs, r ≠ p)
    (q : ∀ (h' : LH) (a7 a8 a9 a10 a11 a12 a13 : Option L) (pk : Pk), Keep (fun r => r = p ∨ r = rfound) h h' → h.length ≤ h'.length → PotOk h' p → h'[rfound]? = some (.lst ((ps ++ [pk]).map Pk.l)) → PkI nms own pk →
      N [some (.ref p), some (.bl wild), s2, some (.ref rnames), some (.ref rfound), some (.int i), some (.ref rown), a7, a8, a9, a10, a11, a12, a13, none, none, none] h') :
    Ws (evSs ⟨Pg.gl, Pg.gd, run (d + 1)⟩ b_pack [some (.ref p), some (.bl wild), s2, some (.ref rnames), some (.ref rfound), some (.int i), some (.ref rown), s7, s8, s9, s10, s11, s12, s13, none, none, none] h) N T := by
  unfold b_pack
  have zl : sizeLine = 16777216 := by decide
  have go : h[rown]? = some (.lst (own.map .str)) := by
    obtain ⟨r', e1, e2⟩ := ll.2 i own eo
    rw [er] at e1
    cases e1
    exact e2
  have lrs : rs.length = nms.length := ll.1
  simp [len_ref gn, lrs, near_small (show nms.length < 100000 by omega), rngV_rngI, wipeL]
  refine Wp.mono (lc_enc L.int (rngI nms.length) h (fun late => !decide (late = (i : Int)) && (wild || decide ((i : Int) < late))) (fun late => .ref ((rs[late.toNat]?).getD 0)) (by rw [rngI_len]; omega) (fun _ _ _ => rfl) ?_) ?_
  · rintro late h1 hl x1
    obtain ⟨k, lk, rfl⟩ := mem_rngN hl
    have ek : (rs.map L.ref)[k]? = some (.ref ((rs[k]?).getD 0)) := by simp [show k < rs.length by omega]
    refine ⟨_, rfl, ?_⟩
    by_cases c : (k : Int) = i
    · simp [c, Ext.refl]
    · simp [c]
      cases wild with
      | true => simp [idx_ref (x1 _ _ gn), atI_nat ek, Ext.refl]
      | false =>
        by_cases c2 : i < k
        · simp [c2, idx_ref (x1 _ _ gn), atI_nat ek, Ext.refl]
        · simp [c2, Ext.refl]
  rintro ys h1 ⟨rfl, x1⟩
  generalize eF : (rngI nms.length).filter (fun late => !decide (late = (i : Int)) && (wild || decide ((i : Int) < late))) = F
  have hF : ∀ x ∈ F, 0 ≤ x ∧ x < nms.length := fun x m => by
    rw [← eF] at m
    exact mem_rngI.mp (List.mem_filter.mp m).1
  have lF : F.length ≤ nms.length := by
    rw [← eF]
    refine Nat.le_trans (List.length_filter_le _ _) ?_
    rw [rngI_len]
    exact Nat.le_refl _
  have eg : (F.map fun late => L.ref ((rs[late.toNat]?).getD 0)) = (F.map fun x => (rs[x.toNat]?).getD 0).map .ref := by simp
  rw [eg]
  have ll1 := (ll.ext x1).sel hF
  have lo3 : ((F.map fun x => (nms[x.toNat]?).getD []).flatten).length ≤ 12 := by
    refine Nat.le_trans (flatten_len _ ?_) ?_
    · intro n hn
      obtain ⟨x, hx, rfl⟩ := List.mem_map.mp hn
      cases e : nms[x.toNat]? with
      | none => simp
      | some n => exact l3 n (List.mem_of_getElem? e)
    · rw [List.length_map]
      omega
  have mo3 : ∀ u ∈ (F.map fun x => (nms[x.toNat]?).getD []).flatten, u ∈ nms.flatten := by
    intro u hu
    obtain ⟨n, hn, hu⟩ := List.mem_flatten.mp hu
    obtain ⟨x, hx, rfl⟩ := List.mem_map.mp hn
    cases e : nms[x.toNat]? with
    | none => rw [e] at hu; simp at hu
    | some n =>
      rw [e] at hu
      exact List.mem_flatten.mpr ⟨n, List.mem_of_getElem? e, hu⟩
  generalize (F.map fun x => (nms[x.toNat]?).getD []) = ons at ll1 lo3 mo3
  generalize (F.map fun x => (rs[x.toNat]?).getD 0) = qs at ll1 ⊢
  have gr : (h1 ++ [LO.lst (qs.map L.ref), .lst []])[h1.length]? = some (.lst (qs.map .ref)) := get_app _ _ 0
  have gw : (h1 ++ [LO.lst (qs.map L.ref), .lst []])[h1.length + 1]? = some (.lst []) := get_app _ _ 1
  have x2 := x1.trans (Ext.app h1 [LO.lst (qs.map L.ref), .lst []])
  have ll2 := ll1.ext (Ext.app h1 [LO.lst (qs.map L.ref), .lst []])
  have hl1 := x1.len
  have hl2 : (h1 ++ [LO.lst (qs.map L.ref), .lst []]).length = h1.length + 2 := by simp
  generalize (h1 ++ [LO.lst (qs.map L.ref), .lst []]) = h2 at gr gw x2 ll2 hl2 ⊢
  refine sum_lle gr gw ll2 (by omega) fun h3 r3 x3 lr3 g3 => ?_
  simp only []
  generalize ons.flatten = others at *
  rw [walk_ref g3, wo_some]
  have lp : p < h.length := by
    obtain ⟨_, _, gp, _⟩ := po
    exact lt_of_get gp
  have hl3 := x3.len
  refine Wp.mono (lc_draw (d := d) (many := 3) L.str others h3 (by decide) (by decide) (by omega) rfl (po.keep (x2.trans x3)) (fun i h' k => lst_at (k _ _ (by omega) g3)) (fun a => ⟨rfl, rfl⟩)) ?_
  rintro ys h4 ⟨uses, rfl, sb, k4, po4, l4⟩
  have luse : uses.length ≤ 12 := Nat.le_trans sb.length_le lo3
  have muse : ∀ u ∈ uses, u ∈ nms.flatten := fun u m => mo3 u (sb.subset m)
  have gu : (h4 ++ [LO.lst (uses.map L.str), .lst []])[h4.length]? = some (.lst (uses.map .str)) := get_app _ _ 0
  have gc : (h4 ++ [LO.lst (uses.map L.str), .lst []])[h4.length + 1]? = some (.lst []) := get_app _ _ 1
  have k5 : KP p h (h4 ++ [LO.lst (uses.map L.str), .lst []]) := (x2.trans x3).keep.trans (k4.trans (keep_app _ _))
  have po5 := po4.keep (Ext.app h4 [LO.lst (uses.map L.str), .lst []])
  have hl5 : (h4 ++ [LO.lst (uses.map L.str), .lst []]).length = h4.length + 2 := by simp
  generalize (h4 ++ [LO.lst (uses.map L.str), .lst []]) = h5 at gu gc k5 po5 hl5 ⊢
  have go5 := k5 _ _ (nrs rown (List.mem_of_getElem? er)) go
  rw [enum_ref go5, wp_ok]
  have lo : own.length ≤ 3 := l3 own (List.mem_of_getElem? eo)
  have hl4 : h.length ≤ h4.length := by omega
  have nro : rown < h.length := lt_of_get go
  have lrf := lt_of_get gf
  refine ws_for (enumV 0 (own.map .str)) (fun j sl h' => ∃ a10 a11 a12 a13, sl = [some (.ref p), some (.bl wild), s2, some (.ref rnames), some (.ref rfound), some (.int i), some (.ref rown), some (.ref r3), some (.ref h4.length), some (.ref (h4.length + 1)), a10, a11, a12, a13, none, none, none] ∧
    Keep (fun r => r = p ∨ r = h4.length + 1) h5 h' ∧ h5.length ≤ h'.length ∧ PotOk h' p ∧ ∃ cs : List Cd, h'[h4.length + 1]? = some (.lst (cs.map Cd.l)) ∧ cs.map (·.nm) = own.take j ∧ ∀ c ∈ cs, c.ks.length ≤ 15 ∧ ∀ k ∈ c.ks, 0 ≤ k ∧ k < own.length + uses.length) ?_ ?_ ?_ whileFuel 0 _ _ (by omega) (by show _ < 1000000000000 + 0; rw [enumV_len, List.length_map]; omega)
    ⟨_, _, _, _, rfl, Keep.refl _ _, Nat.le_refl _, po5, [], gc, by simp, by simp⟩
  · rintro j sl h' ⟨_, _, _, _, rfl, k, _⟩
    exact enl_at (k _ _ (by
      have := nrs rown (List.mem_of_getElem? er)
      omega) go5)
  · rintro j x sl h' e ⟨_, _, _, _, rfl, k, l6, po6, cs, gc6, ecs, okc⟩
    rw [enumV_get, List.getElem?_map] at e
    cases en : own[j]? with
    | none => simp [en] at e
    | some nm =>
      simp [en] at e
      subst e
      have lj := (List.getElem?_eq_some_iff.mp en).1
      have lcs : cs.length = j := by
        have := congrArg List.length ecs
        simp at this
        omega
      refine ⟨_, _, rfl, ?_⟩
      simp only [List.set]
      have np1 : p ≠ h4.length + 1 := by omega
      refine code_step (d := d) (cs := cs) (own := own) (uses := uses) (k _ _ (by
        have := nrs rown (List.mem_of_getElem? er)
        omega) go5) (k _ _ (by omega) gu) gc6 po6 np1 lj lo luse (by omega) (by omega) (nrs rown (List.mem_of_getElem? er)) ?_
      intro h7 a b ks bad k7 l7 po7 gc7 lks mks
      refine ⟨_, _, a, b, rfl, k.trans k7, by omega, po7, cs ++ [⟨nm, ks, bad⟩], gc7, ?_, ?_⟩
      · rw [List.map_append, ecs, List.take_add_one, en]
        rfl
      · intro c hc
        rcases List.mem_append.mp hc with hc | hc
        · exact okc c hc
        · simp at hc
          subst hc
          exact ⟨lks, mks⟩
  · rintro sl h' ⟨a10, a11, a12, a13, rfl, k, l6, po6, cs, gc6, ecs, okc⟩
    rw [enumV_len, List.length_map, List.take_length] at ecs
    have gf6 : h'[rfound]? = some (.lst (ps.map Pk.l)) := k _ _ (by omega) (k5 _ _ (by omega) gf)
    simp [lst_ref gf6, tup_ref gc6, zl]
    have gu6 := k _ _ (by omega) gu
    rw [walk_ref gu6, wo_some]
    refine Wp.mono (lc_enc L.str uses h' (fun _ => true) useL (by omega) (fun i h' x => lst_at (x _ _ gu6)) ?_) ?_
    · rintro u h8 hu x8
      refine ⟨_, rfl, ?_⟩
      simp [wipeL, useL, zl, Ext.refl]
    rintro ys h8 ⟨rfl, x8⟩
    rw [filter_true]
    have x9 := x8.trans (Ext.app h8 [.lst (uses.map useL)])
    have gf9 := x9 _ _ gf6
    rw [app_ref gf9 (by rw [List.length_map, zl]; omega), wo_some]
    have l9 := x9.len
    refine q _ _ _ _ _ _ _ _ ⟨cs, uses⟩ ?_ ?_ ?_ ?_ ⟨ecs, muse, luse, fun c m => ?_⟩
    · have k1 : Keep (fun r => r = p ∨ r = rfound ∨ h.length ≤ r) h h' := (k5.weaken fun r m => .inl m).trans (k.weaken fun r m => m.elim .inl fun m => .inr (.inr (by omega)))
      have k2 : Keep (fun r => r = p ∨ r = rfound) h h' := fun r o n e => k1 r o (fun m => m.elim (fun m => n (.inl m)) fun m => m.elim (fun m => n (.inr m)) fun m => by
        have := lt_of_get e
        omega) e
      exact k2.trans (x9.keep.trans (Keep.set (.inr rfl) _))
    · simp only [List.length_set]
      exact Nat.le_trans (by omega) l9
    · obtain ⟨a, b, gp, r⟩ := po6.keep x9
      exact ⟨a, b, get_set_ne _ gp np.symm, r⟩
    · rw [get_set_eq _ gf9]
      simp [Pk.l]
    · have lcs : cs.length = own.length := by
        have := congrArg List.length ecs
        simpa using this
      have := okc c m
      rw [← lcs] at this
      exact this
end Lw
end
section
set_option Elab.async false
set_option linter.all false
set_option autoImplicit false
set_option maxRecDepth 100000
/-! _law_packages -/
namespace Lw
open PySem Ly
def nmsOf (sz : List Nat) : List (List Str) := sz.mapIdx fun i n => (List.range n).map (nmOf i)
def SzOk (sz : List Nat) : Prop := 1 ≤ sz.length ∧ sz.length ≤ 4 ∧ ∀ n ∈ sz, 1 ≤ n ∧ n ≤ 3
def PksOk (sz : List Nat) (ps : List Pk) : Prop := ps.length = sz.length ∧ ∀ (i : Nat) (p : Pk) (own : List Str), ps[i]? = some p → (nmsOf sz)[i]? = some own → PkI (nmsOf sz) own p
theorem nms_len (sz : List Nat) : (nmsOf sz).length = sz.length := by simp [nmsOf]
theorem nms_get {sz : List Nat} {i n : Nat} (e : sz[i]? = some n) : (nmsOf sz)[i]? = some ((List.range n).map (nmOf i)) := by simp [nmsOf, e]
theorem law_packages {d p : Nat} {wild : Bool} {h : LH} {Q : L → LH → Prop} (po : PotOk h p)
    (q : ∀ (h' : LH) (r : Nat) (ps : List Pk) (sz : List Nat), KP p h h' → h.length ≤ h'.length → h.length ≤ r → h'[r]? = some (.lst (ps.map Pk.l)) → PotOk h' p → SzOk sz → PksOk sz ps → Q (.ref r) h') : Wp (run (d + 2) Pg.f__law_packages [.ref p, .bl wild] h) Q := by
  refine wp_run rfl rfl ?_
  show Ws (evSs ⟨Pg.gl, Pg.gd, run (d + 1)⟩ Pg.b__law_packages [some (.ref p), some (.bl wild), none, none, none, none, none, none, none, none, none, none, none, none, none, none, none] h) _ _
  have eb : Pg.b__law_packages = (.cons (.set 2 (.lc [5] (.name 5) (.rng1 (.bin .Add (.int 1) (.call 29 (.cons (.var 0) (.cons (.int 4) .nil))))) (.bl true) (.bin .Add (.int 1) (.call 29 (.cons (.var 0) (.cons (.int 3) .nil)))))) (.cons (.set 3 (.lc [5, 14] (.tup (.cons (.name 5) (.cons (.name 14) .nil))) (.enum (.var 2)) (.bl true) (.lc [10] (.name 10) (.rng1 (.var 14)) (.bl true) (.bin .Add (.bin .Add (.str "work") (.idx (.str "abcd") (.var 5))) (.idx (.str "xyz") (.var 10)))))) (.cons (.set 4 (.lst .nil)) (.cons (.fors (.tup (.cons (.name 5) (.cons (.name 6) .nil))) (.enum (.var 3)) b_pack) (.cons (.ret (.var 4)) .nil))))) := rfl
  rw [eb]
  have zl : sizeLine = 16777216 := by decide
  have lp : p < h.length := by
    obtain ⟨_, _, gp, _⟩ := po
    exact lt_of_get gp
  simp
  refine law_draw po (by decide) (by decide) fun h1 k k0 k1 po1 kp1 l1 => ?_
  obtain ⟨m, rfl⟩ := Int.eq_ofNat_of_zero_le k0
  simp [(show near62 (1 + (m : Int)) = true by rw [show 1 + (m : Int) = ((1 + m : Nat) : Int) by omega]; exact near_small (by omega))]
  rw [show (1 + (m : Int)).toNat = 1 + m by omega, rngV_rngI]
  refine Wp.mono (wp_lc ((rngI (1 + m)).map L.int) (fun i acc h' => ∃ zs : List Nat, acc = zs.map (fun z : Nat => L.int z) ∧ zs.length = i ∧ (∀ z ∈ zs, 1 ≤ z ∧ z ≤ 3) ∧ KP p h1 h' ∧ PotOk h' p ∧ h'.length = h1.length) (fun _ _ _ _ => rfl) ?_ (fun acc h' l w => w) (by simp [rngI_len, zl]; omega) whileFuel 0 [] h1 (Nat.le_refl _) (Nat.zero_le _) (by simp [rngI_len]; show _ < 1000000000000; omega) ⟨[], rfl, rfl, by simp, Keep.refl _ _, po1, rfl⟩) ?_
  · rintro i x acc h2 ex la ⟨zs, rfl, lz, oz, k2, po2, l2⟩
    refine ⟨_, _, rfl, ?_⟩
    simp [wipeL]
    refine law_draw po2 (by decide) (by decide) fun h3 c c0 c1 po3 kp3 l3 => ?_
    obtain ⟨z, rfl⟩ := Int.eq_ofNat_of_zero_le c0
    simp
    refine ⟨zs ++ [1 + z], by simp, by simp [lz], ?_, k2.trans kp3, po3, by omega⟩
    intro y hy
    rcases List.mem_append.mp hy with hy | hy
    · exact oz y hy
    · simp at hy
      subst hy
      omega
  rintro acc h2 ⟨sz, rfl, lz, oz, k2, po2, l2⟩
  rw [List.length_map, rngI_len] at lz
  have so : SzOk sz := ⟨by omega, by omega, oz⟩
  have gz := get_new h2 (.lst (sz.map fun z : Nat => L.int z))
  rw [enum_ref gz, wp_ok]
  have k3 : KP p h (h2 ++ [.lst (sz.map fun z : Nat => L.int z)]) := (kp1.trans k2).trans (keep_app _ _)
  have po3 := po2.keep (Ext.app h2 [.lst (sz.map fun z : Nat => L.int z)])
  have l3 : (h2 ++ [LO.lst (sz.map fun z : Nat => L.int z)]).length = h.length + 1 := by simp; omega
  have lh2 : h2.length = h.length := by omega
  rw [lh2] at gz ⊢
  generalize (h2 ++ [LO.lst (sz.map fun z : Nat => L.int z)]) = h3 at gz k3 po3 l3 ⊢
  simp [wipeL]
  refine Wp.mono (wp_lc (enumV 0 (sz.map fun z : Nat => L.int z)) (fun i acc h' => Ext h3 h' ∧ ∃ rs : List Nat, acc = rs.map .ref ∧ LLe L.str h' rs ((nmsOf sz).take i) ∧ ∀ r ∈ rs, h.length ≤ r) ?_ ?_ (fun acc h' l w => w) (by rw [enumV_len, List.length_map, zl]; omega) whileFuel 0 [] h3 (Nat.le_refl _) (Nat.zero_le _) (by rw [enumV_len, List.length_map]; show _ < 1000000000000 + 0; omega) ⟨Ext.refl _, [], rfl, ⟨rfl, fun i c e => by simp at e⟩, by simp⟩) ?_
  · rintro i acc h' ⟨x, _⟩
    exact enl_at (x _ _ gz)
  · rintro i x acc h4 ex la ⟨x4, rs, rfl, ll, rb⟩
    rw [enumV_get, List.getElem?_map] at ex
    cases en : sz[i]? with
    | none => simp [en] at ex
    | some n =>
      simp [en] at ex
      subst ex
      have on := oz n (List.mem_of_getElem? en)
      have li : i < 4 := by
        have := (List.getElem?_eq_some_iff.mp en).1
        omega
      refine ⟨_, _, rfl, ?_⟩
      simp [near_small (show n < 100000 by omega), rngV_rngI, wipeL]
      refine Wp.mono (lc_enc L.int (rngI n) h4 (fun _ => true) (fun j => .str (nmOf i j.toNat)) (by rw [rngI_len]; omega) (fun _ _ _ => rfl) ?_) ?_
      · rintro j h5 hj x5
        obtain ⟨k, lk, rfl⟩ := mem_rngN hj
        refine ⟨_, rfl, ?_⟩
        simp [idx_abcd li, add_work, idx_xyz (show k < 3 by omega), add_work2, Ext.refl]
      rintro ys h5 ⟨rfl, x5⟩
      rw [filter_true]
      have el : ((rngI n).map fun j => L.str (nmOf i j.toNat)) = ((List.range n).map (nmOf i)).map .str := by simp [rngI]
      rw [el]
      refine ⟨x4.trans (x5.trans (Ext.app _ _)), rs ++ [h5.length], by simp, ?_, ?_⟩
      · have : (nmsOf sz).take (i + 1) = (nmsOf sz).take i ++ [(List.range n).map (nmOf i)] := by
          rw [List.take_add_one, nms_get en]
          rfl
        rw [this]
        exact (ll.ext (x5.trans (Ext.app _ _))).snoc (get_new _ _)
      · intro r hr
        rcases List.mem_append.mp hr with hr | hr
        · exact rb r hr
        · simp at hr
          subst hr
          have := (x4.trans x5).len
          omega
  rintro acc h4 ⟨x4, rs, rfl, ll, rb⟩
  rw [enumV_len, List.length_map, List.take_of_length_le (by rw [nms_len]; exact Nat.le_refl _)] at ll
  have gn : (h4 ++ [LO.lst (rs.map L.ref), .lst []])[h4.length]? = some (.lst (rs.map .ref)) := get_app _ _ 0
  have gf : (h4 ++ [LO.lst (rs.map L.ref), .lst []])[h4.length + 1]? = some (.lst []) := get_app _ _ 1
  have x5 := x4.trans (Ext.app h4 [LO.lst (rs.map L.ref), .lst []])
  have ll5 := ll.ext (Ext.app h4 [LO.lst (rs.map L.ref), .lst []])
  have hl4 := x4.len
  have l5 : (h4 ++ [LO.lst (rs.map L.ref), .lst []]).length = h4.length + 2 := by simp
  generalize (h4 ++ [LO.lst (rs.map L.ref), .lst []]) = h5 at gn gf x5 ll5 l5 ⊢
  rw [enum_ref gn, wp_ok]
  have lr := ll.1
  rw [nms_len] at lr
  refine ws_for (enumV 0 (rs.map .ref)) (fun i sl h' => ∃ a5 a6 a7 a8 a9 a10 a11 a12 a13, sl = [some (.ref p), some (.bl wild), some (.ref h.length), some (.ref h4.length), some (.ref (h4.length + 1)), a5, a6, a7, a8, a9, a10, a11, a12, a13, none, none, none] ∧
    Keep (fun r => r = p ∨ r = h4.length + 1) h5 h' ∧ h5.length ≤ h'.length ∧ PotOk h' p ∧ ∃ ps : List Pk, h'[h4.length + 1]? = some (.lst (ps.map Pk.l)) ∧ ps.length = i ∧ ∀ (j : Nat) (pk : Pk) (own : List Str), ps[j]? = some pk → (nmsOf sz)[j]? = some own → PkI (nmsOf sz) own pk) ?_ ?_ ?_ whileFuel 0 _ _ (by omega) (by show _ < 1000000000000 + 0; rw [enumV_len, List.length_map]; omega)
    ⟨_, _, _, _, _, _, _, _, _, rfl, Keep.refl _ _, Nat.le_refl _, po3.keep x5, [], gf, rfl, by simp⟩
  · rintro j sl h' ⟨_, _, _, _, _, _, _, _, _, rfl, k, _⟩
    exact enl_at (k _ _ (by omega) gn)
  · rintro i x sl h' e ⟨_, _, _, _, _, _, _, _, _, rfl, k, l6, po6, ps, gf6, lps, okp⟩
    rw [enumV_get, List.getElem?_map] at e
    cases er : rs[i]? with
    | none => simp [er] at e
    | some rown =>
      simp [er] at e
      subst e
      have li := (List.getElem?_eq_some_iff.mp er).1
      obtain ⟨n, en⟩ : ∃ n, sz[i]? = some n := ⟨sz[i]'(by omega), List.getElem?_eq_getElem (by omega)⟩
      refine ⟨_, _, rfl, ?_⟩
      simp only [List.set]
      have ll6 : LLe L.str h' rs (nmsOf sz) := ⟨ll5.1, fun j c e => by
        obtain ⟨r', e1, e2⟩ := ll5.2 j c e
        have := rb r' (List.mem_of_getElem? e1)
        have l7 : r' < h4.length := by
          obtain ⟨r2, f1, f2⟩ := ll.2 j c e
          rw [e1] at f1
          cases f1
          exact lt_of_get f2
        exact ⟨r', e1, k _ _ (by omega) e2⟩⟩
      refine pack_step (d := d) (own := (List.range n).map (nmOf i)) (nms := nmsOf sz) (rs := rs) (ps := ps) (k _ _ (by omega) gn) ll6 (nms_get en) er gf6 po6 (by omega) (by rw [nms_len]; omega) ?_ (by omega) (by omega) (fun r m => by
        have := rb r m
        omega) ?_
      · intro n' hn
        obtain ⟨j, hj⟩ := List.mem_iff_getElem?.mp hn
        cases es : sz[j]? with
        | none => simp [nmsOf, es] at hj
        | some z =>
          rw [nms_get es] at hj
          cases hj
          have := oz z (List.mem_of_getElem? es)
          simp
          omega
      · intro h7 a7 a8 a9 a10 a11 a12 a13 pk k7 l7 po7 gf7 ok7
        refine ⟨_, _, a7, a8, a9, a10, a11, a12, a13, rfl, k.trans k7, by omega, po7, ps ++ [pk], gf7, by simp [lps], fun j pk' own e1 e2 => ?_⟩
        rcases Nat.lt_or_ge j ps.length with lj | lj
        · rw [List.getElem?_append_left lj] at e1
          exact okp j pk' own e1 e2
        · rw [List.getElem?_append_right lj] at e1
          have : j - ps.length = 0 := by
            rcases Nat.eq_zero_or_pos (j - ps.length) with z | z
            · exact z
            · rw [List.getElem?_eq_none (by simp; omega)] at e1
              cases e1
          rw [this] at e1
          simp at e1
          subst e1
          have ej : j = i := by omega
          subst ej
          rw [nms_get en] at e2
          cases e2
          exact ok7
  · rintro sl h' ⟨_, _, _, _, _, _, _, _, _, rfl, k, l6, po6, ps, gf6, lps, okp⟩
    rw [enumV_len, List.length_map, lr] at lps
    simp
    refine q _ _ ps sz ?_ (by omega) (by omega) gf6 po6 so ⟨lps, okp⟩
    intro r o n e
    have := lt_of_get e
    exact k _ _ (by omega) (x5 _ _ (k3 r o n e))
end Lw
end
section
set_option Elab.async false
set_option linter.all false
set_option autoImplicit false
set_option maxRecDepth 100000
/-! What holds of drawn packages -/
namespace Lw
open PySem Ly
def nmsFrom : Nat → List Nat → List (List Str)
  | _, [] => []
  | k, n :: sz => (List.range n).map (nmOf k) :: nmsFrom (k + 1) sz
theorem nmsFrom_get : ∀ (sz : List Nat) (k i : Nat), (nmsFrom k sz)[i]? = (sz[i]?).map fun n => (List.range n).map (nmOf (k + i))
  | [], k, i => by simp [nmsFrom]
  | n :: sz, k, 0 => by simp [nmsFrom]
  | n :: sz, k, i + 1 => by
    have := nmsFrom_get sz (k + 1) i
    simp only [nmsFrom, List.getElem?_cons_succ]
    rw [this, show k + 1 + i = k + (i + 1) by omega]
theorem nms_from (sz : List Nat) : nmsOf sz = nmsFrom 0 sz := by
  refine List.ext_getElem? fun i => ?_
  rw [nmsFrom_get]
  simp [nmsOf]
theorem nmsFrom_mem : ∀ (sz : List Nat) (k : Nat) (x : Str), x ∈ (nmsFrom k sz).flatten → ∃ i j, k ≤ i ∧ i < k + sz.length ∧ (∃ n ∈ sz, j < n) ∧ x = nmOf i j
  | [], _, _, m => by simp [nmsFrom] at m
  | n :: sz, k, x, m => by
    simp only [nmsFrom, List.flatten_cons, List.mem_append] at m
    rcases m with m | m
    · obtain ⟨j, hj, rfl⟩ := List.mem_map.mp m
      exact ⟨k, j, Nat.le_refl _, by simp, ⟨n, List.mem_cons_self, List.mem_range.mp hj⟩, rfl⟩
    · obtain ⟨i, j, a, b, ⟨z, hz, hj⟩, e⟩ := nmsFrom_mem sz (k + 1) x m
      exact ⟨i, j, by omega, by simp; omega, ⟨z, List.mem_cons_of_mem _ hz, hj⟩, e⟩
theorem nmsFrom_nd : ∀ (sz : List Nat) (k : Nat), (nmsFrom k sz).flatten.Nodup
  | [], _ => by simp [nmsFrom]
  | n :: sz, k => by
    simp only [nmsFrom, List.flatten_cons]
    rw [List.nodup_append]
    refine ⟨?_, nmsFrom_nd sz (k + 1), ?_⟩
    · refine List.Pairwise.map _ ?_ (List.nodup_range (n := n))
      intro a b h e
      exact h (nmOf_inj e).2
    · intro x hx y hy e
      obtain ⟨j, hj, rfl⟩ := List.mem_map.mp hx
      obtain ⟨i, j', a, _, _, e'⟩ := nmsFrom_mem sz (k + 1) y hy
      rw [← e] at e'
      have := (nmOf_inj e').1
      omega
theorem entsN_names : ∀ (ps : List Pk) (k : Nat), (entsN k ps).map (·.2.nm) = (ps.map fun p => p.codes.map (·.nm)).flatten
  | [], _ => rfl
  | p :: ps, k => by
    have := entsN_names ps (k + 1)
    simp only [entsN, List.map_append, this, List.map_cons, List.flatten_cons, List.map_map]
    rfl
theorem names_eq {sz : List Nat} {ps : List Pk} (o : PksOk sz ps) : namesOf ps = (nmsOf sz).flatten := by
  unfold namesOf
  rw [entsN_names]
  congr 1
  refine List.ext_getElem? fun i => ?_
  rw [List.getElem?_map]
  cases ep : ps[i]? with
  | none =>
    have := List.getElem?_eq_none_iff.mp ep
    rw [List.getElem?_eq_none (by rw [nms_len, ← o.1]; exact this)]
    rfl
  | some p =>
    have li := (List.getElem?_eq_some_iff.mp ep).1
    have l2 : i < (nmsOf sz).length := by rw [nms_len, ← o.1]; exact li
    have e2 := List.getElem?_eq_getElem l2
    rw [e2]
    exact congrArg some (o.2 i p _ ep e2).nm
theorem fIx_nd {x : Str} : ∀ {xs : List Str} {i : Nat}, xs.Nodup → xs[i]? = some x → fIx x xs = some i
  | [], i, _, e => by simp at e
  | y :: ys, 0, n, e => by
    simp at e
    simp [fIx, e]
  | y :: ys, i + 1, n, e => by
    have n' := List.nodup_cons.mp n
    have e : ys[i]? = some x := by simpa using e
    have ne : y ≠ x := fun q => n'.1 (q ▸ List.mem_of_getElem? e)
    simp [fIx, ne, fIx_nd n'.2 e]
theorem insI_mem (x y : Int) : ∀ l, y ∈ insI x l ↔ y = x ∨ y ∈ l
  | [] => by simp [insI]
  | z :: l => by
    have ih := insI_mem x y l
    unfold insI
    by_cases h : x ≤ z
    · simp [h]
    · simp only [h, if_false, List.mem_cons, ih]
      exact or_left_comm
theorem sortI_mem (y : Int) : ∀ l, y ∈ sortI l ↔ y ∈ l
  | [] => by simp [sortI]
  | x :: l => by
    unfold sortI
    rw [insI_mem, sortI_mem y l, List.mem_cons]
theorem insI_pw {x : Int} : ∀ {l : List Int}, List.Pairwise (· < ·) l → x ∉ l → List.Pairwise (· < ·) (insI x l)
  | [], _, _ => by simp [insI]
  | z :: l, p, n => by
    have p' := List.pairwise_cons.mp p
    have n1 : x ≠ z := fun e => n (e ▸ List.mem_cons_self)
    have n2 : x ∉ l := fun m => n (List.mem_cons_of_mem _ m)
    unfold insI
    by_cases h : x ≤ z
    · simp only [h, if_true]
      refine List.pairwise_cons.mpr ⟨fun y hy => ?_, p⟩
      rcases List.mem_cons.mp hy with e | hy
      · omega
      · have := p'.1 y hy
        omega
    · simp only [h, if_false]
      refine List.pairwise_cons.mpr ⟨fun y hy => ?_, insI_pw p'.2 n2⟩
      rcases (insI_mem x y l).mp hy with e | hy
      · omega
      · exact p'.1 y hy
theorem sortI_pw : ∀ {l : List Int}, l.Nodup → List.Pairwise (· < ·) (sortI l)
  | [], _ => by simp [sortI]
  | x :: l, n => by
    have n' := List.nodup_cons.mp n
    unfold sortI
    exact insI_pw (sortI_pw n'.2) (by rw [sortI_mem]; exact n'.1)
theorem called_pw (ks : List Int) (bad : Bool) (tab : List Int) : List.Pairwise (· < ·) (calledOf ks bad tab) := by
  unfold calledOf
  cases bad with
  | true => simp
  | false => exact sortI_pw (foldl_addD_nd _ _ (by simp))
theorem atI_mem {α : Type} {xs : List α} {i : Int} {x : α} (e : L2.atI xs i = some x) : x ∈ xs := by
  unfold L2.atI at e
  obtain ⟨j, _, e⟩ := Option.bind_eq_some_iff.mp e
  exact List.mem_of_getElem? e
theorem called_mem {ks : List Int} {bad : Bool} {tab : List Int} {c : Int} (m : c ∈ calledOf ks bad tab) : c ∈ tab := by
  unfold calledOf at m
  cases bad with
  | true => simp at m
  | false =>
    simp only [Bool.false_eq_true, if_false] at m
    rw [sortI_mem, foldl_addD_mem] at m
    rcases m with m | m
    · cases m
    · obtain ⟨k, _, e⟩ := List.mem_filterMap.mp m
      exact atI_mem e
theorem entsN_sum : ∀ (ps : List Pk) (k : Nat), (entsN k ps).length = (ps.map (·.codes.length)).sum
  | [], _ => rfl
  | p :: ps, k => by
    have := entsN_sum ps (k + 1)
    simp [entsN, this]
theorem cum_le {ps : List Pk} {i : Nat} {p : Pk} (e : ps[i]? = some p) : cum ps i + p.codes.length ≤ (entsN 0 ps).length := by
  rw [← cum_succ e, entsN_sum]
  unfold cum
  have h := congrArg (fun l : List Pk => (l.map (·.codes.length)).sum) (List.take_append_drop (i + 1) ps)
  simp only [List.map_append, List.sum_append] at h
  omega
theorem works_len (ps : List Pk) : (worksOf ps).length = (entsN 0 ps).length := by simp [worksOf]
theorem names_len (ps : List Pk) : (namesOf ps).length = (entsN 0 ps).length := by simp [namesOf]
theorem works_names (ps : List Pk) : (worksOf ps).map (·.nm) = namesOf ps := by simp [worksOf, namesOf, wkOf, Function.comp_def]
section
variable {sz : List Nat} {ps : List Pk}
theorem pk_at (o : PksOk sz ps) {i : Nat} {p : Pk} (e : ps[i]? = some p) : ∃ n, sz[i]? = some n ∧ PkI (nmsOf sz) ((List.range n).map (nmOf i)) p := by
  have li := (List.getElem?_eq_some_iff.mp e).1
  have l2 : i < sz.length := by rw [← o.1]; exact li
  exact ⟨sz[i], List.getElem?_eq_getElem l2, o.2 i p _ e (nms_get (List.getElem?_eq_getElem l2))⟩
theorem pk_codes (so : SzOk sz) (o : PksOk sz ps) {p : Pk} (m : p ∈ ps) : 1 ≤ p.codes.length ∧ p.codes.length ≤ 3 := by
  obtain ⟨i, e⟩ := List.mem_iff_getElem?.mp m
  obtain ⟨n, en, k⟩ := pk_at o e
  have := congrArg List.length k.nm
  simp at this
  have := so.2.2 n (List.mem_of_getElem? en)
  omega
theorem ok_A (so : SzOk sz) (o : PksOk sz ps) : OkA ps where
  lp := by rw [o.1]; have := so.2.1; omega
  lc := fun p m => by have := pk_codes so o m; omega
  lu := fun p m => by
    obtain ⟨i, e⟩ := List.mem_iff_getElem?.mp m
    obtain ⟨n, en, k⟩ := pk_at o e
    have := k.lu
    omega
  us := fun p m u hu => by
    obtain ⟨i, e⟩ := List.mem_iff_getElem?.mp m
    obtain ⟨n, en, k⟩ := pk_at o e
    rw [names_eq o]
    exact k.us u hu
  ks := fun i p e c hc => by
    obtain ⟨n, en, k⟩ := pk_at o e
    have := k.ks c hc
    refine ⟨by omega, fun x hx => ?_⟩
    have := this.2 x hx
    have : (tabOf ps i p).length = p.codes.length + p.uses.length := by simp [tabOf, rngI_len]
    omega
theorem names_nd (o : PksOk sz ps) : (namesOf ps).Nodup := by
  rw [names_eq o, nms_from]
  exact nmsFrom_nd sz 0
theorem names_ok (so : SzOk sz) (o : PksOk sz ps) : ∀ x ∈ namesOf ps, PyData.strOk x = true := by
  intro x m
  rw [names_eq o, nms_from] at m
  obtain ⟨i, j, _, li, ⟨n, hn, lj⟩, rfl⟩ := nmsFrom_mem sz 0 x m
  have := so.2.2 n hn
  have := so.2.1
  exact nmOf_ok (by omega) (by omega)
theorem ents_le (so : SzOk sz) (o : PksOk sz ps) : 1 ≤ (entsN 0 ps).length ∧ (entsN 0 ps).length ≤ 12 := by
  rw [← names_len, names_eq o]
  constructor
  · have h1 := so.1
    cases sz with
    | nil => simp at h1
    | cons n sz =>
      have := so.2.2 n List.mem_cons_self
      rw [nms_from]
      simp [nmsFrom]
      omega
  · refine Nat.le_trans (flatten_len _ ?_) ?_
    · intro n' hn
      obtain ⟨j, hj⟩ := List.mem_iff_getElem?.mp hn
      cases es : sz[j]? with
      | none => simp [nmsOf, es] at hj
      | some z =>
        rw [nms_get es] at hj
        cases hj
        have := so.2.2 z (List.mem_of_getElem? es)
        simp
        omega
    · rw [nms_len]
      have := so.2.1
      omega
theorem tab_rg (so : SzOk sz) (o : PksOk sz ps) {n : Nat} {p : Pk} (e : ps[n]? = some p) : ∀ c ∈ tabOf ps n p, 0 ≤ c ∧ c < (worksOf ps).length := by
  intro c hc
  rw [works_len]
  unfold tabOf at hc
  rcases List.mem_append.mp hc with m | m
  · obtain ⟨i, hi, rfl⟩ := List.mem_map.mp m
    have := mem_rngI.mp hi
    have := cum_le e
    omega
  · obtain ⟨u, hu, rfl⟩ := List.mem_map.mp m
    obtain ⟨j, ej⟩ := fIx_some ((ok_A so o).us p (List.mem_of_getElem? e) u hu)
    have := (List.getElem?_eq_some_iff.mp (fIx_lt ej)).1
    rw [names_len] at this
    rw [ej]
    simp
    omega
theorem wk_at {w : Wk} (m : w ∈ worksOf ps) : ∃ n p c, ps[n]? = some p ∧ c ∈ p.codes ∧ w = ⟨c.nm, c.ks, c.bad, tabOf ps n p⟩ := by
  obtain ⟨⟨n, c⟩, he, rfl⟩ := List.mem_map.mp m
  obtain ⟨i, p, e0, ep, hc⟩ := entsN_mem ps 0 n c he
  have : n = i := by omega
  subst this
  exact ⟨n, p, c, ep, hc, by simp [wkOf, tabN, ep]⟩
theorem ok_I (so : SzOk sz) (o : PksOk sz ps) : OkI (worksOf ps) := by
  refine ⟨by rw [works_len]; have := ents_le so o; omega, fun w hw => ?_⟩
  obtain ⟨n, p, c, ep, hc, rfl⟩ := wk_at hw
  have oa := ok_A so o
  have := oa.ks n p ep c hc
  have l1 := oa.lc p (List.mem_of_getElem? ep)
  obtain ⟨_, _, k⟩ := pk_at o ep
  have l2 := k.lu
  have l3 := pk_codes so o (List.mem_of_getElem? ep)
  exact ⟨this.2, by simp [tabOf, rngI_len]; omega, this.1, tab_rg so o ep⟩
theorem ok_G (so : SzOk sz) (o : PksOk sz ps) : OkG (csOf (worksOf ps)) := by
  have cases_cl : ∀ x, cl (csOf (worksOf ps)) x = [] ∨ ∃ w ∈ worksOf ps, cl (csOf (worksOf ps)) x = w.calls := fun x => by
    unfold cl csOf
    rw [List.getElem?_map]
    cases e : (worksOf ps)[x.toNat]? with
    | none => exact .inl rfl
    | some w => exact .inr ⟨w, List.mem_of_getElem? e, rfl⟩
  refine ⟨by rw [csOf_len, works_len]; have := ents_le so o; omega, fun x y hy => ?_, fun x => ?_⟩
  · rw [csOf_len]
    rcases cases_cl x with e | ⟨w, hw, e⟩
    · rw [e] at hy
      cases hy
    · rw [e] at hy
      obtain ⟨n, p, c, ep, hc, rfl⟩ := wk_at hw
      exact tab_rg so o ep y (called_mem hy)
  · rcases cases_cl x with e | ⟨w, hw, e⟩
    · rw [e]
      simp
    · rw [e]
      exact called_pw _ _ _
end
end Lw
end
section
set_option Elab.async false
set_option linter.all false
set_option autoImplicit false
set_option maxRecDepth 100000
/-! repr: what is shown is a text of good signs; data of values -/
namespace Lw
open PySem Ly
def OkS (x : Str) : Prop := ∀ c ∈ x.cps.toList, c < 0x110000
theorem OkS.strOk {x : Str} (o : OkS x) : PyData.strOk x = true := by
  unfold PyData.strOk
  rw [Array.all_eq_true_iff_forall_mem]
  intro c m
  exact decide_eq_true (o c (Array.mem_toList_iff.mpr m))
theorem okS_of {x : Str} (o : PyData.strOk x = true) : OkS x := by
  unfold PyData.strOk at o
  rw [Array.all_eq_true_iff_forall_mem] at o
  intro c m
  exact of_decide_eq_true (o c (Array.mem_toList_iff.mp m))
theorem OkS.app {x y : Str} (a : OkS x) (b : OkS y) : OkS (x ++ y) := by
  intro c m
  have : (x ++ y).cps.toList = x.cps.toList ++ y.cps.toList := by
    show (x.cps ++ y.cps).toList = _
    simp
  rw [this] at m
  rcases List.mem_append.mp m with m | m
  · exact a c m
  · exact b c m
theorem char_ok (c : Char) : c.toNat < 0x110000 := by
  have h := c.valid
  simp only [UInt32.isValidChar, Nat.isValidChar] at h
  show c.val.toNat < _
  omega
theorem okS_ofString (s : String) : OkS (Str.ofString s) := by
  intro c m
  unfold Str.ofString at m
  simp only [cpsOfBytes_string] at m
  simp at m
  obtain ⟨d, _, rfl⟩ := m
  exact char_ok d
theorem reprChar_ok {q c : Nat} (hq : q < 0x110000) (hc : c < 0x110000) : ∀ d ∈ Builtin.Str.reprChar q c, d < 0x110000 := by
  have hex : ∀ w : Nat, ∀ d ∈ List.replicate (w - ((Nat.toDigits 16 c).map Char.toNat).length) 48 ++ (Nat.toDigits 16 c).map Char.toNat, d < 0x110000 := fun w d m => by
    rcases List.mem_append.mp m with m | m
    · have := (List.mem_replicate.mp m).2
      omega
    · obtain ⟨x, _, rfl⟩ := List.mem_map.mp m
      exact char_ok x
  have two : ∀ (a b : Nat), a < 0x110000 → b < 0x110000 → ∀ w, ∀ d ∈ [a, b] ++ (List.replicate (w - ((Nat.toDigits 16 c).map Char.toNat).length) 48 ++ (Nat.toDigits 16 c).map Char.toNat), d < 0x110000 := fun a b ha hb w d m => by
    rcases List.mem_append.mp m with m | m
    · simp at m
      omega
    · exact hex w d m
  intro d m
  unfold Builtin.Str.reprChar at m
  dsimp only at m
  split at m
  · simp at m; omega
  split at m
  · simp at m; omega
  split at m
  · simp at m; omega
  split at m
  · simp at m; omega
  split at m
  · simp at m; omega
  split at m
  · exact two 92 120 (by decide) (by decide) 2 d m
  split at m
  · exact two 92 117 (by decide) (by decide) 4 d m
  · exact two 92 85 (by decide) (by decide) 8 d m
theorem foldl_repr_ok {q : Nat} (hq : q < 0x110000) : ∀ (l : List Nat) (acc : Array Nat), (∀ c ∈ l, c < 0x110000) → (∀ c ∈ acc.toList, c < 0x110000) → ∀ c ∈ (l.foldl (fun out c => out ++ (Builtin.Str.reprChar q c).toArray) acc).toList, c < 0x110000
  | [], acc, _, h => h
  | x :: l, acc, hl, ha => by
    refine foldl_repr_ok hq l _ (fun c m => hl c (List.mem_cons_of_mem _ m)) fun c m => ?_
    simp at m
    rcases m with m | m
    · exact ha c (by simpa using m)
    · exact reprChar_ok hq (hl x List.mem_cons_self) c m
theorem okS_repr {x : Str} (o : OkS x) : OkS (reprText x) := by
  have hq : reprQuote x < 0x110000 := by
    unfold reprQuote
    split <;> decide
  intro c m
  unfold reprText at m
  rw [← Array.foldl_toList] at m
  simp only [Array.toList_push, List.mem_append, List.mem_singleton] at m
  rcases m with m | m
  · exact foldl_repr_ok hq _ _ o (by simp; exact hq) c m
  · omega
theorem okS_join {sep : Str} (o : OkS sep) : ∀ (ts : List Str), (∀ t ∈ ts, OkS t) → OkS (Str.join sep ts)
  | [], _ => fun c m => by cases m
  | [x], h => h x List.mem_cons_self
  | x :: y :: r, h => ((h x List.mem_cons_self).app o).app (okS_join o (y :: r) fun t m => h t (List.mem_cons_of_mem _ m))
theorem okS_from : ∀ (ts : List Str) (k : Nat) (acc : Str), OkS acc → (∀ t ∈ ts, OkS t) → OkS (textFrom k acc ts)
  | [], _, _, a, _ => a
  | t :: r, k, acc, a, h => okS_from r (k + 1) _ ((a.app (okS_ofString _)).app (h t List.mem_cons_self)) fun u m => h u (List.mem_cons_of_mem _ m)
theorem okS_tuple {ts : List Str} (h : ∀ t ∈ ts, OkS t) : OkS (tupleText ts) := ((okS_ofString "(").app (okS_join (okS_ofString ", ") ts h)).app (okS_ofString _)
theorem okS_list {ts : List Str} (h : ∀ t ∈ ts, OkS t) : OkS (listText ts) := (okS_from ts 0 _ (okS_ofString "[") h).app (okS_ofString "]")
mutual
theorem okS_shown : ∀ d : PyData, d.canLay0 = true → OkS d.shown
  | .none, _ => okS_ofString "None"
  | .bool b, _ => by cases b; exact okS_ofString "False"; exact okS_ofString "True"
  | .int i, _ => okS_ofString _
  | .str x, h => okS_repr (okS_of (by simpa [PyData.canLay0] using h))
  | .list xs, h => okS_list (okS_shownAll xs (by simpa [PyData.canLay0] using h))
  | .tuple xs, h => okS_tuple (okS_shownAll xs (by simpa [PyData.canLay0] using h))
  | .dict _, h => by simp [PyData.canLay0] at h
theorem okS_shownAll : ∀ xs : List PyData, PyData.canLayAll0 xs = true → ∀ t ∈ PyData.shownAll xs, OkS t
  | [], _ => fun t m => by cases m
  | x :: xs, h => fun t m => by
    have h' : x.canLay0 = true ∧ PyData.canLayAll0 xs = true := by simpa [PyData.canLayAll0] using h
    rcases List.mem_cons.mp m with e | m
    · rw [e]
      exact okS_shown x h'.1
    · exact okS_shownAll xs h'.2 t m
end
/-! ### data -/
structure Tn (h : LH) (k w : Nat) (v : L) (d : PyData) : Prop where
  t : ∀ n, k ≤ n → toD h (n + 1) v = some d
  lay : d.canLay0 = true
  de : d.depth ≤ k
  we : d.weight ≤ w
  sh : d.intsShort 13 = true
  so : d.showable = true
structure Tns (h : LH) (k w : Nat) (vs : List L) (ds : List PyData) : Prop where
  t : ∀ n, k ≤ n → mapO (toD h (n + 1)) vs = some ds
  lay : PyData.canLayAll0 ds = true
  de : PyData.depthAll ds ≤ k
  we : PyData.weightAll ds ≤ w
  sh : PyData.intsShortAll 13 ds = true
  so : PyData.showableAll ds = true
variable {h : LH} {k k' w w' : Nat}
theorem Tn.mono {v : L} {d : PyData} (t : Tn h k w v d) (hk : k ≤ k') (hw : w ≤ w') : Tn h k' w' v d := ⟨fun n l => t.t n (by omega), t.lay, Nat.le_trans t.de hk, Nat.le_trans t.we hw, t.sh, t.so⟩
theorem Tns.mono {v : List L} {d : List PyData} (t : Tns h k w v d) (hk : k ≤ k') (hw : w ≤ w') : Tns h k' w' v d := ⟨fun n l => t.t n (by omega), t.lay, Nat.le_trans t.de hk, Nat.le_trans t.we hw, t.sh, t.so⟩
theorem log2_small {n : Nat} (h : n < 1024) : n.log2 ≤ 9 := by
  by_cases z : n = 0
  · subst z; decide
  · have := (Nat.log2_lt z).mpr (show n < 2 ^ 10 by omega)
    omega
theorem Tn.int {i : Int} (hi : i.natAbs < 1024) : Tn h 0 10 (.int i) (.int i) where
  t := fun n _ => rfl
  lay := rfl
  de := Nat.le_refl _
  we := by
    have := log2_small hi
    unfold PyData.weight
    split <;> omega
  sh := by
    unfold PyData.intsShort
    exact decide_eq_true (PyData.shown_int_le (by omega))
  so := by
    have := log2_small hi
    unfold PyData.showable
    exact decide_eq_true (by omega)
theorem Tn.str {x : Str} (o : PyData.strOk x = true) (l : x.cps.size ≤ 20) : Tn h 0 20 (.str x) (.str x) := ⟨fun n _ => rfl, o, Nat.le_refl _, l, rfl, rfl⟩
theorem Tn.non : Tn h 0 0 .non .none := ⟨fun n _ => rfl, rfl, Nat.le_refl _, Nat.le_refl _, rfl, rfl⟩
theorem Tns.nil : Tns h k w [] [] := ⟨fun n _ => rfl, rfl, Nat.zero_le _, Nat.zero_le _, rfl, rfl⟩
theorem Tn.cons {v : L} {vs : List L} {d : PyData} {ds : List PyData} (a : Tn h k w v d) (b : Tns h k w' vs ds) : Tns h k (w + 1 + w') (v :: vs) (d :: ds) where
  t := fun n l => by
    simp only [mapO, a.t n l, b.t n l]
  lay := by simp [PyData.canLayAll0, a.lay, b.lay]
  de := by
    have := a.de
    have := b.de
    unfold PyData.depthAll
    omega
  we := by
    have := a.we
    have := b.we
    unfold PyData.weightAll
    omega
  sh := by simp [PyData.intsShortAll, a.sh, b.sh]
  so := by simp [PyData.showableAll, a.so, b.so]
theorem Tns.map {α : Type} {f : α → L} {g : α → PyData} : ∀ {xs : List α}, (∀ x ∈ xs, Tn h k w (f x) (g x)) → Tns h k (xs.length * (w + 1)) (xs.map f) (xs.map g)
  | [], _ => Tns.nil
  | x :: xs, o => by
    have a := o x List.mem_cons_self
    have b := Tns.map (xs := xs) fun y m => o y (List.mem_cons_of_mem _ m)
    have c := Tn.cons a b
    refine c.mono (Nat.le_refl _) ?_
    simp [Nat.add_mul]
    omega
theorem Tns.tup {vs : List L} {ds : List PyData} (a : Tns h k w vs ds) : Tn h (k + 1) w (.tup vs) (.tuple ds) where
  t := fun n l => by
    obtain ⟨m, rfl⟩ : ∃ m, n = m + 1 := ⟨n - 1, by omega⟩
    show (mapO (toD h (m + 1)) vs).map PyData.tuple = _
    rw [a.t m (by omega)]
    rfl
  lay := by simpa [PyData.canLay0] using a.lay
  de := by
    have := a.de
    unfold PyData.depth
    omega
  we := by simpa [PyData.weight] using a.we
  sh := by simpa [PyData.intsShort] using a.sh
  so := by simpa [PyData.showable] using a.so
theorem Tn.lst {r : Nat} {vs : List L} {ds : List PyData} (g : h[r]? = some (.lst vs)) (a : Tns h k w vs ds) : Tn h (k + 1) w (.ref r) (.list ds) where
  t := fun n l => by
    obtain ⟨m, rfl⟩ : ∃ m, n = m + 1 := ⟨n - 1, by omega⟩
    show (match h[r]? with | some (.lst xs) => (mapO (toD h (m + 1)) xs).map PyData.list | _ => none) = _
    rw [g]
    show (mapO (toD h (m + 1)) vs).map PyData.list = _
    rw [a.t m (by omega)]
    rfl
  lay := by simpa [PyData.canLay0] using a.lay
  de := by
    have := a.de
    unfold PyData.depth
    omega
  we := by simpa [PyData.weight] using a.we
  sh := by simpa [PyData.intsShort] using a.sh
  so := by simpa [PyData.showable] using a.so
theorem rep_tn {v : L} {d : PyData} (t : Tn h k w v d) (hv : isHeap v = true) (hk : k < 40) (hw : w ≤ 1048576) : bltL .repr [v] h = some (.str d.shown, h) := by
  have ly : d.layable0 = true := by
    have := t.lay
    have := t.de
    have := t.we
    unfold PyData.layable0
    rw [t.lay, decide_eq_true (show d.depth ≤ 64 by omega), decide_eq_true (show d.weight ≤ 2 ^ 20 by omega)]
    rfl
  have e : toD h deepest v = some d := t.t 39 (by omega)
  have l := PyData.shown_fits_of_layable0 (B := 13) (by decide) (by decide) ly t.sh
  simp [bltL, one, rep1, hv, e, t.so, PyData.hasDict_of_canLay d t.lay, l]
theorem eq_shown {v : L} {d : PyData} (t : Tn h k w v d) {h' : LH} : eqL (.str d.shown) (.str d.shown) h' = some true := by
  have o := (okS_shown d t.lay).strOk
  rw [eqL_str o o]
  simp
end Lw
end
section
set_option Elab.async false
set_option linter.all false
set_option autoImplicit false
set_option maxRecDepth 100000
/-! Data of packages and images -/
namespace Lw
open PySem Ly
def cbsI : List Int → List Int
  | [] => []
  | k :: ks => 10 :: 0 :: k :: 0 :: 0 :: cbsI ks
def rowI (ks : List Int) (bad : Bool) : List Int := cbsI ks ++ ([13, 0] ++ if bad then [99] else [])
theorem cbsI_l : ∀ ks, cbs ks = (cbsI ks).map .int
  | [] => rfl
  | k :: ks => by simp [cbs, cbsI, cbsI_l ks]
theorem rowI_l (ks : List Int) (bad : Bool) : rowOf ks bad = (rowI ks bad).map .int := by
  unfold rowOf rowI
  rw [cbsI_l]
  cases bad <;> simp
theorem rowI_len (ks : List Int) (bad : Bool) : (rowI ks bad).length ≤ 5 * ks.length + 3 := by
  have := row_len ks bad
  rw [rowI_l, List.length_map] at this
  cases bad <;> simp at this <;> omega
theorem cbsI_sm : ∀ (ks : List Int), (∀ k ∈ ks, 0 ≤ k ∧ k < 1000) → ∀ x ∈ cbsI ks, x.natAbs < 1024
  | [], _, x, m => by cases m
  | k :: ks, h, x, m => by
    have hk := h k List.mem_cons_self
    have ih := cbsI_sm ks (fun y m => h y (List.mem_cons_of_mem _ m)) x
    simp only [cbsI, List.mem_cons] at m
    rcases m with m | m | m | m | m | m
    · omega
    · omega
    · omega
    · omega
    · omega
    · exact ih m
theorem rowI_sm {ks : List Int} {bad : Bool} (h : ∀ k ∈ ks, 0 ≤ k ∧ k < 1000) : ∀ x ∈ rowI ks bad, x.natAbs < 1024 := by
  intro x m
  unfold rowI at m
  rcases List.mem_append.mp m with m | m
  · exact cbsI_sm ks h x m
  · cases bad <;> simp at m <;> omega
variable {h : LH}
theorem Tns.ints {xs : List Int} (s : ∀ x ∈ xs, x.natAbs < 1024) : Tns h 0 (xs.length * 11) (xs.map .int) (xs.map .int) := Tns.map fun x m => Tn.int (s x m)
theorem Tns.strs {xs : List Str} (s : ∀ x ∈ xs, PyData.strOk x = true ∧ x.cps.size ≤ 20) : Tns h 0 (xs.length * 21) (xs.map .str) (xs.map .str) := Tns.map fun x m => Tn.str (s x m).1 (s x m).2
theorem Tn.row {ks : List Int} {bad : Bool} (s : ∀ k ∈ ks, 0 ≤ k ∧ k < 1000) (l : ks.length < 64) : Tn h 1 4000 (.tup (rowOf ks bad)) (.tuple ((rowI ks bad).map .int)) := by
  rw [rowI_l]
  have := rowI_len ks bad
  exact (Tns.ints (rowI_sm s)).tup.mono (Nat.le_refl _) (by omega)
def OkNm (x : Str) : Prop := PyData.strOk x = true ∧ x.cps.size ≤ 20
theorem Tn.nm {x : Str} (o : OkNm x) : Tn h 0 20 (.str x) (.str x) := Tn.str o.1 o.2
theorem ok_lit (s : String) (l : (Str.ofString s).cps.size ≤ 20) : OkNm (Str.ofString s) := ⟨(okS_ofString s).strOk, l⟩
def dWk (w : Wk) : PyData := .tuple [.str w.nm, .int 0, .int 0, .int 1, .tuple ((rowI w.ks w.bad).map .int), .tuple (w.tab.map .int)]
theorem Tn.int' {k : Nat} {i : Int} (hi : i.natAbs < 1024) : Tn h k 10 (.int i) (.int i) := (Tn.int hi).mono (Nat.zero_le _) (Nat.le_refl _)
theorem Tn.nm' {k : Nat} {x : Str} (o : OkNm x) : Tn h k 20 (.str x) (.str x) := (Tn.nm o).mono (Nat.zero_le _) (Nat.le_refl _)
theorem Tn.nil' {k : Nat} : Tn h (k + 1) 0 (.tup []) (.tuple []) := (Tns.nil (h := h) (k := k)).tup.mono (Nat.le_refl _) (Nat.zero_le _)
theorem Tn.wk {n : Nat} {w : Wk} (o : OkW n w) (ln : n < 64) (on : OkNm w.nm) : Tn h 2 6000 w.l (dWk w) := by
  have lt := o.lt
  have t1 : Tn h 1 4000 (.tup (rowOf w.ks w.bad)) (.tuple ((rowI w.ks w.bad).map .int)) := Tn.row (fun k m => by have := o.ks k m; omega) o.lk
  have t2 : Tn h 1 1100 (.tup (w.tab.map .int)) (.tuple (w.tab.map .int)) := (Tns.ints fun x m => by have := o.tab x m; omega).tup.mono (Nat.le_refl _) (by omega)
  exact ((Tn.nm' on).cons <| (Tn.int' (by decide)).cons <| (Tn.int' (by decide)).cons <| (Tn.int' (by decide)).cons <| t1.cons <| t2.cons (w' := 0) Tns.nil).tup.mono (Nat.le_refl _) (by omega)
def dImg (ws : List Wk) : PyData := .tuple [.str "image", .tuple (ws.map dWk)]
theorem Tn.works {ws : List Wk} (o : OkI ws) (l : ws.length ≤ 12) (on : ∀ w ∈ ws, OkNm w.nm) : Tn h 3 80000 (.tup (ws.map Wk.l)) (.tuple (ws.map dWk)) :=
  (Tns.map fun w m => Tn.wk (o.2 w m) o.1 (on w m)).tup.mono (Nat.le_refl _) (by omega)
theorem Tn.img {ws : List Wk} (o : OkI ws) (l : ws.length ≤ 12) (on : ∀ w ∈ ws, OkNm w.nm) : Tn h 4 90000 (imgL ws) (dImg ws) :=
  ((Tn.nm' (ok_lit "image" (by decide))).cons <| (Tn.works o l on).cons (w' := 0) Tns.nil).tup.mono (Nat.le_refl _) (by omega)
def dCd (c : Cd) : PyData := .tuple [.str "code", .str c.nm, .int 0, .int 0, .int 1, .tuple [], .tuple [], .tuple ((rowI c.ks c.bad).map .int), .tuple [], .tuple []]
def dUse (u : Str) : PyData := .tuple [.str "contract", .str u, .int 0, .int 0, .tuple [], .tuple []]
def dPk (p : Pk) : PyData := .tuple [.str "package", .tuple (p.codes.map dCd), .tuple (p.uses.map dUse), .tuple []]
theorem Tn.cd {c : Cd} (s : ∀ k ∈ c.ks, 0 ≤ k ∧ k < 1000) (l : c.ks.length < 64) (on : OkNm c.nm) : Tn h 2 5000 c.l (dCd c) :=
  ((Tn.nm' (ok_lit "code" (by decide))).cons <| (Tn.nm' on).cons <| (Tn.int' (by decide)).cons <| (Tn.int' (by decide)).cons <| (Tn.int' (by decide)).cons <| Tn.nil'.cons <| Tn.nil'.cons <| (Tn.row s l).cons <| Tn.nil'.cons <| Tn.nil'.cons (w' := 0) Tns.nil).tup.mono (Nat.le_refl _) (by omega)
theorem Tn.use {u : Str} (on : OkNm u) : Tn h 2 100 (useL u) (dUse u) :=
  ((Tn.nm' (ok_lit "contract" (by decide))).cons <| (Tn.nm' on).cons <| (Tn.int' (by decide)).cons <| (Tn.int' (by decide)).cons <| Tn.nil'.cons <| Tn.nil'.cons (w' := 0) Tns.nil).tup.mono (Nat.le_refl _) (by omega)
theorem Tn.pk {p : Pk} (hc : ∀ c ∈ p.codes, (∀ k ∈ c.ks, 0 ≤ k ∧ k < 1000) ∧ c.ks.length < 64 ∧ OkNm c.nm) (hu : ∀ u ∈ p.uses, OkNm u) (lc : p.codes.length ≤ 3) (lu : p.uses.length ≤ 12) : Tn h 4 20000 p.l (dPk p) := by
  have t1 : Tn h 3 16000 (.tup (p.codes.map Cd.l)) (.tuple (p.codes.map dCd)) := (Tns.map fun c m => Tn.cd (hc c m).1 (hc c m).2.1 (hc c m).2.2).tup.mono (Nat.le_refl _) (by omega)
  have t2 : Tn h 3 1300 (.tup (p.uses.map useL)) (.tuple (p.uses.map dUse)) := (Tns.map fun u m => Tn.use (hu u m)).tup.mono (Nat.le_refl _) (by omega)
  exact ((Tn.nm' (ok_lit "package" (by decide))).cons <| t1.cons <| t2.cons <| Tn.nil'.cons (w' := 0) Tns.nil).tup.mono (Nat.le_refl _) (by omega)
theorem nmOf_size (i j : Nat) : (nmOf i j).cps.size = 6 := by
  have := congrArg List.length (nmOf_cps i j)
  simpa using this
section
variable {sz : List Nat} {ps : List Pk}
theorem names_okN (so : SzOk sz) (o : PksOk sz ps) : ∀ x ∈ namesOf ps, OkNm x := by
  intro x m
  refine ⟨names_ok so o x m, ?_⟩
  rw [names_eq o, nms_from] at m
  obtain ⟨i, j, _, _, _, rfl⟩ := nmsFrom_mem sz 0 x m
  rw [nmOf_size]
  omega
theorem works_okN (so : SzOk sz) (o : PksOk sz ps) : ∀ w ∈ worksOf ps, OkNm w.nm := by
  intro w m
  refine names_okN so o _ ?_
  rw [← works_names]
  exact List.mem_map.mpr ⟨w, m, rfl⟩
theorem works_12 (so : SzOk sz) (o : PksOk sz ps) : (worksOf ps).length ≤ 12 := by
  rw [works_len]
  exact (ents_le so o).2
theorem tn_img (so : SzOk sz) (o : PksOk sz ps) : Tn h 4 90000 (imgL (worksOf ps)) (dImg (worksOf ps)) := Tn.img (ok_I so o) (works_12 so o) (works_okN so o)
theorem tn_pk (so : SzOk sz) (o : PksOk sz ps) {p : Pk} (m : p ∈ ps) : Tn h 4 20000 p.l (dPk p) := by
  obtain ⟨i, e⟩ := List.mem_iff_getElem?.mp m
  obtain ⟨n, en, k⟩ := pk_at o e
  have l3 := pk_codes so o m
  have lu := k.lu
  refine Tn.pk (fun c hc => ⟨fun x hx => ?_, ?_, ?_⟩) (fun u hu => ?_) (by omega) lu
  · have := (k.ks c hc).2 x hx
    omega
  · have := (k.ks c hc).1
    omega
  · refine names_okN so o _ ?_
    rw [names_eq o]
    refine List.mem_flatten.mpr ⟨_, List.mem_of_getElem? (nms_get en), ?_⟩
    rw [← k.nm]
    exact List.mem_map.mpr ⟨c, hc, rfl⟩
  · refine names_okN so o _ ?_
    rw [names_eq o]
    exact k.us u hu
theorem tn_pks (so : SzOk sz) (o : PksOk sz ps) {r : Nat} (g : h[r]? = some (.lst (ps.map Pk.l))) : Tn h 5 90000 (.ref r) (.list (ps.map dPk)) := by
  have := o.1
  have := so.2.1
  exact (Tn.lst g (Tns.map fun p m => tn_pk so o m)).mono (Nat.le_refl _) (by omega)
theorem tn_names (so : SzOk sz) (o : PksOk sz ps) {r : Nat} (g : h[r]? = some (.lst ((namesOf ps).map .str))) : Tn h 1 300 (.ref r) (.list ((namesOf ps).map .str)) := by
  have := (ents_le so o).2
  rw [← names_len] at this
  exact (Tn.lst g (Tns.strs fun x m => names_okN so o x m)).mono (Nat.le_refl _) (by omega)
end
end Lw
end
section
set_option Elab.async false
set_option linter.all false
set_option autoImplicit false
set_option maxRecDepth 100000
/-! _law_right: the image, its names, turns and rings -/
namespace Lw
open PySem Ly
def TnR (h : LH) (v : L) (d : PyData) : Prop := isHeap v = true ∧ ∃ k w, k < 40 ∧ w ≤ 1048576 ∧ Tn h k w v d
theorem ne_rep {G : Gm} {a b : E} {x : Option L} {sl : LS} {h : LH} {d : PyData} (ha : Wp (evE G a (x :: sl) h) fun v h1 => Ext h h1 ∧ TnR h1 v d) (hb : ∀ h1, Ext h h1 → Wp (evE G b (x :: sl) h1) fun v h2 => Ext h1 h2 ∧ TnR h2 v d) :
    Wp (evE G (.cmp .NotEq (.blt .repr (.cons a .nil)) (.blt .repr (.cons b .nil))) (x :: sl) h) fun v h' => v = .bl false ∧ Ext h h' := by
  rw [e_cmp, e_blt, es_cons]
  refine ha.mono ?_
  rintro v h1 ⟨x1, iv, k, w, hk, hw, t⟩
  rw [es_nil, rep_tn t iv hk hw, wo_some]
  simp only []
  rw [e_blt, es_cons]
  refine (hb h1 x1).mono ?_
  rintro v' h2 ⟨x2, iv', k', w', hk', hw', t'⟩
  rw [es_nil, rep_tn t' iv' hk' hw', wo_some]
  simp only []
  rw [cmp_ne, eq_shown t]
  exact ⟨rfl, x1.trans x2⟩
theorem or_false {G : Gm} {a b : E} {x : Option L} {sl : LS} {h : LH} (ha : Wp (evE G a (x :: sl) h) fun v h1 => v = .bl false ∧ Ext h h1) (hb : ∀ h1, Ext h h1 → Wp (evE G b (x :: sl) h1) fun v h2 => v = .bl false ∧ Ext h1 h2) :
    Wp (evE G (.or a b) (x :: sl) h) fun v h' => v = .bl false ∧ Ext h h' := by
  rw [e_or]
  refine ha.mono ?_
  rintro v h1 ⟨rfl, x1⟩
  rw [wif_f]
  refine (hb h1 x1).mono ?_
  rintro v h2 ⟨rfl, x2⟩
  exact ⟨rfl, x1.trans x2⟩
/-- if c: return False, c being false -/
theorem ws_guard {G : Gm} {c : E} {a : Ss} {x : Option L} {sl : LS} {h : LH} {N : LS → LH → Prop} {T : L → LH → Prop} (hc : Wp (evE G c (x :: sl) h) fun v h1 => v = .bl false ∧ Ext h h1) (q : ∀ h', Ext h h' → N (x :: sl) h') : Ws (evS G (.ifs c a .nil) (x :: sl) h) N T := by
  rw [s_ifs]
  refine hc.mono ?_
  rintro v h1 ⟨rfl, x1⟩
  rw [wif_f, s_nil]
  exact q h1 x1
structure Bs (ps : List Pk) (rP rN rC : Nat) (h : LH) : Prop where
  P : h[rP]? = some (.lst (ps.map Pk.l))
  N : h[rN]? = some (.lst ((namesOf ps).map .str))
  C : LL h rC (csOf (worksOf ps))
theorem Bs.ext {ps : List Pk} {rP rN rC : Nat} {h h' : LH} (b : Bs ps rP rN rC h) (x : Ext h h') : Bs ps rP rN rC h' := ⟨x _ _ b.P, x _ _ b.N, b.C.ext x⟩
theorem mul_ref {h : LH} {a : Nat} {x : L} (g : h[a]? = some (.lst [x])) : binL .Mult (.ref a) (.int 2) h = some (.ref h.length, h ++ [.lst [x, x]]) := by
  simp [binL, g, newL]
  decide
theorem kw0 (v : L) : kwPut [0] [v] = some [v] := rfl
section
variable {sz : List Nat} {ps : List Pk} {rP rN rC d : Nat} {h : LH} {s0 s2 s4 s5 s6 s10 s11 s12 s13 s14 s15 s16 s17 s18 s19 s20 s21 s22 : Option L}
abbrev Gn (d : Nat) : Gm := ⟨Pg.gl, Pg.gd, run d⟩
theorem stB1a (so : SzOk sz) (o : PksOk sz ps) (b : Bs ps rP rN rC h) :
    Wp (evE (Gn (d + 20)) (.lst (.cons (.var 3) (.cons (.callk 20 (.cons (.blt .tuple (.cons (.var 1) .nil)) .nil) [0]) .nil))) [s0, some (.ref rP), s2, some (imgL (worksOf ps)), s4, s5, s6, some (.ref rN), some (.ref rC), some (.tup ((worksOf ps).map Wk.l)), s10, s11, s12, s13, s14, s15, s16, s17, s18, s19, s20, s21, s22] h) fun v h1 => Ext h h1 ∧ TnR h1 v (.list [dImg (worksOf ps), dImg (worksOf ps)]) := by
  simp [tup_ref b.P, kw0]
  refine linked (.inl rfl) (ok_A so o).toOkU fun h1 x1 => ?_
  refine ⟨by decide, x1.trans (Ext.app _ _), rfl, 5, 200000, by decide, by decide, ?_⟩
  exact (Tn.lst (get_new _ _) ((tn_img so o).cons <| (tn_img so o).cons (w' := 0) Tns.nil)).mono (Nat.le_refl _) (by omega)
theorem stB1b (so : SzOk sz) (o : PksOk sz ps) :
    Wp (evE (Gn (d + 20)) (.bin .Mult (.lst (.cons (.tup (.cons (.str "image") (.cons (.var 9) .nil))) .nil)) (.int 2)) [s0, some (.ref rP), s2, some (imgL (worksOf ps)), s4, s5, s6, some (.ref rN), some (.ref rC), some (.tup ((worksOf ps).map Wk.l)), s10, s11, s12, s13, s14, s15, s16, s17, s18, s19, s20, s21, s22] h) fun v h1 => Ext h h1 ∧ TnR h1 v (.list [dImg (worksOf ps), dImg (worksOf ps)]) := by
  simp
  rw [mul_ref (get_new _ _), wo_some]
  refine ⟨by decide, by decide, (Ext.app _ _).trans (Ext.app _ _), rfl, 5, 200000, by decide, by decide, ?_⟩
  exact (Tn.lst (get_new _ _) ((tn_img so o).cons <| (tn_img so o).cons (w' := 0) Tns.nil)).mono (Nat.le_refl _) (by omega)
theorem tn_names' (so : SzOk sz) (o : PksOk sz ps) {r : Nat} (g : h[r]? = some (.lst ((worksOf ps).map fun w => .str w.nm))) : Tn h 1 300 (.ref r) (.list ((namesOf ps).map .str)) := by
  refine tn_names so o ?_
  rw [g, ← works_names]
  simp
theorem stB2a (so : SzOk sz) (o : PksOk sz ps) :
    Wp (evE (Gn (d + 20)) (.lst (.cons (.call 21 (.cons (.var 3) .nil)) (.cons (.callk 21 (.cons (.var 3) .nil) [0]) .nil))) [s0, some (.ref rP), s2, some (imgL (worksOf ps)), s4, s5, s6, some (.ref rN), some (.ref rC), some (.tup ((worksOf ps).map Wk.l)), s10, s11, s12, s13, s14, s15, s16, s17, s18, s19, s20, s21, s22] h) fun v h1 => Ext h h1 ∧ TnR h1 v (.list [.list ((namesOf ps).map .str), .list ((namesOf ps).map .str)]) := by
  have l12 := works_12 so o
  simp [kw0]
  refine image_names (by omega) fun h1 r1 x1 l1 g1 => ?_
  refine image_names (by omega) fun h2 r2 x2 l2 g2 => ?_
  have x3 := Ext.app h2 [.lst [.ref r1, .ref r2]]
  refine ⟨by decide, x1.trans (x2.trans x3), rfl, 2, 1000, by decide, by decide, ?_⟩
  exact (Tn.lst (get_new _ _) ((tn_names' so o (x3 _ _ (x2 _ _ g1))).cons <| (tn_names' so o (x3 _ _ g2)).cons (w' := 0) Tns.nil)).mono (Nat.le_refl _) (by omega)
theorem stB2b (so : SzOk sz) (o : PksOk sz ps) (b : Bs ps rP rN rC h) :
    Wp (evE (Gn (d + 20)) (.lst (.cons (.var 7) (.cons (.var 7) .nil))) [s0, some (.ref rP), s2, some (imgL (worksOf ps)), s4, s5, s6, some (.ref rN), some (.ref rC), some (.tup ((worksOf ps).map Wk.l)), s10, s11, s12, s13, s14, s15, s16, s17, s18, s19, s20, s21, s22] h) fun v h1 => Ext h h1 ∧ TnR h1 v (.list [.list ((namesOf ps).map .str), .list ((namesOf ps).map .str)]) := by
  simp
  have x3 := Ext.app h [.lst [.ref rN, .ref rN]]
  refine ⟨by decide, x3, rfl, 2, 1000, by decide, by decide, ?_⟩
  exact (Tn.lst (get_new _ _) ((tn_names so o (x3 _ _ b.N)).cons <| (tn_names so o (x3 _ _ b.N)).cons (w' := 0) Tns.nil)).mono (Nat.le_refl _) (by omega)
end
end Lw
end
section
set_option Elab.async false
set_option linter.all false
set_option autoImplicit false
set_option maxRecDepth 100000
/-! _law_right: due *)
-/
namespace Lw
open PySem Ly
def dOpt : Option (List Str) → PyData
  | none => .none
  | some l => .list (l.map .str)
theorem tn_strL {h0 h : LH} {v : L} {o : Option (List Str)} (s : StrL h0 h v o) (ok : ∀ l, o = some l → l.length ≤ 20 ∧ ∀ x ∈ l, OkNm x) : Tn h 1 500 v (dOpt o) := by
  cases o with
  | none =>
    have s : v = .non := s
    subst s
    exact Tn.non.mono (by omega) (by omega)
  | some l =>
    obtain ⟨r, rfl, _, g⟩ := s
    have := ok l rfl
    exact (Tn.lst g (Tns.strs fun x m => this.2 x m)).mono (by omega) (by omega)
theorem StrL.ext {h0 h h' : LH} {v : L} {o : Option (List Str)} (s : StrL h0 h v o) (x : Ext h h') : StrL h0 h' v o := by
  cases o with
  | none => exact s
  | some l =>
    obtain ⟨r, e, l, g⟩ := s
    exact ⟨r, e, l, x _ _ g⟩
section
variable {sz : List Nat} {ps : List Pk}
theorem nmAt_names {i : Int} (hi : 0 ≤ i ∧ i < (worksOf ps).length) : (namesOf ps)[i.toNat]? = some (nmAt (worksOf ps) i) := by
  have l : i.toNat < (worksOf ps).length := by omega
  rw [← works_names, List.getElem?_map]
  unfold nmAt
  rw [List.getElem?_eq_getElem l]
  rfl
theorem nmAt_ok (so : SzOk sz) (o : PksOk sz ps) {i : Int} (hi : 0 ≤ i ∧ i < (worksOf ps).length) : OkNm (nmAt (worksOf ps) i) := names_okN so o _ (List.mem_of_getElem? (nmAt_names hi))
theorem idx_name {rN : Nat} {h : LH} {i : Int} (g : h[rN]? = some (.lst ((namesOf ps).map .str))) (hi : 0 ≤ i ∧ i < (worksOf ps).length) : idxL (.ref rN) (.int i) h = some (.str (nmAt (worksOf ps) i), h) := by
  rw [idx_ref g]
  obtain ⟨k, rfl⟩ := Int.eq_ofNat_of_zero_le hi.1
  have e := nmAt_names hi
  have : ((namesOf ps).map L.str)[k]? = some (.str (nmAt (worksOf ps) k)) := by
    rw [List.getElem?_map]
    have e : (namesOf ps)[k]? = some (nmAt (worksOf ps) k) := e
    rw [e]
    rfl
  rw [atI_nat this]
  rfl
theorem turn_ok (so : SzOk sz) (o : PksOk sz ps) : ∀ l, turnN (worksOf ps) = some l → l.length ≤ 20 ∧ ∀ x ∈ l, OkNm x := by
  intro l e
  unfold turnN at e
  have iv := turn_inv (csOf (worksOf ps))
  have l12 := works_12 so o
  have cn := csOf_len (worksOf ps)
  have il := iv.len
  by_cases c : leftI (csOf (worksOf ps)) = []
  · rw [if_pos c] at e
    cases e
    refine ⟨by simp; omega, fun x m => ?_⟩
    obtain ⟨i, hi, rfl⟩ := List.mem_map.mp m
    have := iv.rg i hi
    exact nmAt_ok so o (by omega)
  · rw [if_neg c] at e
    cases e
theorem ringN_ok (so : SzOk sz) (o : PksOk sz ps) : ∀ l, ringN (worksOf ps) = some l → l.length ≤ 20 ∧ ∀ x ∈ l, OkNm x := by
  intro l e
  unfold ringN at e
  obtain ⟨m, em, rfl⟩ := Option.map_eq_some_iff.mp e
  have og := ok_G so o
  have l12 := works_12 so o
  have cn := csOf_len (worksOf ps)
  have ll := ring_len og em
  refine ⟨by simp; omega, fun x hx => ?_⟩
  obtain ⟨i, hi, rfl⟩ := List.mem_map.mp hx
  have := ring_rg og.wf em i hi
  exact nmAt_ok so o (by omega)
/-- names of numbers, as the law tells them -/
theorem law_names {G : Gm} {r rP rN rC : Nat} {l : List Int} {h : LH} (b : Bs ps rP rN rC h) (g : h[r]? = some (.lst (l.map .int))) (rg : ∀ x ∈ l, 0 ≤ x ∧ x < (worksOf ps).length) (ll : l.length < 1000000) {s0 s1 s2 s3 s4 s5 s6 s8 s9 s10 s11 s12 s13 s14 s15 s16 s17 s18 s19 s20 s21 s22 : Option L} :
    Wp (lcGo (LIt.lst r).at (evT G (.name 6)) (evE G (.bl true)) (evE G (.idx (.var 7) (.var 6))) (wipeL [s0, s1, s2, s3, s4, s5, s6, some (.ref rN), s8, s9, s10, s11, s12, s13, s14, s15, s16, s17, s18, s19, s20, s21, s22] [6]) whileFuel 0 [] h) fun ys h2 => ys = (l.map (nmAt (worksOf ps))).map .str ∧ Ext h h2 := by
  refine Wp.mono (lc_enc L.int l h (fun _ => true) (fun u => .str (nmAt (worksOf ps) u)) ll (fun i h' x => lst_at (x _ _ g)) ?_) ?_
  · rintro j h6 hj x6
    refine ⟨_, rfl, ?_⟩
    simp [wipeL, idx_name (x6 _ _ b.N) (rg j hj), Ext.refl]
  rintro ys h6 ⟨rfl, x6⟩
  rw [filter_true]
  exact ⟨by simp, x6⟩
variable {rP rN rC rT d : Nat} {h : LH} {s0 s2 s4 s5 s6 s12 s13 s14 s15 s16 s17 s18 s19 s20 s21 s22 : Option L} {vR : L}
def dDue (ws : List Wk) : PyData := .list [dOpt (turnN ws), dOpt (ringN ws)]
/-- slots behind turn, ring *) -/
abbrev slD (s0 : Option L) (rP : Nat) (s2 : Option L) (ws : List Wk) (s4 s5 s6 : Option L) (rN rC rT : Nat) (vR : L) (s12 s13 s14 s15 s16 s17 s18 s19 s20 s21 s22 : Option L) : LS :=
  [s0, some (.ref rP), s2, some (imgL ws), s4, s5, s6, some (.ref rN), some (.ref rC), some (.tup (ws.map Wk.l)), some (.ref rT), some vR, s12, s13, s14, s15, s16, s17, s18, s19, s20, s21, s22]
theorem stD (so : SzOk sz) (o : PksOk sz ps) (b : Bs ps rP rN rC h) (gT : h[rT]? = some (.lst ((turn (csOf (worksOf ps))).map .int))) {h0 : LH} (rl : RingL h0 h vR (ring (csOf (worksOf ps)))) :
    Wp (evE (Gn (d + 20)) (.lst (.cons (.ife (.cmp .Is (.var 11) .non) (.lc [6] (.name 6) (.val (.var 10)) (.bl true) (.idx (.var 7) (.var 6))) .non) (.cons (.ife (.cmp .Is (.var 11) .non) .non (.lc [6] (.name 6) (.val (.var 11)) (.bl true) (.idx (.var 7) (.var 6)))) .nil))) (slD s0 rP s2 (worksOf ps) s4 s5 s6 rN rC rT vR s12 s13 s14 s15 s16 s17 s18 s19 s20 s21 s22) h) fun v h1 => Ext h h1 ∧ ∃ r, v = .ref r ∧ Tn h1 2 2000 (.ref r) (dDue (worksOf ps)) := by
  have iv := turn_inv (csOf (worksOf ps))
  have og := ok_G so o
  have cn := csOf_len (worksOf ps)
  have il := iv.len
  have ln := og.ln
  have l12 := works_12 so o
  have tk := turn_ok so o
  have rk := ringN_ok so o
  simp
  cases er : ring (csOf (worksOf ps)) with
  | none =>
    rw [er] at rl
    have rl : vR = .non := rl
    subst rl
    have e0 := (ring_none og.wf).mp er
    simp
    rw [walk_ref gT, wo_some]
    refine Wp.mono (law_names b gT (fun x m => by have := iv.rg x m; omega) (by omega)) ?_
    rintro ys h2 ⟨rfl, x2⟩
    refine ⟨by decide, x2.trans (Ext.app _ _), ?_⟩
    have eT : turnN (worksOf ps) = some ((turn (csOf (worksOf ps))).map (nmAt (worksOf ps))) := by
      unfold turnN
      rw [if_pos e0]
    have eR : ringN (worksOf ps) = none := by
      unfold ringN
      rw [er]
      rfl
    have t1 : ∀ h3, Ext (h2 ++ [.lst ((((turn (csOf (worksOf ps))).map (nmAt (worksOf ps)))).map L.str)]) h3 → Tn h3 1 500 (.ref h2.length) (dOpt (turnN (worksOf ps))) := fun h3 x3 => tn_strL (h0 := h2) (by
      rw [eT]
      exact ⟨_, rfl, Nat.le_refl _, x3 _ _ (get_new _ _)⟩) tk
    have t2 : ∀ h3 : LH, Tn h3 1 500 .non (dOpt (ringN (worksOf ps))) := fun h3 => tn_strL (h0 := h2) (by rw [eR]; rfl) rk
    refine (Tn.lst (get_app h2 [.lst ((((turn (csOf (worksOf ps))).map (nmAt (worksOf ps)))).map L.str), .lst [.ref h2.length, .non]] 1) ((t1 _ ?_).cons <| (t2 _).cons (w' := 0) Tns.nil)).mono (Nat.le_refl _) (by omega)
    rw [show (h2 ++ [LO.lst ((((turn (csOf (worksOf ps))).map (nmAt (worksOf ps)))).map L.str), .lst [.ref h2.length, .non]]) = (h2 ++ [LO.lst ((((turn (csOf (worksOf ps))).map (nmAt (worksOf ps)))).map L.str)]) ++ [.lst [.ref h2.length, .non]] by simp]
    exact Ext.app _ _
  | some l =>
    rw [er] at rl
    obtain ⟨r, rfl, lr, g⟩ := rl
    have ll := ring_len og er
    have e0 : ¬ leftI (csOf (worksOf ps)) = [] := fun q => by
      have := (ring_none og.wf).mpr q
      rw [er] at this
      cases this
    simp
    rw [walk_ref g, wo_some]
    refine Wp.mono (law_names b g (fun x m => by have := ring_rg og.wf er x m; omega) (by omega)) ?_
    rintro ys h2 ⟨rfl, x2⟩
    refine ⟨by decide, x2.trans (Ext.app _ _), ?_⟩
    have eT : turnN (worksOf ps) = none := by
      unfold turnN
      rw [if_neg e0]
    have eR : ringN (worksOf ps) = some (l.map (nmAt (worksOf ps))) := by
      unfold ringN
      rw [er]
      rfl
    have t1 : ∀ h3, Ext (h2 ++ [.lst ((l.map (nmAt (worksOf ps))).map L.str)]) h3 → Tn h3 1 500 (.ref h2.length) (dOpt (ringN (worksOf ps))) := fun h3 x3 => tn_strL (h0 := h2) (by
      rw [eR]
      exact ⟨_, rfl, Nat.le_refl _, x3 _ _ (get_new _ _)⟩) rk
    have t2 : ∀ h3 : LH, Tn h3 1 500 .non (dOpt (turnN (worksOf ps))) := fun h3 => tn_strL (h0 := h2) (by rw [eT]; rfl) tk
    refine (Tn.lst (get_app h2 [.lst ((l.map (nmAt (worksOf ps))).map L.str), .lst [.non, .ref h2.length]] 1) ((t2 _).cons <| (t1 _ ?_).cons (w' := 0) Tns.nil)).mono (Nat.le_refl _) (by omega)
    rw [show (h2 ++ [LO.lst ((l.map (nmAt (worksOf ps))).map L.str), .lst [.non, .ref h2.length]]) = (h2 ++ [LO.lst ((l.map (nmAt (worksOf ps))).map L.str)]) ++ [.lst [.non, .ref h2.length]] by simp]
    exact Ext.app _ _
theorem stEa (so : SzOk sz) (o : PksOk sz ps) :
    Wp (evE (Gn (d + 20)) (.lst (.cons (.lst (.cons (.call 24 (.cons (.var 3) .nil)) (.cons (.call 25 (.cons (.var 3) .nil)) .nil))) (.cons (.lst (.cons (.callk 24 (.cons (.var 3) .nil) [0]) (.cons (.callk 25 (.cons (.var 3) .nil) [0]) .nil))) .nil))) (slD s0 rP s2 (worksOf ps) s4 s5 s6 rN rC rT vR s12 s13 s14 s15 s16 s17 s18 s19 s20 s21 s22) h) fun v h1 => Ext h h1 ∧ TnR h1 v (.list [dDue (worksOf ps), dDue (worksOf ps)]) := by
  have oi := ok_I so o
  have og := ok_G so o
  have tk := turn_ok so o
  have rk := ringN_ok so o
  simp [kw0]
  refine call_turn oi og fun h1 v1 x1 s1 => ?_
  refine call_ring oi og fun h2 v2 x2 s2' => ?_
  refine ⟨by decide, ?_⟩
  have y1 := Ext.app h2 [.lst [v1, v2]]
  have g1 := get_new h2 (.lst [v1, v2])
  have s1 := (s1.ext x2).ext y1
  have s2' := s2'.ext y1
  have lz : h2.length < (h2 ++ [LO.lst [v1, v2]]).length := by simp
  generalize (h2 ++ [LO.lst [v1, v2]]) = h3 at y1 g1 s1 s2' lz ⊢
  refine call_turn oi og fun h4 v4 x4 s4' => ?_
  refine call_ring oi og fun h5 v5 x5 s5' => ?_
  have y2 := Ext.app h5 [.lst [v4, v5], .lst [.ref h2.length, .ref h5.length]]
  refine ⟨by decide, x1.trans (x2.trans (y1.trans (x4.trans (x5.trans y2)))), rfl, 3, 9000, by decide, by decide, ?_⟩
  have z := x4.trans (x5.trans y2)
  have tA : Tn _ 2 2000 (.ref h2.length) (dDue (worksOf ps)) := (Tn.lst (z _ _ g1) ((tn_strL (s1.ext z) tk).cons <| (tn_strL (s2'.ext z) rk).cons (w' := 0) Tns.nil)).mono (Nat.le_refl _) (by omega)
  have tB : Tn _ 2 2000 (.ref h5.length) (dDue (worksOf ps)) := (Tn.lst (get_app h5 [.lst [v4, v5], .lst [.ref h2.length, .ref h5.length]] 0) ((tn_strL (s4'.ext (x5.trans y2)) tk).cons <| (tn_strL (s5'.ext y2) rk).cons (w' := 0) Tns.nil)).mono (Nat.le_refl _) (by omega)
  exact (Tn.lst (get_app h5 [.lst [v4, v5], .lst [.ref h2.length, .ref h5.length]] 1) (tA.cons <| tB.cons (w' := 0) Tns.nil)).mono (Nat.le_refl _) (by omega)
end
end Lw
end
section
set_option Elab.async false
set_option linter.all false
set_option autoImplicit false
set_option maxRecDepth 100000
/-! _law_right: each name -/
namespace Lw
open PySem Ly
theorem maxI_mem : ∀ (l : List Int), l ≠ [] → maxI l ∈ l
  | [], n => (n rfl).elim
  | [x], _ => by simp [maxI]
  | x :: y :: l, _ => by
    have := maxI_mem (y :: l) (by simp)
    show (if maxI (y :: l) > x then maxI (y :: l) else x) ∈ _
    by_cases q : maxI (y :: l) > x
    · rw [if_pos q]
      exact List.mem_cons_of_mem _ this
    · rw [if_neg q]
      exact List.mem_cons_self
theorem lk_bound {ds : List (Int × Int)} {n : Int} (hn : 0 ≤ n) (h : ∀ p ∈ ds, 0 ≤ p.2 ∧ p.2 ≤ n) (i : Int) : 0 ≤ lk ds i ∧ lk ds i ≤ n := by
  unfold lk
  cases e : ds.find? fun p => decide (p.1 = i) with
  | none => exact ⟨Int.le_refl _, hn⟩
  | some p => exact h p (List.mem_of_find?_eq_some e)
theorem deep_bound (cs : List (List Int)) : ∀ (l : List Int) (ds : List (Int × Int)) (n : Nat), (∀ p ∈ ds, 0 ≤ p.2 ∧ p.2 ≤ n) → ∀ p ∈ l.foldl (fun ds x => ds ++ [(x, dpt cs ds x)]) ds, 0 ≤ p.2 ∧ p.2 ≤ (n + l.length : Nat)
  | [], ds, n, h => fun p m => by have := h p m; simpa using this
  | x :: l, ds, n, h => by
    have hd : 0 ≤ dpt cs ds x ∧ dpt cs ds x ≤ (n + 1 : Nat) := by
      unfold dpt
      have m := maxI_mem ((cl cs x).map (lk ds) ++ [0]) (by simp)
      rcases List.mem_append.mp m with m | m
      · obtain ⟨y, _, e⟩ := List.mem_map.mp m
        have := lk_bound (n := n) (by omega) h y
        rw [← e]
        omega
      · have e : maxI ((cl cs x).map (lk ds) ++ [0]) = 0 := by simpa using m
        rw [e]
        omega
    have := deep_bound cs l (ds ++ [(x, dpt cs ds x)]) (n + 1) fun p m => by
      rcases List.mem_append.mp m with m | m
      · have := h p m
        omega
      · simp at m
        subst m
        exact hd
    intro p m
    have := this p m
    rw [List.length_cons]
    omega
def dL : L → PyData
  | .int i => .int i
  | _ => .none
theorem tn_deep {ws : List Wk} {a : Int} {h : LH} (l12 : ws.length ≤ 12) : Tn h 0 20 (deepN (csOf ws) a) (dL (deepN (csOf ws) a)) := by
  unfold deepN
  by_cases c : leftI (csOf ws) = []
  · rw [if_pos c]
    have il := (turn_inv (csOf ws)).len
    have cn := csOf_len ws
    have := lk_bound (ds := deepD (csOf ws) (turn (csOf ws))) (n := ((0 + (turn (csOf ws)).length : Nat) : Int)) (by omega) (deep_bound (csOf ws) _ [] 0 (by simp)) a
    exact (Tn.int (by omega)).mono (Nat.le_refl _) (by omega)
  · rw [if_neg c]
    exact Tn.non.mono (Nat.le_refl _) (by omega)
theorem enumP_lt : ∀ (ps : List Pk) (k : Nat) (e : Nat × Pk), e ∈ enumP k ps → e.1 < k + ps.length
  | p :: ps, k, e, m => by
    rcases List.mem_cons.mp m with rfl | m
    · simp
    · have := enumP_lt ps (k + 1) e m
      simp
      omega
theorem users_sm {x : Str} {ps : List Pk} (l : ps.length ≤ 4) : (users x ps).length ≤ 4 ∧ ∀ u ∈ users x ps, u.natAbs < 1024 := by
  unfold users
  constructor
  · rw [List.length_map]
    refine Nat.le_trans (List.length_filter_le _ _) ?_
    rw [enumP_len]
    exact l
  · intro u m
    obtain ⟨e, he, rfl⟩ := List.mem_map.mp m
    have := enumP_lt ps 0 e (List.mem_filter.mp he).1
    omega
section
variable {sz : List Nat} {ps : List Pk}
def reachN (ps : List Pk) (i : Nat) : List Str := sortS ((rounds (csOf (worksOf ps)) (csOf (worksOf ps)).length [(i : Int)]).map (nmAt (worksOf ps)))
def dName (ps : List Pk) (i : Nat) (x : Str) : PyData := .list [.int i, .list ((reachN ps i).map .str), dL (deepN (csOf (worksOf ps)) i), .list ((users x ps).map .int)]
theorem sortS_mem {x : Str} : ∀ {l : List Str}, x ∈ sortS l → x ∈ l := by
  have ins : ∀ (y : Str) (l : List Str), x ∈ insS y l → x = y ∨ x ∈ l := fun y l => by
    induction l with
    | nil => intro m; simp [insS] at m; exact .inl m
    | cons z l ih =>
      intro m
      unfold insS at m
      split at m
      · rcases List.mem_cons.mp m with e | m
        · exact .inr (e ▸ List.mem_cons_self)
        · rcases ih m with e | m
          · exact .inl e
          · exact .inr (List.mem_cons_of_mem _ m)
      · rcases List.mem_cons.mp m with e | m
        · exact .inl e
        · exact .inr m
  intro l
  induction l with
  | nil => intro m; exact m
  | cons y l ih =>
    intro m
    unfold sortS at m
    rcases ins y _ m with e | m
    · exact e ▸ List.mem_cons_self
    · exact List.mem_cons_of_mem _ (ih m)
theorem rounds_in (so : SzOk sz) (o : PksOk sz ps) {i : Nat} (li : i < (worksOf ps).length) : (rounds (csOf (worksOf ps)) (csOf (worksOf ps)).length [(i : Int)]).Nodup ∧ (∀ y, y ∈ rounds (csOf (worksOf ps)) (csOf (worksOf ps)).length [(i : Int)] ↔ Rch (csOf (worksOf ps)) i y) ∧ ∀ y ∈ rounds (csOf (worksOf ps)) (csOf (worksOf ps)).length [(i : Int)], 0 ≤ y ∧ y < (worksOf ps).length := by
  have og := ok_G so o
  have cn := csOf_len (worksOf ps)
  have r := rounds_all og.wf og.cl_nd (a := (i : Int)) (by omega)
  refine ⟨r.1, r.2, fun y m => ?_⟩
  have := rch_lt og.wf (a := (i : Int)) (by omega) ((r.2 y).mp m)
  omega
theorem reach_ok (so : SzOk sz) (o : PksOk sz ps) {i : Nat} (li : i < (worksOf ps).length) : (reachN ps i).length ≤ 12 ∧ ∀ x ∈ reachN ps i, OkNm x := by
  obtain ⟨r1, r2, r3⟩ := rounds_in so o li
  have l12 := works_12 so o
  constructor
  · unfold reachN
    rw [sortS_len, List.length_map]
    have := len_le_rng r1 (n := (worksOf ps).length) r3
    omega
  · intro x m
    unfold reachN at m
    obtain ⟨y, hy, rfl⟩ := List.mem_map.mp (sortS_mem m)
    exact nmAt_ok so o (r3 y hy)
theorem fIx_works (o : PksOk sz ps) {i : Nat} {x : Str} (e : (namesOf ps)[i]? = some x) : fIx x ((worksOf ps).map (·.nm)) = some i := by
  rw [works_names]
  exact fIx_nd (names_nd o) e
variable {rP rN rC rT d i : Nat} {x : Str} {h : LH} {s0 s2 s4 s14 s15 s16 s17 s18 : Option L} {vR : L}
abbrev slF (s0 : Option L) (rP : Nat) (s2 : Option L) (ws : List Wk) (s4 : Option L) (rN rC rT : Nat) (vR : L) (i : Nat) (x : Str) (s14 s15 s16 s17 s18 : Option L) : LS :=
  [s0, some (.ref rP), s2, some (imgL ws), s4, none, none, some (.ref rN), some (.ref rC), some (.tup (ws.map Wk.l)), some (.ref rT), some vR, some (.int i), some (.str x), s14, s15, s16, s17, s18, none, none, none, none]
theorem stF14 (so : SzOk sz) (o : PksOk sz ps) (b : Bs ps rP rN rC h) (ex : (namesOf ps)[i]? = some x) :
    Wp (evE (Gn (d + 20)) (.blt .sorted (.cons (.lc [6] (.name 6) (.val (.call 35 (.cons (.var 8) (.cons (.var 12) .nil)))) (.bl true) (.idx (.var 7) (.var 6))) .nil)) (slF s0 rP s2 (worksOf ps) s4 rN rC rT vR i x s14 s15 s16 s17 s18) h) fun v h1 => Ext h h1 ∧ ∃ r : Nat, v = .ref r ∧ h1[r]? = some (.lst ((reachN ps i).map .str)) := by
  have og := ok_G so o
  have cn := csOf_len (worksOf ps)
  have l12 := works_12 so o
  have li : i < (worksOf ps).length := by
    have := (List.getElem?_eq_some_iff.mp ex).1
    rw [works_len, ← names_len]
    exact this
  obtain ⟨r1, r2, r3⟩ := rounds_in so o li
  have ll := len_le_rng r1 (n := (worksOf ps).length) r3
  have zl : sizeLine = 16777216 := by decide
  simp
  refine law_reached b.C og (by omega) fun h1 r x1 l1 g1 => ?_
  rw [walk_ref g1, wo_some]
  refine Wp.mono (law_names (b.ext x1) g1 r3 (by omega)) ?_
  rintro ys h2 ⟨rfl, x2⟩
  have ne : (rounds (csOf (worksOf ps)) (csOf (worksOf ps)).length [(i : Int)]).map (nmAt (worksOf ps)) ≠ [] := by
    have : (i : Int) ∈ rounds (csOf (worksOf ps)) (csOf (worksOf ps)).length [(i : Int)] := (r2 i).mpr .refl
    intro e
    rw [List.map_eq_nil_iff] at e
    rw [e] at this
    cases this
  rw [sorted_strs (get_new _ _) ne (by rw [List.length_map]; omega), wo_newL]
  refine ⟨by rw [List.length_map, sortS_len, List.length_map, zl]; omega, x1.trans (x2.trans ((Ext.app _ _).trans (Ext.app _ _))), _, rfl, ?_⟩
  rw [get_new]
  rfl
theorem stF15 (so : SzOk sz) (o : PksOk sz ps) (b : Bs ps rP rN rC h) (ex : (namesOf ps)[i]? = some x) (gT : h[rT]? = some (.lst ((turn (csOf (worksOf ps))).map .int))) {h0 : LH} (rl : RingL h0 h vR (ring (csOf (worksOf ps)))) :
    Wp (evE (Gn (d + 20)) (.ife (.cmp .IsNot (.var 11) .non) .non (.call 36 (.cons (.var 8) (.cons (.var 10) (.cons (.var 12) .nil))))) (slF s0 rP s2 (worksOf ps) s4 rN rC rT vR i x s14 s15 s16 s17 s18) h) fun v h1 => Ext h h1 ∧ v = deepN (csOf (worksOf ps)) i := by
  have og := ok_G so o
  have cn := csOf_len (worksOf ps)
  have li : i < (worksOf ps).length := by
    have := (List.getElem?_eq_some_iff.mp ex).1
    rw [works_len, ← names_len]
    exact this
  simp
  cases er : ring (csOf (worksOf ps)) with
  | none =>
    rw [er] at rl
    have rl : vR = .non := rl
    subst rl
    have e0 := (ring_none og.wf).mp er
    simp
    refine law_deep b.C og gT (mem_turn e0 (by omega)) fun h1 x1 => ⟨x1, ?_⟩
    unfold deepN
    rw [if_pos e0]
  | some l =>
    rw [er] at rl
    obtain ⟨r, rfl, lr, g⟩ := rl
    have e0 : ¬ leftI (csOf (worksOf ps)) = [] := fun q => by
      have := (ring_none og.wf).mpr q
      rw [er] at this
      cases this
    simp
    refine ⟨Ext.refl _, ?_⟩
    unfold deepN
    rw [if_neg e0]
theorem stF16 (so : SzOk sz) (o : PksOk sz ps) (b : Bs ps rP rN rC h) :
    Wp (evE (Gn (d + 20)) (.lc [19, 20] (.tup (.cons (.name 19) (.cons (.name 20) .nil))) (.enum (.var 1)) (.cmp .In (.var 13) (.lc [21] (.name 21) (.val (.idx (.var 20) (.int 2))) (.bl true) (.idx (.var 21) (.int 1)))) (.var 19)) (slF s0 rP s2 (worksOf ps) s4 rN rC rT vR i x s14 s15 s16 s17 s18) h) fun v h1 => Ext h h1 ∧ ∃ r : Nat, v = .ref r ∧ h1[r]? = some (.lst ((users x ps).map .int)) := by
  have oa := ok_A so o
  have lp := oa.lp
  simp
  rw [enum_ref b.P, wp_ok]
  refine Wp.mono (lc_enc encP (enumP 0 ps) h (fun e => decide (x ∈ e.2.uses)) (fun e => .int (e.1 : Nat)) (by rw [enumP_len]; omega) (fun i h' x => by rw [enl_at (x _ _ b.P), enumP_enc]) ?_) ?_
  · rintro e h1 he x1
    have lu := oa.lu _ (enumP_mem ps 0 e he)
    refine ⟨_, rfl, ?_⟩
    simp [wipeL, Pk.l]
    simp [walkOf]
    refine Wp.mono (lc_enc useL e.2.uses h1 (fun _ => true) L.str (by omega) (fun _ _ _ => rfl) ?_) ?_
    · rintro u h2 hu x2
      refine ⟨_, rfl, ?_⟩
      simp [useL, Ext.refl]
    rintro ys h2 ⟨rfl, x2⟩
    rw [filter_true, in_strs (get_new _ _), wo_some]
    exact ⟨rfl, x2.trans (Ext.app _ _), fun _ => Ext.refl _⟩
  rintro ys h2 ⟨rfl, x2⟩
  refine ⟨x2.trans (Ext.app _ _), ?_⟩
  simp [users]
/-- what both tell of a name -/
theorem tn_told (so : SzOk sz) (o : PksOk sz ps) {r rr ru : Nat} (li : i < (worksOf ps).length) (g : h[r]? = some (.lst [.int i, .ref rr, deepN (csOf (worksOf ps)) i, .ref ru])) (gr : h[rr]? = some (.lst ((reachN ps i).map .str))) (gu : h[ru]? = some (.lst ((users x ps).map .int))) : Tn h 2 3000 (.ref r) (dName ps i x) := by
  have l12 := works_12 so o
  have ro := reach_ok so o li
  have lp : ps.length ≤ 4 := by
    rw [o.1]
    exact so.2.1
  have us := users_sm (x := x) lp
  have t1 : Tn h 1 500 (.ref rr) (.list ((reachN ps i).map .str)) := (Tn.lst gr (Tns.strs fun x m => ro.2 x m)).mono (Nat.le_refl _) (by omega)
  have t2 : Tn h 1 500 (.ref ru) (.list ((users x ps).map .int)) := (Tn.lst gu (Tns.ints fun u m => us.2 u m)).mono (Nat.le_refl _) (by omega)
  have t3 := tn_deep (ws := worksOf ps) (a := i) (h := h) l12
  exact (Tn.lst g ((Tn.int' (by omega)).cons <| t1.cons <| (t3.mono (by omega) (Nat.le_refl _)).cons <| t2.cons (w' := 0) Tns.nil)).mono (Nat.le_refl _) (by omega)
theorem kw10 (v w : L) : kwPut [1, 0] [v, w] = some [w, v] := rfl
theorem reach_eq (so : SzOk sz) (o : PksOk sz ps) (li : i < (worksOf ps).length) {f : List Int} (nd : f.Nodup) (m : ∀ y, y ∈ f ↔ Rch (csOf (worksOf ps)) (i : Int) y) : sortS (f.map (nmAt (worksOf ps))) = reachN ps i := by
  obtain ⟨r1, r2, r3⟩ := rounds_in so o li
  unfold reachN
  exact sortS_perm (((List.perm_ext_iff_of_nodup nd r1).mpr fun y => (m y).trans (r2 y).symm).map _)
theorem stF17 (so : SzOk sz) (o : PksOk sz ps) (b : Bs ps rP rN rC h) (ex : (namesOf ps)[i]? = some x) :
    Wp (evE (Gn (d + 20)) (.lst (.cons (.call 22 (.cons (.var 3) (.cons (.var 13) .nil))) (.cons (.call 23 (.cons (.var 3) (.cons (.var 13) .nil))) (.cons (.call 26 (.cons (.var 3) (.cons (.var 13) .nil))) (.cons (.call 27 (.cons (.var 1) (.cons (.var 13) .nil))) .nil))))) (slF s0 rP s2 (worksOf ps) s4 rN rC rT vR i x s14 s15 s16 s17 s18) h) fun v h1 => Ext h h1 ∧ ∃ r : Nat, v = .ref r ∧ Tn h1 2 3000 (.ref r) (dName ps i x) := by
  have oa := ok_A so o
  have oi := ok_I so o
  have og := ok_G so o
  have l12 := works_12 so o
  have ef := fIx_works o ex
  have hn : ∀ w ∈ worksOf ps, PyData.strOk w.nm = true := fun w m => (works_okN so o w m).1
  have li : i < (worksOf ps).length := by
    have := (List.getElem?_eq_some_iff.mp ex).1
    rw [works_len, ← names_len]
    exact this
  simp
  refine work_number (by omega) hn ef fun h1 x1 => ?_
  refine works_reached oi og hn ef fun h2 rr f x2 l2 nd mf gr => ?_
  refine deepest_call oi og hn ef fun h3 x3 => ?_
  refine users_of (.inr ⟨rP, rfl, (b.ext (x1.trans (x2.trans x3))).P⟩) oa.toOkU fun h4 ru x4 l4 gu => ?_
  refine ⟨by decide, x1.trans (x2.trans (x3.trans (x4.trans (Ext.app _ _)))), ?_⟩
  rw [reach_eq so o li nd mf] at gr
  exact tn_told so o li (get_new _ _) (Ext.app _ _ _ _ (x4 _ _ (x3 _ _ gr))) (Ext.app _ _ _ _ gu)
theorem stF18 (so : SzOk sz) (o : PksOk sz ps) (b : Bs ps rP rN rC h) (ex : (namesOf ps)[i]? = some x) :
    Wp (evE (Gn (d + 20)) (.lst (.cons (.callk 22 (.cons (.var 13) (.cons (.var 3) .nil)) [1, 0]) (.cons (.callk 23 (.cons (.var 13) (.cons (.var 3) .nil)) [1, 0]) (.cons (.callk 26 (.cons (.var 13) (.cons (.var 3) .nil)) [1, 0]) (.cons (.callk 27 (.cons (.var 13) (.cons (.var 1) .nil)) [1, 0]) .nil))))) (slF s0 rP s2 (worksOf ps) s4 rN rC rT vR i x s14 s15 s16 s17 s18) h) fun v h1 => Ext h h1 ∧ ∃ r : Nat, v = .ref r ∧ Tn h1 2 3000 (.ref r) (dName ps i x) := by
  have oa := ok_A so o
  have oi := ok_I so o
  have og := ok_G so o
  have l12 := works_12 so o
  have ef := fIx_works o ex
  have hn : ∀ w ∈ worksOf ps, PyData.strOk w.nm = true := fun w m => (works_okN so o w m).1
  have li : i < (worksOf ps).length := by
    have := (List.getElem?_eq_some_iff.mp ex).1
    rw [works_len, ← names_len]
    exact this
  simp [kw10]
  refine work_number (by omega) hn ef fun h1 x1 => ?_
  refine works_reached oi og hn ef fun h2 rr f x2 l2 nd mf gr => ?_
  refine deepest_call oi og hn ef fun h3 x3 => ?_
  refine users_of (.inr ⟨rP, rfl, (b.ext (x1.trans (x2.trans x3))).P⟩) oa.toOkU fun h4 ru x4 l4 gu => ?_
  refine ⟨by decide, x1.trans (x2.trans (x3.trans (x4.trans (Ext.app _ _)))), ?_⟩
  rw [reach_eq so o li nd mf] at gr
  exact tn_told so o li (get_new _ _) (Ext.app _ _ _ _ (x4 _ _ (x3 _ _ gr))) (Ext.app _ _ _ _ gu)
end
end Lw
end
section
set_option Elab.async false
set_option linter.all false
set_option autoImplicit false
set_option maxRecDepth 100000
/-! _law_right: all names; the ring; the same name again -/
namespace Lw
open PySem Ly
theorem mapO_mono {α β : Type} {f g : α → Option β} (h : ∀ x y, f x = some y → g x = some y) : ∀ {xs : List α} {ys : List β}, mapO f xs = some ys → mapO g xs = some ys
  | [], ys, e => e
  | x :: xs, ys, e => by
    simp only [mapO] at e ⊢
    cases ex : f x with
    | none => rw [ex] at e; cases e
    | some y =>
      cases er : mapO f xs with
      | none => rw [ex, er] at e; cases e
      | some zs =>
        rw [ex, er] at e
        rw [h x y ex, mapO_mono h er]
        exact e
theorem toD_ext {h h' : LH} (x : Ext h h') : ∀ (n : Nat) (v : L) (d : PyData), toD h n v = some d → toD h' n v = some d
  | 0, _, _, e => by cases e
  | n + 1, v, d, e => by
    cases v with
    | tup xs =>
      obtain ⟨ds, e1, e2⟩ := Option.map_eq_some_iff.mp (show (mapO (toD h n) xs).map PyData.tuple = some d from e)
      show (mapO (toD h' n) xs).map PyData.tuple = some d
      rw [mapO_mono (toD_ext x n) e1]
      exact congrArg some e2
    | rol xs =>
      obtain ⟨ds, e1, e2⟩ := Option.map_eq_some_iff.mp (show (mapO (toD h n) xs).map PyData.list = some d from e)
      show (mapO (toD h' n) xs).map PyData.list = some d
      rw [mapO_mono (toD_ext x n) e1]
      exact congrArg some e2
    | ref r =>
      have e : (match h[r]? with | some (.lst xs) => (mapO (toD h n) xs).map PyData.list | _ => none) = some d := e
      show (match h'[r]? with | some (.lst xs) => (mapO (toD h' n) xs).map PyData.list | _ => none) = some d
      cases er : h[r]? with
      | none => rw [er] at e; cases e
      | some ob =>
        rw [x r ob er]
        rw [er] at e
        cases ob with
        | lst xs =>
          obtain ⟨ds, e1, e2⟩ := Option.map_eq_some_iff.mp (show (mapO (toD h n) xs).map PyData.list = some d from e)
          show (mapO (toD h' n) xs).map PyData.list = some d
          rw [mapO_mono (toD_ext x n) e1]
          exact congrArg some e2
        | _ => cases e
    | _ => exact e
theorem Tn.ext {h h' : LH} {k w : Nat} {v : L} {d : PyData} (t : Tn h k w v d) (x : Ext h h') : Tn h' k w v d := ⟨fun n l => toD_ext x _ _ _ (t.t n l), t.lay, t.de, t.we, t.sh, t.so⟩
section
variable {sz : List Nat} {ps : List Pk} {rP rN rC rT d i : Nat} {x : Str} {h : LH} {s0 s2 s4 s14 s15 s16 s17 s18 : Option L} {vR : L}
theorem stFa {r17 r18 : Nat} (t17 : Tn h 2 3000 (.ref r17) (dName ps i x)) (t18 : Tn h 2 3000 (.ref r18) (dName ps i x)) :
    Wp (evE (Gn (d + 20)) (.lst (.cons (.var 17) (.cons (.var 18) .nil))) (slF s0 rP s2 (worksOf ps) s4 rN rC rT vR i x s14 s15 s16 (some (.ref r17)) (some (.ref r18))) h) fun v h1 => Ext h h1 ∧ TnR h1 v (.list [dName ps i x, dName ps i x]) := by
  simp
  have x3 := Ext.app h [.lst [.ref r17, .ref r18]]
  exact ⟨by decide, x3, rfl, 3, 9000, by decide, by decide, (Tn.lst (get_new _ _) ((t17.ext x3).cons <| (t18.ext x3).cons (w' := 0) Tns.nil)).mono (Nat.le_refl _) (by omega)⟩
theorem stFb (so : SzOk sz) (o : PksOk sz ps) (ex : (namesOf ps)[i]? = some x) {rr ru : Nat} (gr : h[rr]? = some (.lst ((reachN ps i).map .str))) (gu : h[ru]? = some (.lst ((users x ps).map .int))) :
    Wp (evE (Gn (d + 20)) (.bin .Mult (.lst (.cons (.lst (.cons (.var 12) (.cons (.var 14) (.cons (.var 15) (.cons (.var 16) .nil))))) .nil)) (.int 2)) (slF s0 rP s2 (worksOf ps) s4 rN rC rT vR i x (some (.ref rr)) (some (deepN (csOf (worksOf ps)) i)) (some (.ref ru)) s17 s18) h) fun v h1 => Ext h h1 ∧ TnR h1 v (.list [dName ps i x, dName ps i x]) := by
  have li : i < (worksOf ps).length := by
    have := (List.getElem?_eq_some_iff.mp ex).1
    rw [works_len, ← names_len]
    exact this
  simp
  have g1 : (h ++ [LO.lst [.int i, .ref rr, deepN (csOf (worksOf ps)) i, .ref ru], .lst [.ref h.length]])[h.length]? = some (.lst [.int i, .ref rr, deepN (csOf (worksOf ps)) i, .ref ru]) := get_app _ _ 0
  have g2 : (h ++ [LO.lst [.int i, .ref rr, deepN (csOf (worksOf ps)) i, .ref ru], .lst [.ref h.length]])[h.length + 1]? = some (.lst [.ref h.length]) := get_app _ _ 1
  have x1 := Ext.app h [LO.lst [.int i, .ref rr, deepN (csOf (worksOf ps)) i, .ref ru], .lst [.ref h.length]]
  generalize (h ++ [LO.lst [.int i, .ref rr, deepN (csOf (worksOf ps)) i, .ref ru], .lst [.ref h.length]]) = h1 at g1 g2 x1 ⊢
  rw [mul_ref g2, wo_some]
  have x2 := Ext.app h1 [.lst [.ref h.length, .ref h.length]]
  have t := tn_told (x := x) so o li (x2 _ _ g1) (x2 _ _ (x1 _ _ gr)) (x2 _ _ (x1 _ _ gu))
  exact ⟨by decide, by decide, x1.trans x2, rfl, 3, 9000, by decide, by decide, (Tn.lst (get_new _ _) (t.cons <| t.cons (w' := 0) Tns.nil)).mono (Nat.le_refl _) (by omega)⟩
theorem RingL.ext {h0 h h' : LH} {v : L} {o : Option (List Int)} (s : RingL h0 h v o) (x : Ext h h') : RingL h0 h' v o := by
  cases o with
  | none => exact s
  | some l =>
    obtain ⟨r, e, l, g⟩ := s
    exact ⟨r, e, l, x _ _ g⟩
def b_each : Ss := (.cons (.set 14 (.blt .sorted (.cons (.lc [6] (.name 6) (.val (.call 35 (.cons (.var 8) (.cons (.var 12) .nil)))) (.bl true) (.idx (.var 7) (.var 6))) .nil))) (.cons (.set 15 (.ife (.cmp .IsNot (.var 11) .non) .non (.call 36 (.cons (.var 8) (.cons (.var 10) (.cons (.var 12) .nil)))))) (.cons (.set 16 (.lc [19, 20] (.tup (.cons (.name 19) (.cons (.name 20) .nil))) (.enum (.var 1)) (.cmp .In (.var 13) (.lc [21] (.name 21) (.val (.idx (.var 20) (.int 2))) (.bl true) (.idx (.var 21) (.int 1)))) (.var 19))) (.cons (.set 17 (.lst (.cons (.call 22 (.cons (.var 3) (.cons (.var 13) .nil))) (.cons (.call 23 (.cons (.var 3) (.cons (.var 13) .nil))) (.cons (.call 26 (.cons (.var 3) (.cons (.var 13) .nil))) (.cons (.call 27 (.cons (.var 1) (.cons (.var 13) .nil))) .nil)))))) (.cons (.set 18 (.lst (.cons (.callk 22 (.cons (.var 13) (.cons (.var 3) .nil)) [1, 0]) (.cons (.callk 23 (.cons (.var 13) (.cons (.var 3) .nil)) [1, 0]) (.cons (.callk 26 (.cons (.var 13) (.cons (.var 3) .nil)) [1, 0]) (.cons (.callk 27 (.cons (.var 13) (.cons (.var 1) .nil)) [1, 0]) .nil)))))) (.cons (.ifs (.cmp .NotEq (.blt .repr (.cons (.lst (.cons (.var 17) (.cons (.var 18) .nil))) .nil)) (.blt .repr (.cons (.bin .Mult (.lst (.cons (.lst (.cons (.var 12) (.cons (.var 14) (.cons (.var 15) (.cons (.var 16) .nil))))) .nil)) (.int 2)) .nil))) (.cons (.ret (.bl false)) .nil) .nil) .nil))))))
theorem stF (so : SzOk sz) (o : PksOk sz ps) (b : Bs ps rP rN rC h) (gT : h[rT]? = some (.lst ((turn (csOf (worksOf ps))).map .int))) {h0 : LH} (rl : RingL h0 h vR (ring (csOf (worksOf ps)))) {N : LS → LH → Prop} {T : L → LH → Prop}
    (q : ∀ (h' : LH) (a12 a13 a14 a15 a16 a17 a18 : Option L), Ext h h' → N [s0, some (.ref rP), s2, some (imgL (worksOf ps)), s4, none, none, some (.ref rN), some (.ref rC), some (.tup ((worksOf ps).map Wk.l)), some (.ref rT), some vR, a12, a13, a14, a15, a16, a17, a18, none, none, none, none] h') :
    Ws (evS (Gn (d + 20)) (.fors (.tup (.cons (.name 12) (.cons (.name 13) .nil))) (.enum (.var 7)) b_each) [s0, some (.ref rP), s2, some (imgL (worksOf ps)), s4, none, none, some (.ref rN), some (.ref rC), some (.tup ((worksOf ps).map Wk.l)), some (.ref rT), some vR, none, none, none, none, none, none, none, none, none, none, none] h) N T := by
  have l12 := (ents_le so o).2
  rw [← names_len] at l12
  rw [s_fors, i_enum, e_var]
  simp
  rw [enum_ref b.N, wp_ok]
  refine ws_for (enumV 0 ((namesOf ps).map .str)) (fun j sl h' => ∃ a12 a13 a14 a15 a16 a17 a18, sl = [s0, some (.ref rP), s2, some (imgL (worksOf ps)), s4, none, none, some (.ref rN), some (.ref rC), some (.tup ((worksOf ps).map Wk.l)), some (.ref rT), some vR, a12, a13, a14, a15, a16, a17, a18, none, none, none, none] ∧ Ext h h') ?_ ?_ ?_ whileFuel 0 _ _ (by omega) (by show _ < 1000000000000 + 0; rw [enumV_len, List.length_map]; omega) ⟨_, _, _, _, _, _, _, rfl, Ext.refl _⟩
  · rintro j sl h' ⟨_, _, _, _, _, _, _, rfl, x⟩
    exact enl_at (x _ _ b.N)
  · rintro j v sl h1 e ⟨_, _, _, _, _, _, _, rfl, x1⟩
    rw [enumV_get, List.getElem?_map] at e
    cases ex : (namesOf ps)[j]? with
    | none => simp [ex] at e
    | some x =>
      simp [ex] at e
      subst e
      refine ⟨_, _, rfl, ?_⟩
      simp only [List.set]
      unfold b_each
      rw [s_cons, s_set]
      refine Wp.mono (stF14 (d := d) so o (b.ext x1) ex) ?_
      rintro v h2 ⟨x2, rr, rfl, gr⟩
      simp only [List.set]
      rw [s_cons, s_set]
      refine Wp.mono (stF15 (d := d) so o (b.ext (x1.trans x2)) ex ((x1.trans x2) _ _ gT) (rl.ext (x1.trans x2))) ?_
      rintro v h3 ⟨x3, rfl⟩
      simp only [List.set]
      rw [s_cons, s_set]
      refine Wp.mono (stF16 (d := d) (x := x) so o (b.ext (x1.trans (x2.trans x3)))) ?_
      rintro v h4 ⟨x4, ru, rfl, gu⟩
      simp only [List.set]
      rw [s_cons, s_set]
      refine Wp.mono (stF17 (d := d) so o (b.ext (x1.trans (x2.trans (x3.trans x4)))) ex) ?_
      rintro v h5 ⟨x5, r17, rfl, t17⟩
      simp only [List.set]
      rw [s_cons, s_set]
      refine Wp.mono (stF18 (d := d) so o (b.ext (x1.trans (x2.trans (x3.trans (x4.trans x5))))) ex) ?_
      rintro v h6 ⟨x6, r18, rfl, t18⟩
      simp only [List.set]
      rw [s_cons]
      refine ws_guard (ne_rep (stFa (t17.ext x6) t18) fun h7 x7 => stFb so o ex (x7 _ _ (x6 _ _ (x5 _ _ (x4 _ _ (x3 _ _ gr))))) (x7 _ _ (x6 _ _ (x5 _ _ gu)))) fun h8 x8 => ?_
      rw [s_nil]
      exact ⟨_, _, _, _, _, _, _, rfl, x1.trans (x2.trans (x3.trans (x4.trans (x5.trans (x6.trans x8)))))⟩
  · rintro sl h' ⟨_, _, _, _, _, _, _, rfl, x⟩
    exact q _ _ _ _ _ _ _ _ x
end
end Lw
end
section
set_option Elab.async false
set_option linter.all false
set_option autoImplicit false
set_option maxRecDepth 100000
/-! _law_right: the ring's calls; the same name again; the end -/
namespace Lw
open PySem Ly
theorem chn_get {cs : List (List Int)} : ∀ {l : List Int} {i : Nat} {x y : Int}, Chn cs l → l[i]? = some x → l[i + 1]? = some y → y ∈ cl cs x
  | [], _, _, _, _, e, _ => by simp at e
  | [a], i, _, _, _, _, e => by simp at e
  | a :: b :: l, 0, x, y, c, e, e' => by
    simp at e e'
    subst e e'
    exact c.1
  | a :: b :: l, i + 1, x, y, c, e, e' => chn_get (l := b :: l) c.2 (by simpa using e) (by simpa using e')
theorem cyc_get {cs : List (List Int)} {l : List Int} (c : Cyc cs l) {i : Nat} {x y : Int} (e : l[i]? = some x) (e' : (l.drop 1 ++ l.take 1)[i]? = some y) : y ∈ cl cs x := by
  have li := (List.getElem?_eq_some_iff.mp e).1
  have lne : l ≠ [] := fun z => by rw [z] at li; simp at li
  have hl : l.getLast? = some (l.getLast lne) := List.getLast?_eq_some_getLast lne
  have hh : l.head? = some (l.head lne) := List.head?_eq_some_head lne
  obtain ⟨ch, cy⟩ := c _ _ hl hh
  rcases Nat.lt_or_ge (i + 1) l.length with q | q
  · rw [List.getElem?_append_left (by simp; omega), List.getElem?_drop, Nat.add_comm 1 i] at e'
    exact chn_get ch e e'
  · have ei : i = l.length - 1 := by omega
    rw [List.getElem?_append_right (by simp; omega)] at e'
    have e0 : i - (l.drop 1).length = 0 := by simp; omega
    rw [e0, List.getElem?_take, if_pos (by omega)] at e'
    have ex : x = l.getLast lne := by
      rw [List.getLast?_eq_getElem?, ← ei, e] at hl
      exact Option.some.inj hl
    have ey : y = l.head lne := by
      rw [List.head?_eq_getElem?, e'] at hh
      exact Option.some.inj hh
    rw [ex, ey]
    exact cy
theorem all_map {α : Type} {h : LH} {xs : List α} {p : α → Bool} : bltL .all [.ref h.length] (h ++ [LO.lst (xs.map fun i => L.bl (p i))]) = some (.bl (xs.all p), h ++ [LO.lst (xs.map fun i => L.bl (p i))]) := by
  have : mapO L.bl? (xs.map fun i => L.bl (p i)) = some (xs.map p) := mapO_map L.bl? (fun i => .bl (p i)) p (fun _ => rfl) xs
  simp [bltL, one, all1, gotB, lstAt, this]
def encI (p : Int × Int) : L := .tup [.int p.1, .int p.2]
theorem zll_at {h : LH} {r q i : Nat} {l m : List Int} (g : h[r]? = some (.lst (l.map .int))) (g' : h[q]? = some (.lst (m.map .int))) : (LIt.zll r q).at h i = some ((l.zip m).map encI)[i]? := by
  simp only [LIt.at, g, g', lstO, Option.bind_some, Option.map_some, List.getElem?_map, List.getElem?_zip_eq_some]
  congr 1
  cases e1 : l[i]? with
  | none =>
    have : (l.zip m)[i]? = none := by
      rw [List.getElem?_eq_none_iff] at e1 ⊢
      simp
      omega
    rw [this]
    rfl
  | some x =>
    cases e2 : m[i]? with
    | none =>
      have : (l.zip m)[i]? = none := by
        rw [List.getElem?_eq_none_iff] at e2 ⊢
        simp
        omega
      rw [this]
      rfl
    | some y =>
      have : (l.zip m)[i]? = some (x, y) := by
        rw [List.getElem?_zip_eq_some]
        exact ⟨e1, e2⟩
      rw [this]
      rfl
section
variable {sz : List Nat} {ps : List Pk} {rP rN rC rT d : Nat} {h : LH} {s0 s2 s4 s5 s6 s9 s10 s12 s13 s14 s15 s16 s17 s18 : Option L} {vR : L}
theorem ring_cyc (so : SzOk sz) (o : PksOk sz ps) {l : List Int} (er : ring (csOf (worksOf ps)) = some l) : Cyc (csOf (worksOf ps)) l ∧ ∀ x ∈ l, 0 ≤ x ∧ x < (csOf (worksOf ps)).length := by
  have og := ok_G so o
  refine ⟨?_, ring_rg og.wf er⟩
  cases el : leftI (csOf (worksOf ps)) with
  | nil =>
    have := (ring_none og.wf).mpr el
    rw [er] at this
    cases this
  | cons z zs =>
    obtain ⟨r, e1, _, _, hc, _⟩ := ring_left og.wf el
    rw [er] at e1
    cases e1
    exact hc
theorem stG (so : SzOk sz) (o : PksOk sz ps) (b : Bs ps rP rN rC h) {h0 : LH} (rl : RingL h0 h vR (ring (csOf (worksOf ps)))) :
    Wp (evE (Gn (d + 20)) (.and (.cmp .IsNot (.var 11) .non) (.not (.blt .all (.cons (.lc [6, 22] (.tup (.cons (.name 6) (.cons (.name 22) .nil))) (.zip (.var 11) (.bin .Add (.slc (.var 11) (.int 1) .non) (.slc (.var 11) .non (.int 1)))) (.bl true) (.cmp .In (.var 22) (.idx (.var 8) (.var 6)))) .nil)))) [s0, some (.ref rP), s2, some (imgL (worksOf ps)), s4, none, none, some (.ref rN), some (.ref rC), s9, s10, some vR, s12, s13, s14, s15, s16, s17, s18, none, none, none, none] h) fun v h1 => v = .bl false ∧ Ext h h1 := by
  have og := ok_G so o
  have zl : sizeLine = 16777216 := by decide
  cases er : ring (csOf (worksOf ps)) with
  | none =>
    rw [er] at rl
    have rl : vR = .non := rl
    subst rl
    simp [Ext.refl]
  | some l =>
    rw [er] at rl
    obtain ⟨r, rfl, lr, g⟩ := rl
    have ll := ring_len og er
    have ln := og.ln
    obtain ⟨cy, rg⟩ := ring_cyc so o er
    simp
    rw [slc_ref g, wo_newL]
    have c1 := cut_drop (l.map L.int) 1
    have c2 := cut_take (l.map L.int) 1
    rw [show ((1 : Int)) = ((1 : Nat) : Int) from rfl, c1]
    refine ⟨by simp [zl]; omega, ?_⟩
    rw [slc_ref (Ext.app _ _ _ _ g), wo_newL, c2]
    refine ⟨by simp [zl]; omega, ?_⟩
    rw [add_ref (Ext.app _ _ _ _ (get_new _ _)) (get_new _ _), wo_newL]
    refine ⟨by simp [zl]; omega, ?_⟩
    have x1 := (Ext.app h [.lst ((l.map L.int).drop 1)]).trans ((Ext.app _ [.lst ((l.map L.int).take 1)]).trans (Ext.app _ [.lst ((l.map L.int).drop 1 ++ (l.map L.int).take 1)]))
    have g1 := get_new (h ++ [LO.lst ((l.map L.int).drop 1)] ++ [.lst ((l.map L.int).take 1)]) (.lst ((l.map L.int).drop 1 ++ (l.map L.int).take 1))
    have eq : (l.map L.int).drop 1 ++ (l.map L.int).take 1 = (l.drop 1 ++ l.take 1).map .int := by simp
    rw [eq] at g1 x1 ⊢
    generalize (h ++ [LO.lst ((l.map L.int).drop 1)] ++ [LO.lst ((l.map L.int).take 1)]).length = rq at g1 ⊢
    generalize (h ++ [LO.lst ((l.map L.int).drop 1)] ++ [LO.lst ((l.map L.int).take 1)] ++ [LO.lst ((l.drop 1 ++ l.take 1).map L.int)]) = h1 at g1 x1 ⊢
    simp only [zipL, x1 _ _ g, g1, wp_ok]
    refine Wp.mono (lc_enc encI (l.zip (l.drop 1 ++ l.take 1)) h1 (fun _ => true) (fun p : Int × Int => .bl (decide (p.2 ∈ cl (csOf (worksOf ps)) p.1))) (by simp; omega) (fun i h' x => zll_at (x _ _ (x1 _ _ g)) (x _ _ g1)) ?_) ?_
    · rintro ⟨a, b'⟩ h2 hp x2
      have ra := rg a (List.of_mem_zip hp).1
      obtain ⟨r', e1, e2⟩ := ((b.C.ext x1).ext x2).at ra
      refine ⟨_, rfl, ?_⟩
      simp [wipeL, e1, in_ints e2, Ext.refl]
    rintro ys h2 ⟨rfl, x2⟩
    rw [filter_true]
    have ea := all_map (h := h2) (xs := l.zip (l.drop 1 ++ l.take 1)) (p := fun p : Int × Int => decide (p.2 ∈ cl (csOf (worksOf ps)) p.1))
    have et : ((l.zip (l.drop 1 ++ l.take 1)).all fun p : Int × Int => decide (p.2 ∈ cl (csOf (worksOf ps)) p.1)) = true := by
      rw [List.all_eq_true]
      rintro ⟨a, b'⟩ hp
      obtain ⟨i, hi⟩ := List.mem_iff_getElem?.mp hp
      rw [List.getElem?_zip_eq_some] at hi
      exact decide_eq_true (cyc_get cy hi.1 hi.2)
    rw [ea, et, wo_some]
    simp
    exact x1.trans (x2.trans (Ext.app _ _))
end
end Lw
end
section
set_option Elab.async false
set_option linter.all false
set_option autoImplicit false
set_option maxRecDepth 100000
/-! _law_right: the same name again; the end -/
namespace Lw
open PySem Ly
mutual
theorem eqv_self : ∀ d : PyData, d.canLay0 = true → PyData.eqv d d = true
  | .none, _ => rfl
  | .bool b, _ => by simp [PyData.eqv]
  | .int i, _ => by simp [PyData.eqv]
  | .str x, _ => by simp [PyData.eqv]
  | .list xs, h => by
    simp only [PyData.eqv]
    exact eqvAll_self xs (by simpa [PyData.canLay0] using h)
  | .tuple xs, h => by
    simp only [PyData.eqv]
    exact eqvAll_self xs (by simpa [PyData.canLay0] using h)
  | .dict _, h => by simp [PyData.canLay0] at h
theorem eqvAll_self : ∀ xs : List PyData, PyData.canLayAll0 xs = true → PyData.eqvAll xs xs = true
  | [], _ => rfl
  | x :: xs, h => by
    have h' : x.canLay0 = true ∧ PyData.canLayAll0 xs = true := by simpa [PyData.canLayAll0] using h
    simp [PyData.eqvAll, eqv_self x h'.1, eqvAll_self xs h'.2]
end
theorem eq_tn {h : LH} {k k' w w' : Nat} {v v' : L} {d : PyData} (t : Tn h k w v d) (t' : Tn h k' w' v' d) (hk : k < 40) (hk' : k' < 40) : eqL v v' h = some true := by
  have e1 : toD h deepest v = some d := t.t 39 (by omega)
  have e2 : toD h deepest v' = some d := t'.t 39 (by omega)
  have s : SeqAt.shaped d = true := by
    have := t.de
    unfold SeqAt.shaped
    rw [t.lay, decide_eq_true (show d.depth ≤ 64 by omega)]
    rfl
  unfold eqL
  rw [e1, e2]
  show (if _ then _ else _) = _
  rw [if_pos ⟨s, s⟩, eqv_self d t.lay]
theorem entsN_app : ∀ (ps qs : List Pk) (k : Nat), entsN k (ps ++ qs) = entsN k ps ++ entsN (k + ps.length) qs
  | [], qs, k => by simp [entsN]
  | p :: ps, qs, k => by
    have := entsN_app ps qs (k + 1)
    simp only [List.cons_append, entsN, this, List.append_assoc, List.length_cons]
    rw [show k + 1 + ps.length = k + (ps.length + 1) by omega]
theorem fIx_app {x : Str} {ys : List Str} : ∀ {xs : List Str}, x ∈ xs → fIx x (xs ++ ys) = fIx x xs
  | [], m => by cases m
  | y :: xs, m => by
    by_cases q : y = x
    · simp [fIx, q]
    · have : x ∈ xs := by
        rcases List.mem_cons.mp m with e | h
        · exact (q e.symm).elim
        · exact h
      simp [fIx, q, fIx_app this]
section
variable {sz : List Nat} {ps : List Pk} {rP rN rC rT d : Nat} {h : LH} {s0 s2 s4 s5 s6 s9 s10 s11 s12 s13 s14 s15 s16 s17 s18 s19 s20 s21 s22 : Option L} {vR : L}
def psA (ps : List Pk) : List Pk := ps ++ ps.take 1
theorem names_A (ps : List Pk) : ∃ e, namesOf (psA ps) = namesOf ps ++ e ∧ ∀ x ∈ e, x ∈ namesOf ps := by
  refine ⟨(entsN (0 + ps.length) (ps.take 1)).map (·.2.nm), by simp [namesOf, psA, entsN_app], fun x m => ?_⟩
  rw [entsN_names] at m
  obtain ⟨l, hl, hx⟩ := List.mem_flatten.mp m
  obtain ⟨p, hp, rfl⟩ := List.mem_map.mp hl
  unfold namesOf
  rw [entsN_names]
  exact List.mem_flatten.mpr ⟨_, List.mem_map.mpr ⟨p, List.mem_of_mem_take hp, rfl⟩, hx⟩
theorem ok_psA (so : SzOk sz) (o : PksOk sz ps) : OkU (psA ps) := by
  have oa := ok_A so o
  have m : ∀ p ∈ psA ps, p ∈ ps := fun p hp => by
    rcases List.mem_append.mp hp with q | q
    · exact q
    · exact List.mem_of_mem_take q
  obtain ⟨e, en, _⟩ := names_A ps
  have l4 : ps.length ≤ 4 := by rw [o.1]; exact so.2.1
  exact ⟨⟨by unfold psA; simp; omega, fun p hp => oa.lc p (m p hp)⟩, fun p hp => oa.lu p (m p hp), fun p hp u hu => by
    rw [en]
    exact List.mem_append_left _ (oa.us p (m p hp) u hu)⟩
theorem tab_A (so : SzOk sz) (o : PksOk sz ps) {n : Nat} (l : n < ps.length) : tabN (psA ps) n = tabN ps n := by
  have oa := ok_A so o
  obtain ⟨e, en, _⟩ := names_A ps
  have e1 : (psA ps)[n]? = ps[n]? := by
    unfold psA
    rw [List.getElem?_append_left l]
  unfold tabN
  rw [e1, List.getElem?_eq_getElem l]
  simp only []
  unfold tabOf
  have ec : cum (psA ps) n = cum ps n := by
    unfold cum psA
    rw [List.take_append_of_le_length (by omega)]
  rw [ec]
  congr 1
  refine List.map_congr_left fun u hu => ?_
  rw [en, fIx_app (oa.us _ (List.getElem_mem l) u hu)]
theorem works_A (so : SzOk sz) (o : PksOk sz ps) : ∃ e, worksOf (psA ps) = worksOf ps ++ e ∧ (∀ w ∈ e, w.nm ∈ namesOf ps) ∧ ∀ p, ps[0]? = some p → e.length = p.codes.length := by
  refine ⟨(entsN (0 + ps.length) (ps.take 1)).map (wkOf (psA ps)), ?_, fun w m => ?_, fun p e0 => ?_⟩
  · unfold worksOf
    show (entsN 0 (ps ++ ps.take 1)).map _ = _
    rw [entsN_app, List.map_append]
    congr 1
    refine List.map_congr_left fun e he => ?_
    obtain ⟨i, p, e1, e2, _⟩ := entsN_mem ps 0 e.1 e.2 he
    unfold wkOf
    rw [tab_A so o (by
      have := (List.getElem?_eq_some_iff.mp e2).1
      omega)]
  · obtain ⟨⟨n, c⟩, he, rfl⟩ := List.mem_map.mp m
    obtain ⟨i, p, _, e2, hc⟩ := entsN_mem _ _ n c he
    have hp := List.mem_of_mem_take (List.mem_of_getElem? e2)
    unfold namesOf
    rw [entsN_names]
    exact List.mem_flatten.mpr ⟨_, List.mem_map.mpr ⟨p, hp, rfl⟩, List.mem_map.mpr ⟨c, hc, rfl⟩⟩
  · rw [List.length_map]
    cases ps with
    | nil => simp at e0
    | cons q ps =>
      simp at e0
      subst e0
      simp [entsN]
theorem stH (so : SzOk sz) (o : PksOk sz ps) (b : Bs ps rP rN rC h) :
    Wp (evE (Gn (d + 20)) (.call 20 (.cons (.bin .Add (.var 1) (.slc (.var 1) .non (.int 1))) .nil)) [s0, some (.ref rP), s2, some (imgL (worksOf ps)), s4, s5, s6, some (.ref rN), some (.ref rC), s9, s10, s11, s12, s13, s14, s15, s16, s17, s18, s19, s20, s21, s22] h) fun v h1 => Ext h h1 ∧ v = imgL (worksOf (psA ps)) := by
  have zl : sizeLine = 16777216 := by decide
  have l4 : ps.length ≤ 4 := by rw [o.1]; exact so.2.1
  simp
  rw [slc_ref b.P, wo_newL, show ((1 : Int)) = ((1 : Nat) : Int) from rfl, cut_take]
  refine ⟨by simp [zl]; omega, ?_⟩
  rw [add_ref (Ext.app _ _ _ _ b.P) (get_new _ _), wo_newL]
  refine ⟨by simp [zl]; omega, ?_⟩
  have ea : ps.map Pk.l ++ (ps.map Pk.l).take 1 = (psA ps).map Pk.l := by simp [psA]
  rw [ea]
  refine linked (.inr ⟨_, rfl, get_new _ _⟩) (ok_psA so o) fun h1 x1 => ?_
  exact ⟨(Ext.app _ _).trans ((Ext.app _ _).trans x1), rfl⟩
theorem first_pk (so : SzOk sz) (o : PksOk sz ps) : ∃ p c, ps[0]? = some p ∧ p.codes[0]? = some c ∧ p ∈ ps ∧ c ∈ p.codes := by
  have l1 : 1 ≤ ps.length := by rw [o.1]; exact so.1
  have e : ps[0]? = some ps[0] := List.getElem?_eq_getElem (by omega)
  have m := List.mem_of_getElem? e
  have lc := pk_codes so o m
  have e2 : ps[0].codes[0]? = some ps[0].codes[0] := List.getElem?_eq_getElem (by omega)
  exact ⟨_, _, e, e2, m, List.mem_of_getElem? e2⟩
theorem stI (so : SzOk sz) (o : PksOk sz ps) (b : Bs ps rP rN rC h) :
    Wp (evE (Gn (d + 20)) (.or (.cmp .NotEq (.slc (.idx (.var 5) (.int 1)) .non (.blt .len (.cons (.var 7) .nil))) (.var 9)) (.or (.cmp .NotEq (.call 22 (.cons (.var 5) (.cons (.idx (.var 7) (.int 0)) .nil))) (.int 0)) (.cmp .NotEq (.blt .len (.cons (.idx (.var 5) (.int 1)) .nil)) (.bin .Add (.blt .len (.cons (.var 7) .nil)) (.blt .len (.cons (.idx (.idx (.var 1) (.int 0)) (.int 1)) .nil)))))) [s0, some (.ref rP), s2, some (imgL (worksOf ps)), s4, some (imgL (worksOf (psA ps))), s6, some (.ref rN), some (.ref rC), some (.tup ((worksOf ps).map Wk.l)), s10, s11, s12, s13, s14, s15, s16, s17, s18, s19, s20, s21, s22] h) fun v h1 => v = .bl false ∧ Ext h h1 := by
  have l12 := works_12 so o
  have nl := (names_len ps).trans (works_len ps).symm
  obtain ⟨e, ew, en, elen⟩ := works_A so o
  obtain ⟨p, c, ep, ec, mp, mc⟩ := first_pk so o
  have pc := pk_codes so o mp
  have el := elen p ep
  have l1 := (ents_le so o).1
  rw [← works_len] at l1
  refine or_false ?_ fun h1 x1 => or_false ?_ fun h2 x2 => ?_
  · simp [idx_img1, len_ref b.N]
    rw [cut_take]
    have : ((worksOf (psA ps)).map Wk.l).take (namesOf ps).length = (worksOf ps).map Wk.l := by
      rw [ew, nl, List.map_append, List.take_append_of_le_length (by simp), List.take_of_length_le (by simp)]
    rw [this]
    have t := Tn.works (h := h) (ok_I so o) l12 (works_okN so o)
    rw [eq_tn t t (by decide) (by decide)]
    exact ⟨rfl, Ext.refl _⟩
  · have b1 := b.ext x1
    have e0 := idx_name (i := 0) b1.N (by omega)
    simp [e0]
    have hx : (namesOf ps)[0]? = some (nmAt (worksOf ps) 0) := nmAt_names (i := 0) (by omega)
    have en2 : (worksOf (psA ps)).map (·.nm) = namesOf ps ++ e.map (·.nm) := by rw [ew, List.map_append, works_names]
    have ef : fIx (nmAt (worksOf ps) 0) ((worksOf (psA ps)).map (·.nm)) = some 0 := by
      rw [en2, fIx_app (List.mem_of_getElem? hx)]
      exact fIx_nd (names_nd o) hx
    refine work_number (by rw [ew, List.length_append]; omega) (fun w m => ?_) ef fun h3 x3 => ?_
    · rw [ew] at m
      rcases List.mem_append.mp m with m | m
      · exact (works_okN so o w m).1
      · exact names_ok so o _ (en w m)
    · simp
      exact x3
  · have b2 := (b.ext x1).ext x2
    have e1 : (ps.map Pk.l)[0]? = some p.l := by rw [List.getElem?_map, ep]; rfl
    simp [idx_img1, len_ref b2.N, idx_ref b2.P, e1, Pk.l]
    have : ((worksOf (psA ps)).length : Int) = (namesOf ps).length + p.codes.length := by
      rw [ew, List.length_append, nl]
      omega
    simp [this, Ext.refl]
theorem stK (so : SzOk sz) (o : PksOk sz ps) {c : Cd} {p : Pk} (mp : p ∈ ps) (mc : c ∈ p.codes) :
    Wp (evE (Gn (d + 20)) (.and (.cmp .NotEq (.idx (.idx (.var 6) (.int 7)) (.neg (.int 1))) (.int 99)) (.cmp .NotEq (.blt .len (.cons (.call 10 (.cons (.var 6) .nil)) .nil)) (.bin .Add (.bin .FloorDiv (.blt .len (.cons (.idx (.var 6) (.int 7)) .nil)) (.int 5)) (.int 1)))) [s0, some (.ref rP), s2, some (imgL (worksOf ps)), s4, s5, some c.l, some (.ref rN), some (.ref rC), s9, s10, s11, s12, s13, s14, s15, s16, s17, s18, s19, s20, s21, s22] h) fun v h1 => v = .bl false ∧ Ext h h1 := by
  obtain ⟨i, e⟩ := List.mem_iff_getElem?.mp mp
  obtain ⟨n, en, k⟩ := pk_at o e
  have lc := pk_codes so o mp
  have lu := k.lu
  have hk := k.ks c mc
  simp [Cd.l, row_last]
  cases eb : c.bad with
  | true => simp [Ext.refl]
  | false =>
    simp
    refine instructions_good (ks := c.ks) (fun x m => ?_) (by omega) rfl fun h1 x1 => ?_
    · have := hk.2 x m
      omega
    · have rl := row_len c.ks false
      simp at rl
      have ln : (stps c.ks ++ [tel c.ks.length]).length = c.ks.length + 1 := by simp [stps]
      have e5 : (5 * (c.ks.length : Int) + 2).fdiv 5 = c.ks.length := by
        rw [Int.fdiv_eq_ediv_of_nonneg _ (by decide)]
        omega
      simp [rl, stps, e5]
      exact x1
theorem stM (so : SzOk sz) (o : PksOk sz ps) (b : Bs ps rP rN rC h) :
    Wp (evE (Gn (d + 20)) (.and (.cmp .Eq (.call 21 (.cons (.var 3) .nil)) (.var 7)) (.cmp .Eq (.blt .repr (.cons (.var 1) .nil)) (.var 2))) [s0, some (.ref rP), some (.str (PyData.list (ps.map dPk)).shown), some (imgL (worksOf ps)), s4, s5, s6, some (.ref rN), some (.ref rC), s9, s10, s11, s12, s13, s14, s15, s16, s17, s18, s19, s20, s21, s22] h) fun v h1 => v = .bl true ∧ Ext h h1 := by
  have l12 := works_12 so o
  simp
  refine image_names (by omega) fun h1 r1 x1 l1 g1 => ?_
  have b1 := b.ext x1
  rw [eq_tn (tn_names' so o g1) (tn_names so o b1.N) (by decide) (by decide), wo_some, wif_t]
  have t := tn_pks so o b1.P
  rw [rep_tn t rfl (by decide) (by decide), wo_some]
  simp only []
  rw [eq_shown t, wo_some]
  exact ⟨rfl, x1⟩
end
end Lw
end
section
set_option Elab.async false
set_option linter.all false
set_option autoImplicit false
set_option maxRecDepth 100000
/-! _law_right, law -/
namespace Lw
open PySem Ly
theorem law_right {d p : Nat} {h : LH} {Q : L → LH → Prop} (po : PotOk h p) (q : ∀ h', PotOk h' p → Q (.bl true) h') : Wp (run (d + 21) Pg.f__law_right [.ref p] h) Q := by
  refine wp_run rfl rfl ?_
  show Ws (evSs (Gn (d + 20)) Pg.b__law_right [some (.ref p), none, none, none, none, none, none, none, none, none, none, none, none, none, none, none, none, none, none, none, none, none, none] h) _ _
  unfold Pg.b__law_right
  -- the packages
  rw [s_cons, s_set, e_call, es_cons, e_var]
  try simp only [wv_some, List.getElem?_cons_zero, List.getElem?_cons_succ, List.set]
  rw [es_cons, e_cmp, e_call, es_cons, e_var]
  try simp only [wv_some, List.getElem?_cons_zero, List.getElem?_cons_succ, List.set]
  rw [es_cons, e_int, es_nil]
  refine law_draw po (by decide) (by decide) fun h1 k k0 k1 po1 kp1 l1 => ?_
  rw [e_int, cmp_eq, eqL_int, wo_some, es_nil]
  refine law_packages po1 fun h2 rP ps sz kp2 l2 lr gP po2 so o => ?_
  try simp only [wv_some, List.getElem?_cons_zero, List.getElem?_cons_succ, List.set]
  have oa := ok_A so o
  have oi := ok_I so o
  have og := ok_G so o
  have t0 := tn_pks so o gP
  rw [s_cons, s_set, e_blt, es_cons, e_var]
  try simp only [wv_some, List.getElem?_cons_zero, List.getElem?_cons_succ, List.set]
  rw [es_nil, rep_tn t0 rfl (by decide) (by decide), wo_some]
  try simp only [wv_some, List.getElem?_cons_zero, List.getElem?_cons_succ, List.set]
  rw [s_cons, s_asg, e_call, es_cons, e_var]
  try simp only [wv_some, List.getElem?_cons_zero, List.getElem?_cons_succ, List.set]
  rw [es_nil]
  refine law_graph (.inr ⟨rP, rfl, gP⟩) oa fun h3 rN rC x3 lN lC gN gC => ?_
  rw [t_tup, wtup_tup]
  refine ⟨rfl, ?_⟩
  rw [ts_cons, t_name]
  try simp only [wv_some, List.getElem?_cons_zero, List.getElem?_cons_succ, List.set]
  rw [ts_cons, t_name]
  try simp only [wv_some, List.getElem?_cons_zero, List.getElem?_cons_succ, List.set]
  rw [ts_cons, t_name]
  try simp only [wv_some, List.getElem?_cons_zero, List.getElem?_cons_succ, List.set]
  rw [ts_nil]
  rw [s_cons, s_set, e_call, es_cons, e_var]
  try simp only [wv_some, List.getElem?_cons_zero, List.getElem?_cons_succ, List.set]
  rw [es_nil]
  refine linked (.inr ⟨rP, rfl, x3 _ _ gP⟩) oa.toOkU fun h4 x4 => ?_
  try simp only [wv_some, List.getElem?_cons_zero, List.getElem?_cons_succ, List.set]
  have b4 : Bs ps rP rN rC h4 := ⟨x4 _ _ (x3 _ _ gP), x4 _ _ gN, gC.ext x4⟩
  have po4 := po2.keep (x3.trans x4)
  -- image, names
  rw [s_cons]
  refine ws_guard (or_false (ne_rep (stB1a (d := d) so o b4) fun h5 x5 => stB1b so o) fun h5 x5 => ne_rep (stB2a so o) fun h6 x6 => stB2b so o ((b4.ext x5).ext x6)) fun h5 x5 => ?_
  have b5 := b4.ext x5
  -- turns, rings
  rw [s_cons, s_asg, e_tup, es_cons, e_call, es_cons, e_var]
  try simp only [wv_some, List.getElem?_cons_zero, List.getElem?_cons_succ, List.set]
  rw [es_nil]
  refine law_turn b5.C og fun h6 rT x6 l6 gT => ?_
  rw [es_cons, e_call, es_cons, e_var]
  try simp only [wv_some, List.getElem?_cons_zero, List.getElem?_cons_succ, List.set]
  rw [es_nil]
  refine law_ring (b5.ext x6).C og fun h7 vR x7 rl => ?_
  rw [es_nil]
  refine ⟨by show 2 ≤ sizeLine; decide, ?_⟩
  rw [t_tup, wtup_tup]
  refine ⟨rfl, ?_⟩
  rw [ts_cons, t_name]
  try simp only [wv_some, List.getElem?_cons_zero, List.getElem?_cons_succ, List.set]
  rw [ts_cons, t_name]
  try simp only [wv_some, List.getElem?_cons_zero, List.getElem?_cons_succ, List.set]
  rw [ts_nil]
  have b7 := b5.ext (x6.trans x7)
  have gT7 := x7 _ _ gT
  rw [s_cons, s_set]
  refine Wp.mono (stD (d := d) so o b7 gT7 rl) ?_
  rintro v h8 ⟨x8, rD, rfl, tD⟩
  try simp only [wv_some, List.getElem?_cons_zero, List.getElem?_cons_succ, List.set]
  have b8 := b7.ext x8
  rw [s_cons]
  refine ws_guard (ne_rep (stEa (d := d) so o) fun h9 x9 => ?_) fun h9 x9 => ?_
  · rw [e_lst, es_cons, e_var]
    try simp only [wv_some, List.getElem?_cons_zero, List.getElem?_cons_succ, List.set]
    rw [es_cons, e_var]
    try simp only [wv_some, List.getElem?_cons_zero, List.getElem?_cons_succ, List.set]
    rw [es_nil]
    have y := Ext.app h9 [.lst [.ref rD, .ref rD]]
    have t := (tD.ext x9).ext y
    exact ⟨by show 2 ≤ sizeLine; decide, y, rfl, 3, 9000, by decide, by decide, (Tn.lst (get_new _ _) (t.cons <| t.cons (w' := 0) Tns.nil)).mono (Nat.le_refl _) (by omega)⟩
  have b9 := b8.ext x9
  -- each name
  rw [s_cons]
  refine stF (d := d) so o b9 (x9 _ _ (x8 _ _ gT7)) ((rl.ext x8).ext x9) fun h10 a12 a13 a14 a15 a16 a17 a18 x10 => ?_
  have b10 := b9.ext x10
  rw [s_cons]
  refine ws_guard (stG (d := d) so o b10 (((rl.ext x8).ext x9).ext x10)) fun h11 x11 => ?_
  have b11 := b10.ext x11
  -- again
  rw [s_cons, s_set]
  refine Wp.mono (stH (d := d) so o b11) ?_
  rintro v h12 ⟨x12, rfl⟩
  try simp only [wv_some, List.getElem?_cons_zero, List.getElem?_cons_succ, List.set]
  have b12 := b11.ext x12
  rw [s_cons]
  refine ws_guard (stI (d := d) so o b12) fun h13 x13 => ?_
  have b13 := b12.ext x13
  obtain ⟨pk, c, ep, ec, mp, mc⟩ := first_pk so o
  have e1 : (ps.map Pk.l)[0]? = some pk.l := by rw [List.getElem?_map, ep]; rfl
  have e2 : (pk.codes.map Cd.l)[0]? = some c.l := by rw [List.getElem?_map, ec]; rfl
  have e3 : Wp (evE (Gn (d + 20)) (.idx (.idx (.idx (.var 1) (.int 0)) (.int 1)) (.int 0)) [some (L.ref p), some (L.ref rP), some (L.str (PyData.list (ps.map dPk)).shown), some (imgL (worksOf ps)), some (L.ref rD), some (imgL (worksOf (psA ps))), none, some (L.ref rN), some (L.ref rC), some (L.tup ((worksOf ps).map Wk.l)), some (L.ref rT), some vR, a12, a13, a14, a15, a16, a17, a18, none, none, none, none] h13) fun v h' => v = c.l ∧ h' = h13 := by
    simp [idx_ref b13.P, e1, Pk.l, e2]
  rw [s_cons, s_set]
  refine e3.mono ?_
  rintro v h14 ⟨rfl, rfl⟩
  try simp only [wv_some, List.getElem?_cons_zero, List.getElem?_cons_succ, List.set]
  rw [s_cons]
  refine ws_guard (stK (d := d) so o mp mc) fun h15 x15 => ?_
  have b15 := b13.ext x15
  have po15 := ((((((((po4.keep x5).keep (x6.trans x7)).keep x8).keep x9).keep x10).keep x11).keep x12).keep x13).keep x15
  have l12 := works_12 so o
  rw [s_cons, s_expr, e_meth, e_call, es_cons, e_var]
  try simp only [wv_some, List.getElem?_cons_zero, List.getElem?_cons_succ, List.set]
  rw [es_nil]
  refine image_names (by omega) fun h16 r16 x16 l16 g16 => ?_
  refine ⟨by rw [lst_ref g16]; rfl, ?_⟩
  rw [es_cons, e_non, es_nil, app_ref g16 (by rw [List.length_map, show sizeLine = 16777216 by decide]; omega), wo_some]
  try simp only [wv_some, List.getElem?_cons_zero, List.getElem?_cons_succ, List.set]
  have x17 : Ext h15 (h16.set r16 (.lst (((worksOf ps).map fun w => L.str w.nm) ++ [.non]))) := x16.set l16 _
  generalize (h16.set r16 (.lst (((worksOf ps).map fun w => L.str w.nm) ++ [.non]))) = h17 at x17 ⊢
  rw [s_cons, s_ret]
  refine Wp.mono (stM (d := d) so o (b15.ext x17)) ?_
  rintro v h18 ⟨rfl, x18⟩
  exact q _ ((po15.keep x17).keep x18)
theorem law_pot {d k : Nat} {ns : List Int} {h : LH} {Q : L → LH → Prop} (hk : k < 100) (q : ∀ h' r, PotOk h' r → Q (.ref r) h') : Wp (run (d + 1) Pg.f__law_pot [.rol (ns.map .int), .int k] h) Q := by
  refine wp_run rfl rfl ?_
  show Ws (evSs (Gn d) Pg.b__law_pot [some (.rol (ns.map .int)), some (.int k), none] h) _ _
  unfold Pg.b__law_pot
  have cell : ∀ {x : Option L}, Wp (evE (Gn d) (.ife (.cmp .Lt (.var 1) (.blt .len (.cons (.var 0) .nil))) (.blt .abs (.cons (.idx (.var 0) (.var 1)) .nil)) (.bin .Add (.bin .Mult (.int 4217) (.var 1)) (.int 3181))) [some (.rol (ns.map .int)), some (.int k), x] h) fun v h' => h' = h ∧ ∃ i : Int, v = .int i := fun {x} => by
    have el : bltL .len [.rol (ns.map .int)] h = some (.int ns.length, h) := by simp [bltL, one, len1, lenO, seqAt, lstAt]
    simp [el]
    by_cases c : k < ns.length
    · have e0 : ((ns.map L.int))[k]? = some (.int ns[k]) := by simp [c]
      have ei : idxL (.rol (ns.map .int)) (.int k) h = some (.int ns[k], h) := by
        show okV (L2.atI (ns.map .int) (k : Int)) h = _
        rw [atI_nat e0]
        rfl
      simp [c, ei, bltL, one, abs1]
    · simp [c, mulOk_small (i := 4217) (j := (k : Int)) (by omega) (by omega)]
  rw [s_cons, s_set]
  refine cell.mono ?_
  rintro v h' ⟨rfl, i, rfl⟩
  simp only [List.set]
  have i1 : ∀ (i : Int) (h : LH), bltL .int [.int i] h = some (.int i, h) := fun i h => rfl
  have ep : ∀ h : LH, binL .Pow (.int 10) (.int 18) h = some (.int (10 ^ 18), h) := fun h => by simp [binL]
  have em : ∀ (a b : Int) (h : LH), bltL .max [.int a, .int b] h = some (.int (if b > a then b else a), h) := fun a b h => rfl
  have q1 := fmod_lt (i := i) (j := 2147483543) (by decide)
  have q2 := fmod_lt (i := i.fmod 2147483543 * 47543 + 3181 * (k : Int) + 4217) (j := 2147483563) (by decide)
  simp [i1, ep, em, mulOk_small (i := i.fmod 2147483543) (j := 47543) (by decide) (by decide), mulOk_small (i := 3181) (j := (k : Int)) (by omega) (by omega)]
  refine ⟨by decide, q _ _ ⟨_, _, get_new _ _, ?_, by omega, by omega⟩⟩
  split <;> omega
theorem the_law (ns : List Int) (hn : ns.length ≤ 63) : Wp (run 40 Pg.f_law [.rol (ns.map .int)] []) fun v _ => v = .bl true := by
  refine wp_run (d := 39) rfl rfl ?_
  show Ws (evSs (Gn 39) Pg.b_law [some (.rol (ns.map .int)), none, none] []) _ _
  unfold Pg.b_law
  have el : ∀ h : LH, bltL .len [.rol (ns.map .int)] h = some (.int ns.length, h) := fun h => by simp [bltL, one, len1, lenO, seqAt, lstAt]
  have em : ∀ (a b : Int) (h : LH), bltL .max [.int a, .int b] h = some (.int (if b > a then b else a), h) := fun a b h => rfl
  have en : ∀ (a b : Int) (h : LH), bltL .min [.int a, .int b] h = some (.int (if b < a then b else a), h) := fun a b h => rfl
  obtain ⟨m, lm, e⟩ : ∃ m : Nat, m ≤ 2 ∧ (if (if (ns.length : Int) < 2 then (ns.length : Int) else 2) > 1 then (if (ns.length : Int) < 2 then (ns.length : Int) else 2) else 1) = (m : Int) := by
    by_cases c : (ns.length : Int) < 2
    · rw [if_pos c]
      by_cases c2 : (ns.length : Int) > 1
      · rw [if_pos c2]
        exact ⟨ns.length, by omega, rfl⟩
      · rw [if_neg c2]
        exact ⟨1, by omega, rfl⟩
    · rw [if_neg c]
      exact ⟨2, by omega, rfl⟩
  rw [s_cons, s_fors, i_rng1, e_blt, es_cons, e_int, es_cons, e_blt, es_cons, e_int, es_cons, e_blt, es_cons, e_var]
  simp only [List.getElem?_cons_zero, wv_some]
  rw [es_nil, el, wo_some, es_nil, en, wo_some, es_nil, em, wo_some, wint_int, e]
  refine ⟨near_small (by omega), ?_⟩
  rw [show (m : Int).toNat = m by omega, rngV_rngI]
  refine ws_for ((rngI m).map .int) (fun i sl h => ∃ a b, sl = [some (.rol (ns.map .int)), a, b]) (fun _ _ _ _ => rfl) ?_ ?_ whileFuel 0 _ _ (by omega) (by show _ < 1000000000000 + 0; simp [rngI_len]; omega) ⟨_, _, rfl⟩
  · rintro i x sl h ex ⟨a, b, rfl⟩
    have li : i < m := by
      have := (List.getElem?_eq_some_iff.mp ex).1
      simpa [rngI_len] using this
    have e : x = .int i := by
      simp [rngI, li] at ex
      exact ex.symm
    subst e
    refine ⟨_, _, rfl, ?_⟩
    simp only [List.set]
    rw [s_cons, s_set, e_call, es_cons, e_var]
    simp only [List.getElem?_cons_zero, List.getElem?_cons_succ, wv_some]
    rw [es_cons, e_var]
    simp only [List.getElem?_cons_zero, List.getElem?_cons_succ, wv_some]
    rw [es_nil]
    refine law_pot (d := 38) (by omega) fun h1 r po => ?_
    simp
    refine law_right (d := 18) po fun h2 po2 => ?_
    simp
    refine law_right (d := 18) po2 fun h3 po3 => ?_
    simp
  · rintro sl h ⟨a, b, rfl⟩
    simp
end Lw
end
section
set_option Elab.async false
set_option linter.all false
set_option maxRecDepth 100000
set_option maxHeartbeats 0
namespace In
open PySem PySem.Spec PyProof.Rows L2 Ly
def depth : Nat := 40
theorem the_law (ns : List Int) (h : ns.length ≤ 63) : ∃ h', runD Pg.gl Pg.gd Pg.prog depth Pg.f_law [.rol (ns.map .int)] [] = .ok (.bl true) h' := by
  obtain ⟨v, h', e, rfl⟩ := (Lw.the_law ns h).eq
  rw [Lw.run_def] at e
  exact ⟨h', e⟩
end In
open PySem PySem.W PySem.Calls PyProof.Rows
theorem PySem.Challenge.cw_boundcode_k91_whole_images_turns_and_rin_holds : PySem.Challenge.rw_boundcode_k91_whole_images_turns_and_rin.Holds := by
  w_on; o_law
  refine HandSHeadRun.head_any (r := OpenLaw.row PySem.Challenge.rw_boundcode_k91_whole_images_turns_and_rin) (q := view (OpenLaw.row PySem.Challenge.rw_boundcode_k91_whole_images_turns_and_rin).prog [63]) (H := Top.hk) (ob := Top.ob) (M := 4000) (loose := Top.names) (d := HandSHeadRun.topDef (OpenLaw.row PySem.Challenge.rw_boundcode_k91_whole_images_turns_and_rin).prog 63) (kwd := []) Top.ob_eq
    (by kernel_rfl) (fun s => by kernel_rfl) Top.run (by kernel_rfl) (by kernel_rfl) (by kernel_rfl) (by rfl) (by first | assumption | decide +kernel) (by decide +kernel) ⟨rfl, rfl, rfl, rfl, rfl, by decide +kernel⟩ ?hw ?hc
  case hw => w_witness2
  case hc =>
    refine Ly.walk_ofG (l := PySem.Challenge.rw_boundcode_k91_whole_images_turns_and_rin) (n := 63) (k := In.depth + 5) (x := "script") rfl (by decide) (by kernel_rfl) ⟨rfl, by decide, by decide⟩ ?F In.the_law
    intro w mg fa h Y G hmg0
    obtain ⟨K, KX, c⟩ := Y
    have hmg : mg ("law" : PySem.Str) = some (.ref fa) := by
      have e : (HandSHeadRun.topDef (OpenLaw.row PySem.Challenge.rw_boundcode_k91_whole_images_turns_and_rin).prog 63).name = ("law" : PySem.Str) := by kernel_rfl
      rw [← e]
      exact hmg0
    obtain ⟨fd, F⟩ := c.t.d.def_ (d := Top.mkD "law" 63) 40 rfl
    have e := hmg.symm.trans (He.glo_ok KX G (c.t.d.fact (f := .glo "law") 58 rfl))
    cases e
    have b := L2.FunD.bindsA (ps := ["script"]) F fun _ _ _ _ _ _ us hl => match us, hl with | [_], _ => rfl
    exact ⟨K, fd, In.xc K, KX, fun s v => b s [v] rfl, fun base KB GB => Ly.stepG (In.base_ok KX G c) (Ly.allG (In.base_ok KX G c) 39) rfl F In.k_law rfl rfl In.c_law⟩
end
