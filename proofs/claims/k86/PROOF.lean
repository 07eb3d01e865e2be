import PyProof.Rows.All
import PySem.Str
import HandS.TupMul
import HandS.ForMost
import HandS.Conv
import HandS.Zip
import HandS.TupAny
import HandS.DictComp
import HandS.IsInst
import HandS.Flow
import HandS.Style
import HandS.Defaults
import HandS.SetBool
import HandS.TupSets
import PyProof.DictRoadsH
import HandS.Deep
import KE.KTupSum
import HandS.SortInts
import HandS.Rev
import KE.DatumOrd
import KE.KRevSl
import HandS.WordsExc
import HandS.ExcInit
import HandS.ExcField
import HandS.TryMany
import KE.GoesMore
import KE.GoesEnum
import KE.KStateDown
import HandS.More
import HandS.Head0
import HandS.Head1
import HandS.Head2
import HandS.HeadEnd
import HandS.HeadHook1
import HandS.HeadHook2
import PySem.Challenge.RW_twoforms_k86_whole_circles
section
set_option linter.all false
/-! The core language: values, heaps, terms, and what they compute. Own work. -/
namespace Tw
open PySem (Str)

/-- data: tuples are values, and lists that nothing writes (seq); lists, dicts stand in the heap -/
inductive D where
  | non | bl (b : Bool) | int (i : Int) | str (s : Str) | tup (ds : List D) | seq (ds : List D) | ref (n : Nat)
  | ctp (ds : List D)
  deriving Inhabited

mutual
def D.beq : D → D → Bool
  | .non, .non => true
  | .bl a, .bl b => a == b
  | .int a, .int b => a == b
  | .str a, .str b => decide (a = b)
  | .tup a, .tup b => D.beqs a b
  | .seq a, .seq b => D.beqs a b
  | .ref a, .ref b => a == b
  | .ctp a, .ctp b => D.beqs a b
  | _, _ => false
def D.beqs : List D → List D → Bool
  | [], [] => true
  | a :: as, b :: bs => D.beq a b && D.beqs as bs
  | _, _ => false
end
mutual
theorem D.beq_ok : ∀ a b : D, D.beq a b = true → a = b
  | .non, b, h => by cases b <;> simp [D.beq] at h <;> rfl
  | .bl a, b, h => by cases b <;> simp [D.beq] at h; rw [h]
  | .int a, b, h => by cases b <;> simp [D.beq] at h; rw [h]
  | .str a, b, h => by cases b <;> simp [D.beq] at h; rw [h]
  | .tup a, b, h => by
    cases b <;> simp [D.beq] at h
    rw [D.beqs_ok a _ h]
  | .seq a, b, h => by
    cases b <;> simp [D.beq] at h
    rw [D.beqs_ok a _ h]
  | .ref a, b, h => by cases b <;> simp [D.beq] at h; rw [h]
  | .ctp a, b, h => by
    cases b <;> simp [D.beq] at h
    rw [D.beqs_ok a _ h]
theorem D.beqs_ok : ∀ a b : List D, D.beqs a b = true → a = b
  | [], b, h => by cases b <;> simp [D.beqs] at h; rfl
  | x :: xs, b, h => by
    cases b with
    | nil => simp [D.beqs] at h
    | cons y ys =>
      simp [D.beqs] at h
      rw [D.beq_ok x y h.1, D.beqs_ok xs ys h.2]
end
mutual
theorem D.beq_self : ∀ a : D, D.beq a a = true
  | .non => rfl
  | .bl a => by simp [D.beq]
  | .int a => by simp [D.beq]
  | .str a => by simp [D.beq]
  | .tup a => by
    simp only [D.beq]
    exact D.beqs_self a
  | .seq a => by
    simp only [D.beq]
    exact D.beqs_self a
  | .ref a => by simp [D.beq]
  | .ctp a => by
    simp only [D.beq]
    exact D.beqs_self a
theorem D.beqs_self : ∀ a : List D, D.beqs a a = true
  | [] => rfl
  | x :: xs => by simp only [D.beqs, D.beq_self x, D.beqs_self xs, Bool.and_self]
end
instance : DecidableEq D := fun a b => if h : D.beq a b = true then isTrue (D.beq_ok a b h) else isFalse fun e => h (e ▸ D.beq_self a)

abbrev Key := Sum Int Str
def kD : Key → D
  | .inl i => .int i
  | .inr s => .str s
def keyOf : D → Option Key
  | .int i => some (.inl i)
  | .str s => some (.inr s)
  | _ => none
def keysOf : List D → Option (List Key)
  | [] => some []
  | d :: ds => (keyOf d).bind fun k => (keysOf ds).map (k :: ·)
/-- a tuple as a key -/
def keyT : D → Option (List Key)
  | .tup ds => keysOf ds
  | _ => none

/-- what stands in the heap: a list, a dict, a dict whose keys are tuples -/
inductive O where
  | lst (xs : List D) | dct (kvs : List (Key × D)) | dtt (kvs : List (List Key × D))
  deriving DecidableEq, Inhabited
abbrev Heap := List O
abbrev Env := List (Option D)

/-- an answer; an exception (class, fields, heap); no answer -/
inductive R (α : Type) where
  | ok (a : α) | exc (c : Nat) (fs : List D) (h : Heap) | no
def R.bind {α β : Type} : R α → (α → R β) → R β
  | .ok a, f => f a
  | .exc c fs h, _ => .exc c fs h
  | .no, _ => .no
/-- where no exception may be -/
def R.nox {α : Type} : R α → R α
  | .ok a => .ok a
  | _ => .no
/-- an option's value, or no answer -/
def ofO {α β : Type} : Option α → (α → R β) → R β
  | some a, f => f a
  | none, _ => .no
/-- under a condition -/
def chk {β : Type} (b : Bool) (r : R β) : R β := match b with
  | true => r
  | false => .no

inductive BOp where
  | add | sub | mul | mod | fdiv | pow | shl
  deriving DecidableEq
inductive COp where
  | eq | ne | lt | le | gt | ge | is | isnot | isin | notin
  deriving DecidableEq
/-- built-in functions of values -/
inductive Bi where
  | int | abs | min2 | max2 | str | bool
  deriving DecidableEq
/-- built-in functions of one sequence -/
inductive Sq where
  | len | tuple | sum | all | any | max | min
  deriving DecidableEq
/-- types in isinstance -/
inductive Ty where
  | int | bool | str | tuple | list
  deriving DecidableEq

mutual
inductive CE where
  | var (i : Nat) | int (i : Int) | bl (b : Bool) | non | str (s : Str) | cst (i : Nat)
  | bin (op : BOp) (a b : CE)
  | cmp (op : COp) (a b : CE)
  | chain (o1 o2 : COp) (a b c : CE)
  | and (a b : CE) | or (a b : CE) | not (a : CB) | neg (a : CE)
  | ite (c : CB) (a b : CE)
  | idx (a i : CE)
  | slc (a : CE) (lo hi : CO)
  | tup (es : CEs)
  | new (l : CL)
  | dct (ps : CPs)
  | dcomp (k v : CE) (t : CT) (it : CI) (c : CBO)
  | call (f : Nat) (as : CEs)
  | bi (b : Bi) (as : CEs)
  | sq (b : Sq) (s : CI)
  | isin (e : CE) (t : Ty)
  | app (l : CE) (e : CE)
  | ext (l : CE) (s : CL)
  | callK (f : Nat) (ix : List Nat) (as bs : CEs)
  | pop (l : CE) | popi (l i : CE)
  | index (l e : CE)
  | sqL (b : Sq) (l : CL) | sqE (b : Sq) (e : CE)
  | trev (e : CE) | get2 (d k x : CE)
  | back (e : CE) (b : Bool)
  | stuck
/-- an optional part -/
inductive CO where
  | none | some (e : CE)
inductive CEs where
  | nil | cons (e : CE) (es : CEs)
inductive CPs where
  | nil | cons (k v : CE) (ps : CPs)
/-- tests -/
inductive CB where
  | val (e : CE) | and (a b : CB) | or (a b : CB) | not (a : CB) | ite (c a b : CB)
inductive CBO where
  | none | some (e : CB)
/-- what makes a new list -/
inductive CL where
  | comp (e : CE) (t : CT) (it : CI) (c : CBO)
  | disp (es : CEs)
  | rep (es : CEs) (n : CE)
  | of (s : CI) | srt (l : CL) | srtE (e : CE)
  | srtC (e : CE) (t : CT) (it : CI) (c : CBO) | srtS (l : CL)
/-- what is walked -/
inductive CI where
  | val (e : CE) | tmp (l : CL)
  | rng1 (a : CE) | rng2 (a b : CE)
  | enum (e : CE) | zip (a b : CE)
  | rev (e : CE) | rng3 (a b c : CE)
/-- targets -/
inductive CT where
  | name (i : Nat) | tup (ts : CTs) | sub (o i : CE)
inductive CTs where
  | nil | cons (t : CT) (ts : CTs)
end

/-- what an except suite says: a value of written parts and the exception's fields; returned, or kept in a slot -/
inductive CAt where
  | str (s : Str) | int (i : Int) | bl (b : Bool) | non | fld (f : Str)
inductive CX where
  | at (a : CAt) | tup (as : List CAt)
inductive CSu where
  | ret (e : CX) | asg (i : Nat) (e : CX)
/-- an except clause: its class, the name's slot, the suite -/
structure CH where
  k : Nat
  nm : Option Nat
  su : CSu
mutual
inductive CS where
  | asg (t : CT) (e : CE)
  | aug (i : Nat) (op : BOp) (e : CE)
  | ex (e : CE)
  | ret (e : CE) | retN
  | ite (c : CB) (a b : CSs)
  | loop (t : CT) (s : CI) (b : CSs)
  | wh (c : CB) (b : CSs)
  | brk | cnt | pass
  | raise (c : Nat) (es : CEs)
  | tr (b : CSs) (hs : List CH)
  | stuck
inductive CSs where
  | nil | cons (s : CS) (r : CSs)
end

inductive Fl where
  | nx | rt (d : D) | bk | ct | ex (c : Nat) (fs : List D)

/-! ### values -/
def LIM : Nat := 16777216
def nth {α : Type} (xs : List α) (i : Int) : Option α :=
  if 0 ≤ i then xs[i.toNat]? else if -(xs.length : Int) ≤ i then xs[(i + xs.length).toNat]? else none
def nix (n : Nat) (i : Int) : Option Nat :=
  if 0 ≤ i then (if i < n then some i.toNat else none) else if -(n : Int) ≤ i then some (i + n).toNat else none
def sIx (n d : Nat) : Option Int → Nat
  | none => d
  | some i => if i < 0 then (i + n).toNat else min i.toNat n
def cut {α : Type} (xs : List α) (lo hi : Option Int) : List α := (xs.drop (sIx xs.length 0 lo)).take (sIx xs.length xs.length hi - sIx xs.length 0 lo)
def small (i : Int) : Bool := decide (-18446744073709551616 < i) && decide (i < 18446744073709551616)

/-- list + list -/
def catL (h : Heap) : Option O → Option O → R (D × Heap)
  | some (.lst xs), some (.lst ys) => chk (decide (xs.length + ys.length ≤ LIM)) (.ok (.ref h.length, h ++ [.lst (xs ++ ys)]))
  | _, _ => .no
def opB (op : BOp) (x y : D) (h : Heap) : R (D × Heap) :=
  match op, x, y with
  | .add, .int i, .int j => .ok (.int (i + j), h)
  | .sub, .int i, .int j => .ok (.int (i - j), h)
  | .mul, .int i, .int j => chk (small i || small j) (.ok (.int (i * j), h))
  | .mod, .int i, .int j => chk (decide (0 < j)) (.ok (.int (i % j), h))
  | .fdiv, .int i, .int j => chk (decide (0 < j) && decide (j < 1073741824)) (.ok (.int (i / j), h))
  | .add, .tup a, .tup b => chk (decide (a.length + b.length ≤ LIM)) (.ok (.tup (a ++ b), h))
  | .add, .ref m, .ref k => catL h h[m]? h[k]?
  | .mul, .tup a, .int k => chk (decide (0 ≤ k) && decide (k ≤ 1000) && decide (0 < a.length) && decide (a.length ≤ 1000)) (.ok (.tup (List.replicate k.toNat a).flatten, h))
  | .pow, .int i, .int j => chk (decide (-1000 ≤ i) && decide (i ≤ 1000) && decide (0 ≤ j) && decide (j ≤ 1000)) (.ok (.int (i ^ j.toNat), h))
  | .shl, .int i, .int j => chk (decide (i = 1) && decide (0 ≤ j) && decide (j ≤ 100000)) (.ok (.int (2 ^ j.toNat), h))
  | _, _, _ => .no

/-- x op= y, ints alone -/
def opI (op : BOp) (x y : D) (h : Heap) : R (D × Heap) :=
  match op, x, y with
  | .add, .int i, .int j => .ok (.int (i + j), h)
  | .sub, .int i, .int j => .ok (.int (i - j), h)
  | .mul, .int i, .int j => chk (small i || small j) (.ok (.int (i * j), h))
  | _, _, _ => .no
def scal : D → Bool
  | .tup _ => false
  | .seq _ => false
  | .ctp _ => false
  | .ref _ => false
  | _ => true
/-- signs that there are -/
def sOk (x : Str) : Bool := x.cps.all (· < 0x110000)
-- flat data, tuples of such, of a depth
mutual
def D.deep : Nat → D → Bool
  | _, .non => true
  | _, .bl _ => true
  | _, .int _ => true
  | _, .str s => sOk s
  | k + 1, .tup ds => D.deeps k ds
  | k + 1, .seq ds => D.deeps k ds
  | _, _ => false
def D.deeps : Nat → List D → Bool
  | _, [] => true
  | k, d :: ds => D.deep k d && D.deeps k ds
end
mutual
/-- == : a bool is a number here -/
def eqd : D → D → Bool
  | .non, .non => true
  | .bl a, .bl b => a == b
  | .bl a, .int b => (if a then 1 else 0) == b
  | .int a, .bl b => a == (if b then 1 else 0)
  | .int a, .int b => decide (a = b)
  | .str a, .str b => decide (a = b)
  | .tup a, .tup b => eqds a b
  | .seq a, .seq b => eqds a b
  | _, _ => false
def eqds : List D → List D → Bool
  | [], [] => true
  | a :: as, b :: bs => eqd a b && eqds as bs
  | _, _ => false
end
def DEEP : Nat := 8
def eqs (x y : D) : Option Bool :=
  match x, y with
  | .non, .non => some true
  | .bl a, .bl b => some (decide (a = b))
  | .int a, .int b => some (decide (a = b))
  | .str a, .str b => some (decide (a = b))
  | x, y => if (x.deep DEEP && y.deep DEEP) = true then some (eqd x y) else none
/-- == of an item and a value, both flat: a bool is a number here -/
def eqf (x y : D) : Bool :=
  match x, y with
  | .non, .non => true
  | .bl a, .bl b => a == b
  | .bl a, .int b => (if a then 1 else 0) == b
  | .int a, .bl b => a == (if b then 1 else 0)
  | .int a, .int b => decide (a = b)
  | .str a, .str b => decide (a = b)
  | _, _ => false
def findV {κ : Type} [DecidableEq κ] (kvs : List (κ × D)) (k : κ) : Option D := (kvs.find? fun kv => decide (kv.1 = k)).map (·.2)
def putV {κ : Type} [DecidableEq κ] (kvs : List (κ × D)) (k : κ) (v : D) : List (κ × D) :=
  if (kvs.any fun kv => decide (kv.1 = k)) = true then kvs.map (fun kv => if kv.1 = k then (kv.1, v) else kv) else kvs ++ [(k, v)]

/-- the items of a list that is read -/
def lstAt (h : Heap) (n : Nat) : Option (List D) := match h[n]? with
  | some (.lst xs) => some xs
  | _ => none
def inL (neg : Bool) (x : D) (ds : List D) (h : Heap) : R (D × Heap) :=
  if (scal x && ds.all scal) = true then .ok (.bl (neg != ds.any fun z => eqf z x), h) else chk (D.deeps DEEP ds && x.deep DEEP) (.ok (.bl (neg != ds.any fun z => eqd z x), h))
def inB (neg : Bool) (x y : D) (h : Heap) : R (D × Heap) :=
  match y with
  | .tup ds => inL neg x ds h
  | .ctp ds => chk (scal x && ds.all scal) (.ok (.bl (neg != ds.any fun z => eqf z x), h))
  | .seq ds => inL neg x ds h
  | .ref n => match h[n]? with
    | some (.lst ds) => inL neg x ds h
    | some (.dct kvs) => ofO (keyOf x) fun k => .ok (.bl (neg != (findV kvs k).isSome), h)
    | some (.dtt kvs) => ofO (keyT x) fun k => .ok (.bl (neg != (findV kvs k).isSome), h)
    | none => .no
  | _ => .no
def opC (op : COp) (x y : D) (h : Heap) : R (D × Heap) :=
  match op with
  | .eq => ofO (eqs x y) fun b => .ok (.bl b, h)
  | .ne => ofO (eqs x y) fun b => .ok (.bl (!b), h)
  | .lt => match x, y with
    | .int i, .int j => .ok (.bl (decide (i < j)), h)
    | _, _ => .no
  | .le => match x, y with
    | .int i, .int j => .ok (.bl (decide (i ≤ j)), h)
    | _, _ => .no
  | .gt => match x, y with
    | .int i, .int j => .ok (.bl (decide (j < i)), h)
    | _, _ => .no
  | .ge => match x, y with
    | .int i, .int j => .ok (.bl (decide (j ≤ i)), h)
    | _, _ => .no
  | .is => match y with
    | .non => .ok (.bl (decide (x = .non)), h)
    | _ => .no
  | .isnot => match y with
    | .non => .ok (.bl (!decide (x = .non)), h)
    | _ => .no
  | .isin => inB false x y h
  | .notin => inB true x y h

def truth (d : D) (h : Heap) : Option Bool :=
  match d with
  | .non => some false
  | .bl b => some b
  | .int i => some (decide (i ≠ 0))
  | .str _ => none
  | .tup ds => some (!ds.isEmpty)
  | .seq ds => some (!ds.isEmpty)
  | .ctp _ => none
  | .ref n => match h[n]? with
    | some (.lst xs) => some (!xs.isEmpty)
    | some (.dct kvs) => some (!kvs.isEmpty)
    | _ => none

def idxV (x i : D) (h : Heap) : R (D × Heap) :=
  match x with
  | .str s => match i with
    | .int i => chk (decide (s.length ≤ LIM)) (ofO (nth s.cps.toList i) fun k => .ok (.str ⟨#[k]⟩, h))
    | _ => .no
  | .tup ds => match i with
    | .int i => ofO (nth ds i) fun d => .ok (d, h)
    | _ => .no
  | .seq ds => match i with
    | .int i => ofO (nth ds i) fun d => .ok (d, h)
    | _ => .no
  | .ctp ds => match i with
    | .int i => ofO (nth ds i) fun d => .ok (d, h)
    | _ => .no
  | .ref n => match h[n]? with
    | some (.lst xs) => (match i with
      | .int i => ofO (nth xs i) fun d => .ok (d, h)
      | _ => .no)
    | some (.dct kvs) => ofO (keyOf i) fun k => ofO (findV kvs k) fun d => .ok (d, h)
    | some (.dtt kvs) => ofO (keyT i) fun k => ofO (findV kvs k) fun d => .ok (d, h)
    | none => .no
  | _ => .no
def storeV (o i v : D) (h : Heap) : R Heap :=
  match o with
  | .ref n => match h[n]? with
    | some (.lst xs) => (match i with
      | .int i => ofO (nix xs.length i) fun j => .ok (h.set n (.lst (xs.set j v)))
      | _ => .no)
    | some (.dct kvs) => ofO (keyOf i) fun k => chk (decide (kvs.length < LIM)) (.ok (h.set n (.dct (putV kvs k v))))
    | some (.dtt kvs) => ofO (keyT i) fun k => chk (decide (kvs.length < LIM)) (.ok (h.set n (.dtt (putV kvs k v))))
    | _ => .no
  | _ => .no
def slcV (x : D) (lo hi : Option Int) (h : Heap) : R (D × Heap) :=
  match x with
  | .tup ds => .ok (.tup (cut ds lo hi), h)
  | .seq ds => .ok (.ref h.length, h ++ [.lst (cut ds lo hi)])
  | .ref n => match h[n]? with
    | some (.lst xs) => .ok (.ref h.length, h ++ [.lst (cut xs lo hi)])
    | _ => .no
  | _ => .no
def partV : Option D → R (Option Int)
  | none => .ok none
  | some (.int i) => .ok (some i)
  | some _ => .no

def intsOf : List D → Option (List Int)
  | [] => some []
  | .int i :: ds => (intsOf ds).map (i :: ·)
  | _ => none
def boolsOf : List D → Option (List Bool)
  | [] => some []
  | .bl i :: ds => (boolsOf ds).map (i :: ·)
  | _ => none
def strsOf : List D → Option (List Str)
  | [] => some []
  | .str i :: ds => (strsOf ds).map (i :: ·)
  | _ => none
def maxL : List Int → Option Int
  | [] => none
  | x :: xs => some (xs.foldl (fun a b => if b > a then b else a) x)
def minL : List Int → Option Int
  | [] => none
  | x :: xs => some (xs.foldl (fun a b => if b < a then b else a) x)
def biV (b : Bi) (vs : List D) (h : Heap) : R (D × Heap) :=
  match b, vs with
  | .int, [.int i] => .ok (.int i, h)
  | .int, [.bl b] => .ok (.int (if b then 1 else 0), h)
  | .abs, [.int i] => .ok (.int (if i < 0 then -i else i), h)
  | .min2, [.int i, .int j] => .ok (.int (if j < i then j else i), h)
  | .max2, [.int i, .int j] => .ok (.int (if j > i then j else i), h)
  | _, _ => .no
/-- len of a dict is here too -/
def sqV (b : Sq) (ds : List D) (h : Heap) : R (D × Heap) :=
  match b with
  | .len => .ok (.int ds.length, h)
  | .tuple => .ok (.tup ds, h)
  | .sum => ofO (intsOf ds) fun is => .ok (.int is.sum, h)
  | _ => .no
def isTy (t : Ty) (x : D) (h : Heap) : Option Bool :=
  match x with
  | .ref n => match h[n]? with
    | some (.lst _) => some (decide (t = .list))
    | _ => none
  | .non => some false
  | .bl _ => some (decide (t = .int) || decide (t = .bool))
  | .int _ => some (decide (t = .int))
  | .str _ => some (decide (t = .str))
  | .tup _ => some (decide (t = .tuple))
  | .seq _ => some (decide (t = .list))
  | .ctp _ => some (decide (t = .tuple))

/-! ### loops -/
/-- the lists that are walked stand as they were -/
def guards (g : List (Nat × O)) (h : Heap) : Bool := g.all fun p => decide (h[p.1]? = some p.2)
abbrev Walk := List D × List (Nat × O)
/-- a comprehension's items -/
def mapL {β : Type} (g : List (Nat × O)) (f : D → Heap → R (Option β × Heap)) : List D → Heap → R (List β × Heap)
  | [], h => chk (guards g h) (.ok ([], h))
  | x :: xs, h => chk (guards g h) ((f x h).nox.bind fun p => (mapL g f xs p.2).bind fun q => .ok ((match p.1 with
    | some y => y :: q.1
    | none => q.1), q.2))
/-- a dict comprehension's pairs -/
def dputM (acc : List (Key × D)) (k v : D) : Option (List (Key × D)) := (keyOf k).map fun k => putV acc k v
def mapD (g : List (Nat × O)) (f : D → Heap → R (Option (D × D) × Heap)) : List D → List (Key × D) → Heap → R (List (Key × D) × Heap)
  | [], acc, h => chk (guards g h) (.ok (acc, h))
  | x :: xs, acc, h => chk (guards g h) ((f x h).nox.bind fun p => match p.1 with
    | some y => chk (decide (acc.length < LIM)) (ofO (dputM acc y.1 y.2) fun acc => mapD g f xs acc p.2)
    | none => mapD g f xs acc p.2)
abbrev St := Fl × Env × Heap
def forL (g : List (Nat × O)) (f : D → Env → Heap → R St) : List D → Env → Heap → R St
  | [], ρ, h => chk (guards g h) (.ok (.nx, ρ, h))
  | x :: xs, ρ, h => chk (guards g h) ((f x ρ h).bind fun s => match s.1 with
    | .nx => forL g f xs s.2.1 s.2.2
    | .ct => forL g f xs s.2.1 s.2.2
    | .bk => .ok (.nx, s.2.1, s.2.2)
    | .rt d => .ok (.rt d, s.2.1, s.2.2)
    | .ex k fs => .ok (.ex k fs, s.2.1, s.2.2))
/-- an exception stops what runs, the slots being so -/
def lift {α : Type} (ρ : Env) : R α → (α → R St) → R St
  | .ok a, k => k a
  | .exc c fs h, _ => .ok (.ex c fs, ρ, h)
  | .no, _ => .no
def whL (c : Env → Heap → R (Bool × Heap)) (f : Env → Heap → R St) : Nat → Env → Heap → R St
  | 0, _, _ => .no
  | n + 1, ρ, h => lift ρ (c ρ h) fun p => match p.1 with
    | false => .ok (.nx, ρ, p.2)
    | true => (f ρ p.2).bind fun s => match s.1 with
      | .nx => whL c f n s.2.1 s.2.2
      | .ct => whL c f n s.2.1 s.2.2
      | .bk => .ok (.nx, s.2.1, s.2.2)
      | .rt d => .ok (.rt d, s.2.1, s.2.2)
      | .ex k fs => .ok (.ex k fs, s.2.1, s.2.2)
/-- more turns than any while of the programs takes -/
def FUEL : Nat := 1000000

/-! ### evaluation -/
abbrev Tbl := Nat → List D → Heap → R (D × Heap)
/-- functions, constants, classes of exceptions: each with those that it is one of -/
structure Ctx where
  T : Tbl
  cs : List D
  cl : List (List Nat × List Str)

mutual
def CT.slots : CT → List Nat
  | .name i => [i]
  | .tup ts => ts.slots
  | .sub _ _ => []
def CTs.slots : CTs → List Nat
  | .nil => []
  | .cons t ts => t.slots ++ ts.slots
end
def wipeE (ρ : Env) : List Nat → Env
  | [] => ρ
  | v :: vs => (wipeE ρ vs).set v none
def zipD : List D → List D → List D
  | x :: xs, y :: ys => .tup [x, y] :: zipD xs ys
  | _, _ => []
def enumD : Nat → List D → List D
  | _, [] => []
  | n, x :: xs => .tup [.int n, x] :: enumD (n + 1) xs
def rngD (lo : Int) : Nat → List D
  | 0 => []
  | n + 1 => .int lo :: rngD (lo + 1) n
def seqOf (d : D) (h : Heap) : Option Walk := match d with
  | .tup ds => some (ds, [])
  | .seq ds => some (ds, [])
  | .ctp ds => some (ds, [])
  | .ref n => match h[n]? with
    | some (.lst xs) => some (xs, [(n, .lst xs)])
    | _ => none
  | _ => none
/-- what holds items that a call may hand on: no constant -/
def seqH (d : D) (h : Heap) : Option Walk := match d with
  | .ctp _ => none
  | .tup ds => some (ds, [])
  | .seq ds => some (ds, [])
  | .ref n => match h[n]? with
    | some (.lst xs) => some (xs, [(n, .lst xs)])
    | _ => none
  | _ => none
def isTup : D → Bool
  | .tup _ => true
  | .ctp _ => true
  | _ => false
def rngOk (i : Int) : Bool := decide (-4611686018427387904 ≤ i) && decide (i < 4611686018427387904)
def isLst (d : D) (h : Heap) : Bool := match d with
  | .ref n => match h[n]? with
    | some (.lst _) => true
    | _ => false
  | _ => false
def appV (l v : D) (h : Heap) : R (D × Heap) := match l with
  | .ref n => match h[n]? with
    | some (.lst xs) => chk (decide (xs.length < LIM)) (.ok (.non, h.set n (.lst (xs ++ [v]))))
    | _ => .no
  | _ => .no
def popV (l : D) (h : Heap) : R (D × Heap) := match l with
  | .ref n => match h[n]? with
    | some (.lst xs) => ofO xs.getLast? fun d => .ok (d, h.set n (.lst xs.dropLast))
    | _ => .no
  | _ => .no
def popiV (l i : D) (h : Heap) : R (D × Heap) := match l, i with
  | .ref n, .int i => (match h[n]? with
    | some (.lst xs) => chk (decide (-1000000 ≤ i) && decide (i ≤ 1000000)) (ofO (nix xs.length i) fun j => ofO xs[j]? fun d => .ok (d, h.set n (.lst (xs.eraseIdx j))))
    | _ => .no)
  | _, _ => .no
def insG {α : Type} (le : α → α → Bool) (x : α) : List α → List α
  | [] => [x]
  | y :: ys => if le x y = true then x :: y :: ys else y :: insG le x ys
def srtG {α : Type} (le : α → α → Bool) : List α → List α
  | [] => []
  | x :: xs => insG le x (srtG le xs)
def leI (a b : Int) : Bool := decide (a ≤ b)
/-- strings, by their signs -/
def leS (a b : Str) : Bool := !decide (b.cps.toList < a.cps.toList)
/-- rows: tuples of numbers -/
def rowsI : List D → Option (List (List Int))
  | [] => some []
  | .tup ds :: r => (intsOf ds).bind fun n => (rowsI r).map (n :: ·)
  | _ => none
def ltR : List Int → List Int → Bool
  | [], [] => false
  | [], _ :: _ => true
  | _ :: _, [] => false
  | x :: xs, y :: ys => if x = y then ltR xs ys else decide (x < y)
def leR (a b : List Int) : Bool := !ltR b a
def nubR : List (List Int) → List (List Int)
  | [] => []
  | x :: xs => if x ∈ nubR xs then nubR xs else x :: nubR xs
def rowD (r : List Int) : D := .tup (r.map D.int)
/-- few rows of one length, not empty, of numbers from 0 on -/
def rowsOk (rs : List (List Int)) : Bool := decide (rs.length < 64) && rs.all fun r => decide (0 < r.length) && decide (r.length = (rs.headD []).length) && r.all fun x => decide (0 ≤ x)
/-- sorted(set(..)) of rows -/
def srtU (ds : List D) : Option (List D) := (rowsI ds).bind fun rs => if rowsOk rs = true then some ((srtG leR (nubR rs)).map rowD) else none
/-- the first of the least rows -/
def minRw (ds : List D) : Option D := (rowsI ds).bind fun rs => match rs with
  | [] => none
  | r :: rs => some (rowD (rs.foldl (fun a y => if ltR y a = true then y else a) r))
/-- the items, ascending: numbers alone, strings alone, rows alone -/
def srtV (ds : List D) : Option (List D) := match intsOf ds with
  | some is => some ((srtG leI is).map D.int)
  | none => match strsOf ds with
    | some ss => if ss.length < 64 then some ((srtG leS ss).map D.str) else none
    | none => (rowsI ds).bind fun rs => if rowsOk rs = true then some ((srtG leR rs).map rowD) else none
/-- a list's items -/
def lstOf (d : D) (h : Heap) : Option (List D) := match d with
  | .seq ds => some ds
  | .ref n => match h[n]? with
    | some (.lst xs) => some xs
    | _ => none
  | _ => none
/-- l.index(x) -/
def indexV (l x : D) (h : Heap) : R (D × Heap) := match l with
  | .ref n => match h[n]? with
    | some (.lst xs) => chk (D.deeps DEEP xs && x.deep DEEP) (ofO (xs.findIdx? fun z => eqd z x) fun j => .ok (.int (j : Nat), h))
    | _ => .no
  | _ => .no
def minV (ds : List D) : Option D := match intsOf ds with
  | some is => (minL is).map D.int
  | none => minRw ds
/-- max, min, all, any of a list -/
def sqLV (b : Sq) (ds : List D) (h : Heap) : R (D × Heap) := match b with
  | .max => ofO (intsOf ds) fun is => ofO (maxL is) fun m => .ok (.int m, h)
  | .min => ofO (minV ds) fun m => .ok (m, h)
  | .all => ofO (boolsOf ds) fun bs => .ok (.bl (bs.all id), h)
  | .any => ofO (boolsOf ds) fun bs => .ok (.bl (bs.any id), h)
  | _ => .no
/-- the same of a kept one; of a tuple min of rows alone -/
def sqEV (b : Sq) (d : D) (h : Heap) : R (D × Heap) := match d with
  | .tup ds => (match b with
    | .min => ofO (minRw ds) fun m => .ok (m, h)
    | _ => .no)
  | _ => ofO (lstOf d h) fun ds => sqLV b ds h
/-- t[::-1], t[:0:-1] -/
def backV (b : Bool) (d : D) (h : Heap) : R (D × Heap) := match d with
  | .tup ds => .ok (.tup (if b = true then (ds.drop 1).reverse else ds.reverse), h)
  | _ => .no
def isDct (d : D) (h : Heap) : Bool := match d with
  | .ref n => match h[n]? with
    | some (.dct _) => true
    | some (.dtt _) => true
    | _ => false
  | _ => false
/-- d.get(k, x) -/
def getV2 (d k x : D) (h : Heap) : R (D × Heap) := match d with
  | .ref n => match h[n]? with
    | some (.dct kvs) => ofO (keyOf k) fun k => .ok ((findV kvs k).getD x, h)
    | some (.dtt kvs) => ofO (keyT k) fun k => .ok ((findV kvs k).getD x, h)
    | _ => .no
  | _ => .no
/-- range with a step -/
def r3Ok (i : Int) : Bool := decide (-1000000 ≤ i) && decide (i ≤ 1000000)
def cntR (i j k : Int) : Nat := if 0 < k then (if i < j then ((j - i - 1) / k + 1).toNat else 0) else (if j < i then ((i - j - 1) / -k + 1).toNat else 0)
def rngS (i k : Int) (n : Nat) : List D := (List.range n).map fun (m : Nat) => .int (i + (m : Int) * k)
/-- keywords' values in the parameters' sequence -/
def selD {α : Type} (ix : List Nat) (ds : List α) : List α := ix.filterMap fun i => ds[i]?
def extV (l : D) (vs : List D) (h : Heap) : R (D × Heap) := match l with
  | .ref n => match h[n]? with
    | some (.lst xs) => chk (decide (xs.length + vs.length ≤ LIM)) (.ok (.non, h.set n (.lst (xs ++ vs))))
    | _ => .no
  | _ => .no
def dbuild : List (D × D) → List (Key × D) → R (List (Key × D))
  | [], acc => .ok acc
  | (k, v) :: r, acc => chk (decide (acc.length < LIM)) (ofO (dputM acc k v) fun acc => dbuild r acc)
def dbuildT : List (D × D) → List (List Key × D) → R (List (List Key × D))
  | [], acc => .ok acc
  | (k, v) :: r, acc => chk (decide (acc.length < LIM)) (ofO (keyT k) fun k => dbuildT r (putV acc k v))
def isKT : List (D × D) → Bool
  | (.tup _, _) :: _ => true
  | _ => false
def dbuildO (ps : List (D × D)) : R O := match isKT ps with
  | true => (dbuildT ps []).bind fun kvs => .ok (.dtt kvs)
  | false => (dbuild ps []).bind fun kvs => .ok (.dct kvs)

mutual
def ev (c : Ctx) : CE → Env → Heap → R (D × Heap)
  | .var i, ρ, h => (match ρ[i]? with
    | some (some d) => .ok (d, h)
    | _ => .no)
  | .int i, _, h => .ok (.int i, h)
  | .bl b, _, h => .ok (.bl b, h)
  | .non, _, h => .ok (.non, h)
  | .str s, _, h => .ok (.str s, h)
  | .cst i, _, h => ofO c.cs[i]? fun d => .ok (d, h)
  | .bin op a b, ρ, h => (ev c a ρ h).bind fun x => (ev c b ρ x.2).bind fun y => opB op x.1 y.1 y.2
  | .cmp op a b, ρ, h => (ev c a ρ h).bind fun x => (ev c b ρ x.2).bind fun y => opC op x.1 y.1 y.2
  | .chain o1 o2 a b d, ρ, h => (ev c a ρ h).bind fun x => (ev c b ρ x.2).bind fun y => (opC o1 x.1 y.1 y.2).bind fun z =>
    match z.1 with
    | .bl false => .ok (.bl false, z.2)
    | .bl true => (ev c d ρ z.2).bind fun w => opC o2 y.1 w.1 w.2
    | _ => .no
  | .and a b, ρ, h => (ev c a ρ h).bind fun x => ofO (truth x.1 x.2) fun t => match t with
    | true => ev c b ρ x.2
    | false => .ok x
  | .or a b, ρ, h => (ev c a ρ h).bind fun x => ofO (truth x.1 x.2) fun t => match t with
    | true => .ok x
    | false => ev c b ρ x.2
  | .not a, ρ, h => (tv c a ρ h).bind fun x => .ok (.bl (!x.1), x.2)
  | .neg a, ρ, h => (ev c a ρ h).bind fun x => match x.1 with
    | .int i => .ok (.int (-i), x.2)
    | _ => .no
  | .ite t a b, ρ, h => (tv c t ρ h).bind fun x => match x.1 with
    | true => ev c a ρ x.2
    | false => ev c b ρ x.2
  | .idx a i, ρ, h => (ev c a ρ h).bind fun x => (ev c i ρ x.2).bind fun y => idxV x.1 y.1 y.2
  | .slc a lo hi, ρ, h => (ev c a ρ h).bind fun x => (evO c lo ρ x.2).bind fun l => (evO c hi ρ l.2).bind fun u => slcV x.1 l.1 u.1 u.2
  | .tup es, ρ, h => (evs c es ρ h).bind fun x => chk (decide (x.1.length ≤ LIM)) (.ok (.tup x.1, x.2))
  | .new l, ρ, h => (evL c l ρ h).bind fun x => .ok (.ref x.2.length, x.2 ++ [.lst x.1])
  | .dct ps, ρ, h => (evP c ps ρ h).bind fun x => (dbuildO x.1).bind fun o => .ok (.ref x.2.length, x.2 ++ [o])
  | .dcomp k v t it cd, ρ, h => (evI c it ρ h).bind fun w =>
    ((mapD w.1.2 (fun x h => (asg c t x (wipeE ρ t.slots) h).bind fun s => (tvO c cd s.1 s.2).bind fun b => match b.1 with
      | true => (ev c k s.1 b.2).bind fun y => (ev c v s.1 y.2).bind fun z => .ok (some (y.1, z.1), z.2)
      | false => .ok (none, b.2)) w.1.1 [] w.2).bind fun x => .ok (.ref x.2.length, x.2 ++ [.dct x.1]))
  | .call f as, ρ, h => (evs c as ρ h).bind fun x => c.T f x.1 x.2
  | .bi b as, ρ, h => (evs c as ρ h).bind fun x => biV b x.1 x.2
  | .sq b s, ρ, h => (evQ c s ρ h).bind fun x => sqV b x.1 x.2
  | .isin e t, ρ, h => (ev c e ρ h).bind fun x => ofO (isTy t x.1 x.2) fun b => .ok (.bl b, x.2)
  | .app l e, ρ, h => (ev c l ρ h).bind fun x => chk (isLst x.1 x.2) ((ev c e ρ x.2).bind fun y => appV x.1 y.1 y.2)
  | .ext l s, ρ, h => (ev c l ρ h).bind fun x => chk (isLst x.1 x.2) ((evL c s ρ x.2).bind fun y => extV x.1 y.1 y.2)
  | .callK f ix as bs, ρ, h => (evs c as ρ h).bind fun x => (evs c bs ρ x.2).bind fun y => c.T f (x.1 ++ selD ix y.1) y.2
  | .pop l, ρ, h => (ev c l ρ h).bind fun x => popV x.1 x.2
  | .index l e, ρ, h => (ev c l ρ h).bind fun x => chk (isLst x.1 x.2) ((ev c e ρ x.2).bind fun y => indexV x.1 y.1 y.2)
  | .sqL b l, ρ, h => (evL c l ρ h).bind fun x => sqLV b x.1 x.2
  | .sqE b e, ρ, h => (ev c e ρ h).bind fun x => sqEV b x.1 x.2
  | .trev e, ρ, h => (ev c e ρ h).bind fun x => ofO (lstOf x.1 x.2) fun ds => .ok (.tup ds.reverse, x.2)
  | .get2 d k x, ρ, h => (ev c d ρ h).bind fun a => chk (isDct a.1 a.2) ((ev c k ρ a.2).bind fun b => (ev c x ρ b.2).bind fun z => getV2 a.1 b.1 z.1 z.2)
  | .back e b, ρ, h => (ev c e ρ h).bind fun x => backV b x.1 x.2
  | .popi l i, ρ, h => (ev c l ρ h).bind fun x => chk (isLst x.1 x.2) ((ev c i ρ x.2).bind fun y => popiV x.1 y.1 y.2)
  | .stuck, _, _ => .no
/-- a test -/
def tv (c : Ctx) : CB → Env → Heap → R (Bool × Heap)
  | .and a b, ρ, h => (tv c a ρ h).bind fun x => match x.1 with
    | true => tv c b ρ x.2
    | false => .ok (false, x.2)
  | .or a b, ρ, h => (tv c a ρ h).bind fun x => match x.1 with
    | true => .ok (true, x.2)
    | false => tv c b ρ x.2
  | .not a, ρ, h => (tv c a ρ h).bind fun x => .ok (!x.1, x.2)
  | .ite t a b, ρ, h => (tv c t ρ h).bind fun x => match x.1 with
    | true => tv c a ρ x.2
    | false => tv c b ρ x.2
  | .val e, ρ, h => (ev c e ρ h).bind fun x => ofO (truth x.1 x.2) fun b => .ok (b, x.2)
def tvO (c : Ctx) : CBO → Env → Heap → R (Bool × Heap)
  | .none, _, h => .ok (true, h)
  | .some e, ρ, h => tv c e ρ h
def evO (c : Ctx) : CO → Env → Heap → R (Option Int × Heap)
  | .none, _, h => .ok (none, h)
  | .some e, ρ, h => (ev c e ρ h).bind fun x => match x.1 with
    | .int i => .ok (some i, x.2)
    | _ => .no
def evs (c : Ctx) : CEs → Env → Heap → R (List D × Heap)
  | .nil, _, h => .ok ([], h)
  | .cons e es, ρ, h => (ev c e ρ h).bind fun x => (evs c es ρ x.2).bind fun y => .ok (x.1 :: y.1, y.2)
def evP (c : Ctx) : CPs → Env → Heap → R (List (D × D) × Heap)
  | .nil, _, h => .ok ([], h)
  | .cons k v ps, ρ, h => (ev c k ρ h).bind fun x => (ev c v ρ x.2).bind fun y => (evP c ps ρ y.2).bind fun z => .ok ((x.1, y.1) :: z.1, z.2)
/-- a new list's items -/
def evL (c : Ctx) : CL → Env → Heap → R (List D × Heap)
  | .comp e t it cd, ρ, h => (evI c it ρ h).bind fun w => chk (decide (w.1.1.length < LIM))
    (mapL w.1.2 (fun x h => (asg c t x (wipeE ρ t.slots) h).bind fun s => (tvO c cd s.1 s.2).bind fun b => match b.1 with
      | true => (ev c e s.1 b.2).bind fun y => .ok (some y.1, y.2)
      | false => .ok (none, b.2)) w.1.1 w.2)
  | .disp es, ρ, h => (evs c es ρ h).bind fun x => chk (decide (x.1.length ≤ LIM)) (.ok x)
  | .rep es n, ρ, h => (evs c es ρ h).bind fun x => chk (decide (x.1.length ≤ LIM)) ((ev c n ρ x.2).bind fun y => match y.1 with
    | .int k => chk (rngOk k && decide (x.1.length * k.toNat ≤ LIM)) (.ok ((List.replicate k.toNat x.1).flatten, y.2))
    | _ => .no)
  | .of s, ρ, h => evQ c s ρ h
  | .srt l, ρ, h => (evL c l ρ h).bind fun x => ofO (srtV x.1) fun ds => .ok (ds, x.2)
  | .srtE e, ρ, h => (ev c e ρ h).bind fun x => ofO (lstOf x.1 x.2) fun xs => ofO (srtV xs) fun ds => .ok (ds, x.2)
  | .srtC e t it cd, ρ, h => ((evI c it ρ h).bind fun w => chk (decide (w.1.1.length < LIM))
    (mapL w.1.2 (fun x h => (asg c t x (wipeE ρ t.slots) h).bind fun s => (tvO c cd s.1 s.2).bind fun b => match b.1 with
      | true => (ev c e s.1 b.2).bind fun y => .ok (some y.1, y.2)
      | false => .ok (none, b.2)) w.1.1 w.2)).bind fun x => ofO (srtU x.1) fun ds => .ok (ds, x.2)
  | .srtS l, ρ, h => (evL c l ρ h).bind fun x => ofO (srtU x.1) fun ds => .ok (ds, x.2)
/-- what is walked: its items, the lists that must stand -/
def evI (c : Ctx) : CI → Env → Heap → R (Walk × Heap)
  | .val e, ρ, h => (ev c e ρ h).bind fun x => ofO (seqOf x.1 x.2) fun w => .ok (w, x.2)
  | .tmp l, ρ, h => (evL c l ρ h).bind fun x => .ok ((x.1, []), x.2)
  | .rng1 a, ρ, h => (ev c a ρ h).bind fun x => match x.1 with
    | .int j => chk (rngOk j) (.ok ((rngD 0 j.toNat, []), x.2))
    | _ => .no
  | .rng2 a b, ρ, h => (ev c a ρ h).bind fun x => (ev c b ρ x.2).bind fun y => match x.1, y.1 with
    | .int i, .int j => chk (rngOk i && rngOk j) (.ok ((rngD i (j - i).toNat, []), y.2))
    | _, _ => .no
  | .rev e, ρ, h => (ev c e ρ h).bind fun x => ofO (seqOf x.1 x.2) fun w => .ok ((w.1.reverse, w.2), x.2)
  | .rng3 a b d, ρ, h => (ev c a ρ h).bind fun x => (ev c b ρ x.2).bind fun y => (ev c d ρ y.2).bind fun z => match x.1, y.1, z.1 with
    | .int i, .int j, .int k => chk (r3Ok i && r3Ok j && r3Ok k && decide (k ≠ 0)) (.ok ((rngS i k (cntR i j k), []), z.2))
    | _, _, _ => .no
  | .enum e, ρ, h => (ev c e ρ h).bind fun x => ofO (seqOf x.1 x.2) fun w => .ok ((enumD 0 w.1, w.2), x.2)
  | .zip a b, ρ, h => (ev c a ρ h).bind fun x => (ev c b ρ x.2).bind fun y => ofO (seqOf x.1 y.2) fun w => ofO (seqOf y.1 y.2) fun w' => chk (decide (isTup x.1 = isTup y.1)) (.ok ((zipD w.1 w'.1, w.2 ++ w'.2), y.2))
/-- the items of a sequence that a built-in takes -/
def evQ (c : Ctx) : CI → Env → Heap → R (List D × Heap)
  | .val e, ρ, h => (ev c e ρ h).bind fun x => ofO (seqH x.1 x.2) fun w => .ok (w.1, x.2)
  | .tmp l, ρ, h => evL c l ρ h
  | _, _, _ => .no
def asg (c : Ctx) : CT → D → Env → Heap → R (Env × Heap)
  | .name i, d, ρ, h => .ok (ρ.set i (some d), h)
  | .tup ts, d, ρ, h => (match d with
    | .tup ds => asgs c ts ds ρ h
    | _ => .no)
  | .sub o i, d, ρ, h => (ev c o ρ h).bind fun x => (ev c i ρ x.2).bind fun y => (storeV x.1 y.1 d y.2).bind fun h => .ok (ρ, h)
def asgs (c : Ctx) : CTs → List D → Env → Heap → R (Env × Heap)
  | .nil, ds, ρ, h => (match ds with
    | [] => .ok (ρ, h)
    | _ => .no)
  | .cons t ts, ds, ρ, h => (match ds with
    | [] => .no
    | d :: ds => (asg c t d ρ h).bind fun s => asgs c ts ds s.1 s.2)
end

/-- an exception's field -/
def fldV : List Str → List D → Str → Option D
  | g :: gs, d :: ds, f => if g = f then some d else fldV gs ds f
  | _, _, _ => none
def atV (fl : List Str) (fs : List D) : CAt → Option D
  | .str s => some (.str s)
  | .int i => some (.int i)
  | .bl b => some (.bl b)
  | .non => some .non
  | .fld f => fldV fl fs f
def atsV (fl : List Str) (fs : List D) : List CAt → Option (List D)
  | [] => some []
  | a :: as => (atV fl fs a).bind fun d => (atsV fl fs as).map (d :: ·)
def cxV (fl : List Str) (fs : List D) : CX → Option D
  | .at a => atV fl fs a
  | .tup as => (atsV fl fs as).map D.tup
def suV (fl : List Str) (fs : List D) (ρ : Env) (h : Heap) : CSu → R St
  | .ret e => ofO (cxV fl fs e) fun d => .ok (.rt d, ρ, h)
  | .asg i e => ofO (cxV fl fs e) fun d => .ok (.nx, ρ.set i (some d), h)
def wipeO (ρ : Env) : Option Nat → Env
  | some i => ρ.set i none
  | none => ρ
def wipeB (ρ : Env) : Option Nat → Bool
  | some i => decide (i < ρ.length)
  | none => true
/-- the clauses, one after the other -/
def catchV (cl : List (List Nat × List Str)) (k : Nat) (fs : List D) (ρ : Env) (h : Heap) : List CH → R St
  | [] => .ok (.ex k fs, ρ, h)
  | x :: xs => ofO cl[k]? fun l => if l.1.contains x.k = true then chk (wipeB ρ x.nm) (suV l.2 fs (wipeO ρ x.nm) h x.su) else catchV cl k fs ρ h xs
mutual
def exec (c : Ctx) : CS → Env → Heap → R St
  | .asg t e, ρ, h => lift ρ (ev c e ρ h) fun x => (asg c t x.1 ρ x.2).nox.bind fun s => .ok (.nx, s.1, s.2)
  | .aug i op e, ρ, h => (match ρ[i]? with
    | some (some d) => lift ρ (ev c e ρ h) fun x => (opI op d x.1 x.2).bind fun y => .ok (.nx, ρ.set i (some y.1), y.2)
    | _ => .no)
  | .ex e, ρ, h => lift ρ (ev c e ρ h) fun x => .ok (.nx, ρ, x.2)
  | .ret e, ρ, h => lift ρ (ev c e ρ h) fun x => .ok (.rt x.1, ρ, x.2)
  | .retN, ρ, h => .ok (.rt .non, ρ, h)
  | .ite t a b, ρ, h => lift ρ (tv c t ρ h) fun x => match x.1 with
    | true => execs c a ρ x.2
    | false => execs c b ρ x.2
  | .loop t s b, ρ, h => lift ρ (evI c s ρ h) fun w => forL w.1.2 (fun x ρ h => (asg c t x ρ h).nox.bind fun s => execs c b s.1 s.2) w.1.1 ρ w.2
  | .wh t b, ρ, h => whL (tv c t) (execs c b) FUEL ρ h
  | .brk, ρ, h => .ok (.bk, ρ, h)
  | .cnt, ρ, h => .ok (.ct, ρ, h)
  | .pass, ρ, h => .ok (.nx, ρ, h)
  | .raise k es, ρ, h => (evs c es ρ h).nox.bind fun x => .ok (.ex k x.1, ρ, x.2)
  | .tr b hs, ρ, h => (execs c b ρ h).bind fun s => match s.1 with
    | .ex k fs => catchV c.cl k fs s.2.1 s.2.2 hs
    | _ => .ok s
  | .stuck, _, _ => .no
def execs (c : Ctx) : CSs → Env → Heap → R St
  | .nil, ρ, h => .ok (.nx, ρ, h)
  | .cons s r, ρ, h => (exec c s ρ h).bind fun x => match x.1 with
    | .nx => execs c r x.2.1 x.2.2
    | _ => .ok x
end

/-! ### functions -/
structure Fn where
  name : Str
  ps : List Str
  N : List Str
  body : CSs
structure Pg where
  fns : List Fn
  cs : List D
  cl : List (List Nat × List Str) := []

/-- the module's names: functions with their numbers of parameters, constants, the built-ins' names that nothing hides -/
structure GI where
  fns : List (Str × List Str)
  cs : List Str
  bl : List Str
  /-- classes of exceptions: name, fields -/
  cl : List (Str × List Str) := []
mutual
def D.low (n : Nat) : D → Bool
  | .ref m => decide (m < n)
  | .tup ds => D.lows n ds
  | .seq ds => D.lows n ds
  | .ctp ds => D.lows n ds
  | _ => true
def D.lows (n : Nat) : List D → Bool
  | [] => true
  | d :: ds => d.low n && D.lows n ds
end
def O.low (n : Nat) : O → Bool
  | .lst xs => D.lows n xs
  | .dct kvs => D.lows n (kvs.map (·.2))
  | .dtt kvs => D.lows n (kvs.map (·.2))
/-- what was made in a call and is not handed out is forgotten -/
def tidy (h : Heap) (r : D × Heap) : D × Heap :=
  if r.1.low h.length = true ∧ h.length ≤ r.2.length ∧ ∀ i, i < h.length → r.2[i]? = h[i]? ∨ (∃ o, r.2[i]? = some o ∧ o.low h.length = true) then (r.1, r.2.take h.length) else r
def startE (n : Nat) (ds : List D) : Env := ds.map some ++ List.replicate (n - ds.length) none
def fin (h : Heap) (s : St) : R (D × Heap) := match s.1 with
  | .rt d => .ok (tidy h (d, s.2.2))
  | .nx => .ok (tidy h (.non, s.2.2))
  | .ex c fs => .exc c fs (tidy h (.tup fs, s.2.2)).2
  | _ => .no
def callI (P : Pg) : Nat → Tbl
  | 0, _, _, _ => .no
  | k + 1, f, ds, h => ofO P.fns[f]? fun fn => chk (decide (ds.length = fn.ps.length)) ((execs ⟨callI P k, P.cs, P.cl⟩ fn.body (startE fn.N.length ds) h).bind (fin h))
theorem callI_eq {P : Pg} {k i : Nat} {fn : Fn} {ds : List D} {h : Heap} (hi : P.fns[i]? = some fn) (hl : ds.length = fn.ps.length) : callI P (k + 1) i ds h = (execs ⟨callI P k, P.cs, P.cl⟩ fn.body (startE fn.N.length ds) h).bind (fin h) := by
  show ofO P.fns[i]? _ = _
  rw [hi]
  show chk (decide (ds.length = fn.ps.length)) _ = _
  rw [decide_eq_true hl]
  rfl
end Tw
end

section
set_option Elab.async false
set_option linter.all false
set_option maxRecDepth 100000
set_option maxHeartbeats 4000000
/-! A tuple times 1, times 0. Own work. -/
namespace Tw
open PySem PySem.Spec PyProof.Rows L2
theorem tuple_mul1 (l : Addr) (items : Array Value) (n : Nat) (dd : Option Addr) (sl : Array (Option Value)) (u : Tok) :
    Meets (Builtin.«tuple.__mul__» ⟨[.ref l, .int 1 u], []⟩) (fun _ R s => s.heap.get? l = some { cls := .type "tuple", dict := dd, data := .seq items n, slots := sl } ∧ R (.ok (.ret (Value.ref l))) s) :=
  .of_wp fun prog w A R s h => by
    obtain ⟨hp, g, d, tk, os⟩ := s
    obtain ⟨hl, h⟩ := h
    have f1 := AutoSeq1.idx_int
    wp_walk using wpAny_loadPart' hl
    repeat (first
      | (refine wpAny_ite_false (by decide) ?_; wp_walk using wpAny_loadPart' hl)
      | (refine wpAny_ite_true (by simp) ?_; wp_walk using wpAny_loadPart' hl))
    exact ⟨_, rfl, h⟩
theorem tuple_mul0 (l : Addr) (items : Array Value) (n : Nat) (dd : Option Addr) (sl : Array (Option Value)) (u : Tok) (c1 : (items.isEmpty || (0 : Int) == 1) = false) :
    Meets (Builtin.«tuple.__mul__» ⟨[.ref l, .int 0 u], []⟩) (fun _ R s => s.heap.get? l = some { cls := .type "tuple", dict := dd, data := .seq items n, slots := sl } ∧
      R (.ok (.ret (Value.ref s.heap.objs.size))) { s with heap := s.heap.push { cls := Value.type "tuple", data := Data.seq #[] }, toks := s.toks }) :=
  .of_wp fun prog w A R s h => by
    obtain ⟨hp, g, d, tk, os⟩ := s
    obtain ⟨hl, h⟩ := h
    have f1 := AutoSeq1.idx_int
    wp_walk using wpAny_loadPart' hl
    repeat (first
      | (refine wpAny_ite_false (by decide) ?_; wp_walk using wpAny_loadPart' hl)
      | (refine wpAny_ite_false (decide_eq_false (by rw [c1]; exact Bool.false_ne_true)) ?_; wp_walk using wpAny_loadPart' hl)
      | (refine wpAny_ite_true (by simp) ?_; wp_walk using wpAny_loadPart' hl))
    exact ⟨_, rfl, h⟩
def rRepT1 (K : PySem.W.Frag) : R2 := fun x y H Q => ∃ l xs, x = .ref l ∧ y = .int 1 ∧ SqT K H l xs ∧ Q (.ref l) H
def rRepT0 (K : PySem.W.Frag) : R2 := fun x y H Q => ∃ l xs, x = .ref l ∧ y = .int 0 ∧ SqT K H l xs ∧ xs ≠ [] ∧ ∀ p, H p = none → Q (.ref p) (upd H p (.tup []))
section
variable {X : Cx}
theorem op_repT1 : OpR X (binaryOp .Mult) (rRepT1 X.K) := by
  intro pins s σ H x y v u Q I rx ry h
  obtain ⟨l, xs, rfl, rfl, hT, q⟩ := h
  cases rx
  obtain ⟨t, rfl⟩ := ry
  obtain ⟨its, r, ⟨⟨cls, dd, data, sl⟩, ho, hc, n, hd⟩, hs⟩ := I.tuple hT
  simp only at hc hd
  subst hc hd
  refine wpAny_binaryOp_repeat_ref (T := "tuple") (U := "int") (by decide) ⟨_, ho, rfl⟩ (fun s' => typeIs_int s' 1 t) noFill_tuple_mul F.fills_int_mul F.slot_int_rmul repeat_tuple F.slot_int_index.lookup
    (call_meets F.slot_int_rmul (typeIs_int s 1 t) F.entry_int_rmul (F.args_int_rmul_2 _ _) (int_rmul_tuple 1 t l its.toArray n dd sl)
      ⟨ho, rfl, ⟨_, ho, rfl⟩, call_meets F.slot_tuple_mul ⟨_, ho, rfl⟩ F.entry_tuple_mul (F.args_tuple_mul_2 _ _) (tuple_mul1 l its.toArray n dd sl t) ⟨ho, ?_⟩⟩)
  exact ⟨.ref l, H, I, rfl, q⟩
theorem op_repT0 : OpR X (binaryOp .Mult) (rRepT0 X.K) := by
  intro pins s σ H x y v u Q I rx ry h
  obtain ⟨l, xs, rfl, rfl, hT, hne, q⟩ := h
  cases rx
  obtain ⟨t, rfl⟩ := ry
  obtain ⟨its, r, ⟨⟨cls, dd, data, sl⟩, ho, hc, n, hd⟩, hs⟩ := I.tuple hT
  simp only at hc hd
  subst hc hd
  have hle : its.length = xs.length := r.length.symm
  have c1 : (its.toArray.isEmpty || (0 : Int) == 1) = false := by
    cases its with
    | nil => exact absurd (List.eq_nil_of_length_eq_zero hle.symm) hne
    | cons a b => rfl
  refine wpAny_binaryOp_repeat_ref (T := "tuple") (U := "int") (by decide) ⟨_, ho, rfl⟩ (fun s' => typeIs_int s' 0 t) noFill_tuple_mul F.fills_int_mul F.slot_int_rmul repeat_tuple F.slot_int_index.lookup
    (call_meets F.slot_int_rmul (typeIs_int s 0 t) F.entry_int_rmul (F.args_int_rmul_2 _ _) (int_rmul_tuple 0 t l its.toArray n dd sl)
      ⟨ho, rfl, ⟨_, ho, rfl⟩, call_meets F.slot_tuple_mul ⟨_, ho, rfl⟩ F.entry_tuple_mul (F.args_tuple_mul_2 _ _) (tuple_mul0 l its.toArray n dd sl t c1) ⟨ho, ?_⟩⟩)
  refine ⟨.ref s.heap.objs.size, _, I.laid (t' := s.toks) (o := .tup []) (fun b ob q => Heap.get?_push_of_some _ q) (Nat.le_refl _) ?_, rfl, q _ (I.hok.fresh (Nat.le_refl _))⟩
  exact ⟨Nat.zero_le _, [], .nil, IsTup.new _ _⟩
end
end Tw
end

section
set_option Elab.async false
set_option linter.all false
set_option maxRecDepth 100000
set_option maxHeartbeats 4000000
/-! What the machine's values and heaps have to do with data and heaps of the core language. Own work. -/
namespace Tw
open PySem PySem.Spec PyProof.Rows L2

abbrev Frg := PySem.W.Frag
/-- a list that nothing writes: locked, or of the module -/
def SqF (K : Frg) (H : Hp) (a : Addr) (xs : List V) : Prop :=
  (∃ o, H a = some (.frz o (.lst xs))) ∨
    ∃ (o : Obj) (its : Array Value) (n : Nat), K.lookup a = some o ∧ o.cls = .type "list" ∧ o.dict = none ∧ o.data = .seq its n ∧ its.size ≤ sizeLine ∧ Vals xs its.toList
theorem SqF.sq {K : Frg} {H : Hp} {a : Addr} {xs : List V} (h : SqF K H a xs) : SqL K H a xs := by
  rcases h with ⟨o, h⟩ | h
  · exact .inl (.inr ⟨o, h⟩)
  · exact .inr h

/-- a tuple that the heap tracks -/
def TupH (H : Hp) (a : Addr) (vs : List V) : Prop := H a = some (.tup vs)
theorem TupH.sq {K : Frg} {H : Hp} {a : Addr} {vs : List V} (h : TupH H a vs) : SqT K H a vs := SqT.of h
instance {K : Frg} {H : Hp} {a : Addr} {vs : List V} : Coe (TupH H a vs) (SqT K H a vs) := ⟨TupH.sq⟩
mutual
def Rep (K : Frg) (H : Hp) (ι : List Addr) : D → V → Prop
  | .non, v => v = .non
  | .bl b, v => v = .bl b
  | .int i, v => v = .int i
  | .str s, v => v = .str s
  | .tup ds, v => ∃ a vs, v = .ref a ∧ TupH H a vs ∧ Reps K H ι ds vs
  | .ctp ds, v => ∃ a vs, v = .ref a ∧ SqT K H a vs ∧ Reps K H ι ds vs
  | .seq ds, v => ∃ a vs, v = .ref a ∧ SqF K H a vs ∧ Reps K H ι ds vs
  | .ref n, v => ∃ a, v = .ref a ∧ ι[n]? = some a
def Reps (K : Frg) (H : Hp) (ι : List Addr) : List D → List V → Prop
  | [], vs => vs = []
  | d :: ds, vs => ∃ v r, vs = v :: r ∧ Rep K H ι d v ∧ Reps K H ι ds r
end
/-- a dict's pairs -/
def RepK {κ : Type} (K : Frg) (H : Hp) (ι : List Addr) (kvs : List (κ × D)) (ws : List (κ × V)) : Prop :=
  kvs.map (·.1) = ws.map (·.1) ∧ Reps K H ι (kvs.map (·.2)) (ws.map (·.2))
def OOk (K : Frg) (H : Hp) (ι : List Addr) (a : Addr) : O → Prop
  | .lst xs => ∃ vs, H a = some (.lst vs) ∧ Reps K H ι xs vs
  | .dct kvs => ∃ ws, H a = some (.dK ws) ∧ RepK K H ι kvs ws
  | .dtt kvs => ∃ ws, H a = some (.dT ws) ∧ RepK K H ι kvs ws
structure HpRep (K : Frg) (H : Hp) (ι : List Addr) (hp : Heap) : Prop where
  len : ι.length = hp.length
  nd : ι.Nodup
  ok : ∀ (n : Nat) (o : O) (a : Addr), hp[n]? = some o → ι[n]? = some a → OOk K H ι a o
def SRep (K : Frg) (H : Hp) (ι : List Addr) (σ : L2.St) (ρ : Env) : Prop :=
  σ.length = ρ.length ∧ ∀ (i : Nat) (d : D), ρ[i]? = some (some d) → ∃ v, σ[i]? = some (some v) ∧ Rep K H ι d v
/-- from one state to a later one -/
structure Step (ι : List Addr) (H : Hp) (ι' : List Addr) (H' : Hp) : Prop where
  pre : ∃ κ, ι' = ι ++ κ
  new : ∀ a ∈ ι', a ∈ ι ∨ H a = none
  kp : ∀ a o, H a = some o → a ∉ ι → H' a = some o

theorem Step.refl {ι : List Addr} {H : Hp} : Step ι H ι H := ⟨⟨[], by simp⟩, fun a h => .inl h, fun a o h _ => h⟩
theorem Step.trans {ι ι1 ι2 : List Addr} {H H1 H2 : Hp} (a : Step ι H ι1 H1) (b : Step ι1 H1 ι2 H2) : Step ι H ι2 H2 := by
  refine ⟨?_, fun x hx => ?_, fun x o h n => ?_⟩
  · obtain ⟨κ, e⟩ := a.pre
    obtain ⟨μ, e'⟩ := b.pre
    exact ⟨κ ++ μ, by rw [e', e, List.append_assoc]⟩
  · rcases b.new x hx with h | h
    · exact a.new x h
    · by_cases hm : x ∈ ι
      · exact .inl hm
      · refine .inr ?_
        cases q : H x with
        | none => rfl
        | some o => rw [a.kp x o q hm] at h; cases h
  · refine b.kp x o (a.kp x o h n) fun hx => ?_
    rcases a.new x hx with z | z
    · exact n z
    · rw [z] at h; cases h

section
variable {K : Frg} {H H' : Hp} {ι ι' : List Addr} {hp hp' : Heap}
theorem HpRep.mut (h : HpRep K H ι hp) {a : Addr} (ha : a ∈ ι) : (∃ vs, H a = some (.lst vs)) ∨ (∃ ws, H a = some (.dK ws)) ∨ ∃ ws, H a = some (.dT ws) := by
  obtain ⟨n, hn, e⟩ := List.getElem_of_mem ha
  have hl : n < hp.length := h.len ▸ hn
  have q := h.ok n hp[n] a (by simp [hl]) (by simp [hn, e])
  cases ho : hp[n] with
  | lst xs => rw [ho] at q; obtain ⟨vs, q, _⟩ := q; exact .inl ⟨vs, q⟩
  | dct kvs => rw [ho] at q; obtain ⟨ws, q, _⟩ := q; exact .inr (.inl ⟨ws, q⟩)
  | dtt kvs => rw [ho] at q; obtain ⟨ws, q, _⟩ := q; exact .inr (.inr ⟨ws, q⟩)
theorem HpRep.sqT (h : HpRep K H ι hp) (s : Step ι H ι' H') {a : Addr} {xs : List V} (t : SqT K H a xs) : SqT K H' a xs := by
  have nm : ∀ u, H a = some u → (∀ vs, u ≠ .lst vs) → (∀ ws, u ≠ .dK ws) → (∀ ws, u ≠ .dT ws) → H' a = some u := fun u e n1 n2 n3 => s.kp a u e fun hm => by
    rcases h.mut hm with ⟨vs, q⟩ | ⟨ws, q⟩ | ⟨ws, q⟩
    · rw [e] at q; exact n1 vs (Option.some.inj q)
    · rw [e] at q; exact n2 ws (Option.some.inj q)
    · rw [e] at q; exact n3 ws (Option.some.inj q)
  rcases t with (t | ⟨o, t⟩) | t
  · exact .inl (.inl (nm _ t (fun _ z => nomatch z) (fun _ z => nomatch z) fun _ z => nomatch z))
  · exact .inl (.inr ⟨o, nm _ t (fun _ z => nomatch z) (fun _ z => nomatch z) fun _ z => nomatch z⟩)
  · exact .inr t
theorem HpRep.tupH (h : HpRep K H ι hp) (s : Step ι H ι' H') {a : Addr} {xs : List V} (t : TupH H a xs) : TupH H' a xs := by
  refine s.kp a _ t fun hm => ?_
  have t : H a = some (.tup xs) := t
  rcases h.mut hm with ⟨vs, q⟩ | ⟨ws, q⟩ | ⟨ws, q⟩ <;> (rw [t] at q; cases q)
theorem HpRep.sqF (h : HpRep K H ι hp) (s : Step ι H ι' H') {a : Addr} {xs : List V} (t : SqF K H a xs) : SqF K H' a xs := by
  rcases t with ⟨o, t⟩ | t
  · refine .inl ⟨o, s.kp a _ t fun hm => ?_⟩
    rcases h.mut hm with ⟨vs, q⟩ | ⟨ws, q⟩ | ⟨ws, q⟩ <;> (rw [t] at q; cases q)
  · exact .inr t
mutual
theorem HpRep.rep (h : HpRep K H ι hp) (s : Step ι H ι' H') : ∀ (d : D) (v : V), Rep K H ι d v → Rep K H' ι' d v
  | .non, v, r => r
  | .bl b, v, r => r
  | .int i, v, r => r
  | .str x, v, r => r
  | .tup ds, v, r => by
    obtain ⟨a, vs, e, q, r⟩ := r
    exact ⟨a, vs, e, h.tupH s q, HpRep.reps h s ds vs r⟩
  | .ctp ds, v, r => by
    obtain ⟨a, vs, e, q, r⟩ := r
    exact ⟨a, vs, e, h.sqT s q, HpRep.reps h s ds vs r⟩
  | .seq ds, v, r => by
    obtain ⟨a, vs, e, q, r⟩ := r
    exact ⟨a, vs, e, h.sqF s q, HpRep.reps h s ds vs r⟩
  | .ref n, v, r => by
    obtain ⟨a, e, q⟩ := r
    obtain ⟨κ, z⟩ := s.pre
    refine ⟨a, e, ?_⟩
    rw [z, List.getElem?_append_left (List.getElem?_eq_some_iff.mp q).1]
    exact q
theorem HpRep.reps (h : HpRep K H ι hp) (s : Step ι H ι' H') : ∀ (ds : List D) (vs : List V), Reps K H ι ds vs → Reps K H' ι' ds vs
  | [], vs, r => r
  | d :: ds, vs, r => by
    obtain ⟨v, w, e, r1, r2⟩ := r
    exact ⟨v, w, e, HpRep.rep h s d v r1, HpRep.reps h s ds w r2⟩
end
theorem HpRep.srep (h : HpRep K H ι hp) (s : Step ι H ι' H') {σ : L2.St} {ρ : Env} (r : SRep K H ι σ ρ) : SRep K H' ι' σ ρ :=
  ⟨r.1, fun i d e => let ⟨v, q, z⟩ := r.2 i d e; ⟨v, q, h.rep s d v z⟩⟩
theorem Reps.length : ∀ {ds : List D} {vs : List V}, Reps K H ι ds vs → ds.length = vs.length
  | [], vs, e => by
    have e' : vs = [] := e
    rw [e']
    rfl
  | d :: ds, _, ⟨v, r, e, _, q⟩ => by rw [e, List.length_cons, List.length_cons, Reps.length q]
theorem Reps.get : ∀ {ds : List D} {vs : List V} {i : Nat} {d : D}, Reps K H ι ds vs → ds[i]? = some d → ∃ v, vs[i]? = some v ∧ Rep K H ι d v
  | [], _, _, _, _, e => by simp at e
  | d :: ds, _, 0, _, ⟨v, r, rfl, q, _⟩, e => by simp at e; subst e; exact ⟨v, rfl, q⟩
  | d :: ds, _, i + 1, x, ⟨v, r, rfl, _, q⟩, e => by
    obtain ⟨v, h1, h2⟩ := Reps.get (i := i) q (by simpa using e)
    exact ⟨v, by simpa using h1, h2⟩
theorem Reps.getV : ∀ {ds : List D} {vs : List V} {i : Nat} {v : V}, Reps K H ι ds vs → vs[i]? = some v → ∃ d, ds[i]? = some d ∧ Rep K H ι d v
  | [], _, _, _, e, h => by rw [show _ = [] from e] at h; simp at h
  | d :: ds, _, 0, _, ⟨v, r, rfl, q, _⟩, e => by simp at e; subst e; exact ⟨d, rfl, q⟩
  | d :: ds, _, i + 1, x, ⟨v, r, rfl, _, q⟩, e => by
    obtain ⟨v, h1, h2⟩ := Reps.getV (i := i) q (by simpa using e)
    exact ⟨v, by simpa using h1, h2⟩
theorem Reps.append : ∀ {ds es : List D} {vs ws : List V}, Reps K H ι ds vs → Reps K H ι es ws → Reps K H ι (ds ++ es) (vs ++ ws)
  | [], _, _, _, e, q => by rw [show _ = [] from e]; exact q
  | d :: ds, _, _, _, ⟨v, r, e, h1, h2⟩, q => by
    subst e
    exact ⟨v, r ++ _, rfl, h1, Reps.append h2 q⟩
theorem Reps.one {d : D} {v : V} (h : Rep K H ι d v) : Reps K H ι [d] [v] := ⟨v, [], rfl, h, rfl⟩
theorem Reps.two {d e : D} {v w : V} (h : Rep K H ι d v) (h' : Rep K H ι e w) : Reps K H ι [d, e] [v, w] := ⟨v, [w], rfl, h, Reps.one h'⟩
theorem Reps.nil : Reps K H ι [] [] := rfl
theorem Reps.set : ∀ {ds : List D} {vs : List V} {d : D} {v : V} (i : Nat), Reps K H ι ds vs → Rep K H ι d v → Reps K H ι (ds.set i d) (vs.set i v)
  | [], _, _, _, i, e, q => by rw [show _ = [] from e]; exact rfl
  | _ :: ds, _, _, _, 0, ⟨v, r, rfl, _, h2⟩, q => ⟨_, _, rfl, q, h2⟩
  | _ :: ds, _, _, _, i + 1, ⟨v, r, rfl, h1, h2⟩, q => ⟨_, _, rfl, h1, Reps.set i h2 q⟩
theorem Reps.take : ∀ {ds : List D} {vs : List V} (n : Nat), Reps K H ι ds vs → Reps K H ι (ds.take n) (vs.take n)
  | _, _, 0, _ => by rw [List.take_zero, List.take_zero]; exact rfl
  | [], _, n + 1, e => by rw [show _ = [] from e]; exact rfl
  | _ :: ds, _, n + 1, ⟨v, r, rfl, h1, h2⟩ => ⟨_, _, rfl, h1, Reps.take n h2⟩
theorem Reps.drop : ∀ {ds : List D} {vs : List V} (n : Nat), Reps K H ι ds vs → Reps K H ι (ds.drop n) (vs.drop n)
  | _, _, 0, h => h
  | [], _, n + 1, e => by rw [show _ = [] from e]; exact rfl
  | _ :: ds, _, n + 1, ⟨v, r, rfl, h1, h2⟩ => Reps.drop n h2
theorem Reps.rep {ds : List D} {vs : List V} (h : Reps K H ι ds vs) : ∀ k : Nat, Reps K H ι (List.replicate k ds).flatten (List.replicate k vs).flatten
  | 0 => rfl
  | k + 1 => by
    rw [List.replicate_succ, List.replicate_succ, List.flatten_cons, List.flatten_cons]
    exact h.append (Reps.rep h k)
theorem Reps.ints : ∀ {ds : List D} {vs : List V} {is : List Int}, Reps K H ι ds vs → intsOf ds = some is → vs = is.map V.int
  | [], _, _, e, h => by cases h; exact e
  | d :: ds, _, is, ⟨v, r, rfl, h1, h2⟩, h => by
    cases d with
    | int i =>
      simp only [intsOf, Option.map_eq_some_iff] at h
      obtain ⟨js, h, rfl⟩ := h
      rw [show v = .int i from h1, Reps.ints h2 h]
      rfl
    | _ => simp [intsOf] at h
theorem Reps.bools : ∀ {ds : List D} {vs : List V} {is : List Bool}, Reps K H ι ds vs → boolsOf ds = some is → vs = is.map V.bl
  | [], _, _, e, h => by cases h; exact e
  | d :: ds, _, is, ⟨v, r, rfl, h1, h2⟩, h => by
    cases d with
    | bl i =>
      simp only [boolsOf, Option.map_eq_some_iff] at h
      obtain ⟨js, h, rfl⟩ := h
      rw [show v = .bl i from h1, Reps.bools h2 h]
      rfl
    | _ => simp [boolsOf] at h
/-- a new object -/
theorem HpRep.fresh (h : HpRep K H ι hp) {p : Addr} (hn : H p = none) {ho : HO} : Step ι H (ι ++ [p]) (upd H p ho) := by
  refine ⟨⟨[p], rfl⟩, fun a ha => ?_, fun a o e _ => ?_⟩
  · rcases List.mem_append.mp ha with z | z
    · exact .inl z
    · rw [List.mem_singleton.mp z]; exact .inr hn
  · rw [upd_ne (ne_of_none e hn)]; exact e
/-- a new object that no number names -/
theorem HpRep.fresh0 (h : HpRep K H ι hp) {p : Addr} (hn : H p = none) {ho : HO} : Step ι H ι (upd H p ho) :=
  ⟨⟨[], by simp⟩, fun a ha => .inl ha, fun a o e _ => by rw [upd_ne (ne_of_none e hn)]; exact e⟩
theorem HpRep.notin (h : HpRep K H ι hp) {p : Addr} (hn : H p = none) : p ∉ ι := fun hm => by
  rcases h.mut hm with ⟨vs, q⟩ | ⟨ws, q⟩ | ⟨ws, q⟩ <;> (rw [hn] at q; cases q)
theorem OOk.mono (h : HpRep K H ι hp) (s : Step ι H ι' H') {a : Addr} {o : O} (e : H' a = H a) (x : OOk K H ι a o) : OOk K H' ι' a o := by
  cases o with
  | lst xs => obtain ⟨vs, q, r⟩ := x; exact ⟨vs, e.trans q, h.reps s _ _ r⟩
  | dct kvs => obtain ⟨ws, q, r1, r2⟩ := x; exact ⟨ws, e.trans q, r1, h.reps s _ _ r2⟩
  | dtt kvs => obtain ⟨ws, q, r1, r2⟩ := x; exact ⟨ws, e.trans q, r1, h.reps s _ _ r2⟩
theorem HpRep.keep0 (h : HpRep K H ι hp) (s : Step ι H ι H') (k : ∀ a ∈ ι, H' a = H a) : HpRep K H' ι hp :=
  ⟨h.len, h.nd, fun n o a h1 h2 => OOk.mono h s (k a (List.mem_of_getElem? h2)) (h.ok n o a h1 h2)⟩
/-- a new tuple, or a list that no number names, leaves all as it is -/
theorem HpRep.laid0 (h : HpRep K H ι hp) {p : Addr} (hn : H p = none) {ho : HO} : HpRep K (upd H p ho) ι hp :=
  h.keep0 (h.fresh0 hn) fun a ha => upd_ne fun e => h.notin hn (e ▸ ha)
/-- a new numbered object -/
theorem HpRep.laid (h : HpRep K H ι hp) {p : Addr} (hn : H p = none) {ho : HO} {o : O} (x : OOk K (upd H p ho) (ι ++ [p]) p o) : HpRep K (upd H p ho) (ι ++ [p]) (hp ++ [o]) := by
  refine ⟨by simp [h.len], ?_, fun n o' a h1 h2 => ?_⟩
  · refine List.nodup_append.mpr ⟨h.nd, by simp, fun a ha b hb e => ?_⟩
    rw [List.mem_singleton.mp hb] at e
    exact h.notin hn (e ▸ ha)
  · by_cases hl : n < hp.length
    · rw [List.getElem?_append_left hl] at h1
      rw [List.getElem?_append_left (h.len ▸ hl)] at h2
      refine OOk.mono h (h.fresh hn) (upd_ne fun e => h.notin hn (e ▸ List.mem_of_getElem? h2)) (h.ok n o' a h1 h2)
    · have e : n = hp.length := by
        have := (List.getElem?_eq_some_iff.mp h1).1
        simp at this
        omega
      subst e
      rw [List.getElem?_append_right (Nat.le_refl _), Nat.sub_self] at h1
      rw [← h.len, List.getElem?_append_right (Nat.le_refl _), Nat.sub_self] at h2
      simp at h1 h2
      subst h1 h2
      exact x
/-- a numbered object is written -/
theorem Step.write {a : Addr} (ha : a ∈ ι) {ho : HO} : Step ι H ι (upd H a ho) :=
  ⟨⟨[], by simp⟩, fun b hb => .inl hb, fun b o e hb => by
    have hne : b ≠ a := fun z => hb (by rw [z]; exact ha)
    rw [upd_ne hne]; exact e⟩
theorem HpRep.write (h : HpRep K H ι hp) {n : Nat} {a : Addr} (ha : ι[n]? = some a) {ho : HO} {o : O} (x : OOk K (upd H a ho) ι a o) : HpRep K (upd H a ho) ι (hp.set n o) := by
  have hm : a ∈ ι := List.mem_of_getElem? ha
  refine ⟨by simp [h.len], h.nd, fun m o' b h1 h2 => ?_⟩
  by_cases hmn : n = m
  · subst hmn
    have : n < hp.length := h.len ▸ (List.getElem?_eq_some_iff.mp ha).1
    rw [List.getElem?_set_self this] at h1
    rw [ha] at h2
    cases h1; cases h2
    exact x
  · rw [List.getElem?_set_ne hmn] at h1
    refine OOk.mono h (Step.write hm) (upd_ne fun e => hmn ?_) (h.ok m o' b h1 h2)
    subst e
    obtain ⟨l1, e1⟩ := List.getElem?_eq_some_iff.mp ha
    obtain ⟨l2, e2⟩ := List.getElem?_eq_some_iff.mp h2
    exact (List.getElem_inj h.nd).mp (e1.trans e2.symm)
theorem HpRep.lst (h : HpRep K H ι hp) {n : Nat} {a : Addr} {xs : List D} (e : hp[n]? = some (.lst xs)) (ha : ι[n]? = some a) : ∃ vs, H a = some (.lst vs) ∧ Reps K H ι xs vs := h.ok n _ a e ha
theorem HpRep.dtt (h : HpRep K H ι hp) {n : Nat} {a : Addr} {kvs : List (List Key × D)} (e : hp[n]? = some (.dtt kvs)) (ha : ι[n]? = some a) : ∃ ws, H a = some (.dT ws) ∧ RepK K H ι kvs ws := h.ok n _ a e ha
theorem HpRep.dct (h : HpRep K H ι hp) {n : Nat} {a : Addr} {kvs : List (Key × D)} (e : hp[n]? = some (.dct kvs)) (ha : ι[n]? = some a) : ∃ ws, H a = some (.dK ws) ∧ RepK K H ι kvs ws := h.ok n _ a e ha
end

/-! ### answers -/
/-- what is wanted of exceptions -/
abbrev Wish := Nat → List D → Heap → List Addr → Hp → Prop
def Po {α : Type} (W : Wish) (ι : List Addr) (H : Hp) (r : R α) (S : α → List Addr → Hp → Prop) : Prop := match r with
  | .ok a => ∀ ι' H', Step ι H ι' H' → S a ι' H'
  | .exc c fs hp => ∀ ι' H', Step ι H ι' H' → W c fs hp ι' H'
  | .no => False
theorem Po.at {α : Type} {W : Wish} {ι ι' : List Addr} {H H' : Hp} {r : R α} {S : α → List Addr → Hp → Prop} (p : Po W ι H r S) (s : Step ι H ι' H') : Po W ι' H' r S := by
  cases r with
  | ok a => exact fun ι2 H2 s2 => p ι2 H2 (s.trans s2)
  | exc c fs hp => exact fun ι2 H2 s2 => p ι2 H2 (s.trans s2)
  | no => exact p
/-- one after another -/
theorem Po.bind {α β : Type} {W : Wish} {ι : List Addr} {H : Hp} {r : R α} {f : α → R β} {S : β → List Addr → Hp → Prop} (p : Po W ι H (r.bind f) S) :
    Po W ι H r fun a ι' H' => Po W ι' H' (f a) S := by
  cases r with
  | ok a => exact fun ι' H' s => Po.at p s
  | exc c fs hp => exact p
  | no => exact p
theorem Po.mono {α : Type} {W : Wish} {ι : List Addr} {H : Hp} {r : R α} {S S' : α → List Addr → Hp → Prop} (p : Po W ι H r S) (h : ∀ a ι' H', Step ι H ι' H' → S a ι' H' → S' a ι' H') : Po W ι H r S' := by
  cases r with
  | ok a => exact fun ι' H' s => h a ι' H' s (p ι' H' s)
  | exc c fs hp => exact p
  | no => exact p
theorem Po.ofO {α β : Type} {W : Wish} {ι : List Addr} {H : Hp} {o : Option α} {f : α → R β} {S : β → List Addr → Hp → Prop} (p : Po W ι H (ofO o f) S) : ∃ a, o = some a ∧ Po W ι H (f a) S := by
  cases o with
  | none => exact p.elim
  | some a => exact ⟨a, rfl, p⟩
theorem Po.chk {β : Type} {W : Wish} {ι : List Addr} {H : Hp} {b : Bool} {r : R β} {S : β → List Addr → Hp → Prop} (p : Po W ι H (chk b r) S) : b = true ∧ Po W ι H r S := by
  cases b with
  | false => exact p.elim
  | true => exact ⟨rfl, p⟩
/-- a value's end -/
def SE (K : Frg) (Q : VK) (r : D × Heap) (ι' : List Addr) (H' : Hp) : Prop := ∀ v, HpRep K H' ι' r.2 → Rep K H' ι' r.1 v → Q v H'
abbrev PoE (K : Frg) (W : Wish) (ι : List Addr) (H : Hp) (r : R (D × Heap)) (Q : VK) : Prop := Po W ι H r (SE K Q)

/-- what is wanted of exceptions, at slots -/
abbrev WS := L2.St → Nat → List D → List Addr → Hp → Prop
def wr (K : Frg) (W : WS) (σ : L2.St) : Wish := fun k fs hp ι H => HpRep K H ι hp → W σ k fs ι H
theorem Po.wish {α : Type} {W W' : Wish} {ι : List Addr} {H : Hp} {r : R α} {S : α → List Addr → Hp → Prop} (p : Po W ι H r S) (h : ∀ k fs hp ι' H', Step ι H ι' H' → W k fs hp ι' H' → W' k fs hp ι' H') : Po W' ι H r S := by
  cases r with
  | ok a => exact p
  | exc c fs hp => exact fun ι' H' s => h _ _ _ _ _ s (p ι' H' s)
  | no => exact p
/-- an expression's reading -/
def rdE (K : Frg) (W : WS) (c : Ctx) (e : CE) : TE := fun σ H Q => ∃ ι ρ hp, SRep K H ι σ ρ ∧ HpRep K H ι hp ∧ PoE K (wr K W σ) ι H (ev c e ρ hp) Q
/-- a test's end -/
def SB (K : Frg) (Q : Bool → Hp → Prop) (r : Bool × Heap) (ι' : List Addr) (H' : Hp) : Prop := HpRep K H' ι' r.2 → Q r.1 H'
def rdB (K : Frg) (W : WS) (c : Ctx) (e : CB) : TT := fun σ H Q => ∃ ι ρ hp, SRep K H ι σ ρ ∧ HpRep K H ι hp ∧ Po (wr K W σ) ι H (tv c e ρ hp) (SB K Q)
/-- some values' end -/
def SA (K : Frg) (Q : List V → Hp → Prop) (r : List D × Heap) (ι' : List Addr) (H' : Hp) : Prop := ∀ vs, HpRep K H' ι' r.2 → Reps K H' ι' r.1 vs → Q vs H'
def rdA (K : Frg) (W : WS) (c : Ctx) (es : CEs) : TA := fun σ H Q => ∃ ι ρ hp, SRep K H ι σ ρ ∧ HpRep K H ι hp ∧ Po (wr K W σ) ι H (evs c es ρ hp) (SA K Q)
theorem PoE.now {K : Frg} {W : Wish} {ι : List Addr} {H : Hp} {d : D} {hp : Heap} {Q : VK} {v : V} (p : PoE K W ι H (.ok (d, hp)) Q) (hh : HpRep K H ι hp) (r : Rep K H ι d v) : Q v H := p ι H .refl v hh r
theorem _root_.L2.PE.imp {X : Cx} {e : Expr} {t t' : TE} (h : PE X e t) (i : ∀ σ H Q, t' σ H Q → t σ H Q) : PE X e t' := ⟨fun pins s σ H Q I q => h.run pins s σ H Q I (i σ H Q q)⟩
theorem _root_.L2.PT.imp {X : Cx} {e : Expr} {t t' : TT} (h : PT X e t) (i : ∀ σ H Q, t' σ H Q → t σ H Q) : PT X e t' := ⟨fun pins s σ H Q I q => h.run pins s σ H Q I (i σ H Q q)⟩
theorem _root_.L2.PS.imp {X : Cx} {e : Stmt} {t t' : TS} (h : PS X e t) (i : ∀ D σ H, t' D σ H → t D σ H) : PS X e t' := ⟨fun pins s σ H D I q => h.run pins s σ H D I (i D σ H q)⟩
theorem _root_.L2.PSs.imp {X : Cx} {e : List Stmt} {t t' : TS} (h : PSs X e t) (i : ∀ D σ H, t' D σ H → t D σ H) : PSs X e t' := ⟨fun pins s σ H D I q => h.run pins s σ H D I (i D σ H q)⟩
end Tw
end

section
set_option Elab.async false
set_option linter.all false
set_option maxRecDepth 100000
set_option maxHeartbeats 4000000
/-! Set comprehensions whose items are of a kind that a rule of set.add serves. Own work. -/
namespace Tw
open PySem PySem.Spec PyProof.Rows L2 PpSet

/-- a comprehension's set: so D z is what stands at D, ad what an item asks for to be added -/
def tSk {Z : Type} (so : Addr → Z → HO) (z0 : Z) (ad : Hp → Z → V → (Z → Prop) → Prop) (wi : TI) (g : TG) (tt : TT) (te : TE) (vs : List Nat) : TE := fun σ H Q => wi σ H fun J H1 => ∀ D, H1 D = none →
  ∃ W : Nat → Nat → Hp → Prop, (∃ m, W 0 m (upd H1 D (so D z0))) ∧ ∀ i m H, W i m H →
    (J.stop i H ∧ Q (.ref D) H) ∨ (J.go i H ∧ ∃ Nx : Hp → Prop, (∀ H', Nx H' → ∃ m', m' < m ∧ W (i + 1) m' H') ∧ ∀ x H', J.yld i H x H' → g x (wipe σ vs) H' fun σ2 H2 => wipe σ2 vs = wipe σ vs ∧ tt σ2 H2 fun b H3 =>
      if b = true then te σ2 H3 fun y H4 => ∃ z, H4 D = some (so D z) ∧ ad H4 z y fun z' => Nx (upd H4 D (so D z')) else Nx H3)
section
variable {X : Cx} {Z : Type} {so : Addr → Z → HO} {z0 : Z} {ad : Hp → Z → V → (Z → Prop) → Prop}
/-- what a kind of set must give -/
structure SetRule (X : Cx) {Z : Type} (so : Addr → Z → HO) (z0 : Z) (ad : Hp → Z → V → (Z → Prop) → Prop) : Prop where
  new : ∀ (H : Hp) (h : PySem.Heap), ObjOk X.prog X.w H (h.push { cls := .type "set", dict := none, data := .set #[] 0 (.fresh 0 0 (!X.w.params.followText "set-order")) }) h.objs.size (so h.objs.size z0)
  add : ∀ (Y : Cx), Y.prog = X.prog → Y.w = X.w → Y.K = X.K → Y.A = X.A → ∀ {pins : List (Addr × Obj)} {σ : L2.St} {H : Hp} {s : Shared} {E : Value → Shared → Prop} {D : Addr} {z : Z} {y : V} {v : Value} {P : Z → Prop} {Q : Value → Shared → Prop},
    Inv Y pins σ H s → H D = some (so D z) → RelV y v → ad H z y P → (∀ z' s', P z' → Inv Y pins σ (upd H D (so D z')) s' → Q .none s') → wpAny (model Y.prog Y.w) Y.A (call (.builtin "set.add") [.ref D, v]) Q E s
theorem pe_sk {elt tg iter : Expr} {ifs : List Expr} {scope : Scope} {own : List (Str × Nat)} {pos : Pos} {wi : TI} {g : TG} {tt : TT} {te : TE} (SR : SetRule X so z0 ad) (hc : X.calm = true) (hN : X.N.Nodup) (hi : PI X tg iter wi) (ok : BlkOk X.N X.env.scope scope own)
    (hg : ∀ (s : Shared) (H : Hp) (C : Addr) (cl : List (Str × Addr)) (fp : List Addr), PG (X.blk s H scope (compEnvC scope cl C X.env) fp) tg g) (ht : ∀ (s : Shared) (H : Hp) (C : Addr) (cl : List (Str × Addr)) (fp : List Addr), PTs (X.blk s H scope (compEnvC scope cl C X.env) fp) ifs tt)
    (he : ∀ (s : Shared) (H : Hp) (C : Addr) (cl : List (Str × Addr)) (fp : List Addr), PE (X.blk s H scope (compEnvC scope cl C X.env) fp) elt te) (hs : ∀ x, foldedSetIterable iter X.env x = pure x) :
    PE X (.SetComp elt [⟨tg, iter, ifs, 0⟩] scope pos) (tSk so z0 ad wi g tt te (own.map (·.2))) := by
  refine ⟨fun pins s σ H Q I h => ?_⟩
  rw [eval_SetComp]
  have hfree : ∀ y ∈ scope.names, y.2 = .free → ∃ c, X.env.cells.lookup y.1 = some c := fun y hy e => I.ok.has _ (ok.free y hy e)
  refine wpAny_comprehension_free (use := none) rfl hs (closure_ok hfree) ok.kind (fun y hy e => by rw [ok.uniq y hy, e]) (thn (hi.run pins s σ H _ I h) fun xv s1 hx => thn hx fun itv s2 h2 => ?_)
  obtain ⟨it, fp, tn, J, H2, rfl, I2, T, st2, f2, q⟩ := h2
  refine newSet_ok (newEnv_comp ?_)
  have hDn : H2 s2.heap.objs.size = none := I2.hok.fresh (Nat.le_refl _)
  obtain ⟨W, ⟨m0, w0⟩, turn⟩ := q _ hDn
  have n0 := fun H => SR.new H s2.heap
  generalize hD : s2.heap.objs.size = D at hDn w0 turn n0 ⊢
  generalize hn : s2.heap.push { cls := .type "set", dict := none, data := .set #[] 0 (.fresh 0 0 (!X.w.params.followText "set-order")) } = hp3 at n0 ⊢
  have kp : ∀ b o, s2.heap.get? b = some o → hp3.get? b = some o := fun b o e => by rw [← hn]; exact Heap.get?_push_of_some _ e
  have sz3 : hp3.objs.size = s2.heap.objs.size + 1 := by rw [← hn, Heap.size_push]
  have I3 : Inv X pins σ (upd H2 D (so D z0)) { s2 with heap := hp3 } := I2.laid (t' := s2.toks) kp (Nat.le_of_eq hD) (n0 _)
  have f3 : ∀ b ∈ fp, FpOk X pins (upd H2 D (so D z0)) b ∧ b < hp3.objs.size := fun b hb => by
    obtain ⟨o, e, _⟩ := T.obj _ _ st2 b hb
    have hlt := Heap.lt_size e
    exact ⟨⟨by rw [upd_ne (by rw [← hD]; exact Nat.ne_of_lt hlt)]; exact (f2 b hb).1, (f2 b hb).2⟩, by rw [sz3]; exact Nat.lt_succ_of_lt hlt⟩
  have st3 : tn 0 hp3 := T.keep _ _ _ st2 fun b _ o e => kp b o e
  generalize hs3 : ({ s2 with heap := hp3 } : Shared) = s3 at I3
  have e3 : hp3 = s3.heap := by rw [← hs3]
  subst e3
  generalize hH3 : upd H2 D (so D z0) = H3 at I3 w0 f3
  have I4 := block_start I3 ok hN f3
  have env := fun (cl : List (Str × Addr)) => And.intro (hg s3 H3 s3.heap.objs.size cl fp) (And.intro (ht s3 H3 s3.heap.objs.size cl fp) (he s3 H3 s3.heap.objs.size cl fp))
  have env := env (cellsFrom (s3.heap.objs.size + 1) scope.names (cloFrom X.env.cells scope.names []))
  have goal : codeAny (model X.prog X.w) X.A (.compStart (.SetComp elt [⟨tg, iter, ifs, 0⟩] scope pos) 0 (.ref it) (.ref D) (compEnvC scope (cellsFrom (s3.heap.objs.size + 1) scope.names (cloFrom X.env.cells scope.names [])) s3.heap.objs.size X.env))
      (compPost (model X.prog X.w) X.A X.xe none (EP X pins σ Q) (.ref D) s3.heap.objs.size) { s3 with heap := pushCells (s3.heap.push { cls := .type "dict", data := .dict #[] }) scope.names } := by
    generalize hce : compEnvC scope (cellsFrom (s3.heap.objs.size + 1) scope.names (cloFrom X.env.cells scope.names [])) s3.heap.objs.size X.env = ce at I4 env ⊢
    have cL : ce.locals = s3.heap.objs.size := by subst hce; rfl
    obtain ⟨pg, pt, pe⟩ := env
    have st4 : tn 0 (pushCells (s3.heap.push { cls := .type "dict", data := .dict #[] }) scope.names) := T.keep _ _ _ st3 fun b _ o e => pushCells_keeps _ _ _ _ (Heap.get?_push_of_some _ e)
    generalize hs4 : ({ s3 with heap := pushCells (s3.heap.push { cls := .type "dict", data := .dict #[] }) scope.names } : Shared) = s4 at I4 ⊢
    have e4 : s4.heap = pushCells (s3.heap.push { cls := .type "dict", data := .dict #[] }) scope.names := by rw [← hs4]
    rw [← e4] at st4
    have stat : ∀ {σ' : L2.St} {H' : Hp} {s' : Shared}, Inv (X.blk s3 H3 scope ce fp) [] σ' H' s' → (∀ b ∈ fp, H' b = none) → ∀ b ∈ fp, FpOk (X.blk s3 H3 scope ce fp) [] H' b := fun {σ' H' s'} I' hn b hb =>
      ⟨hn b hb, (I'.ok.exf b hb).1, I'.ok.exfs b hb, .inl hb, fun x c e => (I'.ok.exf b hb).2 x c e, fun p hp => absurd (show p ∈ ([] : List (Addr × Obj)) ++ [] from hp) (by simp)⟩
    refine codeAny_compStart_set ?_ (T.self X.A 0 _ _ _ st4 ?_) <;> (
    refine compLoopS_any (fun n s' => ∃ i H', Inv (X.blk s3 H3 scope ce fp) [] (wipe σ (own.map (·.2))) H' s' ∧ tn i s'.heap ∧ (∀ b ∈ fp, H' b = none) ∧ W i n H') ?_ m0 ⟨0, H3, I4, st4, fun b hb => (f3 b hb).1.1, w0⟩
    rintro n s5 ⟨i, H5, I5, st5, n5, w5⟩
    rcases turn i n H5 w5 with ⟨stop, qq⟩ | ⟨go, Nx, hNx, step⟩
    · refine thnF (T.done (X.blk s3 H3 scope ce fp) rfl rfl rfl hc i [] s5 _ H5 (fun _ _ => False) I5 (stat I5 n5) st5 stop) fun r s6 ⟨hr, I6⟩ => ?_
      subst hr
      have I7 : Inv X pins σ H5 s6 := I3.call' (ch := fp) I6.os I6.base I6.hok I6.bare fun b hb => ⟨(f3 b hb).1.2.2.2.1, (f3 b hb).1.2.1, (f3 b hb).1.2.2.2.2.1, (f3 b hb).1.2.2.2.2.2⟩
      have nC : H5 s3.heap.objs.size = none := by
        rw [← cL]
        exact I6.free
      obtain ⟨m, hn, _⟩ := I6.loc
      have hn : s6.heap.Ns ce.locals m := hn
      rw [cL] at hn
      obtain ⟨f0, f1, f2, f3, f4, f5⟩ := I3.fpOk (Nat.le_refl s3.heap.objs.size) nC
      exact ⟨m, hn, fun h'' sb => ⟨.ref D, H5, I7.turned (t' := s6.toks) (fun b o hb e => (sb.2 b hb).trans e) f0 f1 f3 f4 f5, rfl, qq⟩⟩
    · refine thnF (T.item (X.blk s3 H3 scope ce fp) rfl rfl rfl hc i [] s5 _ H5 (fun _ _ => False) I5 (stat I5 n5) st5 go) fun r s6 ⟨u, hr, h6⟩ => ?_
      subst hr
      refine thnF h6 fun _ s7 ⟨x, H7, I7, r7, y7, st7, n7⟩ => ?_
      refine thnF (pg.run _ s7 _ H7 x u _ (I7.pinned (stat I7 n7) (T.obj _ _ st7)) r7 (step x H7 y7)) fun _ s8 ⟨σ8, H8, I8, hw8, q8⟩ => ?_
      refine thnF (pt.run _ s8 σ8 H8 _ I8 q8) fun b s9 ⟨H9, I9, q9⟩ => ?_
      have fin : ∀ {s' : Shared} {H' : Hp}, Inv (X.blk s3 H3 scope ce fp) ([] ++ pinsAt fp s7.heap) σ8 H' s' → Nx H' → ∃ m, m < n ∧ ∃ i H', Inv (X.blk s3 H3 scope ce fp) [] (wipe σ (own.map (·.2))) H' s' ∧ tn i s'.heap ∧ (∀ b ∈ fp, H' b = none) ∧ W i m H' := fun {s' H'} I' nx => by
        obtain ⟨m', hm, w'⟩ := hNx H' nx
        have pin' : ∀ b ∈ fp, ∀ o, s7.heap.get? b = some o → s'.heap.get? b = some o ∧ H' b = none := fun b hb o e =>
          let z := I'.pin (b, o) (List.mem_append_right _ (List.mem_append_right _ (mem_pinsAt hb e)))
          ⟨z.1, z.2.1⟩
        refine ⟨m', hm, i + 1, H', (I'.unpinned (pins := [])).weak (by rw [← hw8, wipe_length]) (fun j v e => ?_), T.keep _ _ _ st7 fun b hb o e => (pin' b hb o e).1, fun b hb => ?_, w'⟩
        · rw [← hw8] at e
          exact (wipe_some e).1
        · obtain ⟨o, e, _⟩ := T.obj _ _ st7 b hb
          exact (pin' b hb o e).2
      cases b with
      | false => exact fin I9 (by simpa using q9)
      | true =>
        simp only [if_true] at q9 ⊢
        refine thnF (pe.run _ s9 σ8 H9 _ I9 q9) fun u s10 ⟨y, H10, I10, r10, z, hz, az⟩ => ?_
        exact SR.add (X.blk s3 H3 scope ce fp) rfl rfl rfl rfl I10 hz r10 az fun z' s11 nx I11 => fin I11 nx)
  exact goal
end
end Tw
end

section
set_option Elab.async false
set_option linter.all false
set_option maxRecDepth 100000
set_option maxHeartbeats 4000000
/-! Sets of rows. Own work. -/
namespace Tw
open PySem PySem.Spec PyProof.Rows L2
def adT (K : Frg) : Hp → List (Addr × List Int) → V → (List (Addr × List Int) → Prop) → Prop := fun H L y P => ∃ (b : Addr) (ns : List Int), y = .ref b ∧ SqT K H b (ns.map V.int) ∧ (∀ p ∈ L, SqT K H p.1 (p.2.map V.int)) ∧ L.length + 1 < 64 ∧
  ∀ L', (ns ∈ L.map (·.2) → L' = L) → (ns ∉ L.map (·.2) → L'.Perm ((b, ns) :: L)) → P L'
theorem setT_add {P : Program} {w : World} {A : Around} {E : Value → Shared → Prop} {s : Shared} {a x : Addr} {L : List (Addr × List Int)} {es : Array (Int × Value)} {ep : Nat} {t : SetTable} {k : List Int} {Q : Value → Shared → Prop} (R : SetTR P w s.heap a L es ep t) (hx : IsT P w s.heap k x) (hu : A.units + 70 < cLine) (hfew : L.length + 1 < 64)
    (hQ : ∀ h' tk L' es' ep' t', Heap.SameBut a s.heap h' → SetTR P w h' a L' es' ep' t' → (k ∈ L.map (·.2) → L' = L) → (k ∉ L.map (·.2) → L'.Perm ((x, k) :: L)) → Q .none { s with heap := h', toks := tk }) :
    wpAny (model P w) A (call (.builtin "set.add") [.ref a, .ref x]) Q E s := by
  have hT : s.TypeIs (.ref a) "set" := by
    obtain ⟨o, ho, hex, hd⟩ := R.ob
    exact ⟨o, ho, hex.1⟩
  have hu1 : A.in1.units < cLine := by
    first | (show A.units + 1 < cLine; omega) | (show A.units < cLine; omega) | (simp; omega)
  refine wpAny_call_entry F.slot_set_add hT F.entry_set_add ?_ (F.args_set_add_2 _ _)
  unfold Builtin.«set.add» Builtin.Frozenset.oneOther
  simp only [List.isEmpty_nil, bind_assoc]
  unfold Builtin.Frozenset.addrOf setAdd
  refine wpAny_bind (wpAny_pure ?_)
  try dsimp only
  refine wpAny_bind (wpAny_pure ?_)
  try dsimp only
  refine wpAny_bind ?_
  refine wpAny_holding ?_
  refine wpAny_bind (wpAny_pyHash_tuple hu1 hx ?_)
  refine add_at (s := { s with toks := s.toks + (k.length + 1) }) R hx hu1 hfew fun b h' L' es' ep' t' sb R' c1 c2 => ?_
  show wpAny _ _ (ret Value.none) _ _ _
  exact wpAny_pure ⟨_, rfl, hQ h' _ L' es' ep' t' sb R' c1 c2⟩
theorem set_tups {X : Cx} (hu : X.A.units + 70 < cLine) : SetRule X (SetTO X.prog X.w) [] (adT X.K) where
  new := fun H h => setTO_new (setTR_fresh (w := X.w) (P := X.prog) (Heap.get?_push_size _ rfl)).t0
  add := by
    intro Y e1 e2 e3 e4 pins σ H s E D L y v P Q I hD r a hQ
    obtain ⟨b, ns, rfl, hb, hL, h64, hP⟩ := a
    rw [← e1, ← e2] at hD
    rw [← e3] at hb hL
    cases r
    have R0 : SetT0 Y.prog Y.w s.heap D L := (I.hok D _ hD).1
    obtain ⟨es, ep, t, R⟩ := R0.full fun p hp => I.isT (hL p hp)
    refine setT_add R (I.isT hb) (by rw [e4]; exact hu) h64 fun h' tk L' es' ep' t' sb R' c1 c2 => ?_
    refine hQ L' _ (hP L' c1 c2) ?_
    have he : ∃ u, h'.get? D = some u := by
      obtain ⟨o, ho, _⟩ := R'.ob
      exact ⟨o, ho⟩
    rw [← e1, ← e2]
    exact I.write (e := D) (t' := tk) (by rw [hD]; trivial) (.inl rfl) (fun b u hb hu => (sb.2 b hb).trans hu) he (setTO_new R'.t0)
end Tw
end

section
set_option Elab.async false
set_option linter.all false
set_option maxRecDepth 100000
set_option maxHeartbeats 4000000
/-! Displays of dicts whose keys are tuples. Own work. -/
namespace Tw
open PySem PySem.Spec PyProof.Rows L2

section
variable {prog : Program} {w : World} {A : Around} {E : Value → Shared → Prop} {s : Shared}
def storeLp (d : Addr) (vs : List (Value × Value)) : Sem PUnit := forIn vs PUnit.unit fun (x : Value × Value) (_ : PUnit) => (do dictSet d x.1 x.2; pure (ForInStep.yield PUnit.unit) : Sem (ForInStep PUnit))
theorem subDict_gen {pairs : List (Sem Value × Sem Value)} {Q : Addr → Shared → Prop} (hlen : pairs.length ≤ 15)
    (h : wpAny (model prog w) A (evalPairs pairs) (fun vs s₁ => vs.length = pairs.length → wpAny (model prog w) A (storeLp s.heap.objs.size vs) (fun _ s2 => Q s.heap.objs.size s2) E s₁) E
      { s with heap := s.heap.push { cls := .type "dict", data := .dict #[] } }) :
    wpAny (model prog w) A (subDict pairs) Q E s := by
  unfold subDict
  refine wpAny_bind (wpAny_alloc ?_)
  refine wpAny_bind (wpAny_holding ?_)
  rw [if_pos hlen]
  refine wpAny_bind (wpAny_mono (wpAny_evalPairs_len h) (fun vs s₁ h₁ => ?_) fun _ _ e => e)
  refine wpAny_holding ?_
  exact wpAny_bind (wpAny_mono (h₁.2 h₁.1) (fun _ s2 q => wpAny_pure (wpAny_pure q)) fun _ _ e => e)
theorem dict_gen {env : PySem.Env} {keys : List (Option Expr)} {values : List Expr} {pos : Pos} {Q : Value → Shared → Prop}
    (hall : keys.all (·.isSome) = true) (hl : keys.length = values.length) (h0 : keys ≠ []) (hlen : keys.length ≤ 15)
    (h : wpAny (model prog w) A (evalPairs (pairTrees keys values env pos)) (fun vs s₁ => vs.length = keys.length → wpAny (model prog w) A (storeLp s.heap.objs.size vs) (fun _ s2 => Q (.ref s.heap.objs.size) s2) E s₁) E
      { s with heap := s.heap.push { cls := .type "dict", data := .dict #[] } }) :
    wpAny (model prog w) A (eval (.Dict keys values pos) env) Q E s := by
  have hn := pairTrees_length keys values env pos hall hl
  have hne : pairTrees keys values env pos ≠ [] := by
    intro he
    rw [he] at hn
    exact h0 (List.length_eq_zero_iff.mp hn.symm)
  rw [arm_eval_Dict, zip_pairTrees keys values env pos hall hl, dictDisplay_pairs _ hne (by omega)]
  exact wpAny_bind (wpAny_standAt (wpAny_bind (subDict_gen (Q := fun d s' => wpAny (model prog w) A (pure (Value.ref d)) Q E s') (by omega)
    (wpAny_mono h (fun vs s₁ h₁ hv => wpAny_mono (h₁ (by rw [← hn]; exact hv)) (fun _ _ q => wpAny_pure q) fun _ _ e => e) fun _ _ e => e))))
section
variable {κ : Type} [DecidableEq κ] {knd : HeapKind prog w κ}
def mergeH (acc : List (κ × Addr × Value)) (xs : List (κ × Addr × Value)) : List (κ × Addr × Value) := xs.foldl (fun acc x => storedH acc x.1 x.2.1 x.2.2) acc
theorem storedH_le (xs : List (κ × Addr × Value)) (k : κ) (a : Addr) (v : Value) : (storedH xs k a v).length ≤ xs.length + 1 := by
  unfold storedH
  split <;> simp
theorem storeH {d : Addr} (hu : knd.room A) : ∀ (xs acc : List (κ × Addr × Value)) (s : Shared) (Q : PUnit → Shared → Prop), (∀ x ∈ xs, knd.is s.heap x.1 x.2.1) → s.heap.DictOfH knd d acc → acc.length + xs.length ≤ sizeLine →
    (∀ h' t, h'.DictOfH knd d (mergeH acc xs) → Heap.SameBut d s.heap h' → Q PUnit.unit { s with heap := h', toks := t }) →
    wpAny (model prog w) A (storeLp d (xs.map fun x => (.ref x.2.1, x.2.2))) Q E s
  | [], acc, s, Q, _, hm, _, hQ => by
    unfold storeLp
    rw [List.map_nil, List.forIn_nil]
    exact wpAny_pure (hQ s.heap s.toks hm (Heap.SameBut.refl _ _))
  | (k, a, v) :: xs, acc, s, Q, hk, hm, hsz, hQ => by
    rw [List.length_cons] at hsz
    unfold storeLp
    rw [List.map_cons, List.forIn_cons]
    have hm' := hm
    obtain ⟨o, es, ep, ho, hc, hd, he, his, hn⟩ := hm'
    refine wpAny_bind (wpAny_bind (wpAny_dictSet_heap (hsz := by omega) hu (hk _ (List.mem_cons_self ..)) hm fun h₁ hm₁ hs₁ => wpAny_pure ?_))
    refine storeH hu xs (storedH acc k a v) _ Q (fun x hx => knd.keeps (hk x (List.mem_cons_of_mem _ hx)) ho hd hs₁) hm₁ (by have e := storedH_le acc k a v; omega) fun h' t' hm' hs' => ?_
    exact hQ h' t' hm' (hs₁.trans hs')
end
end

/-- a new dict with the pairs: keys ints and texts, or tuples of such -/
def mergeT (acc : List (List L2.Key × V)) (xs : List (List L2.Key × Addr × V)) : List (List L2.Key × V) := xs.foldl (fun acc x => putK acc x.1 x.2.2) acc
theorem mergeT_le : ∀ (xs : List (List L2.Key × Addr × V)) (acc : List (List L2.Key × V)), (mergeT acc xs).length ≤ acc.length + xs.length
  | [], acc => Nat.le_refl _
  | x :: xs, acc => by
    have h1 := mergeT_le xs (putK acc x.1 x.2.2)
    have h2 := length_putK acc x.1 x.2.2
    show (mergeT (putK acc x.1 x.2.2) xs).length ≤ _
    rw [List.length_cons]
    omega
theorem KT_merge {H : Hp} : ∀ {xs : List (List L2.Key × Addr × V)} {ys : List (List L2.Key × Addr × Value)} {acc : List (List L2.Key × V)} {bs : List (List L2.Key × Addr × Value)},
    Paired (fun p q => p.1 = q.1 ∧ p.2.1 = q.2.1 ∧ H q.2.1 = some (.tup (p.1.map kV)) ∧ RelV p.2.2 q.2.2) xs ys → KT H acc bs → KT H (mergeT acc xs) (mergeH bs ys)
  | _, _, _, _, .nil, r => r
  | p :: ps, q :: qs, acc, bs, .cons ⟨h1, h2, h3, h4⟩ t, r => by
    show KT H (mergeT (putK acc p.1 p.2.2) ps) (mergeH (storedH bs q.1 q.2.1 q.2.2) qs)
    refine KT_merge t ?_
    have := r.put p.1 (b := q.2.1) h3 h4
    rw [← h1]
    exact this
def tDisp2 (trs : List (TE × TE)) : TE := fun σ H Q => ∀ p, H p = none → tPairs trs σ (upd H p (.dK [])) fun ps H2 => H2 p = some (.dK []) ∧
  ((∃ kvs : List (L2.Key × V), ps = kvs.map (fun kv => (kV kv.1, kv.2)) ∧ kvs.length ≤ 15 ∧ Q (.ref p) (upd H2 p (.dK (mergeK [] kvs)))) ∨
    ∃ kts : List (List L2.Key × Addr × V), ps = kts.map (fun x => (V.ref x.2.1, x.2.2)) ∧ kts.length ≤ 15 ∧ (∀ x ∈ kts, H2 x.2.1 = some (.tup (x.1.map kV))) ∧ Q (.ref p) (upd H2 p (.dT (mergeT [] kts))))
theorem pairs_H {H : Hp} : ∀ {kts : List (List L2.Key × Addr × V)} {ws : List (Value × Value)}, VV (kts.map fun x => (V.ref x.2.1, x.2.2)) ws → (∀ x ∈ kts, H x.2.1 = some (.tup (x.1.map kV))) →
    ∃ ys : List (List L2.Key × Addr × Value), ws = ys.map (fun x => (Value.ref x.2.1, x.2.2)) ∧ Paired (fun p q => p.1 = q.1 ∧ p.2.1 = q.2.1 ∧ H q.2.1 = some (.tup (p.1.map kV)) ∧ RelV p.2.2 q.2.2) kts ys
  | [], _, r, _ => by
    rw [List.map_nil] at r
    cases r
    exact ⟨[], rfl, .nil⟩
  | x :: kts, _, r, hk => by
    rw [List.map_cons] at r
    cases r with
    | @cons a b as bs h t =>
      obtain ⟨ys, e, p⟩ := pairs_H t fun y hy => hk y (List.mem_cons_of_mem _ hy)
      obtain ⟨b1, b2⟩ := b
      obtain ⟨h1, h2⟩ := h
      have e1 : b1 = Value.ref x.2.1 := h1
      subst e1
      exact ⟨(x.1, x.2.1, b2) :: ys, by rw [e]; rfl, .cons ⟨rfl, rfl, hk x (List.mem_cons_self ..), h2⟩ p⟩
theorem storeLp_eq {prog : Program} {w : World} {κ : Type} [DecidableEq κ] {knd : PySem.KeyKind prog w κ} {A : Around} {E : Value → Shared → Prop} {d : Addr} {vs : List (Value × Value)} {kvs acc : List (κ × Value)} {s : Shared} {Q : PUnit → Shared → Prop} (hc : Carries knd vs kvs) (hm : s.heap.DictOf knd d acc) (hz : acc.length + kvs.length ≤ sizeLine)
    (hQ : ∀ h', h'.DictOf knd d (merged acc kvs) → Heap.SameBut d s.heap h' → Q PUnit.unit { s with heap := h', toks := s.toks + vs.length }) : wpAny (model prog w) A (storeLp d vs) Q E s := wpAny_storeAll vs kvs acc s Q hc hm hz hQ
theorem pe_disp2 {X : Cx} {pos : Pos} {keys : List (Option Expr)} {values : List Expr} {trs : List (TE × TE)} (hu : X.A.units + 1 < cLine) (h : PPs X pos keys values trs) (hall : keys.all (·.isSome) = true) (hl : keys.length = values.length) (h0 : keys ≠ [])
    (h15 : keys.length ≤ 15) : PE X (.Dict keys values pos) (tDisp2 trs) := by
  refine ⟨fun pins s σ H Q I q => ?_⟩
  have hn := I.hok.fresh (Nat.le_refl s.heap.objs.size)
  have I1 := I.laid (a := s.heap.objs.size) (o := .dK []) (h' := s.heap.push { cls := .type "dict", data := .dict #[] }) (t' := s.toks) (fun _ _ q => Heap.get?_push_of_some _ q) (Nat.le_refl _) (dk_empty s.heap I.big)
  refine dict_gen hall hl h0 h15 (thn (h.run pins _ σ _ _ I1 (q _ hn)) fun ws s2 ⟨ps, H2, I2, rel, e, q2⟩ hlen => ?_)
  rcases q2 with ⟨kvs, ep, lk, q2⟩ | ⟨kts, ep, lk, hk, q2⟩
  · subst ep
    obtain ⟨rs, c, rk⟩ := carries_of (P := X.prog) (w := X.w) rel
    obtain ⟨z, hd, vs0, r0, dd⟩ := dk_of I2.hok e
    cases r0
    have hz : (mergeK [] kvs).length ≤ sizeLine := by
      have h1 := length_mergeK kvs []
      rw [List.length_nil] at h1
      rw [sizeLine_eq]; omega
    have hz2 : ([] : List (L2.Key × Value)).length + rs.length ≤ sizeLine := by
      rw [← rk.length, List.length_nil, sizeLine_eq]; omega
    refine storeLp_eq c dd hz2 fun h' dd' hs => ⟨.ref s.heap.objs.size, _, ?_, rfl, q2⟩
    have he : ∃ q, h'.get? s.heap.objs.size = some q := let ⟨q, _, _, hq, _⟩ := dd'; ⟨q, hq⟩
    exact d_write I2 (by rw [e]; exact True.intro) hs he (dk_new hz hd (rk.merge .nil) dd')
  · subst ep
    obtain ⟨ys, ew, pr⟩ := pairs_H rel hk
    subst ew
    obtain ⟨z, hd, vs0, r0, dd⟩ := dk_of I2.hok e
    cases r0
    obtain ⟨o, es, ep2, ho, hc, hdat, _, hes, -⟩ := dd
    have es0 : es.toList = [] := by
      generalize es.toList = l at hes
      cases hes
      rfl
    have hm : s2.heap.DictOfH (tupleKind (mixKind X.prog X.w)) s.heap.objs.size [] := ⟨o, es, ep2, ho, hc, hdat, es0, fun _ hx => by simp at hx, List.nodup_nil⟩
    have all : ∀ {l : List (List L2.Key × Addr × V)} {m : List (List L2.Key × Addr × Value)}, Paired (fun p q => p.1 = q.1 ∧ p.2.1 = q.2.1 ∧ H2 q.2.1 = some (.tup (p.1.map kV)) ∧ RelV p.2.2 q.2.2) l m → ∀ x ∈ m, (tupleKind (mixKind X.prog X.w)).is s2.heap x.1 x.2.1 := by
      intro l m q
      induction q with
      | nil => intro x hx; exact nomatch hx
      | @cons p q ps qs hq t ih =>
        intro x hx
        rcases List.mem_cons.mp hx with e | hx
        · subst e
          exact key_of I2.hok (by rw [← hq.1]; exact hq.2.2.1)
        · exact ih x hx
    have hlen2 : ys.length = kts.length := (Paired.length pr).symm
    refine storeH (knd := tupleKind (mixKind X.prog X.w)) (by exact Nat.lt_of_succ_lt hu) ys [] s2 _ (all pr) hm (by rw [List.length_nil, sizeLine_eq]; omega) fun h' t' dd' hs => ⟨.ref s.heap.objs.size, _, ?_, rfl, q2⟩
    obtain ⟨o', es', ep', hq', h2', h3', h4', _, h5'⟩ := dd'
    have hz : (mergeT [] kts).length ≤ sizeLine := by
      have h1 := mergeT_le kts []
      rw [List.length_nil] at h1
      rw [sizeLine_eq]; omega
    refine d_write I2 (by rw [e]; exact True.intro) hs ⟨o', hq'⟩ ⟨hz, hd, _, (KT_merge pr (acc := []) (bs := []) .nil).keeps fun c ys ec => ?_, o', es', ep', hq', h2', h3', h4', h5'⟩
    rw [upd_ne (ne_of ec e (fun z => nomatch z))]
    exact ec
end Tw
end

section
set_option Elab.async false
set_option linter.all false
set_option maxRecDepth 100000
set_option maxHeartbeats 4000000
/-! The operations by values: each does what the core language says. Own work. -/
namespace Tw
open PySem PySem.Spec PyProof.Rows L2

/-- two values in, by the core language -/
def rOp (K : Frg) (f : D → D → Heap → R (D × Heap)) : R2 := fun x y H Q => ∃ (W : Wish) (ι : List Addr) (hp : Heap) (d1 d2 : D), HpRep K H ι hp ∧ Rep K H ι d1 x ∧ Rep K H ι d2 y ∧ PoE K W ι H (f d1 d2 hp) Q
theorem rdE_op {K : Frg} {W : WS} {c : Ctx} {f : D → D → Heap → R (D × Heap)} {a b : CE} {σ : L2.St} {H : Hp} {Q : VK} {ι : List Addr} {ρ : Env} {hp : Heap} (hs : SRep K H ι σ ρ) (hh : HpRep K H ι hp)
    (p : PoE K (wr K W σ) ι H ((ev c a ρ hp).bind fun x => (ev c b ρ x.2).bind fun y => f x.1 y.1 y.2) Q) : tOp (rOp K f) (rdE K W c a) (rdE K W c b) σ H Q := by
  refine ⟨ι, ρ, hp, hs, hh, p.bind.mono fun x ι1 H1 s1 p1 v h1 r1 => ?_⟩
  refine ⟨ι1, ρ, x.2, hh.srep s1 hs, h1, p1.bind.mono fun y ι2 H2 s2 p2 w h2 r2 => ?_⟩
  exact ⟨_, ι2, y.2, x.1, y.1, h2, h1.rep s2 _ _ r1, r2, p2⟩

def opN : BOp → Operator
  | .add => .Add | .sub => .Sub | .mul => .Mult | .mod => .Mod | .fdiv => .FloorDiv | .pow => .Pow | .shl => .LShift
def cpN : COp → CmpOp
  | .eq => .Eq | .ne => .NotEq | .lt => .Lt | .le => .LtE | .gt => .Gt | .ge => .GtE | .is => .Is | .isnot => .IsNot | .isin => .In | .notin => .NotIn

theorem lim_eq : sizeLine = LIM := by rw [sizeLine_eq]; rfl
theorem small_mul {i j : Int} (h : (small i || small j) = true) : CMul i j := by
  rcases Bool.or_eq_true_iff.mp h with h | h <;> (unfold small at h; obtain ⟨h1, h2⟩ := Bool.and_eq_true_iff.mp h; have h1 := of_decide_eq_true h1; have h2 := of_decide_eq_true h2)
  · exact .inl ⟨by omega, by omega⟩
  · exact .inr ⟨by omega, by omega⟩

section
variable {X : Cx} {W : Wish}
/-- a new tuple, by values -/
theorem new_tup {K : Frg} {ι : List Addr} {H : Hp} {hp : Heap} {ds : List D} {vs : List V} {Q : VK} {p : Addr} (hh : HpRep K H ι hp) (r : Reps K H ι ds vs) (hn : H p = none) (po : PoE K W ι H (.ok (.tup ds, hp)) Q) : Q (.ref p) (upd H p (.tup vs)) :=
  po ι _ (hh.fresh0 hn) _ (hh.laid0 hn) ⟨p, vs, rfl, upd_same, hh.reps (hh.fresh0 hn) _ _ r⟩
/-- a new list, by values -/
theorem new_lst {K : Frg} {ι : List Addr} {H : Hp} {hp : Heap} {ds : List D} {vs : List V} {Q : VK} {p : Addr} (hh : HpRep K H ι hp) (r : Reps K H ι ds vs) (hn : H p = none) (po : PoE K W ι H (.ok (.ref hp.length, hp ++ [.lst ds])) Q) : Q (.ref p) (upd H p (.lst vs)) := by
  refine po (ι ++ [p]) _ (hh.fresh hn) _ (hh.laid hn ⟨vs, upd_same, hh.reps (hh.fresh hn) _ _ r⟩) ⟨p, rfl, ?_⟩
  rw [List.getElem?_append_right (by rw [hh.len]; exact Nat.le_refl _), hh.len, Nat.sub_self]
  rfl

theorem op_B (op : BOp) : OpR X (binaryOp (opN op)) (rOp X.K (opB op)) := by
  intro pins s σ H x y v u Q I rx ry h
  obtain ⟨W, ι, hp, d1, d2, hh, r1, r2, po⟩ := h
  cases op with
  | add =>
    cases d1 with
    | int i =>
      cases d2 with
      | int j => exact op_add pins s σ H x y v u Q I rx ry ⟨i, j, r1, r2, PoE.now po hh rfl⟩
      | _ => exact po.elim
    | tup a =>
      cases d2 with
      | tup b =>
        obtain ⟨hl, po⟩ := Po.chk po
        have hl := of_decide_eq_true hl
        obtain ⟨p, vs, e1, q1, z1⟩ := r1
        obtain ⟨q, ws, e2, q2, z2⟩ := r2
        refine op_catA pins s σ H x y v u Q I rx ry ⟨p, q, vs, ws, e1, e2, q1, q2, by rw [lim_eq, ← z1.length, ← z2.length]; exact hl, ?_⟩
        refine ⟨fun h0 => ?_, fun _ h0 => ?_, fun _ _ l hn => new_tup hh (z1.append z2) hn po⟩
        · subst h0
          cases a with
          | nil => exact PoE.now po hh ⟨q, ws, rfl, q2, z2⟩
          | cons d r => obtain ⟨_, _, e, _⟩ := z1; cases e
        · subst h0
          cases b with
          | nil =>
            rw [List.append_nil] at po
            exact PoE.now po hh ⟨p, vs, rfl, q1, z1⟩
          | cons d r => obtain ⟨_, _, e, _⟩ := z2; cases e
      | _ => exact po.elim
    | ref m =>
      cases d2 with
      | ref k =>
        obtain ⟨a, rfl, ha⟩ := r1
        obtain ⟨b, rfl, hb⟩ := r2
        have po : PoE X.K W ι H (catL hp hp[m]? hp[k]?) Q := po
        cases hm : hp[m]? with
        | none => rw [hm] at po; exact po.elim
        | some o =>
          cases hk : hp[k]? with
          | none =>
            rw [hm, hk] at po
            cases o <;> exact po.elim
          | some o2 =>
            rw [hm, hk] at po
            cases o with
            | dct kvs => exact po.elim
            | dtt kvs => exact po.elim
            | lst xs =>
              cases o2 with
              | dct kvs => exact po.elim
              | dtt kvs => exact po.elim
              | lst ys =>
                obtain ⟨hl, po⟩ := Po.chk po
                have hl := of_decide_eq_true hl
                obtain ⟨ws, q1, z1⟩ := hh.lst hm ha
                obtain ⟨us, q2, z2⟩ := hh.lst hk hb
                exact op_cat pins s σ H _ _ v u Q I rx ry ⟨a, b, ws, us, rfl, rfl, q1, q2, by rw [lim_eq, ← z1.length, ← z2.length]; exact hl, fun p hn => new_lst hh (z1.append z2) hn po⟩
      | _ => exact po.elim
    | _ => exact po.elim
  | sub =>
    cases d1 with
    | int i =>
      cases d2 with
      | int j => exact op_sub pins s σ H x y v u Q I rx ry ⟨i, j, r1, r2, PoE.now po hh rfl⟩
      | _ => exact po.elim
    | _ => exact po.elim
  | mul =>
    cases d1 with
    | int i =>
      cases d2 with
      | int j =>
        obtain ⟨hl, po⟩ := Po.chk po
        exact op_mul pins s σ H x y v u Q I rx ry ⟨i, j, r1, r2, small_mul hl, PoE.now po hh rfl⟩
      | _ => exact po.elim
    | tup a =>
      cases d2 with
      | int k =>
        obtain ⟨hl, po⟩ := Po.chk po
        obtain ⟨hl, h4⟩ := Bool.and_eq_true_iff.mp hl
        obtain ⟨hl, h3⟩ := Bool.and_eq_true_iff.mp hl
        obtain ⟨h1, h2⟩ := Bool.and_eq_true_iff.mp hl
        have h1 := of_decide_eq_true h1
        have h2 := of_decide_eq_true h2
        have h3 := of_decide_eq_true h3
        have h4 := of_decide_eq_true h4
        obtain ⟨p, vs, e1, q1, z1⟩ := r1
        have hl := z1.length
        have hne : vs ≠ [] := fun e => by
          rw [e] at hl
          rw [show a.length = 0 from hl] at h3
          omega
        by_cases k0 : k = 0
        · subst k0
          refine op_repT0 pins s σ H x y v u Q I rx ry ⟨p, vs, e1, r2, q1, hne, fun l hn => ?_⟩
          exact new_tup hh (ds := []) (vs := []) rfl hn po
        · by_cases k1 : k = 1
          · subst k1
            refine op_repT1 pins s σ H x y v u Q I rx ry ⟨p, vs, e1, r2, q1, ?_⟩
            have po : PoE X.K W ι H (.ok (.tup (a ++ []), hp)) Q := po
            rw [List.append_nil] at po
            exact PoE.now po hh ⟨p, vs, rfl, q1, z1⟩
          · refine op_repT pins s σ H x y v u Q I rx ry ⟨p, k, vs, e1, r2, q1, hne, by omega, h2, by omega, fun l hn => ?_⟩
            exact new_tup hh (z1.rep k.toNat) hn po
      | _ => exact po.elim
    | _ => exact po.elim
  | mod =>
    cases d1 with
    | int i =>
      cases d2 with
      | int j =>
        obtain ⟨hl, po⟩ := Po.chk po
        exact op_mod pins s σ H x y v u Q I rx ry ⟨i, j, r1, r2, of_decide_eq_true hl, PoE.now po hh rfl⟩
      | _ => exact po.elim
    | _ => exact po.elim
  | fdiv =>
    cases d1 with
    | int i =>
      cases d2 with
      | int j =>
        obtain ⟨hl, po⟩ := Po.chk po
        obtain ⟨h1, h2⟩ := Bool.and_eq_true_iff.mp hl
        exact op_fdiv pins s σ H x y v u Q I rx ry ⟨i, j, r1, r2, ⟨of_decide_eq_true h1, of_decide_eq_true h2⟩, PoE.now po hh rfl⟩
      | _ => exact po.elim
    | _ => exact po.elim
  | pow =>
    cases d1 with
    | int i =>
      cases d2 with
      | int j =>
        obtain ⟨hl, po⟩ := Po.chk po
        obtain ⟨hl, h4⟩ := Bool.and_eq_true_iff.mp hl
        obtain ⟨hl, h3⟩ := Bool.and_eq_true_iff.mp hl
        obtain ⟨h1, h2⟩ := Bool.and_eq_true_iff.mp hl
        have h1 := of_decide_eq_true h1
        have h2 := of_decide_eq_true h2
        have h3 := of_decide_eq_true h3
        have h4 := of_decide_eq_true h4
        exact op_pow pins s σ H x y v u Q I rx ry ⟨i, j, r1, r2, ⟨h3, by omega, by omega⟩, PoE.now po hh rfl⟩
      | _ => exact po.elim
    | _ => exact po.elim
  | shl =>
    cases d1 with
    | int i =>
      cases d2 with
      | int j =>
        obtain ⟨hl, po2⟩ := Po.chk po
        obtain ⟨hl, h3⟩ := Bool.and_eq_true_iff.mp hl
        obtain ⟨h1, h2⟩ := Bool.and_eq_true_iff.mp hl
        have h1 := of_decide_eq_true h1
        have h2 := of_decide_eq_true h2
        have h3 := of_decide_eq_true h3
        subst h1
        refine op_shl pins s σ H x y v u Q I rx ry ⟨1, j, r1, r2, ⟨h2, by omega, by decide⟩, ?_⟩
        show Q (V.int (1 * 2 ^ j.toNat)) H
        rw [Int.one_mul]
        exact PoE.now po2 hh rfl
      | _ => exact po.elim
    | _ => exact po.elim

/-! ### comparisons -/
mutual
def toP : D → PyData
  | .non => .none
  | .bl b => .bool b
  | .int i => .int i
  | .str x => .str x
  | .tup ds => .tuple (toPs ds)
  | .seq ds => .list (toPs ds)
  | .ref _ => .none
  | .ctp _ => .none
def toPs : List D → List PyData
  | [] => []
  | d :: ds => toP d :: toPs ds
end
mutual
theorem deep_dp {K : Frg} {H : Hp} {ι : List Addr} : ∀ (k : Nat) (d : D) (v : V), d.deep k = true → Rep K H ι d v → Dp K H v (toP d) ∧ (toP d).canLay0 = true ∧ (toP d).depth ≤ k
  | k, .non, v, h, r => by rw [show v = .non from r]; exact ⟨.non, by simp [toP, PyData.canLay0], by simp [toP, PyData.depth]⟩
  | k, .bl b, v, h, r => by rw [show v = .bl b from r]; exact ⟨.bl b, by simp [toP, PyData.canLay0], by simp [toP, PyData.depth]⟩
  | k, .int i, v, h, r => by rw [show v = .int i from r]; exact ⟨.int i, by simp [toP, PyData.canLay0], by simp [toP, PyData.depth]⟩
  | k, .str x, v, h, r => by
    rw [show v = .str x from r]
    refine ⟨.str x, ?_, by simp [toP, PyData.depth]⟩
    have h : sOk x = true := by cases k <;> exact h
    unfold toP PyData.canLay0
    exact h
  | 0, .tup ds, v, h, r => by cases h
  | k + 1, .tup ds, v, h, r => by
    obtain ⟨a, vs, rfl, q, z⟩ := r
    obtain ⟨h1, h2, h3⟩ := deeps_dp k ds vs (show D.deeps k ds = true from h) z
    refine ⟨.tup q h1, ?_, ?_⟩
    · simp only [toP, PyData.canLay0]; exact h2
    · simp only [toP, PyData.depth]; omega
  | 0, .seq ds, v, h, r => by cases h
  | k + 1, .seq ds, v, h, r => by
    obtain ⟨a, vs, rfl, q, z⟩ := r
    obtain ⟨h1, h2, h3⟩ := deeps_dp k ds vs (show D.deeps k ds = true from h) z
    refine ⟨.lst q.sq h1, ?_, ?_⟩
    · simp only [toP, PyData.canLay0]; exact h2
    · simp only [toP, PyData.depth]; omega
  | k, .ref n, v, h, r => by cases k <;> cases h
  | k, .ctp n, v, h, r => by cases k <;> cases h
theorem deeps_dp {K : Frg} {H : Hp} {ι : List Addr} : ∀ (k : Nat) (ds : List D) (vs : List V), D.deeps k ds = true → Reps K H ι ds vs → DpAll K H vs (toPs ds) ∧ PyData.canLayAll0 (toPs ds) = true ∧ PyData.depthAll (toPs ds) ≤ k
  | k, [], vs, h, r => by rw [show vs = [] from r]; exact ⟨.nil, by simp [toPs, PyData.canLayAll0], by simp [toPs, PyData.depthAll]⟩
  | k, d :: ds, vs, h, r => by
    obtain ⟨v, w, rfl, r1, r2⟩ := r
    obtain ⟨g1, g2⟩ := Bool.and_eq_true_iff.mp (show (D.deep k d && D.deeps k ds) = true from h)
    obtain ⟨a1, a2, a3⟩ := deep_dp k d v g1 r1
    obtain ⟨b1, b2, b3⟩ := deeps_dp k ds w g2 r2
    refine ⟨.cons a1 b1, ?_, ?_⟩
    · simp only [toPs, PyData.canLayAll0, a2, b2, Bool.and_self]
    · simp only [toPs, PyData.depthAll]; omega
end
mutual
theorem eqd_ok : ∀ (j k : Nat) (x y : D), x.deep j = true → y.deep k = true → PyData.eqv (toP x) (toP y) = eqd x y
  | j, k, x, y, hx, hy => by
    cases x <;> cases y
    case tup.tup a b =>
      cases j with
      | zero => cases hx
      | succ j =>
        cases k with
        | zero => cases hy
        | succ k =>
          simp only [toP, PyData.eqv, eqd]
          exact eqds_ok j k a b hx hy
    case seq.seq a b =>
      cases j with
      | zero => cases hx
      | succ j =>
        cases k with
        | zero => cases hy
        | succ k =>
          simp only [toP, PyData.eqv, eqd]
          exact eqds_ok j k a b hx hy
    all_goals first
      | (cases j <;> cases hx; done)
      | (cases k <;> cases hy; done)
      | (simp only [toP, PyData.eqv, eqd]; done)
      | (simp [toP, PyData.eqv, eqd, Bool.beq_eq_decide_eq]; done)
theorem eqds_ok : ∀ (j k : Nat) (x y : List D), D.deeps j x = true → D.deeps k y = true → PyData.eqvAll (toPs x) (toPs y) = eqds x y
  | j, k, [], [], _, _ => by simp [toPs, PyData.eqvAll, eqds]
  | j, k, [], _ :: _, _, _ => by simp [toPs, PyData.eqvAll, eqds]
  | j, k, _ :: _, [], _, _ => by simp [toPs, PyData.eqvAll, eqds]
  | j, k, a :: as, b :: bs, hx, hy => by
    obtain ⟨g1, g2⟩ := Bool.and_eq_true_iff.mp (show (D.deep j a && D.deeps j as) = true from hx)
    obtain ⟨g3, g4⟩ := Bool.and_eq_true_iff.mp (show (D.deep k b && D.deeps k bs) = true from hy)
    simp only [toPs, PyData.eqvAll, eqds, eqd_ok j k a b g1 g3, eqds_ok j k as bs g2 g4]
end
theorem eqs_ok {K : Frg} {H : Hp} {ι : List Addr} {d1 d2 : D} {x y : V} {b : Bool} (r1 : Rep K H ι d1 x) (r2 : Rep K H ι d2 y) (e : eqs d1 d2 = some b) :
    (L2.scal x y = true ∧ decide (x = y) = b) ∨ ∃ p q, Dp K H x p ∧ Dp K H y q ∧ SeqAt.shaped p = true ∧ SeqAt.shaped q = true ∧ PyData.eqv p q = b := by
  unfold eqs at e
  split at e
  · simp only [Rep] at r1 r2; subst r1 r2; cases e; exact .inl (by simp [L2.scal])
  · simp only [Rep] at r1 r2; subst r1 r2; cases e; exact .inl (by simp [L2.scal])
  · simp only [Rep] at r1 r2; subst r1 r2; cases e; exact .inl (by simp [L2.scal])
  · simp only [Rep] at r1 r2; subst r1 r2; cases e; exact .inl (by simp [L2.scal])
  · split at e
    · rename_i hc
      cases e
      obtain ⟨h1, h2⟩ := Bool.and_eq_true_iff.mp hc
      obtain ⟨a1, a2, a3⟩ := deep_dp _ _ _ h1 r1
      obtain ⟨b1, b2, b3⟩ := deep_dp _ _ _ h2 r2
      refine .inr ⟨_, _, a1, b1, ?_, ?_, eqd_ok _ _ _ _ h1 h2⟩
      · unfold SeqAt.shaped
        rw [a2, decide_eq_true (show (toP d1).depth ≤ 64 by have : DEEP = 8 := rfl; omega)]
        rfl
      · unfold SeqAt.shaped
        rw [b2, decide_eq_true (show (toP d2).depth ≤ 64 by have : DEEP = 8 := rfl; omega)]
        rfl
    · cases e
theorem scal_flat {K : Frg} {H : Hp} {ι : List Addr} {d : D} {x : V} (r : Rep K H ι d x) (e : Tw.scal d = true) : flatV x = true := by
  cases d <;> simp only [Tw.scal] at e <;> (try cases e) <;> (simp only [Rep] at r; subst r; rfl)
theorem eqf_ok {K : Frg} {H : Hp} {ι : List Addr} {d1 d2 : D} {x y : V} (r1 : Rep K H ι d1 x) (r2 : Rep K H ι d2 y) (e1 : Tw.scal d1 = true) (e2 : Tw.scal d2 = true) : eqV x y = eqf d1 d2 := by
  cases d1 <;> simp only [Tw.scal] at e1 <;> (try cases e1) <;> cases d2 <;> simp only [Tw.scal] at e2 <;> (try cases e2) <;> (simp only [Rep] at r1 r2; subst r1 r2; first | rfl | simp [eqV, eqf, Bool.beq_eq_decide_eq])
theorem all_flat {K : Frg} {H : Hp} {ι : List Addr} : ∀ {ds : List D} {vs : List V}, Reps K H ι ds vs → ds.all Tw.scal = true → vs.all flatV = true
  | [], _, e, _ => by rw [show _ = [] from e]; rfl
  | d :: ds, _, ⟨v, r, rfl, h1, h2⟩, f => by
    rw [List.all_cons, Bool.and_eq_true] at f ⊢
    exact ⟨scal_flat h1 f.1, all_flat h2 f.2⟩
theorem inV_ok {K : Frg} {H : Hp} {ι : List Addr} {d : D} {x : V} (rx : Rep K H ι d x) (fx : Tw.scal d = true) : ∀ {ds : List D} {vs : List V}, Reps K H ι ds vs → ds.all Tw.scal = true → inV x vs = ds.any fun z => eqf z d
  | [], _, e, _ => by rw [show _ = [] from e]; rfl
  | z :: ds, _, ⟨v, r, rfl, h1, h2⟩, f => by
    rw [List.all_cons, Bool.and_eq_true] at f
    show (v :: r).any (fun y => eqV y x) = _
    rw [List.any_cons, List.any_cons, eqf_ok h1 rx f.1 fx]
    exact congrArg _ (inV_ok rx fx h2 f.2)
theorem keyOf_ok {K : Frg} {H : Hp} {ι : List Addr} {d : D} {x : V} {k : Key} (r : Rep K H ι d x) (e : keyOf d = some k) : x = kV k := by
  cases d <;> simp only [keyOf] at e <;> (try cases e) <;> (simp only [Rep] at r; subst r; rfl)
theorem keysOf_ok {K : Frg} {H : Hp} {ι : List Addr} : ∀ {ds : List D} {vs : List V} {ks : List Key}, Reps K H ι ds vs → keysOf ds = some ks → vs = ks.map kV
  | [], vs, ks, r, e => by cases e; exact r
  | d :: ds, vs, ks, r, e => by
    obtain ⟨v, w, rfl, r1, r2⟩ := r
    simp only [keysOf, Option.bind_eq_some_iff, Option.map_eq_some_iff] at e
    obtain ⟨k, h1, ks', h2, rfl⟩ := e
    rw [keyOf_ok r1 h1, keysOf_ok r2 h2]
    rfl
theorem keyT_ok {K : Frg} {H : Hp} {ι : List Addr} {d : D} {x : V} {ks : List Key} (r : Rep K H ι d x) (e : keyT d = some ks) : ∃ b, x = .ref b ∧ H b = some (.tup (ks.map kV)) := by
  cases d <;> simp only [keyT] at e <;> (try cases e)
  obtain ⟨a, vs, rfl, q, z⟩ := r
  exact ⟨a, rfl, by rw [← keysOf_ok z e]; exact q⟩
theorem findV_ok {κ : Type} [DecidableEq κ] {K : Frg} {H : Hp} {ι : List Addr} (k : κ) : ∀ {kvs : List (κ × D)} {ws : List (κ × V)}, RepK K H ι kvs ws → (findV kvs k = none ∧ valV ws k = none) ∨ ∃ d v, findV kvs k = some d ∧ valV ws k = some v ∧ Rep K H ι d v
  | [], ws, ⟨e, _⟩ => by
    cases ws with
    | nil => exact .inl ⟨rfl, rfl⟩
    | cons _ _ => cases e
  | (a, d) :: r, ws, ⟨e, q⟩ => by
    cases ws with
    | nil => cases e
    | cons w ws =>
      obtain ⟨b, v⟩ := w
      simp only [List.map_cons, List.cons.injEq] at e
      obtain ⟨v', r', e2, h1, h2⟩ := q
      simp only [List.map_cons, List.cons.injEq] at e2
      obtain ⟨e2, e3⟩ := e2
      obtain ⟨rfl, e⟩ := e
      subst e2 e3
      by_cases hk : a = k
      · exact .inr ⟨d, v, by simp [findV, hk], valV_pos hk, h1⟩
      · rcases findV_ok k (kvs := r) (ws := ws) ⟨e, h2⟩ with ⟨z1, z2⟩ | ⟨d', w', z1, z2, z3⟩
        · exact .inl ⟨by simpa [findV, List.find?_cons, hk] using z1, by rw [valV_neg hk]; exact z2⟩
        · exact .inr ⟨d', w', by simpa [findV, List.find?_cons, hk] using z1, by rw [valV_neg hk]; exact z2, z3⟩
theorem non_iff {K : Frg} {H : Hp} {ι : List Addr} {d : D} {x : V} (r : Rep K H ι d x) : (x = .non) ↔ d = .non := by
  cases d <;> simp only [Rep] at r
  all_goals first
    | (subst r; simp)
    | (obtain ⟨a, r⟩ := r
       first
         | (obtain ⟨vs, rfl, _⟩ := r; simp)
         | (obtain ⟨rfl, _⟩ := r; simp))

theorem in_deep {K : Frg} {H : Hp} {ι : List Addr} {d : D} {x : V} {ds : List D} {a : Addr} {ws : List V} (r : Rep K H ι d x) (q : SqL K H a ws) (z : Reps K H ι ds ws) (h1 : D.deeps DEEP ds = true) (h2 : d.deep DEEP = true) :
    Dp K H x (toP d) ∧ Dp K H (.ref a) (.list (toPs ds)) ∧ SeqAt.shaped (toP d) = true ∧ SeqAt.shaped (.list (toPs ds)) = true ∧ ((toPs ds).any fun z => PyData.eqv z (toP d)) = ds.any fun z => eqd z d := by
  obtain ⟨a1, a2, a3⟩ := deep_dp _ _ _ h2 r
  obtain ⟨b1, b2, b3⟩ := deeps_dp _ _ _ h1 z
  refine ⟨a1, .lst q b1, ?_, ?_, ?_⟩
  · unfold SeqAt.shaped
    rw [a2, decide_eq_true (show (toP d).depth ≤ 64 by have : DEEP = 8 := rfl; omega)]
    rfl
  · unfold SeqAt.shaped
    rw [show (PyData.list (toPs ds)).canLay0 = PyData.canLayAll0 (toPs ds) by simp only [PyData.canLay0], b2, decide_eq_true (show (PyData.list (toPs ds)).depth ≤ 64 by simp only [PyData.depth]; have : DEEP = 8 := rfl; omega)]
    rfl
  · clear z b1 b2 b3
    induction ds with
    | nil => rfl
    | cons y ds ih =>
      obtain ⟨g1, g2⟩ := Bool.and_eq_true_iff.mp (show (D.deep DEEP y && D.deeps DEEP ds) = true from h1)
      rw [toPs, List.any_cons, List.any_cons, ih g2, eqd_ok _ _ _ _ g1 h2]
theorem in_deepT {K : Frg} {H : Hp} {ι : List Addr} {d : D} {x : V} {ds : List D} {a : Addr} {ws : List V} (r : Rep K H ι d x) (q : SqT K H a ws) (z : Reps K H ι ds ws) (h1 : D.deeps DEEP ds = true) (h2 : d.deep DEEP = true) :
    Dp K H x (toP d) ∧ Dp K H (.ref a) (.tuple (toPs ds)) ∧ SeqAt.shaped (toP d) = true ∧ PyData.canLayAll0 (toPs ds) = true ∧ ((toPs ds).any fun z => PyData.eqv z (toP d)) = ds.any fun z => eqd z d := by
  obtain ⟨a1, a2, a3⟩ := deep_dp _ _ _ h2 r
  obtain ⟨b1, b2, b3⟩ := deeps_dp _ _ _ h1 z
  refine ⟨a1, .tup q b1, ?_, b2, ?_⟩
  · unfold SeqAt.shaped
    rw [a2, decide_eq_true (show (toP d).depth ≤ 64 by have : DEEP = 8 := rfl; omega)]
    rfl
  · clear z b1 b2 b3
    induction ds with
    | nil => rfl
    | cons y ds ih =>
      obtain ⟨g1, g2⟩ := Bool.and_eq_true_iff.mp (show (D.deep DEEP y && D.deeps DEEP ds) = true from h1)
      rw [toPs, List.any_cons, List.any_cons, ih g2, eqd_ok _ _ _ _ g1 h2]
def rInDT (K : Frg) : R2 := fun x y H Q => ∃ d ds, Dp K H x d ∧ Dp K H y (.tuple ds) ∧ SeqAt.shaped d = true ∧ PyData.canLayAll0 ds = true ∧ Q (.bl (ds.any fun z => PyData.eqv z d)) H
def rNotInDT (K : Frg) : R2 := fun x y H Q => ∃ d ds, Dp K H x d ∧ Dp K H y (.tuple ds) ∧ SeqAt.shaped d = true ∧ PyData.canLayAll0 ds = true ∧ Q (.bl (!ds.any fun z => PyData.eqv z d)) H
theorem op_inDT {X : Cx} (hu : X.A.units + 65 < cLine) : OpR X (compareOp .In) (rInDT X.K) := by
  intro pins s σ H x y v u Q I rx ry h
  obtain ⟨d, ds, hd, he, sd, se, q⟩ := h
  obtain ⟨as, r1⟩ := Dp.reads I d x v hd rx
  obtain ⟨bs, r2⟩ := Dp.reads I (.tuple ds) y u he ry
  exact SeqAt.in_tuple_reads r2 r1 se (SeqAt.canLay_of_shaped sd) (room_in_shaped sd hu) ⟨.bl _, H, I, rfl, q⟩
theorem op_notInDT {X : Cx} (hu : X.A.units + 65 < cLine) : OpR X (compareOp .NotIn) (rNotInDT X.K) := by
  intro pins s σ H x y v u Q I rx ry h
  obtain ⟨d, ds, hd, he, sd, se, q⟩ := h
  obtain ⟨as, r1⟩ := Dp.reads I d x v hd rx
  obtain ⟨bs, r2⟩ := Dp.reads I (.tuple ds) y u he ry
  exact SeqAt.notIn_tuple_reads r2 r1 se (SeqAt.canLay_of_shaped sd) (room_in_shaped sd hu) ⟨.bl _, H, I, rfl, q⟩
theorem op_C (op : COp) (hu64 : X.A.units + 70 < cLine) : OpR X (compareOp (cpN op)) (rOp X.K (opC op)) := by
  intro pins s σ H x y v u Q I rx ry h
  obtain ⟨W, ι, hp, d1, d2, hh, r1, r2, po⟩ := h
  have hu : X.A.units + 1 < cLine := by omega
  cases op with
  | eq =>
    obtain ⟨b, e, po⟩ := Po.ofO po
    rcases eqs_ok r1 r2 e with ⟨e1, e2⟩ | ⟨p, q, z1, z2, z3, z4, z5⟩
    · exact op_eq pins s σ H x y v u Q I rx ry ⟨e1, by rw [e2]; exact PoE.now po hh rfl⟩
    · exact op_eqD (by omega) pins s σ H x y v u Q I rx ry ⟨p, q, z1, z2, z3, z4, by rw [z5]; exact PoE.now po hh rfl⟩
  | ne =>
    obtain ⟨b, e, po⟩ := Po.ofO po
    rcases eqs_ok r1 r2 e with ⟨e1, e2⟩ | ⟨p, q, z1, z2, z3, z4, z5⟩
    · exact op_ne pins s σ H x y v u Q I rx ry ⟨e1, by rw [e2]; exact PoE.now po hh rfl⟩
    · exact op_neD (by omega) pins s σ H x y v u Q I rx ry ⟨p, q, z1, z2, z3, z4, by rw [z5]; exact PoE.now po hh rfl⟩
  | lt =>
    cases d1 <;> cases d2 <;> first | exact po.elim | skip
    exact op_lt pins s σ H x y v u Q I rx ry ⟨_, _, r1, r2, PoE.now po hh rfl⟩
  | le =>
    cases d1 <;> cases d2 <;> first | exact po.elim | skip
    exact op_le pins s σ H x y v u Q I rx ry ⟨_, _, r1, r2, PoE.now po hh rfl⟩
  | gt =>
    cases d1 <;> cases d2 <;> first | exact po.elim | skip
    exact op_gt pins s σ H x y v u Q I rx ry ⟨_, _, r1, r2, PoE.now po hh rfl⟩
  | ge =>
    cases d1 <;> cases d2 <;> first | exact po.elim | skip
    exact op_ge pins s σ H x y v u Q I rx ry ⟨_, _, r1, r2, PoE.now po hh rfl⟩
  | is =>
    cases d2 <;> first | exact po.elim | skip
    refine op_isN pins s σ H x y v u Q I rx ry ⟨r2, ?_⟩
    have e : decide (x = V.non) = decide (d1 = D.non) := decide_eq_decide.mpr (non_iff r1)
    rw [e]
    exact PoE.now po hh rfl
  | isnot =>
    cases d2 <;> first | exact po.elim | skip
    refine op_notN pins s σ H x y v u Q I rx ry ⟨r2, ?_⟩
    have e : decide (x = V.non) = decide (d1 = D.non) := decide_eq_decide.mpr (non_iff r1)
    rw [e]
    exact PoE.now po hh rfl
  | isin =>
    cases d2 with
    | tup ds =>
      obtain ⟨p, ws, e2, q2, z2⟩ := r2
      have po : PoE X.K W ι H (inL false d1 ds hp) Q := po
      unfold inL at po
      by_cases hc : (scal d1 && ds.all scal) = true
      · rw [if_pos hc] at po
        obtain ⟨h1, h2⟩ := Bool.and_eq_true_iff.mp hc
        refine op_in_seq pins s σ H x y v u Q I rx ry ⟨p, ws, e2, .inr q2.sq, scal_flat r1 h1, all_flat z2 h2, ?_⟩
        rw [if_neg Bool.false_ne_true, inV_ok r1 h1 z2 h2]
        exact PoE.now po hh (by simp [Rep])
      · rw [if_neg hc] at po
        obtain ⟨hd, po⟩ := Po.chk po
        obtain ⟨h1, h2⟩ := Bool.and_eq_true_iff.mp hd
        obtain ⟨g1, g2, g3, g4, g5⟩ := in_deepT r1 q2.sq z2 h1 h2
        subst e2
        refine op_inDT (by omega) pins s σ H x _ v u Q I rx ry ⟨_, _, g1, g2, g3, g4, ?_⟩
        rw [g5]
        exact PoE.now po hh (by simp [Rep])
    | ctp ds =>
      obtain ⟨hc, po⟩ := Po.chk po
      obtain ⟨h1, h2⟩ := Bool.and_eq_true_iff.mp hc
      obtain ⟨p, ws, e2, q2, z2⟩ := r2
      refine op_in_seq pins s σ H x y v u Q I rx ry ⟨p, ws, e2, .inr q2, scal_flat r1 h1, all_flat z2 h2, ?_⟩
      rw [if_neg Bool.false_ne_true, inV_ok r1 h1 z2 h2]
      exact PoE.now po hh (by simp [Rep])
    | seq ds =>
      obtain ⟨p, ws, e2, q2, z2⟩ := r2
      have po : PoE X.K W ι H (inL false d1 ds hp) Q := po
      unfold inL at po
      by_cases hc : (scal d1 && ds.all scal) = true
      · rw [if_pos hc] at po
        obtain ⟨h1, h2⟩ := Bool.and_eq_true_iff.mp hc
        refine op_in_seq pins s σ H x y v u Q I rx ry ⟨p, ws, e2, .inl q2.sq, scal_flat r1 h1, all_flat z2 h2, ?_⟩
        rw [if_neg Bool.false_ne_true, inV_ok r1 h1 z2 h2]
        exact PoE.now po hh (by simp [Rep])
      · rw [if_neg hc] at po
        obtain ⟨hd, po⟩ := Po.chk po
        obtain ⟨h1, h2⟩ := Bool.and_eq_true_iff.mp hd
        obtain ⟨g1, g2, g3, g4, g5⟩ := in_deep r1 q2.sq z2 h1 h2
        subst e2
        refine op_inD (by omega) pins s σ H x _ v u Q I rx ry ⟨_, _, g1, g2, g3, g4, ?_⟩
        rw [g5]
        exact PoE.now po hh (by simp [Rep])
    | ref n =>
      obtain ⟨a, rfl, ha⟩ := r2
      cases hn : hp[n]? with
      | none => simp only [opC, inB, hn] at po; exact po.elim
      | some o =>
        cases o with
        | lst ds =>
          simp only [opC, inB, hn] at po
          obtain ⟨ws, q2, z2⟩ := hh.lst hn ha
          unfold inL at po
          by_cases hc : (scal d1 && ds.all scal) = true
          · rw [if_pos hc] at po
            obtain ⟨h1, h2⟩ := Bool.and_eq_true_iff.mp hc
            refine op_in_seq pins s σ H x _ v u Q I rx ry ⟨a, ws, rfl, .inl (.of q2), scal_flat r1 h1, all_flat z2 h2, ?_⟩
            rw [if_neg Bool.false_ne_true, inV_ok r1 h1 z2 h2]
            exact PoE.now po hh (by simp [Rep])
          · rw [if_neg hc] at po
            obtain ⟨hd, po⟩ := Po.chk po
            obtain ⟨h1, h2⟩ := Bool.and_eq_true_iff.mp hd
            obtain ⟨g1, g2, g3, g4, g5⟩ := in_deep r1 (.of q2) z2 h1 h2
            refine op_inD (by omega) pins s σ H x _ v u Q I rx ry ⟨_, _, g1, g2, g3, g4, ?_⟩
            rw [g5]
            exact PoE.now po hh (by simp [Rep])
        | dct kvs =>
          simp only [opC, inB, hn] at po
          obtain ⟨k, hk, po⟩ := Po.ofO po
          obtain ⟨ws, q2, z2⟩ := hh.dct hn ha
          have ex := keyOf_ok r1 hk
          subst ex
          cases (show u = Value.ref a from ry)
          rcases findV_ok k z2 with ⟨e1, e2⟩ | ⟨d, w, e1, e2, _⟩
          · refine d_in hu I (DGet.k (k := k) q2) rx fun s' I' => ⟨.bl false, H, I', by rw [e2]; rfl, ?_⟩
            rw [e1] at po
            exact PoE.now po hh rfl
          · refine d_in hu I (DGet.k (k := k) q2) rx fun s' I' => ⟨.bl true, H, I', by rw [e2]; rfl, ?_⟩
            rw [e1] at po
            exact PoE.now po hh rfl
        | dtt kvs =>
          simp only [opC, inB, hn] at po
          obtain ⟨k, hk, po⟩ := Po.ofO po
          obtain ⟨ws, q2, z2⟩ := hh.dtt hn ha
          obtain ⟨b, rfl, eb⟩ := keyT_ok r1 hk
          cases (show u = Value.ref a from ry)
          rcases findV_ok k z2 with ⟨e1, e2⟩ | ⟨d, w, e1, e2, _⟩
          · refine d_in hu I (DGet.t (k := k) q2 eb) rx fun s' I' => ⟨.bl false, H, I', by rw [e2]; rfl, ?_⟩
            rw [e1] at po
            exact PoE.now po hh rfl
          · refine d_in hu I (DGet.t (k := k) q2 eb) rx fun s' I' => ⟨.bl true, H, I', by rw [e2]; rfl, ?_⟩
            rw [e1] at po
            exact PoE.now po hh rfl
    | _ => exact po.elim
  | notin =>
    cases d2 with
    | tup ds =>
      obtain ⟨p, ws, e2, q2, z2⟩ := r2
      have po : PoE X.K W ι H (inL true d1 ds hp) Q := po
      unfold inL at po
      by_cases hc : (scal d1 && ds.all scal) = true
      · rw [if_pos hc] at po
        obtain ⟨h1, h2⟩ := Bool.and_eq_true_iff.mp hc
        refine op_notIn_seq pins s σ H x y v u Q I rx ry ⟨p, ws, e2, .inr q2.sq, scal_flat r1 h1, all_flat z2 h2, ?_⟩
        rw [if_pos rfl, inV_ok r1 h1 z2 h2]
        exact PoE.now po hh (by simp [Rep])
      · rw [if_neg hc] at po
        obtain ⟨hd, po⟩ := Po.chk po
        obtain ⟨h1, h2⟩ := Bool.and_eq_true_iff.mp hd
        obtain ⟨g1, g2, g3, g4, g5⟩ := in_deepT r1 q2.sq z2 h1 h2
        subst e2
        refine op_notInDT (by omega) pins s σ H x _ v u Q I rx ry ⟨_, _, g1, g2, g3, g4, ?_⟩
        rw [g5]
        exact PoE.now po hh (by simp [Rep])
    | ctp ds =>
      obtain ⟨hc, po⟩ := Po.chk po
      obtain ⟨h1, h2⟩ := Bool.and_eq_true_iff.mp hc
      obtain ⟨p, ws, e2, q2, z2⟩ := r2
      refine op_notIn_seq pins s σ H x y v u Q I rx ry ⟨p, ws, e2, .inr q2, scal_flat r1 h1, all_flat z2 h2, ?_⟩
      rw [if_pos rfl, inV_ok r1 h1 z2 h2]
      exact PoE.now po hh (by simp [Rep])
    | seq ds =>
      obtain ⟨p, ws, e2, q2, z2⟩ := r2
      have po : PoE X.K W ι H (inL true d1 ds hp) Q := po
      unfold inL at po
      by_cases hc : (scal d1 && ds.all scal) = true
      · rw [if_pos hc] at po
        obtain ⟨h1, h2⟩ := Bool.and_eq_true_iff.mp hc
        refine op_notIn_seq pins s σ H x y v u Q I rx ry ⟨p, ws, e2, .inl q2.sq, scal_flat r1 h1, all_flat z2 h2, ?_⟩
        rw [if_pos rfl, inV_ok r1 h1 z2 h2]
        exact PoE.now po hh (by simp [Rep])
      · rw [if_neg hc] at po
        obtain ⟨hd, po⟩ := Po.chk po
        obtain ⟨h1, h2⟩ := Bool.and_eq_true_iff.mp hd
        obtain ⟨g1, g2, g3, g4, g5⟩ := in_deep r1 q2.sq z2 h1 h2
        subst e2
        refine op_notInD (by omega) pins s σ H x _ v u Q I rx ry ⟨_, _, g1, g2, g3, g4, ?_⟩
        rw [g5]
        exact PoE.now po hh (by simp [Rep])
    | ref n =>
      obtain ⟨a, rfl, ha⟩ := r2
      cases hn : hp[n]? with
      | none => simp only [opC, inB, hn] at po; exact po.elim
      | some o =>
        cases o with
        | lst ds =>
          simp only [opC, inB, hn] at po
          obtain ⟨ws, q2, z2⟩ := hh.lst hn ha
          unfold inL at po
          by_cases hc : (scal d1 && ds.all scal) = true
          · rw [if_pos hc] at po
            obtain ⟨h1, h2⟩ := Bool.and_eq_true_iff.mp hc
            refine op_notIn_seq pins s σ H x _ v u Q I rx ry ⟨a, ws, rfl, .inl (.of q2), scal_flat r1 h1, all_flat z2 h2, ?_⟩
            rw [if_pos rfl, inV_ok r1 h1 z2 h2]
            exact PoE.now po hh (by simp [Rep])
          · rw [if_neg hc] at po
            obtain ⟨hd, po⟩ := Po.chk po
            obtain ⟨h1, h2⟩ := Bool.and_eq_true_iff.mp hd
            obtain ⟨g1, g2, g3, g4, g5⟩ := in_deep r1 (.of q2) z2 h1 h2
            refine op_notInD (by omega) pins s σ H x _ v u Q I rx ry ⟨_, _, g1, g2, g3, g4, ?_⟩
            rw [g5]
            exact PoE.now po hh (by simp [Rep])
        | dct kvs =>
          simp only [opC, inB, hn] at po
          obtain ⟨k, hk, po⟩ := Po.ofO po
          obtain ⟨ws, q2, z2⟩ := hh.dct hn ha
          have ex := keyOf_ok r1 hk
          subst ex
          cases (show u = Value.ref a from ry)
          rcases findV_ok k z2 with ⟨e1, e2⟩ | ⟨d, w, e1, e2, _⟩
          · refine d_notIn hu I (DGet.k (k := k) q2) rx fun s' I' => ⟨.bl true, H, I', by rw [e2]; rfl, ?_⟩
            rw [e1] at po
            exact PoE.now po hh rfl
          · refine d_notIn hu I (DGet.k (k := k) q2) rx fun s' I' => ⟨.bl false, H, I', by rw [e2]; rfl, ?_⟩
            rw [e1] at po
            exact PoE.now po hh rfl
        | dtt kvs =>
          simp only [opC, inB, hn] at po
          obtain ⟨k, hk, po⟩ := Po.ofO po
          obtain ⟨ws, q2, z2⟩ := hh.dtt hn ha
          obtain ⟨b, rfl, eb⟩ := keyT_ok r1 hk
          cases (show u = Value.ref a from ry)
          rcases findV_ok k z2 with ⟨e1, e2⟩ | ⟨d, w, e1, e2, _⟩
          · refine d_notIn hu I (DGet.t (k := k) q2 eb) rx fun s' I' => ⟨.bl true, H, I', by rw [e2]; rfl, ?_⟩
            rw [e1] at po
            exact PoE.now po hh rfl
          · refine d_notIn hu I (DGet.t (k := k) q2 eb) rx fun s' I' => ⟨.bl false, H, I', by rw [e2]; rfl, ?_⟩
            rw [e1] at po
            exact PoE.now po hh rfl
    | _ => exact po.elim

/-! ### truth -/
theorem truth_ok {K : Frg} {H : Hp} {ι : List Addr} {hp : Heap} {d : D} {x : V} {b : Bool} (hh : HpRep K H ι hp) (r : Rep K H ι d x) (e : truth d hp = some b) : TruV K x H b := by
  have emp : ∀ {ds : List D} {vs : List V}, Reps K H ι ds vs → ds.isEmpty = vs.isEmpty := fun {ds vs} z => by
    have := z.length
    cases ds <;> cases vs <;> simp at this ⊢
  cases d with
  | non => cases r; cases e; rfl
  | bl b => cases r; cases e; rfl
  | int i =>
    cases r; cases e
    show decide (i ≠ 0) = (i != 0)
    simp [bne, Bool.beq_eq_decide_eq]
  | str s => cases e
  | ctp s => cases e
  | tup ds =>
    obtain ⟨p, ws, rfl, q2, z2⟩ := r
    cases e
    exact .inr (.inl ⟨ws, q2, by rw [emp z2]⟩)
  | seq ds =>
    obtain ⟨p, ws, rfl, q2, z2⟩ := r
    cases e
    exact .inl ⟨ws, q2.sq, by rw [emp z2]⟩
  | ref n =>
    obtain ⟨a, rfl, ha⟩ := r
    cases hn : hp[n]? with
    | none => simp only [truth, hn] at e; cases e
    | some o =>
      cases o with
      | lst xs =>
        simp only [truth, hn] at e
        cases e
        obtain ⟨ws, q2, z2⟩ := hh.lst hn ha
        exact .inl ⟨ws, .of q2, by rw [emp z2]⟩
      | dct kvs =>
        simp only [truth, hn] at e
        cases e
        obtain ⟨ws, q2, z1, z2⟩ := hh.dct hn ha
        refine .inr (.inr ⟨ws, q2, ?_⟩)
        have := congrArg List.length z1
        cases kvs <;> cases ws <;> simp at this ⊢
      | dtt kvs => simp only [truth, hn] at e; cases e

/-! ### subscripts -/
theorem nth_ok {α : Type} {xs : List α} {i : Int} {a : α} (h : nth xs i = some a) : ∃ j, xs[j]? = some a ∧ ixN xs.length i = some j := by
  unfold nth at h
  unfold ixN
  by_cases h0 : 0 ≤ i
  · rw [if_pos h0] at h ⊢
    have hl := (List.getElem?_eq_some_iff.mp h).1
    exact ⟨_, h, by rw [if_pos (by omega)]⟩
  · rw [if_neg h0] at h ⊢
    by_cases h1 : -(xs.length : Int) ≤ i
    · rw [if_pos h1] at h ⊢
      exact ⟨_, h, rfl⟩
    · rw [if_neg h1] at h; cases h
theorem nth_rep {K : Frg} {H : Hp} {ι : List Addr} {ds : List D} {vs : List V} {i : Int} {d : D} (r : Reps K H ι ds vs) (h : nth ds i = some d) : ∃ v, atI vs i = some v ∧ Rep K H ι d v := by
  obtain ⟨j, h1, h2⟩ := nth_ok h
  obtain ⟨v, e, q⟩ := r.get h1
  refine ⟨v, ?_, q⟩
  unfold atI
  rw [← r.length, h2]
  exact e
theorem ix_dict (hu : X.A.units + 1 < cLine) : IxR X (fun x y H Q => ∃ a v, x = .ref a ∧ DGet H a y (some v) ∧ Q v H) := by
  intro value slice pins s σ H x y v u Q I rx ry h hs
  obtain ⟨a, w, rfl, g, q⟩ := h
  cases (show v = Value.ref a from rx)
  have hT := dict_typeIs I g
  unfold subscriptTail
  refine wpAny_bind ?_
  rw [getitemInPython_of_ne hT.not_modules]
  refine wpAny_bind (wpAny_specialOf hT PySem.F.slot_dict_getitem.lookup ?_)
  have fin : wpAny (model X.prog X.w) X.A (subscripted slice false (.ref a) u) (fun r s₃ => wpAny (model X.prog X.w) X.A (letTemporaryGo value (.ref a) r >>= fun _ => pure r) (EP X pins σ Q) X.xe s₃) X.xe s := by
    rw [hs]
    exact wpAny_operating (d_getItem hu I g ry fun w' s3 I3 rw' => wpAny_bind (wpAny_letTemporaryGo (wpAny_pure ⟨w, H, I3, rw', q⟩)))
  first
    | exact wpAny_pure (wpAny_bind fin)
    | exact wpAny_bind (wpAny_pure (wpAny_bind fin))
    | exact wpAny_bind fin
theorem ix_V (hu : X.A.units + 1 < cLine) : IxR X (rOp X.K idxV) := by
  intro value slice pins s σ H x y v u Q I rx ry h hs
  obtain ⟨W, ι, hp, d1, d2, hh, r1, r2, po⟩ := h
  cases d1 with
  | str z =>
    cases d2 <;> first | exact po.elim | skip
    obtain ⟨hl, po⟩ := Po.chk po
    obtain ⟨k, e, po⟩ := Po.ofO po
    obtain ⟨j, h1, h2⟩ := nth_ok e
    have hl := of_decide_eq_true hl
    exact ix_str value slice pins s σ H x y v u Q I rx ry ⟨z, _, k, r1, r2, by rw [lim_eq]; exact hl, by unfold atI; rw [h2]; exact h1, PoE.now po hh rfl⟩ hs
  | tup ds =>
    cases d2 <;> first | exact po.elim | skip
    obtain ⟨d, e, po⟩ := Po.ofO po
    obtain ⟨p, ws, e1, q1, z1⟩ := r1
    obtain ⟨w, e2, z2⟩ := nth_rep z1 e
    exact ix_tup value slice pins s σ H x y v u Q I rx ry ⟨p, ws, _, w, e1, r2, q1, e2, PoE.now po hh z2⟩ hs
  | ctp ds =>
    cases d2 <;> first | exact po.elim | skip
    obtain ⟨d, e, po⟩ := Po.ofO po
    obtain ⟨p, ws, e1, q1, z1⟩ := r1
    obtain ⟨w, e2, z2⟩ := nth_rep z1 e
    exact ix_tup value slice pins s σ H x y v u Q I rx ry ⟨p, ws, _, w, e1, r2, q1, e2, PoE.now po hh z2⟩ hs
  | seq ds =>
    cases d2 <;> first | exact po.elim | skip
    obtain ⟨d, e, po⟩ := Po.ofO po
    obtain ⟨p, ws, e1, q1, z1⟩ := r1
    obtain ⟨w, e2, z2⟩ := nth_rep z1 e
    exact ix_list value slice pins s σ H x y v u Q I rx ry ⟨p, ws, _, w, e1, r2, q1.sq, e2, PoE.now po hh z2⟩ hs
  | ref n =>
    obtain ⟨a, rfl, ha⟩ := r1
    cases hn : hp[n]? with
    | none => simp only [idxV, hn] at po; exact po.elim
    | some o =>
      cases o with
      | lst xs =>
        simp only [idxV, hn] at po
        cases d2 <;> first | exact po.elim | skip
        obtain ⟨d, e, po⟩ := Po.ofO po
        obtain ⟨ws, q1, z1⟩ := hh.lst hn ha
        obtain ⟨w, e2, z2⟩ := nth_rep z1 e
        exact ix_list value slice pins s σ H _ y v u Q I rx ry ⟨a, ws, _, w, rfl, r2, .of q1, e2, PoE.now po hh z2⟩ hs
      | dct kvs =>
        simp only [idxV, hn] at po
        obtain ⟨k, hk, po⟩ := Po.ofO po
        obtain ⟨d, e, po⟩ := Po.ofO po
        obtain ⟨ws, q1, z1⟩ := hh.dct hn ha
        have ey := keyOf_ok r2 hk
        subst ey
        rcases findV_ok k z1 with ⟨e1, _⟩ | ⟨d', w, e1, e2, z3⟩
        · rw [e1] at e; cases e
        · rw [e1] at e; cases e
          exact ix_dict hu value slice pins s σ H _ _ v u Q I rx ry ⟨a, w, rfl, by rw [← e2]; exact DGet.k q1, PoE.now po hh z3⟩ hs
      | dtt kvs =>
        simp only [idxV, hn] at po
        obtain ⟨k, hk, po⟩ := Po.ofO po
        obtain ⟨d, e, po⟩ := Po.ofO po
        obtain ⟨ws, q1, z1⟩ := hh.dtt hn ha
        obtain ⟨b, rfl, eb⟩ := keyT_ok r2 hk
        rcases findV_ok k z1 with ⟨e1, _⟩ | ⟨d', w, e1, e2, z3⟩
        · rw [e1] at e; cases e
        · rw [e1] at e; cases e
          exact ix_dict hu value slice pins s σ H _ _ v u Q I rx ry ⟨a, w, rfl, by rw [← e2]; exact DGet.t q1 eb, PoE.now po hh z3⟩ hs
  | _ => exact po.elim
/-! ### stores -/
theorem nix_ok {n : Nat} {i : Int} {j : Nat} (h : nix n i = some j) : ixN n i = some j := by
  unfold nix at h
  unfold ixN
  exact h
theorem putV_ok {κ : Type} [DecidableEq κ] {K : Frg} {H : Hp} {ι : List Addr} {k : κ} {d : D} {v : V} (rd : Rep K H ι d v) {kvs : List (κ × D)} {ws : List (κ × V)} (r : RepK K H ι kvs ws) : RepK K H ι (putV kvs k d) (putK ws k v) := by
  have any : (kvs.any fun kv => decide (kv.1 = k)) = (ws.any fun kv => decide (kv.1 = k)) := by
    have e := r.1
    have h1 : (kvs.any fun kv => decide (kv.1 = k)) = ((kvs.map (·.1)).any fun a => decide (a = k)) := by simp [List.any_map, Function.comp_def]
    have h2 : (ws.any fun kv => decide (kv.1 = k)) = ((ws.map (·.1)).any fun a => decide (a = k)) := by simp [List.any_map, Function.comp_def]
    rw [h1, h2, e]
  unfold putV putK
  rw [any]
  split
  · -- replaced
    rename_i hany
    clear hany any
    obtain ⟨e, q⟩ := r
    induction kvs generalizing ws with
    | nil => cases ws with
      | nil => exact ⟨rfl, rfl⟩
      | cons _ _ => cases e
    | cons a kvs ih => cases ws with
      | nil => cases e
      | cons b ws =>
        simp only [List.map_cons, List.cons.injEq] at e
        obtain ⟨v', r', e2, h1, h2⟩ := q
        simp only [List.map_cons, List.cons.injEq] at e2
        obtain ⟨e2, e3⟩ := e2
        subst e2 e3
        have ⟨i1, i2⟩ := ih e.2 h2
        by_cases hk : b.1 = k
        · have hk' : a.1 = k := e.1.trans hk
          simp only [List.map_cons, hk, hk', if_true]
          exact ⟨by rw [List.map_cons, List.map_cons, i1], ⟨v, _, rfl, rd, i2⟩⟩
        · have hk' : ¬ a.1 = k := fun z => hk (e.1.symm.trans z)
          simp only [List.map_cons, hk, hk', if_false]
          exact ⟨by rw [List.map_cons, List.map_cons, i1, e.1], ⟨_, _, rfl, h1, i2⟩⟩
  · exact ⟨by simp [r.1], by simpa using r.2.append (Reps.one rd)⟩
def rStore (K : Frg) : V → V → V → Hp → (Hp → Prop) → Prop := fun o i v H Q => ∃ (W : Wish) (ι : List Addr) (hp : Heap) (d1 d2 d3 : D), HpRep K H ι hp ∧ Rep K H ι d1 o ∧ Rep K H ι d2 i ∧ Rep K H ι d3 v ∧
  Po W ι H (storeV d1 d2 d3 hp) fun h ι' H' => HpRep K H' ι' h → Q H'
theorem set_V (hu : X.A.units + 1 < cLine) : PSet X (rStore X.K) := by
  intro pins s σ H o i v ov iv u Q I ro ri rv h
  obtain ⟨W, ι, hp, d1, d2, d3, hh, r1, r2, r3, po⟩ := h
  cases d1 <;> first | exact po.elim | skip
  rename_i n
  obtain ⟨a, rfl, ha⟩ := r1
  cases hn : hp[n]? with
  | none => simp only [storeV, hn] at po; exact po.elim
  | some o =>
    cases o with
    | lst xs =>
      simp only [storeV, hn] at po
      cases d2 <;> first | exact po.elim | skip
      obtain ⟨j, hj, po⟩ := Po.ofO po
      obtain ⟨ws, q1, z1⟩ := hh.lst hn ha
      refine set_list pins s σ H _ i v ov iv u Q I ro ri rv ⟨a, ws, _, j, rfl, r2, q1, by rw [← z1.length]; exact nix_ok hj, ?_⟩
      have st : Step ι H ι (upd H a (.lst (ws.set j v))) := Step.write (List.mem_of_getElem? ha)
      exact po ι _ st (hh.write ha ⟨_, upd_same, (hh.reps st _ _ z1).set j (hh.rep st _ _ r3)⟩)
    | dct kvs =>
      simp only [storeV, hn] at po
      obtain ⟨k, hk, po⟩ := Po.ofO po
      obtain ⟨hl, po⟩ := Po.chk po
      obtain ⟨ws, q1, z1⟩ := hh.dct hn ha
      have ey := keyOf_ok r2 hk
      subst ey
      cases (show ov = Value.ref a from ro)
      have hlen : ws.length < sizeLine := by
        have := congrArg List.length z1.1
        rw [List.length_map, List.length_map] at this
        rw [lim_eq, ← this]
        exact of_decide_eq_true hl
      refine d_setItem hu I (DPut.k (k := k) q1 hlen) ri rv fun s' I' => ⟨_, I', ?_⟩
      have st : Step ι H ι (upd H a (.dK (putK ws k v))) := Step.write (List.mem_of_getElem? ha)
      exact po ι _ st (hh.write ha ⟨_, upd_same, putV_ok (hh.rep st _ _ r3) ⟨z1.1, hh.reps st _ _ z1.2⟩⟩)
    | dtt kvs =>
      simp only [storeV, hn] at po
      obtain ⟨k, hk, po⟩ := Po.ofO po
      obtain ⟨hl, po⟩ := Po.chk po
      obtain ⟨ws, q1, z1⟩ := hh.dtt hn ha
      obtain ⟨b, rfl, eb⟩ := keyT_ok r2 hk
      cases (show ov = Value.ref a from ro)
      have hlen : ws.length < sizeLine := by
        have := congrArg List.length z1.1
        rw [List.length_map, List.length_map] at this
        rw [lim_eq, ← this]
        exact of_decide_eq_true hl
      refine d_setItem hu I (DPut.t (k := k) q1 eb hlen) ri rv fun s' I' => ⟨_, I', ?_⟩
      have st : Step ι H ι (upd H a (.dT (putK ws k v))) := Step.write (List.mem_of_getElem? ha)
      exact po ι _ st (hh.write ha ⟨_, upd_same, putV_ok (hh.rep st _ _ r3) ⟨z1.1, hh.reps st _ _ z1.2⟩⟩)
/-! ### slices -/
theorem sIx_ok (n d : Nat) (i : Option Int) (hd : d = 0 ∨ d = n) : HT.sIx n d i = sIx n d i := by
  cases i with
  | none => rfl
  | some i => simp only [HT.sIx, sIx]
theorem cut_rep {K : Frg} {H : Hp} {ι : List Addr} {ds : List D} {vs : List V} (r : Reps K H ι ds vs) (lo hi : Option Int) : Reps K H ι (cut ds lo hi) (cutV vs lo hi) := by
  unfold cut cutV
  rw [sIx_ok _ _ _ (.inl rfl), sIx_ok _ _ _ (.inr rfl), ← r.length]
  exact (r.drop _).take _
theorem sl_V : SlR X (fun x lo hi H Q => ∃ (W : Wish) (ι : List Addr) (hp : Heap) (d : D), HpRep X.K H ι hp ∧ Rep X.K H ι d x ∧ PoE X.K W ι H (slcV d lo hi hp) Q) := by
  intro pins s σ H x v vl vu lo hi sl Q I rx hs pl pu h
  obtain ⟨W, ι, hp, d, hh, r, po⟩ := h
  cases d with
  | tup ds =>
    obtain ⟨p, ws, e1, q1, z1⟩ := r
    refine sl_tupA pins s σ H x v vl vu lo hi sl Q I rx hs pl pu ⟨p, ws, e1, q1, fun ⟨h1, h2⟩ => ?_, fun _ l hn => new_tup hh (cut_rep z1 lo hi) hn po⟩
    have e : cut ds lo hi = ds := by
      rw [sIx_ok _ _ _ (.inl rfl)] at h1
      rw [sIx_ok _ _ _ (.inr rfl)] at h2
      rw [← z1.length] at h1 h2
      unfold cut
      rw [h1, h2, List.drop_zero, Nat.sub_zero, List.take_length]
    have po : PoE X.K W ι H (.ok (.tup (cut ds lo hi), hp)) Q := po
    rw [e] at po
    exact PoE.now po hh ⟨p, ws, rfl, q1, z1⟩
  | seq ds =>
    obtain ⟨a, ws, rfl, q1, z1⟩ := r
    exact sl_list pins s σ H _ v vl vu lo hi sl Q I rx hs pl pu ⟨a, ws, rfl, q1.sq, fun l hn => new_lst hh (cut_rep z1 lo hi) hn po⟩
  | ref n =>
    obtain ⟨a, rfl, ha⟩ := r
    cases hn : hp[n]? with
    | none => simp only [slcV, hn] at po; exact po.elim
    | some o =>
      cases o with
      | lst xs =>
        simp only [slcV, hn] at po
        obtain ⟨ws, q1, z1⟩ := hh.lst hn ha
        exact sl_list pins s σ H _ v vl vu lo hi sl Q I rx hs pl pu ⟨a, ws, rfl, .of q1, fun l hn => new_lst hh (cut_rep z1 lo hi) hn po⟩
      | dct kvs => simp only [slcV, hn] at po; exact po.elim
      | dtt kvs => simp only [slcV, hn] at po; exact po.elim
  | _ => exact po.elim
end
end Tw
end

section
set_option Elab.async false
set_option linter.all false
set_option maxRecDepth 100000
set_option maxHeartbeats 4000000
/-! Built-in functions, methods by values. Own work. -/
namespace Tw
open PySem PySem.Spec PyProof.Rows L2

def biF : Bi → Value
  | .int => .type "int" | .abs => .builtin "abs" | .min2 => .builtin "min" | .max2 => .builtin "max" | .str => .type "str" | .bool => .type "bool"
def biX : Bi → String
  | .int => "int" | .abs => "abs" | .min2 => "min" | .max2 => "max" | .str => "str" | .bool => "bool"
def sqF : Sq → Value
  | .len => .builtin "len" | .tuple => .type "tuple" | .sum => .builtin "sum" | .all => .builtin "all" | .any => .builtin "any" | .max => .builtin "max" | .min => .builtin "min"
def sqX : Sq → String
  | .len => "len" | .tuple => "tuple" | .sum => "sum" | .all => "all" | .any => "any" | .max => "max" | .min => "min"
def rCall (K : Frg) (f : List D → Heap → R (D × Heap)) : List V → Hp → VK → Prop := fun vs H Q => ∃ (W : Wish) (ι : List Addr) (hp : Heap) (ds : List D), HpRep K H ι hp ∧ Reps K H ι ds vs ∧ PoE K W ι H (f ds hp) Q
/-- a value that holds items -/
def Holds (K : Frg) (H : Hp) (ι : List Addr) (ds : List D) (v : V) : Prop := ∃ a ws, v = .ref a ∧ (SqL K H a ws ∨ TupH H a ws) ∧ Reps K H ι ds ws
def rSq (K : Frg) (f : List D → Heap → R (D × Heap)) : List V → Hp → VK → Prop := fun vs H Q => ∃ (W : Wish) (ι : List Addr) (hp : Heap) (ds : List D) (v : V), HpRep K H ι hp ∧ vs = [v] ∧ Holds K H ι ds v ∧ PoE K W ι H (f ds hp) Q

section
variable {X : Cx} {W : Wish}
theorem reps0 {K : Frg} {H : Hp} {ι : List Addr} {vs : List V} (r : Reps K H ι [] vs) : vs = [] := r
theorem reps1 {K : Frg} {H : Hp} {ι : List Addr} {d : D} {vs : List V} (r : Reps K H ι [d] vs) : ∃ v, vs = [v] ∧ Rep K H ι d v := by
  obtain ⟨v, r', e, h1, h2⟩ := r
  rw [reps0 h2] at e
  exact ⟨v, e, h1⟩
theorem reps2 {K : Frg} {H : Hp} {ι : List Addr} {d e : D} {vs : List V} (r : Reps K H ι [d, e] vs) : ∃ v w, vs = [v, w] ∧ Rep K H ι d v ∧ Rep K H ι e w := by
  obtain ⟨v, r', e, h1, h2⟩ := r
  obtain ⟨w, e2, h3⟩ := reps1 h2
  rw [e2] at e
  exact ⟨v, w, e, h1, h3⟩
theorem call_Bi (hc : X.calm = true) (b : Bi) : CallR X (biF b) (rCall X.K (biV b)) := by
  intro pins s σ H xs us Q I rs h
  obtain ⟨W, ι, hp, ds, hh, r, po⟩ := h
  cases b with
  | int =>
    match ds, r, po with
    | [.int i], r, po =>
      obtain ⟨v, rfl, h1⟩ := reps1 r
      exact call_int1 pins s σ H _ us Q I rs (.inl ⟨i, by rw [show v = .int i from h1], PoE.now po hh rfl⟩)
    | [.bl i], r, po =>
      obtain ⟨v, rfl, h1⟩ := reps1 r
      exact call_int1 pins s σ H _ us Q I rs (.inr ⟨i, by rw [show v = .bl i from h1], PoE.now po hh rfl⟩)
    | [], _, po => exact po.elim
    | .non :: _, _, po => cases ‹List D› <;> exact po.elim
    | .str _ :: _, _, po => cases ‹List D› <;> exact po.elim
    | .tup _ :: _, _, po => cases ‹List D› <;> exact po.elim
    | .seq _ :: _, _, po => cases ‹List D› <;> exact po.elim
    | .ref _ :: _, _, po => cases ‹List D› <;> exact po.elim
    | .ctp _ :: _, _, po => cases ‹List D› <;> exact po.elim
    | .int _ :: _ :: _, _, po => exact po.elim
    | .bl _ :: _ :: _, _, po => exact po.elim
  | abs =>
    match ds, r, po with
    | [.int i], r, po =>
      obtain ⟨v, rfl, h1⟩ := reps1 r
      exact call_abs pins s σ H _ us Q I rs ⟨i, by rw [show v = .int i from h1], PoE.now po hh rfl⟩
    | [], _, po => exact po.elim
    | .non :: _, _, po => cases ‹List D› <;> exact po.elim
    | .bl _ :: _, _, po => cases ‹List D› <;> exact po.elim
    | .str _ :: _, _, po => cases ‹List D› <;> exact po.elim
    | .tup _ :: _, _, po => cases ‹List D› <;> exact po.elim
    | .seq _ :: _, _, po => cases ‹List D› <;> exact po.elim
    | .ref _ :: _, _, po => cases ‹List D› <;> exact po.elim
    | .ctp _ :: _, _, po => cases ‹List D› <;> exact po.elim
    | .int _ :: _ :: _, _, po => exact po.elim
  | min2 =>
    have q : ∃ i j, ds = [.int i, .int j] := by
      match ds, po with
      | [.int i, .int j], _ => exact ⟨i, j, rfl⟩
      | [], po => exact po.elim
      | [a], po => cases a <;> exact po.elim
      | a :: b :: _ :: _, po => cases a <;> cases b <;> exact po.elim
      | [.non, _], po => exact po.elim
      | [.bl _, _], po => exact po.elim
      | [.str _, _], po => exact po.elim
      | [.tup _, _], po => exact po.elim
      | [.seq _, _], po => exact po.elim
      | [.ref _, _], po => exact po.elim
      | [.int _, .non], po => exact po.elim
      | [.int _, .bl _], po => exact po.elim
      | [.int _, .str _], po => exact po.elim
      | [.int _, .tup _], po => exact po.elim
      | [.int _, .seq _], po => exact po.elim
      | [.int _, .ref _], po => exact po.elim
    obtain ⟨i, j, rfl⟩ := q
    obtain ⟨v, w, rfl, h1, h2⟩ := reps2 r
    exact call_min2 hc pins s σ H _ us Q I rs ⟨i, j, by rw [show v = .int i from h1, show w = .int j from h2], PoE.now po hh rfl⟩
  | max2 =>
    have q : ∃ i j, ds = [.int i, .int j] := by
      match ds, po with
      | [.int i, .int j], _ => exact ⟨i, j, rfl⟩
      | [], po => exact po.elim
      | [a], po => cases a <;> exact po.elim
      | a :: b :: _ :: _, po => cases a <;> cases b <;> exact po.elim
      | [.non, _], po => exact po.elim
      | [.bl _, _], po => exact po.elim
      | [.str _, _], po => exact po.elim
      | [.tup _, _], po => exact po.elim
      | [.seq _, _], po => exact po.elim
      | [.ref _, _], po => exact po.elim
      | [.int _, .non], po => exact po.elim
      | [.int _, .bl _], po => exact po.elim
      | [.int _, .str _], po => exact po.elim
      | [.int _, .tup _], po => exact po.elim
      | [.int _, .seq _], po => exact po.elim
      | [.int _, .ref _], po => exact po.elim
    obtain ⟨i, j, rfl⟩ := q
    obtain ⟨v, w, rfl, h1, h2⟩ := reps2 r
    exact call_max2 hc pins s σ H _ us Q I rs ⟨i, j, by rw [show v = .int i from h1, show w = .int j from h2], PoE.now po hh rfl⟩
  | str => cases ds <;> exact po.elim
  | bool => cases ds <;> exact po.elim

theorem sum_seq (hc : X.calm = true) : CallR X (.builtin "sum") (fun vs H Q => ∃ (a : Addr) (ns : List Int), vs = [V.ref a] ∧ (SqL X.K H a (ns.map V.int) ∨ SqT X.K H a (ns.map V.int)) ∧ Q (.int ns.sum) H) := by
  intro pins s σ H xs us Q I rs h
  obtain ⟨a, ns, rfl, hq, q⟩ := h
  rcases hq with hq | hq
  · exact cr_sum hc pins s σ H _ us Q I rs ⟨a, ns, rfl, hq, q⟩
  · obtain rfl := rs.ref1
    obtain ⟨its, rv, ht, hz⟩ := I.tuple hq
    have hi := rv.ints
    obtain ⟨xs, e⟩ := hi.allInts.items
    have hn : numsOf (intItems xs).toList = ns := by rw [← e]; exact hi.numsOf
    rw [nums_intItems] at hn
    rw [e] at ht
    refine PySem.W.ktm_sumG (I.ok.hd hc) ht fun h' tk t' hk => ?_
    rw [preSum_eq, List.take_of_length_le (by simp), hn]
    exact ⟨.int ns.sum, H, I.kept (t' := tk) hk, ⟨_, rfl⟩, q⟩
theorem call_Sq (hc : X.calm = true) (b : Sq) : CallR X (sqF b) (rSq X.K (sqV b)) := by
  intro pins s σ H xs us Q I rs h
  obtain ⟨W, ι, hp, ds, v, hh, rfl, ⟨a, ws, rfl, hq, z⟩, po⟩ := h
  cases b with
  | len => exact call_len_seq pins s σ H _ us Q I rs ⟨a, ws, rfl, hq.imp id TupH.sq, by rw [← z.length]; exact PoE.now po hh rfl⟩
  | tuple =>
    refine call_tuple_of pins s σ H _ us Q I rs ⟨a, ws, rfl, ?_⟩
    rcases hq with hq | hq
    · exact .inl ⟨hq, fun l hn => new_tup hh z hn po⟩
    · exact .inr ⟨hq, PoE.now po hh ⟨a, ws, rfl, hq, z⟩⟩
  | sum =>
    obtain ⟨is, e, po⟩ := Po.ofO po
    rw [z.ints e] at hq
    exact sum_seq hc pins s σ H _ us Q I rs ⟨a, is, rfl, hq.imp id TupH.sq, PoE.now po hh rfl⟩
  | _ => exact po.elim
end
end Tw
end

section
set_option Elab.async false
set_option linter.all false
set_option maxRecDepth 100000
set_option maxHeartbeats 400000
/-! sorted: numbers, strings. Own work. -/
namespace Tw
open PySem PySem.Spec PyProof.Rows L2
section
variable {α : Type} {le : α → α → Bool}
theorem insG_perm (x : α) (l : List α) : (insG le x l).Perm (x :: l) := by
  induction l with
  | nil => exact .refl _
  | cons y l ih =>
    unfold insG
    split
    · exact .refl _
    · exact (List.Perm.cons y ih).trans (List.Perm.swap x y l)
theorem srtG_perm (l : List α) : (srtG le l).Perm l := by
  induction l with
  | nil => exact .refl _
  | cons x l ih => exact (insG_perm x _).trans (List.Perm.cons x ih)
theorem insG_sorted (tot : ∀ a b, le a b = true ∨ le b a = true) (tr : ∀ a b c, le a b = true → le b c = true → le a c = true) (x : α) (l : List α) (h : l.Pairwise fun a b => le a b = true) : (insG le x l).Pairwise fun a b => le a b = true := by
  induction l with
  | nil => exact List.pairwise_singleton _ _
  | cons y l ih =>
    obtain ⟨h1, h2⟩ := List.pairwise_cons.mp h
    unfold insG
    split
    · rename_i q
      refine List.pairwise_cons.mpr ⟨fun z hz => ?_, h⟩
      rcases List.mem_cons.mp hz with rfl | hz
      · exact q
      · exact tr _ _ _ q (h1 z hz)
    · rename_i q
      refine List.pairwise_cons.mpr ⟨fun z hz => ?_, ih h2⟩
      rcases List.mem_cons.mp ((insG_perm x l).mem_iff.mp hz) with rfl | hz
      · exact (tot z y).resolve_left q
      · exact h1 z hz
theorem srtG_sorted (tot : ∀ a b, le a b = true ∨ le b a = true) (tr : ∀ a b c, le a b = true → le b c = true → le a c = true) (l : List α) : (srtG le l).Pairwise fun a b => le a b = true := by
  induction l with
  | nil => exact .nil
  | cons x l ih => exact insG_sorted tot tr x _ ih
theorem srtG_uniq (tot : ∀ a b, le a b = true ∨ le b a = true) (tr : ∀ a b c, le a b = true → le b c = true → le a c = true) (anti : ∀ a b, le a b = true → le b a = true → a = b) {l l' : List α} (hp : l'.Perm l) (hs : l'.Pairwise fun a b => le a b = true) : l' = srtG le l :=
  List.Perm.eq_of_pairwise (le := fun a b => le a b = true) (fun a b _ _ => anti a b) hs (srtG_sorted tot tr l) (hp.trans (srtG_perm l).symm)
end
theorem leI_tot (a b : Int) : leI a b = true ∨ leI b a = true := by
  simp only [leI, decide_eq_true_eq]
  omega
theorem leI_tr (a b c : Int) : leI a b = true → leI b c = true → leI a c = true := by
  simp only [leI, decide_eq_true_eq]
  omega
theorem leI_anti (a b : Int) : leI a b = true → leI b a = true → a = b := by
  simp only [leI, decide_eq_true_eq]
  omega
theorem leS_iff (a b : Str) : leS a b = true ↔ a.cps.toList ≤ b.cps.toList := by
  unfold leS
  rw [Bool.not_eq_true', decide_eq_false_iff_not, List.not_lt]
theorem leS_tot (a b : Str) : leS a b = true ∨ leS b a = true := by
  rw [leS_iff, leS_iff]
  exact List.le_total _ _
theorem leS_tr (a b c : Str) : leS a b = true → leS b c = true → leS a c = true := by
  rw [leS_iff, leS_iff, leS_iff]
  exact List.le_trans
theorem leS_anti (a b : Str) : leS a b = true → leS b a = true → a = b := by
  rw [leS_iff, leS_iff]
  intro h1 h2
  have := List.le_antisymm h1 h2
  cases a; cases b
  congr 1
  exact Array.toList_inj.mp this
theorem rising_pair : ∀ (l : List Str) (p : Str), risingS p l = true → (p :: l).Pairwise fun a b => leS a b = true
  | [], p, _ => List.pairwise_singleton _ _
  | x :: l, p, h => by
    obtain ⟨h1, h2⟩ := Bool.and_eq_true_iff.mp (show (!ltCps x.cps.toList p.cps.toList && risingS x l) = true from h)
    have ih := rising_pair l x h2
    have hpx : leS p x = true := by
      unfold leS
      rwa [← ltCps_eq]
    refine List.pairwise_cons.mpr ⟨fun z hz => ?_, ih⟩
    rcases List.mem_cons.mp hz with rfl | hz
    · exact hpx
    · exact leS_tr _ _ _ hpx ((List.pairwise_cons.mp ih).1 z hz)
theorem sortedS_pair (l : List Str) (h : sortedS l = true) : l.Pairwise fun a b => leS a b = true := by
  cases l with
  | nil => exact .nil
  | cons x l => exact rising_pair l x h
theorem Reps_ints (K : Frg) (H : Hp) (ι : List Addr) (l : List Int) : Reps K H ι (l.map D.int) (l.map V.int) := by
  induction l with
  | nil => rfl
  | cons x l ih => exact ⟨_, _, rfl, rfl, ih⟩
theorem Reps_strs (K : Frg) (H : Hp) (ι : List Addr) (l : List Str) : Reps K H ι (l.map D.str) (l.map V.str) := by
  induction l with
  | nil => rfl
  | cons x l ih => exact ⟨_, _, rfl, rfl, ih⟩
theorem Reps_strsOf {K : Frg} {H : Hp} {ι : List Addr} : ∀ {ds : List D} {vs : List V} {ss : List Str}, Reps K H ι ds vs → strsOf ds = some ss → vs = ss.map V.str
  | [], vs, ss, r, e => by cases e; exact r
  | d :: ds, vs, ss, r, e => by
    obtain ⟨v, w, rfl, r1, r2⟩ := r
    cases d <;> try cases e
    rename_i s
    unfold strsOf at e
    cases h : strsOf ds with
    | none => rw [h] at e; cases e
    | some q =>
      rw [h] at e
      cases e
      rw [Reps_strsOf r2 h, show v = V.str s from r1]
      rfl

/-! ### rows -/
theorem ltR_irr : ∀ a : List Int, ltR a a = false
  | [] => rfl
  | x :: xs => by
    simp only [ltR, if_true]
    exact ltR_irr xs
theorem leR_tot : ∀ a b : List Int, leR a b = true ∨ leR b a = true
  | [], [] => .inl rfl
  | [], _ :: _ => .inl rfl
  | _ :: _, [] => .inr rfl
  | x :: xs, y :: ys => by
    have z := leR_tot xs ys
    unfold leR at z ⊢
    simp only [ltR]
    by_cases e : x = y
    · subst e
      simpa using z
    · have e' : ¬ y = x := fun h => e h.symm
      simp only [if_neg e, if_neg e']
      rcases Int.lt_or_gt_of_ne e with h | h
      · left
        simp
        omega
      · right
        simp
        omega
theorem leR_tr : ∀ a b c : List Int, leR a b = true → leR b c = true → leR a c = true
  | [], b, c, _, _ => by cases c <;> rfl
  | x :: xs, [], c, h, _ => by simp [leR, ltR] at h
  | x :: xs, y :: ys, [], _, h => by simp [leR, ltR] at h
  | x :: xs, y :: ys, z :: zs, h1, h2 => by
    have ih := leR_tr xs ys zs
    unfold leR at ih h1 h2 ⊢
    simp only [ltR] at h1 h2 ⊢
    by_cases e1 : y = x
    · subst e1
      simp only [if_true] at h1
      by_cases e2 : z = y
      · subst e2
        simp only [if_true] at h2 ⊢
        exact ih h1 h2
      · simp only [if_neg e2] at h2 ⊢
        exact h2
    · simp only [if_neg e1] at h1
      by_cases e2 : z = y
      · subst e2
        simp only [if_neg e1]
        exact h1
      · simp only [if_neg e2] at h2
        have a1 : x ≤ y := by simpa using h1
        have a2 : y ≤ z := by simpa using h2
        have e3 : ¬ z = x := by omega
        simp only [if_neg e3]
        simp
        omega
theorem leR_anti : ∀ a b : List Int, leR a b = true → leR b a = true → a = b
  | [], [], _, _ => rfl
  | [], _ :: _, _, h => by simp [leR, ltR] at h
  | _ :: _, [], h, _ => by simp [leR, ltR] at h
  | x :: xs, y :: ys, h1, h2 => by
    have ih := leR_anti xs ys
    unfold leR at ih h1 h2
    simp only [ltR] at h1 h2
    by_cases e : x = y
    · subst e
      simp only [if_true] at h1 h2
      rw [ih h1 h2]
    · have e' : ¬ y = x := fun h => e h.symm
      simp only [if_neg e, if_neg e'] at h1 h2
      have a1 : x ≤ y := by simpa using h1
      have a2 : y ≤ x := by simpa using h2
      omega
theorem code_leR {B : Int} : ∀ {a b : List Int}, a.length = b.length → TS.Bd B a → TS.Bd B b → TS.code B a ≤ TS.code B b → leR a b = true
  | [], [], _, _, _, _ => rfl
  | [], _ :: _, h, _, _, _ => by simp at h
  | _ :: _, [], h, _, _, _ => by simp at h
  | x :: xs, y :: ys, hl, ha, hb, h => by
    have hl' : xs.length = ys.length := by simpa using hl
    unfold leR
    simp only [ltR]
    by_cases e : y = x
    · subst e
      simp only [if_true]
      refine code_leR hl' ha.tail hb.tail ?_
      have h : y * B ^ xs.length + TS.code B xs ≤ y * B ^ ys.length + TS.code B ys := h
      rw [hl'] at h
      omega
    · simp only [if_neg e]
      rcases Int.lt_or_gt_of_ne e with c | c
      · have := TS.code_lt hl'.symm hb.tail ha.tail c
        omega
      · simp
        omega
theorem nub_mem (x : List Int) : ∀ l : List (List Int), x ∈ nubR l ↔ x ∈ l
  | [] => by simp [nubR]
  | y :: l => by
    have ih := nub_mem x l
    unfold nubR
    by_cases h : y ∈ nubR l
    · rw [if_pos h, ih, List.mem_cons]
      constructor
      · exact .inr
      · rintro (e | e)
        · rw [e]; exact (nub_mem y l).mp h
        · exact e
    · rw [if_neg h, List.mem_cons, List.mem_cons, ih]
theorem nub_nodup : ∀ l : List (List Int), (nubR l).Nodup
  | [] => List.nodup_nil
  | y :: l => by
    unfold nubR
    by_cases h : y ∈ nubR l
    · rw [if_pos h]; exact nub_nodup l
    · rw [if_neg h]; exact List.nodup_cons.mpr ⟨h, nub_nodup l⟩
theorem intsOf_eq : ∀ {ds : List D} {is : List Int}, intsOf ds = some is → ds = is.map D.int
  | [], _, h => by cases h; rfl
  | d :: ds, is, h => by
    cases d with
    | int i =>
      simp only [intsOf] at h
      cases e : intsOf ds with
      | none => rw [e] at h; cases h
      | some js =>
        rw [e] at h
        cases h
        rw [intsOf_eq e]
        rfl
    | _ => simp [intsOf] at h
theorem rowsI_eq : ∀ {ds : List D} {rs : List (List Int)}, rowsI ds = some rs → ds = rs.map rowD
  | [], _, h => by cases h; rfl
  | d :: ds, rs, h => by
    cases d with
    | tup xs =>
      simp only [rowsI] at h
      cases e : intsOf xs with
      | none => rw [e] at h; cases h
      | some js =>
        rw [e] at h
        cases e2 : rowsI ds with
        | none => rw [e2] at h; cases h
        | some ks =>
          rw [e2] at h
          cases h
          rw [rowsI_eq e2, intsOf_eq e]
          rfl
    | _ => simp [rowsI] at h
theorem bd_ex (rs : List (List Int)) (h : ∀ r ∈ rs, ∀ x ∈ r, 0 ≤ x) : ∃ B : Int, ∀ r ∈ rs, TS.Bd B r := by
  have one : ∀ r : List Int, (∀ x ∈ r, 0 ≤ x) → ∃ B : Int, 0 ≤ B ∧ ∀ x ∈ r, x < B := by
    intro r
    induction r with
    | nil => intro _; exact ⟨0, Int.le_refl _, fun x h => by cases h⟩
    | cons y r ih =>
      intro hr
      obtain ⟨B, b0, hB⟩ := ih fun x hx => hr x (List.mem_cons_of_mem _ hx)
      have y0 := hr y List.mem_cons_self
      refine ⟨B + y + 1, by omega, fun x hx => ?_⟩
      rcases List.mem_cons.mp hx with e | e
      · rw [e]; omega
      · have := hB x e; omega
  have two : ∃ B : Int, 0 ≤ B ∧ ∀ r ∈ rs, ∀ x ∈ r, x < B := by
    induction rs with
    | nil => exact ⟨0, Int.le_refl _, fun x h => by cases h⟩
    | cons r rs ih =>
      obtain ⟨B, b0, hB⟩ := ih fun r hr => h r (List.mem_cons_of_mem _ hr)
      obtain ⟨C, c0, hC⟩ := one r (h r List.mem_cons_self)
      refine ⟨B + C, by omega, fun q hq x hx => ?_⟩
      rcases List.mem_cons.mp hq with e | e
      · rw [e] at hx
        have := hC x hx; omega
      · have := hB q e x hx; omega
  obtain ⟨B, _, hB⟩ := two
  exact ⟨B, fun r hr x hx => ⟨h r hr x hx, hB r hr x hx⟩⟩
theorem rowsOk_ex {rs : List (List Int)} (h : rowsOk rs = true) : rs.length < 64 ∧ ∃ (d : Nat) (B : Int), 1 ≤ d ∧ ∀ r ∈ rs, r.length = d ∧ TS.Bd B r := by
  unfold rowsOk at h
  rw [Bool.and_eq_true] at h
  obtain ⟨h1, h2⟩ := h
  refine ⟨of_decide_eq_true h1, ?_⟩
  have h2 := List.all_eq_true.mp h2
  have h3 : ∀ r ∈ rs, 0 < r.length ∧ r.length = (rs.headD []).length ∧ ∀ x ∈ r, 0 ≤ x := fun r hr => by
    have z := h2 r hr
    simp only [Bool.and_eq_true, decide_eq_true_eq, List.all_eq_true] at z
    exact ⟨z.1.1, z.1.2, z.2⟩
  obtain ⟨B, hB⟩ := bd_ex rs fun r hr => (h3 r hr).2.2
  cases rs with
  | nil => exact ⟨1, B, Nat.le_refl _, fun r hr => by cases hr⟩
  | cons r rs => exact ⟨r.length, B, (h3 r List.mem_cons_self).1, fun q hq => ⟨(h3 q hq).2.1, hB q hq⟩⟩
theorem rep_row {K : Frg} {H : Hp} {ι : List Addr} {r : List Int} {v : V} : Rep K H ι (rowD r) v ↔ ∃ a, v = .ref a ∧ TupH H a (r.map V.int) := by
  constructor
  · rintro ⟨a, vs, e, h, z⟩
    have : vs = r.map V.int := by
      have e2 : intsOf (r.map D.int) = some r := by
        clear z h e
        induction r with
        | nil => rfl
        | cons x r ih => simp [intsOf, ih]
      exact z.ints e2
    subst this
    exact ⟨a, e, h⟩
  · rintro ⟨a, e, h⟩
    exact ⟨a, _, e, h, Reps_ints _ _ _ _⟩
theorem reps_rows {K : Frg} {H : Hp} {ι : List Addr} : ∀ {rs : List (List Int)} {vs : List V}, Reps K H ι (rs.map rowD) vs → ∃ ks : List (Addr × List Int), vs = ks.map (fun p => V.ref p.1) ∧ rs = ks.map (·.2) ∧ ∀ p ∈ ks, TupH H p.1 (p.2.map V.int)
  | [], _, h => ⟨[], by rw [show _ = [] from h]; rfl, rfl, fun p hp => by cases hp⟩
  | r :: rs, _, h => by
    obtain ⟨v, ws, rfl, h1, h2⟩ := h
    obtain ⟨a, rfl, ha⟩ := rep_row.mp h1
    obtain ⟨ks, rfl, e2, h3⟩ := reps_rows h2
    refine ⟨(a, r) :: ks, rfl, by rw [e2]; rfl, fun p hp => ?_⟩
    rcases List.mem_cons.mp hp with e | e
    · rw [e]; exact ha
    · exact h3 p e
theorem reps_of_rows {K : Frg} {H : Hp} {ι : List Addr} : ∀ {ks : List (Addr × List Int)}, (∀ p ∈ ks, TupH H p.1 (p.2.map V.int)) → Reps K H ι ((ks.map (·.2)).map rowD) (ks.map fun p => V.ref p.1)
  | [], _ => rfl
  | p :: ks, h => ⟨_, _, rfl, rep_row.mpr ⟨p.1, rfl, h p List.mem_cons_self⟩, reps_of_rows fun q hq => h q (List.mem_cons_of_mem _ hq)⟩
/-- ascending by the code: the sorted rows -/
theorem srt_rows {B : Int} {d : Nat} {L L' : List (Addr × List Int)} {rs : List (List Int)} (hB : ∀ p ∈ L, p.2.length = d ∧ TS.Bd B p.2) (pm : L'.Perm L) (hp : (L'.map (·.2)).Perm rs) (hs : L'.Pairwise fun q r => TS.code B q.2 ≤ TS.code B r.2) : L'.map (·.2) = srtG leR rs := by
  refine srtG_uniq leR_tot leR_tr leR_anti hp (List.pairwise_map.mpr ?_)
  refine List.Pairwise.imp_of_mem (fun {q r} hq hr h => ?_) hs
  obtain ⟨a1, a2⟩ := hB q (pm.mem_iff.mp hq)
  obtain ⟨b1, b2⟩ := hB r (pm.mem_iff.mp hr)
  exact code_leR (a1.trans b1.symm) a2 b2 h
section
variable {X : Cx}
def rSrtD (K : Frg) : List V → Hp → VK → Prop := fun xs H Q => ∃ (a : Addr) (ws : List V) (ι : List Addr) (ds es : List D), xs = [V.ref a] ∧ SqL K H a ws ∧ Reps K H ι ds ws ∧ srtV ds = some es ∧
  ∀ l us, H l = none → (∀ H', (∀ b o, H b = some o → H' b = some o) → Reps K H' ι es us) → Q (.ref l) (upd H l (.lst us))
theorem upd_keeps {H : Hp} {l : Addr} {o : HO} (hn : H l = none) : ∀ b u, H b = some u → upd H l o b = some u := fun b u e => by
  rw [upd_ne (fun z => by rw [z, hn] at e; cases e)]
  exact e
theorem srt_call : CallR X (.builtin "sorted") (rSrtD X.K) := by
  intro pins s σ H vs us Q I r h
  obtain ⟨a, ws, ι, ds, es, rfl, hq, hr, he, q⟩ := h
  unfold srtV at he
  cases hi : intsOf ds with
  | some is =>
    rw [hi] at he
    cases he
    rw [hr.ints hi] at hq
    refine cr_sortedI pins s σ H _ us Q I r ⟨a, is, rfl, hq, fun ns p hp hs hn => ?_⟩
    have e : ns = srtG leI is := srtG_uniq leI_tot leI_tr leI_anti hp (hs.imp fun h => decide_eq_true h)
    subst e
    exact q p _ hn fun H' _ => Reps_ints _ _ _ _
  | none =>
    rw [hi] at he
    cases hs : strsOf ds with
    | none =>
      rw [hs] at he
      simp only at he
      cases hw : rowsI ds with
      | none => rw [hw] at he; cases he
      | some rs =>
        rw [hw] at he
        simp only [Option.bind_some] at he
        split at he
        · rename_i hok
          cases he
          obtain ⟨h64, d, B, hd, hB⟩ := rowsOk_ex hok
          have e0 := rowsI_eq hw
          subst e0
          obtain ⟨ks, rfl, rfl, hk⟩ := reps_rows hr
          have hks : ∀ p ∈ ks, p.2.length = d ∧ TS.Bd B p.2 := fun p hp => hB p.2 (List.mem_map_of_mem hp)
          refine cr_sortT (d := d) (B := B) hd pins s σ H _ us Q I r ⟨a, _, rfl, hq, by simpa using h64, fun x hx => ?_, fun ys p hp hs hn => ?_⟩
          · obtain ⟨z, hz, rfl⟩ := List.mem_map.mp hx
            exact ⟨z.2, ⟨z.1, rfl, (hk z hz).sq⟩, (hks z hz).1, (hks z hz).2⟩
          · -- the sorted addresses carry rows
            have ex : ∀ (ys : List V), (∀ y ∈ ys, ∃ z ∈ ks, y = V.ref z.1) → ∃ L : List (Addr × List Int), ys = L.map (fun p => V.ref p.1) ∧ ∀ z ∈ L, z ∈ ks := by
              intro ys
              induction ys with
              | nil => intro _; exact ⟨[], rfl, fun z hz => by cases hz⟩
              | cons y ys ih =>
                intro h
                obtain ⟨z, hz, e⟩ := h y List.mem_cons_self
                obtain ⟨L, e2, hL⟩ := ih fun u hu => h u (List.mem_cons_of_mem _ hu)
                refine ⟨z :: L, by rw [e, e2]; rfl, fun u hu => ?_⟩
                rcases List.mem_cons.mp hu with e | e
                · rw [e]; exact hz
                · exact hL u e
            obtain ⟨L, rfl, hL⟩ := ex ys fun y hy => by
              obtain ⟨z, hz, e⟩ := List.mem_map.mp (hp.mem_iff.mp hy)
              exact ⟨z, hz, e.symm⟩
            -- an address has one row
            let f : V → List Int := fun v => match v with
              | .ref b => match H b with
                | some (.tup xs) => xs.map fun x => match x with
                  | .int i => i
                  | _ => 0
                | _ => []
              | _ => []
            have hf : ∀ z ∈ ks, f (.ref z.1) = z.2 := fun z hz => by
              show (match H z.1 with
                | some (.tup xs) => xs.map fun x => match x with
                  | .int i => i
                  | _ => 0
                | _ => []) = z.2
              rw [show H z.1 = some (.tup (z.2.map V.int)) from hk z hz]
              simp only [List.map_map]
              exact List.map_id'' (fun _ => rfl) _
            have eL : ∀ M : List (Addr × List Int), (∀ z ∈ M, z ∈ ks) → M.map (·.2) = (M.map fun p => V.ref p.1).map f := fun M hM => by
              rw [List.map_map]
              exact List.map_congr_left fun z hz => (hf z (hM z hz)).symm
            have pm : (L.map (·.2)).Perm (ks.map (·.2)) := by
              rw [eL L hL, eL ks fun z hz => hz]
              exact hp.map f
            have so : L.map (·.2) = srtG leR (ks.map (·.2)) := by
              refine srtG_uniq leR_tot leR_tr leR_anti pm (List.pairwise_map.mpr ?_)
              have hs := List.pairwise_map.mp hs
              refine List.Pairwise.imp_of_mem (fun {q r} hq hr h => ?_) hs
              have a := hL q hq
              have b := hL r hr
              exact code_leR ((hks q a).1.trans (hks r b).1.symm) (hks q a).2 (hks r b).2 (h q.2 r.2 ⟨q.1, rfl, (hk q a).sq⟩ ⟨r.1, rfl, (hk r b).sq⟩)
            refine q p _ hn fun H' kp => ?_
            rw [← so]
            exact reps_of_rows fun z hz => kp _ _ (hk z (hL z hz))
        · cases he
    | some ss =>
      rw [hs] at he
      simp only at he
      split at he
      · rename_i hl
        cases he
        rw [Reps_strsOf hr hs] at hq
        refine cr_sortedS pins s σ H _ us Q I r ⟨a, ss, rfl, hq, hl, fun ys p hp hs hn => ?_⟩
        have e : ys = srtG leS ss := srtG_uniq leS_tot leS_tr leS_anti hp (sortedS_pair ys hs)
        subst e
        exact q p _ hn fun H' _ => Reps_strs _ _ _ _
      · cases he
end
end Tw
end

section
set_option Elab.async false
set_option linter.all false
set_option maxRecDepth 100000
set_option maxHeartbeats 2000000
/-! min of rows; tuples from behind. Own work. -/
namespace Tw
open PySem PySem.Spec PyProof.Rows L2
open PySem.W (Tup DatumOrd HoldAll)
theorem listLt_eq : ∀ a b : List Int, PySem.W.listLt a b = ltR a b
  | [], [] => rfl
  | [], _ :: _ => rfl
  | _ :: _, [] => rfl
  | x :: xs, y :: ys => by
    simp only [PySem.W.listLt, ltR, listLt_eq xs ys]
    rfl
theorem minOf_eq : ∀ (r : List Int) (rs : List (List Int)), PySem.W.minOf (Tup.mk r) (rs.map Tup.mk) = Tup.mk (rs.foldl (fun a y => if ltR y a = true then y else a) r)
  | r, [] => rfl
  | r, y :: rs => by
    have ih := minOf_eq (if ltR y r = true then y else r) rs
    unfold PySem.W.minOf at ih ⊢
    rw [List.map_cons, List.foldl_cons, List.foldl_cons, ← ih]
    congr 1
    show (if PySem.W.listLt y r = true then Tup.mk y else Tup.mk r) = _
    rw [listLt_eq]
    split <;> rfl
theorem hold_rows {X : Cx} {pins : List (Addr × Obj)} {σ : L2.St} {H : Hp} {s : Shared} (I : Inv X pins σ H s) : ∀ {ks : List (Addr × List Int)} {us : List Value}, Vals (ks.map fun p => V.ref p.1) us → (∀ p ∈ ks, SqT X.K H p.1 (p.2.map V.int)) → HoldAll s.heap us (ks.map fun p => Tup.mk p.2)
  | [], _, .nil, _ => HoldAll.nil
  | p :: ks, _, .cons r t, h => by
    cases r
    obtain ⟨its, rv, ht, hz⟩ := I.tuple (h p List.mem_cons_self)
    exact HoldAll.cons (PySem.W.holds_tup (vs := its.toArray) ht (HoldAll.of_ints (by simpa using rv.ints))) (hold_rows I t fun q hq => h q (List.mem_cons_of_mem _ hq))
theorem holds_one {h : PySem.Heap} {v : Value} {a b : Tup Int} (x : PySem.W.Holds h v a) (y : PySem.W.Holds h v b) : a = b := by
  obtain ⟨l, vs, rfl, h1, h2⟩ := PySem.W.tup_of_holds x
  obtain ⟨l', vs', e, h3, h4⟩ := PySem.W.tup_of_holds y
  cases e
  obtain ⟨o, ho, _, n, hd⟩ := h1
  obtain ⟨o', ho', _, n', hd'⟩ := h3
  rw [ho] at ho'
  cases ho'
  rw [hd] at hd'
  cases hd'
  have e1 := h2.toInts.numsOf
  have e2 := h4.toInts.numsOf
  cases a
  cases b
  have : (_ : List Int) = _ := e1.symm.trans e2
  exact congrArg Tup.mk this
section
variable {X : Cx}
def rMinR (K : Frg) : List V → Hp → VK → Prop := fun xs H Q => ∃ (a : Addr) (ks : List (Addr × List Int)) (r : List Int) (rs : List (List Int)), xs = [V.ref a] ∧ (SqL K H a (ks.map fun p => V.ref p.1) ∨ SqT K H a (ks.map fun p => V.ref p.1)) ∧ (∀ p ∈ ks, SqT K H p.1 (p.2.map V.int)) ∧ ks.map (·.2) = r :: rs ∧
  ∀ p ∈ ks, p.2 = rs.foldl (fun a y => if ltR y a = true then y else a) r → Q (.ref p.1) H
theorem call_minR (hc : X.calm = true) (hu : X.A.units + 70 < cLine) : CallR X (.builtin "min") (rMinR X.K) := by
  intro pins s σ H xs us Q I rx h
  obtain ⟨a, ks, r, rs, rfl, hq, hk, e, q⟩ := h
  rw [Vals.ref1 rx]
  have hu2 : X.A.units + 1 + PySem.W.Datum.depth (Tup Int) < cLine := by
    have : PySem.W.Datum.depth (Tup Int) ≤ 8 := by decide
    omega
  have em : ks.map (fun p => Tup.mk p.2) = Tup.mk r :: rs.map Tup.mk := by
    have := congrArg (List.map Tup.mk) e
    rw [List.map_map] at this
    exact this
  -- the end
  have fin : ∀ {its : List Value} (rv : Vals (ks.map fun p => V.ref p.1) its), HoldAll s.heap its (Tup.mk r :: rs.map Tup.mk) → ∀ (i : Nat) v h' tk, its.toArray[i]? = some v → PySem.W.Holds h' v (PySem.W.minOf (Tup.mk r) (rs.map Tup.mk)) → (∀ b o, s.heap.get? b = some o → h'.get? b = some o) → EP X pins σ Q v { s with heap := h', toks := tk } := by
    intro its rv hal i v h' tk hi hv kp
    have hi' : its[i]? = some v := by simpa using hi
    obtain ⟨y, hy, hold⟩ := hal.at hi'
    have e1 := holds_one (hold.keeps kp) hv
    rw [minOf_eq] at e1
    have hl : i < (ks.map fun p => V.ref p.1).length := by
      rw [rv.length]
      exact (List.getElem?_eq_some_iff.mp hi').1
    rw [List.length_map] at hl
    have ey : y = Tup.mk (ks[i]).2 := by
      rw [← em, List.getElem?_map, List.getElem?_eq_getElem hl] at hy
      injection hy with hy
      exact hy.symm
    have ev : v = .ref (ks[i]).1 := by
      have z := refs_of_vals rv
      rw [z, List.getElem?_map, List.getElem?_eq_getElem hl] at hi'
      injection hi' with hi'
      exact hi'.symm
    rw [ey] at e1
    injection e1 with e1
    rw [ev]
    exact ⟨.ref _, H, I.kept (t' := tk) kp, rfl, q _ (List.getElem_mem hl) e1⟩
  rcases hq with hq | hq
  · obtain ⟨its, rv, hl, hz⟩ := I.list hq
    have hal := hold_rows I rv hk
    rw [em] at hal
    exact PySem.W.min_list_datum (I.ok.hd hc) hl.isList hal hu2 (fin rv hal)
  · obtain ⟨its, rv, hl, hz⟩ := I.tuple hq
    have hal := hold_rows I rv hk
    rw [em] at hal
    exact PySem.W.min_tuple_datum (I.ok.hd hc) hl hal hu2 (fin rv hal)
end
end Tw
end

section
set_option Elab.async false
set_option linter.all false
set_option maxRecDepth 100000
set_option maxHeartbeats 2000000
/-! t[::-1], t[:0:-1] of tuples. Own work. -/
namespace Tw
open PySem PySem.Spec PyProof.Rows L2 HT
theorem fm_map {α β : Type} {f : α → Option β} {g : α → β} : ∀ {l : List α}, (∀ m ∈ l, f m = some (g m)) → l.filterMap f = l.map g
  | [], _ => rfl
  | x :: l, h => by
    rw [List.filterMap_cons, h x List.mem_cons_self, List.map_cons, fm_map fun m hm => h m (List.mem_cons_of_mem _ hm)]
theorem pick_back (xs : List Value) (k : Nat) (hk : k ≤ xs.length) : ((List.range k).filterMap fun (m : Nat) => xs.toArray[(((xs.length : Int) - 1) + (m : Int) * (-1)).toNat]?) = xs.reverse.take k := by
  apply List.ext_getElem?
  intro i
  have e : ((List.range k).filterMap fun (m : Nat) => xs.toArray[(((xs.length : Int) - 1) + (m : Int) * (-1)).toNat]?) = (List.range k).map fun m => xs.reverse.getD m default := by
    refine fm_map fun m hm => ?_
    have hm := List.mem_range.mp hm
    have e1 : (((xs.length : Int) - 1) + (m : Int) * (-1)).toNat = xs.length - 1 - m := by omega
    have h2 : m < xs.reverse.length := by rw [List.length_reverse]; omega
    rw [e1]
    simp only [List.getElem?_toArray, List.getD_eq_getElem?_getD]
    rw [List.getElem?_reverse (by omega), List.getElem?_eq_getElem (show xs.length - 1 - m < xs.length by omega)]
    rfl
  rw [e, List.getElem?_map, List.getElem?_take]
  by_cases h : i < k
  · rw [if_pos h, List.getElem?_range h]
    have h2 : i < xs.reverse.length := by rw [List.length_reverse]; omega
    show some (xs.reverse.getD i default) = _
    rw [List.getD_eq_getElem?_getD, List.getElem?_eq_getElem h2]
    rfl
  · rw [if_neg h]
    simp [List.getElem?_eq_none, h]
def bk (b : Bool) : Option Int := if b = true then some 0 else none
def backL {α : Type} (b : Bool) (xs : List α) : List α := if b = true then (xs.drop 1).reverse else xs.reverse
theorem backL_take {α : Type} (b : Bool) (xs : List α) : backL b xs = xs.reverse.take (if b = true then xs.length - 1 else xs.length) := by
  cases b
  · show xs.reverse = _
    rw [if_neg Bool.false_ne_true, List.take_of_length_le (by simp)]
  · show (xs.drop 1).reverse = _
    rw [if_pos rfl, List.reverse_drop]
section
variable {prog : Program} {w : World} {A : Around} {E : Value → Shared → Prop} {s : Shared}
theorem getItem_tuple_back {t sl : Addr} {its : List Value} {vl vu vs : Value} {b : Bool} {Q : Value → Shared → Prop} (ht : IsTup s.heap t its.toArray) (hs : s.heap.IsSliceOf sl vl vu vs) (pl : IsPart vl none) (pu : IsPart vu (bk b)) (ps : IsPart vs (some (-1)))
    (h : Q (.ref s.heap.objs.size) { s with heap := s.heap.push { cls := .type "tuple", data := .seq (backL b its).toArray } })
    (hsz : its.length ≤ sizeLine) : wpAny (model prog w) A (getItem (.ref t) (.ref sl)) Q E s := by
  have htake : sizeOk (.seq (backL b its).toArray) := by
    show (backL b its).toArray.size ≤ sizeLine
    rw [List.size_toArray, backL_take, List.length_take, List.length_reverse]
    omega
  obtain ⟨os, hos, hcs, hds⟩ := id hs
  have hTs : s.TypeIs (.ref sl) "slice" := ⟨os, hos, hcs⟩
  unfold getItem
  try with_reducible refine wpAny_holding ?_
  first | refine wpAny_bind (wpAny_pure ?_) | skip
  refine wpAny_bind (wpAny_sequenceKey ht.typeIs (by decide) ?_)
  refine wpAny_bind (wpAny_callSpecial?_slot (name := Str.ofString "__getitem__") ht.typeIs PyProof.Rows.slot_tuple_getitem
    (wpAny_call_entry PyProof.Rows.slot_tuple_getitem ht.typeIs entry_tuple_getitem ?_ (args_tuple_getitem _ _)))
  show wpAny _ _ (Builtin.Tuple.tupleItemsOf (.ref t) >>= _) _ _ s
  refine wpAny_bind (tupleItemsOf_ ht ?_)
  refine wpAny_bind (wpAny_typeOf hTs ?_)
  rw [if_pos (by decide)]
  have ap : ∀ {Q : Int × Int × Nat → Shared → Prop} {E : Value → Shared → Prop} {A : Around}, Q (((its.toArray.size : Nat) : Int) - 1, -1, if b = true then its.length - 1 else its.length) s → wpAny (model prog w) A (Builtin.Slice.sliceApplied (.ref sl) (pure ((its.toArray.size : Nat) : Int))) Q E s := by
    intro Q E A h
    unfold Builtin.Slice.sliceApplied Builtin.Slice.sliceFields
    refine wpAny_bind (wpAny_bind (wpAny_field hos hds (x := vl) rfl (wpAny_bind (wpAny_field hos hds (x := vu) rfl (wpAny_bind (wpAny_field hos hds (x := vs) rfl (wpAny_pure ?_)))))))
    refine wpAny_bind (slicePart_ ps ?_)
    show wpAny _ _ (if ((-1 : Int) == 0) = true then _ else _) _ _ s
    rw [if_neg (by decide)]
    refine wpAny_bind (slicePart_ pl (wpAny_bind (slicePart_ pu (wpAny_bind (wpAny_pure ?_)))))
    show wpAny _ _ (pure ((Builtin.Slice.sliceAdjust none (bk b) (-1) ((its.toArray.size : Nat) : Int)).1, (-1 : Int), Builtin.Slice.slicePlaces (Builtin.Slice.sliceAdjust none (bk b) (-1) ((its.toArray.size : Nat) : Int)).1 (Builtin.Slice.sliceAdjust none (bk b) (-1) ((its.toArray.size : Nat) : Int)).2 (-1))) _ _ s
    refine wpAny_pure ?_
    have e1 : (Builtin.Slice.sliceAdjust none (bk b) (-1) ((its.toArray.size : Nat) : Int)).1 = ((its.toArray.size : Nat) : Int) - 1 := rfl
    have e2 : Builtin.Slice.slicePlaces (Builtin.Slice.sliceAdjust none (bk b) (-1) ((its.toArray.size : Nat) : Int)).1 (Builtin.Slice.sliceAdjust none (bk b) (-1) ((its.toArray.size : Nat) : Int)).2 (-1) = if b = true then its.length - 1 else its.length := by
      rw [e1]
      unfold Builtin.Slice.slicePlaces Builtin.Slice.sliceAdjust bk
      cases b
      · simp
        split <;> omega
      · simp
        have : min (0 : Int) ((its.length : Int) - 1) = if its.length = 0 then -1 else 0 := by split <;> omega
        rw [this]
        split <;> split <;> omega
    rw [e1] at e2 ⊢
    rw [e2]
    exact h
  refine wpAny_bind (ap ?_)
  show wpAny _ _ (if ((((its.toArray.size : Nat) : Int) - 1) == 0 && (-1 : Int) == 1 && (if b = true then its.length - 1 else its.length) == its.toArray.size) = true then _ else _) _ _ s
  rw [if_neg (by simp)]
  have pk := pick_back its (if b = true then its.length - 1 else its.length) (by split <;> omega)
  rw [← backL_take] at pk
  simp only [List.size_toArray]
  rw [pk]
  first
    | exact wpAny_bind (m := Builtin.Tuple.tupleExact _) (wpAny_newObj_type (wpAny_pure ⟨_, rfl, wpAny_pure h⟩) htake)
    | exact wpAny_bind (m := Builtin.Tuple.tupleExact _) (wpAny_newObj_type (wpAny_bind (wpAny_pure (wpAny_pure ⟨_, rfl, wpAny_pure h⟩))) htake)
    | exact wpAny_bind (wpAny_bind (m := Builtin.Tuple.tupleExact _) (wpAny_newObj_type (wpAny_pure (wpAny_pure ⟨_, rfl, wpAny_pure h⟩)) htake))
    | exact wpAny_bind (wpAny_bind (m := Builtin.Tuple.tupleExact _) (wpAny_newObj_type (wpAny_pure ⟨_, rfl, wpAny_pure h⟩) htake))
end
section
variable {X : Cx}
def tBackT (K : Frg) (b : Bool) (te : TE) : TE := fun σ H Q => te σ H fun x H1 => ∃ a xs, x = .ref a ∧ SqT K H1 a xs ∧ ∀ p, H1 p = none → Q (.ref p) (upd H1 p (.tup (backL b xs)))
theorem pe_back {e : Expr} {te : TE} {hi : Option Expr} {k : Nat} {p1 p2 p3 pos : Pos} {b : Bool} (he : PE X e te) (hh : (b = false ∧ hi = none) ∨ (b = true ∧ ∃ k p, hi = some (.Constant (.int 0) k p))) :
    PE X (.Subscript e (.Slice none hi (some (.UnaryOp .USub (.Constant (.int 1) k p1) p2)) p3) pos) (tBackT X.K b te) := by
  refine ⟨fun pins s σ H Q I h => ?_⟩
  refine Subscript_ (thn (he.run pins s σ H _ I h) fun v s1 ⟨x, H1, I1, r1, q1⟩ => ?_)
  obtain ⟨a, xs, ex, hx, q⟩ := q1
  subst ex
  cases r1
  have hst : PO X (some (.UnaryOp .USub (.Constant (.int 1) k p1) p2)) (tPart (tUn (rU fun i => .int (-i)) (tC (.int 1)))) := po_some (pe_un un_neg pe_int)
  refine wpAny_Slice (thn (po_none.run pins s1 σ H1 (fun o H2 => o = none ∧ H2 = H1) I1 ⟨rfl, rfl⟩) fun vl s2 ⟨l, H2, I2, pl, el, e2⟩ => ?_)
  subst el e2
  have mid : wpAny (model X.prog X.w) X.A (evalPart hi X.env) (fun u s' => ∃ o H', Inv X pins σ H' s' ∧ IsPart u o ∧ (o = bk b ∧ H' = H2)) X.xe s2 := by
    rcases hh with ⟨rfl, rfl⟩ | ⟨rfl, k0, p0, rfl⟩
    · exact po_none.run pins s2 σ H2 (fun o H3 => o = bk false ∧ H3 = H2) I2 ⟨rfl, rfl⟩
    · exact (po_some (pe_int (X := X) (i := 0) (j := k0) (pos := p0))).run pins s2 σ H2 (fun o H3 => o = bk true ∧ H3 = H2) I2 ⟨0, rfl, rfl, rfl⟩
  refine thn mid fun vu s3 ⟨u, H3, I3, pu, eu, e3⟩ => ?_
  subst eu e3
  refine thn (hst.run pins s3 σ H3 (fun o H4 => o = some (-1) ∧ H4 = H3) I3 ⟨1, rfl, -1, rfl, rfl, rfl⟩) fun vs s4 ⟨o, H4, I4, ps, eo, e4⟩ => ?_
  subst eo e4
  have I5 : Inv X pins σ H4 { s4 with heap := s4.heap.push { cls := .type "slice", data := .fields #[vl, vu, vs] } } := I4.kept (t' := s4.toks) fun b ob q => Heap.get?_push_of_some _ q
  obtain ⟨its, r, ht, hz⟩ := I5.tuple hx
  have hlen := r.length
  show wpAny (model X.prog X.w) X.A (subscriptTail e (.Slice none hi (some (.UnaryOp .USub (.Constant (.int 1) k p1) p2)) p3) (.ref a) (.ref s4.heap.objs.size)) (EP X pins σ Q) X.xe { s4 with heap := s4.heap.push { cls := .type "slice", data := .fields #[vl, vu, vs] } }
  refine tail_any (ops := [.ref a, .ref s4.heap.objs.size]) ht.typeIs (PyProof.Rows.slot_tuple_getitem.lookup) ?_ (by with_unfolding_all rfl)
  refine getItem_tuple_back ht (Heap.IsSliceOf.new _ vl vu vs) pl pu ps ?_ (by omega)
  refine ⟨.ref _, _, I5.laid (t' := s4.toks) (o := .tup (backL b xs)) (fun b ob q => Heap.get?_push_of_some _ q) (Nat.le_refl _) ?_, rfl, q _ (I5.hok.fresh (Nat.le_refl _))⟩
  refine ⟨?_, backL b its, ?_, ⟨_, Heap.get?_push_size _ rfl, rfl, 0, rfl⟩⟩
  · rw [backL_take, List.length_take, List.length_reverse]
    omega
  · unfold backL
    split
    · exact (r.drop 1).reverse
    · exact r.reverse
end
end Tw
end

section
set_option Elab.async false
set_option linter.all false
set_option maxRecDepth 100000
set_option maxHeartbeats 4000000
/-! When a term of the core language stands for a piece of the program's text. Own work. -/
namespace Tw
open PySem PySem.Spec PyProof.Rows L2

/-- where one stands: the scope that runs, the scope whose names may be stored -/
structure Wh where
  N : List Str
  sc : Scope
  st : Scope
def visB (sc : Scope) (x : Str) : Bool := match sc.names.lookup x with
  | some .local => true
  | some .cell => true
  | some .free => true
  | _ => false
def locB (sc : Scope) (x : Str) : Bool := match sc.names.lookup x with
  | some .local => true
  | some .cell => true
  | _ => false
def glB (sc : Scope) (x : Str) : Bool := match sc.names.lookup x with
  | some .globalImplicit => true
  | _ => false
def nmB (x : Str) : Bool := !(x == ("__debug__" : Str)) && !(x == ("__classdict__" : Str)) && !(x == ("__name__" : Str))
def tyX : Ty → String
  | .int => "int" | .bool => "bool" | .str => "str" | .tuple => "tuple" | .list => "list"
/-- a name that is a built-in's -/
def blB (G : GI) (w : Wh) (x : Str) (s : String) : Bool := decide (x = Str.ofString s) && glB w.sc x && G.bl.any fun y => decide (y = x)
def plainE : Expr → Bool
  | .Slice .. => false
  | .Starred .. => false
  | _ => true
def compE : Expr → Bool
  | .ListComp .. => true
  | .SetComp .. => true
  | .DictComp .. => true
  | _ => false
/-- nothing special in its test -/
def tstE : Expr → Bool
  | .UnaryOp .Not _ _ => false
  | .BoolOp .. => false
  | .IfExp .. => false
  | .Compare .. => false
  | _ => true
def cmpE : Expr → Bool
  | .Compare .. => true
  | _ => false
/-- no display of a set -/
def setE : Expr → Bool
  | .Set .. => false
  | _ => true
/-- a value and its target: a comprehension is not stored in a name here, a display of a tuple not in several -/
def swOk : Expr → Expr → Bool
  | .ListComp .., .Name .. => false
  | .SetComp .., .Name .. => false
  | .DictComp .., .Name .. => false
  | .Tuple .., .Tuple .. => false
  | .Tuple .., .List .. => false
  | _, _ => true
/-- no call of super -/
def baseE : Expr → Bool
  | .Call .. => false
  | _ => true
def opM : BOp → Operator → Bool
  | .add, .Add => true | .sub, .Sub => true | .mul, .Mult => true | .mod, .Mod => true | .fdiv, .FloorDiv => true | .pow, .Pow => true | .shl, .LShift => true
  | _, _ => false
def cpM : COp → CmpOp → Bool
  | .eq, .Eq => true | .ne, .NotEq => true | .lt, .Lt => true | .le, .LtE => true | .gt, .Gt => true | .ge, .GtE => true | .is, .Is => true | .isnot, .IsNot => true | .isin, .In => true | .notin, .NotIn => true
  | _, _ => false
def ownOf (N : List Str) (is : List Nat) : List (Str × Nat) := is.map fun i => (N.getD i Str.empty, i)
def inW (w : Wh) (scope : Scope) : Wh := ⟨w.N, relS scope w.sc, scope⟩
mutual
def CT.flat : CT → Bool
  | .name _ => true
  | .tup ts => ts.flat
  | .sub _ _ => false
def CTs.flat : CTs → Bool
  | .nil => true
  | .cons t ts => t.flat && ts.flat
end

/-- keywords, their places -/
def kwB (ps : List Str) (n : Nat) (ix : List Nat) (kws : List Keyword) : Bool :=
  kws.all (·.arg.isSome) && decide (kws.filterMap (·.arg)).Nodup && decide (n + (kws.filterMap (·.arg)).length = ps.length) && ((kws.filterMap (·.arg)).all fun k => (ps.drop n).contains k) && decide (ix = (ps.drop n).map fun q => (kws.filterMap (·.arg)).idxOf q)
mutual
def mE (G : GI) : Wh → CE → Expr → Bool
  | w, .var i, e => (match e with
    | .Name x _ => decide (w.N[i]? = some x) && visB w.sc x && nmB x
    | _ => false)
  | w, .int i, e => (match e with
    | .Constant (.int j) _ _ => decide (i = j)
    | _ => false)
  | w, .bl i, e => (match e with
    | .Constant (.bool j) _ _ => decide (i = j)
    | _ => false)
  | w, .non, e => (match e with
    | .Constant .none _ _ => true
    | _ => false)
  | w, .str i, e => (match e with
    | .Constant (.str j) _ _ => decide (i = j)
    | _ => false)
  | w, .cst i, e => (match e with
    | .Name x _ => decide (G.cs[i]? = some x) && glB w.sc x && nmB x
    | _ => false)
  | w, .bin op a b, e => (match e with
    | .BinOp l o r _ => opM op o && mE G w a l && mE G w b r
    | _ => false)
  | w, .cmp op a b, e => (match e with
    | .Compare l [o] [r] _ => cpM op o && mE G w a l && mE G w b r && !behindInMarks o r
    | _ => false)
  | w, .chain o1 o2 a b c, e => (match e with
    | .Compare l [p1, p2] [m, r] _ => cpM o1 p1 && cpM o2 p2 && mE G w a l && mE G w b m && mE G w c r && !lastMarks [p1, p2] [m, r]
    | _ => false)
  | w, .and a b, e => (match e with
    | .BoolOp .And [x, y] _ => mE G w a x && mE G w b y
    | .BoolOp .And (x :: y :: z :: zs) p => mE G w a x && mE G w b (.BoolOp .And (y :: z :: zs) p)
    | _ => false)
  | w, .or a b, e => (match e with
    | .BoolOp .Or [x, y] _ => mE G w a x && mE G w b y
    | .BoolOp .Or (x :: y :: z :: zs) p => mE G w a x && mE G w b (.BoolOp .Or (y :: z :: zs) p)
    | _ => false)
  | w, .not a, e => (match e with
    | .UnaryOp .Not x _ => mN G w a x
    | _ => false)
  | w, .neg a, e => (match e with
    | .UnaryOp .USub x _ => mE G w a x
    | _ => false)
  | w, .ite c a b, e => (match e with
    | .IfExp t x y _ => mB G w c t && mE G w a x && mE G w b y
    | _ => false)
  | w, .idx a i, e => (match e with
    | .Subscript o s _ => mE G w a o && mE G w i s && plainE s
    | _ => false)
  | w, .slc a lo hi, e => (match e with
    | .Subscript o (.Slice l u none _) _ => mE G w a o && mO G w lo l && mO G w hi u
    | _ => false)
  | w, .tup es, e => (match e with
    | .Tuple xs _ _ => mEs G w es xs
    | _ => false)
  | w, .new l, e => mL G w l e
  | w, .dct ps, e => (match e with
    | .Dict ks vs _ => mP G w ps ks vs && !ks.isEmpty && decide (ks.length ≤ 15)
    | _ => false)
  | w, .dcomp k v t it cd, e => (match e with
    | .DictComp kx vx [⟨tg, iter, ifs, 0⟩] scope _ => blkC w.N w.sc scope (ownOf w.N t.slots) && t.flat && mI G w it iter tg && mT G (inW w scope) t tg && mIf G (inW w scope) cd ifs && mE G (inW w scope) k kx && mE G (inW w scope) v vx
    | _ => false)
  | w, .call f as, e => (match e with
    | .Call (.Name x _) args [] _ => (match G.fns[f]? with
      | some p => decide (p.1 = x) && glB w.sc x && nmB x && mEs G w as args
      | none => false)
    | _ => false)
  | w, .bi b as, e => (match e with
    | .Call (.Name x _) args [] _ => blB G w x (biX b) && mEs G w as args && !args.isEmpty
    | _ => false)
  | w, .sq b s, e => (match e with
    | .Call (.Name x _) [a] [] _ => blB G w x (sqX b) && mQ G w s a
    | _ => false)
  | w, .isin a t, e => (match e with
    | .Call (.Name x _) [y, .Name z _] [] _ => blB G w x "isinstance" && mE G w a y && blB G w z (tyX t)
    | _ => false)
  | w, .app l a, e => (match e with
    | .Call (.Attribute o m ap) [x] [] cp => decide (m = Str.ofString "append") && mE G w l o && mE G w a x && baseE o && (ap.endLine == cp.line)
    | _ => false)
  | w, .callK f ix as bs, e => (match e with
    | .Call (.Name x _) args kws _ => (match G.fns[f]? with
      | some p => decide (p.1 = x) && glB w.sc x && nmB x && mEs G w as args && mEs G w bs (kws.map (·.value)) && kwB p.2 args.length ix kws
      | none => false)
    | _ => false)
  | w, .pop l, e => (match e with
    | .Call (.Attribute o m ap) [] [] cp => decide (m = Str.ofString "pop") && mE G w l o && baseE o && (ap.endLine == cp.line)
    | _ => false)
  | w, .popi l a, e => (match e with
    | .Call (.Attribute o m ap) [x] [] cp => decide (m = Str.ofString "pop") && mE G w l o && mE G w a x && baseE o && (ap.endLine == cp.line)
    | _ => false)
  | w, .index l a, e => (match e with
    | .Call (.Attribute o m ap) [x] [] cp => decide (m = Str.ofString "index") && mE G w l o && mE G w a x && baseE o && (ap.endLine == cp.line)
    | _ => false)
  | w, .sqL b l, e => (match e with
    | .Call (.Name x _) [a] [] _ => blB G w x (sqX b) && mL G w l a
    | _ => false)
  | w, .sqE b s, e => (match e with
    | .Call (.Name x _) [a] [] _ => blB G w x (sqX b) && mE G w s a && plainE a
    | _ => false)
  | w, .trev s, e => (match e with
    | .Call (.Name x _) [.Call (.Name y _) [a] [] _] [] _ => blB G w x "tuple" && blB G w y "reversed" && mE G w s a && plainE a
    | _ => false)
  | w, .get2 d k x, e => (match e with
    | .Call (.Attribute o m ap) [y, z] [] cp => decide (m = Str.ofString "get") && mE G w d o && mE G w k y && mE G w x z && baseE o && (ap.endLine == cp.line)
    | _ => false)
  | w, .back s false, e => (match e with
    | .Subscript a (.Slice none none (some (.UnaryOp .USub (.Constant (.int i) _ _) _)) _) _ => decide (i = 1) && mE G w s a
    | _ => false)
  | w, .back s true, e => (match e with
    | .Subscript a (.Slice none (some (.Constant (.int j) _ _)) (some (.UnaryOp .USub (.Constant (.int i) _ _) _)) _) _ => decide (i = 1) && decide (j = 0) && mE G w s a
    | _ => false)
  | w, .stuck, e => plainE e
  | w, .ext l a, e => (match e with
    | .Call (.Attribute o m ap) [x] [] cp => decide (m = Str.ofString "extend") && mE G w l o && mL G w a x && baseE o && (ap.endLine == cp.line)
    | _ => false)
/-- a test's term for what stands behind «not» as a value -/
def mN (G : GI) : Wh → CB → Expr → Bool
  | w, .val a, e => mE G w a e
  | _, _, _ => false
def mB (G : GI) : Wh → CB → Expr → Bool
  | w, .val a, e => mE G w a e && (tstE e || cmpE e)
  | w, .and a b, e => (match e with
    | .BoolOp .And [x, y] _ => mB G w a x && mB G w b y
    | .BoolOp .And (x :: y :: z :: zs) p => mB G w a x && mB G w b (.BoolOp .And (y :: z :: zs) p)
    | _ => false)
  | w, .or a b, e => (match e with
    | .BoolOp .Or [x, y] _ => mB G w a x && mB G w b y
    | .BoolOp .Or (x :: y :: z :: zs) p => mB G w a x && mB G w b (.BoolOp .Or (y :: z :: zs) p)
    | _ => false)
  | w, .not a, e => (match e with
    | .UnaryOp .Not x _ => mB G w a x
    | _ => false)
  | w, .ite _ _ _, e => false
def mIf (G : GI) : Wh → CBO → List Expr → Bool
  | w, .none, es => (match es with
    | [] => true
    | _ => false)
  | w, .some a, es => (match es with
    | [x] => mB G w a x
    | _ => false)
def mO (G : GI) : Wh → CO → Option Expr → Bool
  | w, .none, e => (match e with
    | none => true
    | _ => false)
  | w, .some a, e => (match e with
    | some x => mE G w a x
    | _ => false)
def mEs (G : GI) : Wh → CEs → List Expr → Bool
  | w, .nil, es => (match es with
    | [] => true
    | _ => false)
  | w, .cons a as, es => (match es with
    | x :: xs => mE G w a x && plainE x && mEs G w as xs
    | _ => false)
def mP (G : GI) : Wh → CPs → List (Option Expr) → List Expr → Bool
  | w, .nil, ks, vs => (match ks, vs with
    | [], [] => true
    | _, _ => false)
  | w, .cons a b ps, ks, vs => (match ks, vs with
    | some k :: ks, v :: vs => mE G w a k && mE G w b v && mP G w ps ks vs
    | _, _ => false)
def mL (G : GI) : Wh → CL → Expr → Bool
  | w, .comp a t it cd, e => (match e with
    | .ListComp x [⟨tg, iter, ifs, 0⟩] scope _ => blkC w.N w.sc scope (ownOf w.N t.slots) && t.flat && mI G w it iter tg && mT G (inW w scope) t tg && mIf G (inW w scope) cd ifs && mE G (inW w scope) a x
    | _ => false)
  | w, .disp es, e => (match e with
    | .List xs _ => mEs G w es xs
    | _ => false)
  | w, .of s, e => (match e with
    | .Call (.Name x _) [a] [] _ => blB G w x "list" && mQ G w s a
    | _ => false)
  | w, .srt l, e => (match e with
    | .Call (.Name x _) [a] [] _ => blB G w x "sorted" && mL G w l a
    | _ => false)
  | w, .srtE b, e => (match e with
    | .Call (.Name x _) [a] [] _ => blB G w x "sorted" && mE G w b a && plainE a
    | _ => false)
  | w, .srtC a t it cd, e => (match e with
    | .Call (.Name y _) [.SetComp x [⟨tg, iter, ifs, 0⟩] scope _] [] _ => blB G w y "sorted" && blkC w.N w.sc scope (ownOf w.N t.slots) && t.flat && mI G w it iter tg && mT G (inW w scope) t tg && mIf G (inW w scope) cd ifs && mE G (inW w scope) a x
    | _ => false)
  | w, .srtS l, e => (match e with
    | .Call (.Name y _) [.Call (.Name x _) [a] [] _] [] _ => blB G w y "sorted" && blB G w x "set" && mL G w l a
    | _ => false)
  | w, .rep es n, e => (match e with
    | .BinOp (.List xs _) .Mult r _ => mEs G w es xs && mE G w n r
    | _ => false)
/-- what is walked, by such a target -/
def mI (G : GI) : Wh → CI → Expr → Expr → Bool
  | w, .val a, e, _ => mE G w a e && plainE e && setE e
  | w, .tmp l, e, _ => mL G w l e
  | w, .rng1 a, e, _ => (match e with
    | .Call (.Name x _) [y] [] _ => blB G w x "range" && mE G w a y && plainE y
    | _ => false)
  | w, .rng2 a b, e, _ => (match e with
    | .Call (.Name x _) [y, z] [] _ => blB G w x "range" && mE G w a y && plainE y && mE G w b z && plainE z
    | _ => false)
  | w, .rev a, e, _ => (match e with
    | .Call (.Name x _) [y] [] _ => blB G w x "reversed" && mE G w a y && plainE y
    | _ => false)
  | w, .rng3 a b d, e, _ => (match e with
    | .Call (.Name x _) [y, z, u] [] _ => blB G w x "range" && mE G w a y && plainE y && mE G w b z && plainE z && mE G w d u && plainE u
    | _ => false)
  | w, .enum a, e, tg => (match e, tg with
    | .Call (.Name x _) [y] [] _, .Tuple _ _ _ => blB G w x "enumerate" && mE G w a y && plainE y
    | _, _ => false)
  | w, .zip a b, e, tg => (match e, tg with
    | .Call (.Name x _) [y, z] [] _, .Tuple _ _ _ => blB G w x "zip" && mE G w a y && plainE y && mE G w b z && plainE z
    | _, _ => false)
def mQ (G : GI) : Wh → CI → Expr → Bool
  | w, .val a, e => mE G w a e && plainE e
  | w, .tmp l, e => mL G w l e
  | _, _, _ => false
def mT (G : GI) : Wh → CT → Expr → Bool
  | w, .name i, e => (match e with
    | .Name x _ => decide (w.N[i]? = some x) && locB w.st x
    | _ => false)
  | w, .tup ts, e => (match e with
    | .Tuple xs _ _ => mTs G w ts xs
    | _ => false)
  | w, .sub o i, e => (match e with
    | .Subscript x y _ => mE G w o x && mE G w i y && plainE y
    | _ => false)
def mTs (G : GI) : Wh → CTs → List Expr → Bool
  | w, .nil, es => (match es with
    | [] => true
    | _ => false)
  | w, .cons t ts, es => (match es with
    | x :: xs => mT G w t x && plainE x && mTs G w ts xs
    | _ => false)
end
/-- a comprehension stored in a name: the name is a cell, or it stands on the comprehension's line and is none of its own -/
def swB (w : Wh) : Expr → Expr → Bool
  | .ListComp _ _ scope pos, .Name y py => (match w.sc.names.lookup y with
    | some .local => (py.line == pos.line) && !(scope.names.any fun (n, k) => n == y && (k == .local || k == .cell))
    | some .cell => true
    | _ => false)
  | .DictComp _ _ _ scope pos, .Name y py => (match w.sc.names.lookup y with
    | some .local => (py.line == pos.line) && !(scope.names.any fun (n, k) => n == y && (k == .local || k == .cell))
    | some .cell => true
    | _ => false)
  | _, _ => false
def starB : Expr → Bool
  | .Starred .. => true
  | _ => false
def locO (sc : Scope) (x : Str) : Bool := match sc.names.lookup x with
  | some .local => true
  | _ => false
/-- the names of a plain tuple of targets -/
def swNames (sc : Scope) (ts : List Expr) : List Str := ts.filterMap fun
  | .Name id pos => if sc.names.lookup id == some .local && pos.line == (ts.head?.map (·.pos.line)).getD 0 then some id else none
  | _ => none
/-- the names that are stored from the right -/
def swMir (sc : Scope) (ts vs : List Expr) : Option (List Str) :=
  if (!(ts.length == 2 || ts.length == 3) || vs.length != ts.length) = true then none
  else if vs.any starB = true then none
  else if ((swNames sc ts).length != ts.length || (swNames sc ts).eraseDups.length != (swNames sc ts).length) = true then none
  else if vs.all (foldedForSure 8) = true then none
  else some (swNames sc ts)
/-- a tuple stored in a tuple -/
def parB (w : Wh) (ts vs : List Expr) : CT → CE → Bool
  | .tup (.cons (.name i) (.cons (.name j) .nil)), .tup (.cons _ (.cons _ .nil)) => (match ts with
    | [.Name x _, .Name y _] => decide (i ≠ j) && locO w.sc x && locO w.sc y && decide (swMir w.sc ts vs = some [x, y])
    | _ => false)
  | .tup (.cons (.name i) (.cons (.name j) (.cons (.name l) .nil))), .tup (.cons _ (.cons _ (.cons _ .nil))) => (match ts with
    | [.Name x _, .Name y _, .Name z _] => decide (i ≠ j) && decide (i ≠ l) && decide (j ≠ l) && locO w.sc x && locO w.sc y && locO w.sc z && decide (swMir w.sc ts vs = some [x, y, z])
    | _ => false)
  | _, _ => false
def swTT (w : Wh) (t : CT) (a : CE) (e tg : Expr) : Bool := match e, tg with
  | .Tuple vs _ _, .Tuple ts _ _ => (vs.all (foldedForSure 8) || !vs.all (constantsAlone 8)) && (decide (swMir w.sc ts vs = none) || parB w ts vs t a)
  | _, _ => false
/-- a value of an except suite; nm: the clause's name -/
def mAt (nm : Option Str) (sc : Scope) : CAt → Expr → Bool
  | .str i, e => (match e with
    | .Constant (.str j) _ _ => decide (i = j)
    | _ => false)
  | .int i, e => (match e with
    | .Constant (.int j) _ _ => decide (i = j)
    | _ => false)
  | .bl i, e => (match e with
    | .Constant (.bool j) _ _ => decide (i = j)
    | _ => false)
  | .non, e => (match e with
    | .Constant .none _ _ => true
    | _ => false)
  | .fld g, e => (match e with
    | .Attribute (.Name x _) f _ => decide (nm = some x) && decide (g = f) && visB sc x && nmB x
    | _ => false)
def mAts (nm : Option Str) (sc : Scope) : List CAt → List Expr → Bool
  | [], es => (match es with
    | [] => true
    | _ => false)
  | a :: as, es => (match es with
    | x :: xs => mAt nm sc a x && plainE x && mAts nm sc as xs
    | _ => false)
def mCX (nm : Option Str) (sc : Scope) : CX → Expr → Bool
  | .at a, e => mAt nm sc a e
  | .tup as, e => (match e with
    | .Tuple xs _ _ => mAts nm sc as xs && decide (as.length ≤ 15)
    | _ => false)
def mSu (w : Wh) (nm : Option Str) : CSu → List Stmt → Bool
  | .ret e, ss => (match ss with
    | [.Return (some x) _] => mCX nm w.sc e x
    | _ => false)
  | .asg i e, ss => (match ss with
    | [.Assign [.Name x _] y _] => decide (w.N[i]? = some x) && locB w.st x && decide (nm ≠ some x) && mCX nm w.sc e y
    | _ => false)
/-- a clause: the class's name, the slot of the clause's name -/
def mHd (G : GI) (w : Wh) (x : CH) : ExceptHandler → Bool
  | .ExceptHandler (some (.Name c _)) nm su _ => (match G.cl[x.k]? with
    | some p => decide (p.1 = c) && glB w.sc c && nmB c && (match x.nm, nm with
      | none, none => mSu w none x.su su
      | some i, some n => decide (w.N[i]? = some n) && locO w.sc n && mSu w (some n) x.su su
      | _, _ => false)
    | none => false)
  | _ => false
def mHs (G : GI) (w : Wh) : List CH → List ExceptHandler → Bool
  | [], hs => (match hs with
    | [] => true
    | _ => false)
  | x :: xs, hs => (match hs with
    | y :: ys => mHd G w x y && mHs G w xs ys
    | _ => false)
mutual
def mS (G : GI) : Wh → CS → Stmt → Bool
  | w, .asg t a, s => (match s with
    | .Assign [tg] e _ => mT G w t tg && mE G w a e && plainE tg && (swTT w t a e tg || (swOk e tg || swB w e tg))
    | _ => false)
  | w, .aug i op a, s => (match s with
    | .AugAssign (.Name x _) o e _ => opM op o && decide (w.N[i]? = some x) && locB w.st x && visB w.sc x && nmB x && mE G w a e
    | _ => false)
  | w, .ex a, s => (match s with
    | .Expr e _ => mE G w a e && !compE e
    | _ => false)
  | w, .ret a, s => (match s with
    | .Return (some e) _ => mE G w a e
    | _ => false)
  | w, .retN, s => (match s with
    | .Return none _ => true
    | _ => false)
  | w, .ite c a b, s => (match s with
    | .If t x y _ => mB G w c t && mSs G w a x && mSs G w b y
    | _ => false)
  | w, .loop t it b, s => (match s with
    | .For tg iter body [] _ => mT G w t tg && mI G w it iter tg && mSs G w b body
    | _ => false)
  | w, .wh c b, s => (match s with
    | .While t body [] _ => mB G w c t && mSs G w b body
    | _ => false)
  | w, .brk, s => (match s with
    | .Break _ => true
    | _ => false)
  | w, .cnt, s => (match s with
    | .Continue _ => true
    | _ => false)
  | w, .pass, s => (match s with
    | .Pass _ => true
    | _ => false)
  | w, .raise k es, s => (match s with
    | .Raise (some (.Call (.Name x _) args [] _)) none _ => (match G.cl[k]? with
      | some p => decide (p.1 = x) && glB w.sc x && nmB x && mEs G w es args && !p.2.isEmpty && decide (args.length = p.2.length) && decide (args.length ≤ 15)
      | none => false)
    | _ => false)
  | w, .tr b hs, s => (match s with
    | .Try body hds [] [] _ => mSs G w b body && mHs G w hs hds && !hs.isEmpty
    | _ => false)
  | w, .stuck, s => true
def mSs (G : GI) : Wh → CSs → List Stmt → Bool
  | w, .nil, ss => (match ss with
    | [] => true
    | _ => false)
  | w, .cons a as, ss => (match ss with
    | x :: xs => mS G w a x && mSs G w as xs
    | _ => false)
end
end Tw
end

section
set_option Elab.async false
set_option linter.all false
set_option maxRecDepth 100000
set_option maxHeartbeats 4000000
/-! The readings of terms are kept by the pieces of text that they stand for. Own work. -/
namespace Tw
open PySem PySem.Spec PyProof.Rows L2

abbrev W0 : Wish := fun _ _ _ _ _ => False
abbrev W00 : WS := fun _ _ _ _ _ => False
/-- an exception as it flies: its class, its dict -/
def ExIs (K : Frg) (G : GI) (mg : Str → Option Value) (k : Nat) (fs : List D) (ι : List Addr) (H : Hp) (cls : Value) (d : Option Addr) : Prop :=
  ∃ (x : Str) (fl : List Str) (C dd : Addr) (ws : List (Str × V)) (vs : List V), G.cl[k]? = some (x, fl) ∧ mg x = some (.ref C) ∧ cls = .ref C ∧ d = some dd ∧ H dd = some (.xd ws) ∧ fs.length = fl.length ∧ Reps K H ι fs vs ∧
    ∀ (j : Nat) (f : Str) (v : V), fl[j]? = some f → vs[j]? = some v → ws.lookup f = some v
/-- the wish of a call's end -/
def wrE (K : Frg) (G : GI) (mg : Str → Option Value) (E : XK) : Wish := fun k fs hp ι H => HpRep K H ι hp → ∀ cls d, ExIs K G mg k fs ι H cls d → E cls d H
/-- a function's promise by the core language -/
def spT (K : Frg) (G : GI) (mg : Str → Option Value) (F : List D → Heap → R (D × Heap)) (n : Nat) : Sp := fun vs H Q E => vs.length = n ∧ ∃ ι hp ds, HpRep K H ι hp ∧ Reps K H ι ds vs ∧ PoE K (wrE K G mg E) ι H (F ds hp) Q
/-- the classes of exceptions as they stand -/
structure ClsOk (G : GI) (cl : List (List Nat × List Str)) (K : Frg) (mg : Str → Option Value) : Prop where
  at_ : ∀ (k : Nat) (x : Str) (fl : List Str), G.cl[k]? = some (x, fl) → (∃ l, cl[k]? = some (l, fl)) ∧ ∃ C, mg x = some (.ref C) ∧ XfC K C ∧ ∀ f ∈ fl, PySem.W.findIn K (.ref C) f = some none
  exm : ∀ (i j : Nat) (x y : Str) (fl gl : List Str) (C C' : Addr), G.cl[i]? = some (x, fl) → G.cl[j]? = some (y, gl) → mg x = some (.ref C) → mg y = some (.ref C') → ∃ l, cl[i]? = some l ∧ PySem.W.exmOne K (.ref C) (.ref C') = some (l.1.contains j)
/-- what making such an exception does -/
def spI (K : Frg) (fl : List Str) : Sp := fun vs H Q _ => ∃ (a C : Addr) (xs : List V), vs = .ref a :: xs ∧ xs.length = fl.length ∧ OexC K C ∧ (∀ f ∈ fl, PySem.W.findIn K (.ref C) f = some none) ∧ H a = some (exo a C none) ∧
  ∀ (d : Addr) (ws : List (Str × V)), H d = none → d ≠ a → (∀ (j : Nat) (f : Str) (v : V), fl[j]? = some f → xs[j]? = some v → ws.lookup f = some v) → ∀ H2 : Hp, H2 a = some (exo a C (some d)) → H2 d = some (exd d ws) → (∀ b, b ≠ a → b ≠ d → H2 b = H b) → Q .non H2
structure XOk (G : GI) (c : Ctx) (w : Wh) (X : Cx) : Prop where
  N : X.N = w.N
  nd : w.N.Nodup
  sc : X.env.scope = w.sc
  knd : X.env.scope.kind = .function
  calm : X.calm = true
  fn : ∀ x, locB w.st x = true → Loc w.sc x ∧ (X.fn x = true ∨ w.sc.names.lookup x = some .local)
  hu : X.A.units + 70 < cLine
  bl : ∀ x ∈ G.bl, X.mg x = none
  cs : ∀ (i : Nat) (x : Str), G.cs[i]? = some x → ∃ d u v, c.cs[i]? = some d ∧ X.mg x = some u ∧ RelV v u ∧ ∀ H ι, Rep X.K H ι d v
  ar : ∀ (f : Nat) (p : Str × List Str), G.fns[f]? = some p → ∀ ds hp, ds.length ≠ p.2.length → c.T f ds hp = .no
  fns : ∀ (f : Nat) (p : Str × List Str), G.fns[f]? = some p → ∃ k fa fd, FnOk X.prog X.w X.K X.mg X.base (L2.CX X.prog X.w) k fa fd p.2 (spT X.K G X.mg (c.T f) p.2.length) ∧ Room k X.A ∧ X.mg p.1 = some (.ref fa) ∧ PySem.W.keepIn X.K (.ref fa) = true ∧
    ∀ (us : List Value) (ks : List Str) (ws : List Value), ks.Nodup → us.length + ks.length = p.2.length → ws.length = ks.length → (∀ k ∈ ks, k ∈ p.2.drop us.length) → ∀ s, BindsTo s fd ⟨us, ks.zip ws⟩ (p.2.zip (us ++ (p.2.drop us.length).filterMap fun q => (ks.zip ws).lookup q))
  ex : ClsOk G c.cl X.K X.mg
  mkx : ∀ (k : Nat) (x : Str) (fl : List Str), G.cl[k]? = some (x, fl) → fl ≠ [] → ∃ n C fI fd, X.mg x = some (.ref C) ∧ OexC X.K C ∧ PySem.W.findIn X.K (.ref C) "__init__" = some (some (.ref fI)) ∧ PySem.W.typeIn X.K (.ref fI) = some (.type "function") ∧
    FnOk X.prog X.w X.K X.mg X.base (L2.CX X.prog X.w) n fI fd ("self" :: fl) (spI X.K fl) ∧ Room (n + 1) X.A ∧ Binds X.K fd ("self" :: fl) []
/-- the context lets out what is wished for -/
def TkOk (G : GI) (X : Cx) (W : WS) : Prop := ∃ wx : WX, Takes X wx ∧ ∀ σ k fs ι H cls d, W σ k fs ι H → ExIs X.K G X.mg k fs ι H cls d → wx cls d σ H
theorem tk0 {G : GI} {X : Cx} : TkOk G X W00 := ⟨fun _ _ _ _ => False, takes0, fun _ _ _ _ _ _ _ h _ => h.elim⟩

/-! ### small facts of the text -/
theorem tt {a b : Bool} (h : (a && b) = true) : a = true ∧ b = true := Bool.and_eq_true_iff.mp h
theorem vis_of {sc : Scope} {x : Str} (h : visB sc x = true) : Vis sc x := by
  unfold visB at h
  split at h
  · exact .inl (by assumption)
  · exact .inr (.inl (by assumption))
  · exact .inr (.inr (by assumption))
  · cases h
theorem gl_of {G : GI} {c : Ctx} {w : Wh} {X : Cx} {x : Str} (O : XOk G c w X) (h : glB w.sc x = true) : Gl X x := by
  unfold glB at h
  split at h
  · show X.env.scope.names.lookup x = _
    rw [O.sc]
    assumption
  · cases h
theorem nm_of {x : Str} (h : nmB x = true) : (x == ("__debug__" : Str)) = false ∧ (x == ("__classdict__" : Str)) = false ∧ x ≠ "__name__" := by
  unfold nmB at h
  obtain ⟨h, h3⟩ := tt h
  obtain ⟨h1, h2⟩ := tt h
  exact ⟨by simpa using h1, by simpa using h2, by simpa using h3⟩
theorem bl_of {G : GI} {c : Ctx} {w : Wh} {X : Cx} {x : Str} {s : String} (O : XOk G c w X) (h : blB G w x s = true) : x = Str.ofString s ∧ Gl X x ∧ X.mg x = none := by
  unfold blB at h
  obtain ⟨h, h3⟩ := tt h
  obtain ⟨h1, h2⟩ := tt h
  obtain ⟨y, hy, e⟩ := List.any_eq_true.mp h3
  have e := of_decide_eq_true e
  subst e
  exact ⟨of_decide_eq_true h1, gl_of O h2, O.bl _ hy⟩
theorem star_cons {X : Cx} {e : Expr} {es : List Expr} (h : plainE e = true) : starEach (e :: es) X.env = (false, eval e X.env) :: starEach es X.env := by
  cases e <;> first | rfl | cases h
theorem asg_cons {X : Cx} {e : Expr} {es : List Expr} (h : plainE e = true) : assignEach (e :: es) X.env = (false, assign e X.env) :: assignEach es X.env := by
  cases e <;> first | rfl | cases h
theorem star_all {X : Cx} : ∀ {es : List Expr}, (∀ e ∈ es, plainE e = true) → ∀ pos, (backTo pos (starEach es X.env)).any (·.1) = false
  | [], _, pos => rfl
  | e :: es, h, pos => by
    rw [star_cons (h e List.mem_cons_self)]
    show (false || (backTo pos (starEach es X.env)).any (·.1)) = false
    rw [star_all (fun x hx => h x (List.mem_cons_of_mem _ hx)) pos]
    rfl
theorem mEs_plain {G : GI} {w : Wh} : ∀ {as : CEs} {es : List Expr}, mEs G w as es = true → ∀ e ∈ es, plainE e = true
  | .nil, [], _, e, he => nomatch he
  | .nil, _ :: _, h, _, _ => by simp [mEs] at h
  | .cons a as, [], h, _, _ => by simp [mEs] at h
  | .cons a as, x :: xs, h, e, he => by
    simp only [mEs] at h
    obtain ⟨h, h2⟩ := tt h
    obtain ⟨h, h1⟩ := tt h
    rcases List.mem_cons.mp he with rfl | he
    · exact h1
    · exact mEs_plain h2 e he
theorem plain_ix {e : Expr} (h : plainE e = true) : PlainIx e := by
  intro o i
  cases e <;> first | rfl | cases h
theorem op_of {op : BOp} {o : Operator} (h : opM op o = true) : o = opN op := by
  cases op <;> cases o <;> first | rfl | cases h
theorem cp_of {op : COp} {o : CmpOp} (h : cpM op o = true) : o = cpN op := by
  cases op <;> cases o <;> first | rfl | cases h
theorem base_of {X : Cx} {o : Expr} {m : Str} (h : baseE o = true) : attributeBase o m X.env (eval o X.env) = eval o X.env := by
  cases o <;> first | rfl | cases h
theorem tst_of {X : Cx} {e : Expr} (h : tstE e = true) : ∀ whole, isTrue e X.env whole = (do let v ← whole; standAt e.pos; holding [v] (truthy v)) := by
  intro whole
  cases e <;> first | rfl | skip
  all_goals first
    | (rename_i op x p; cases op <;> first | rfl | cases h)
    | cases h
theorem fold_of {X : Cx} {e : Expr} (h : setE e = true) : ∀ x, foldedSetIterable e X.env x = pure x := by
  intro x
  cases e <;> first | rfl | cases h
theorem hu1 {G : GI} {c : Ctx} {w : Wh} {X : Cx} (O : XOk G c w X) : X.A.units + 1 < cLine := by have := O.hu; omega

/-! ### slots -/
/-- only such slots were written -/
def Agr (is : List Nat) (σ σ' : L2.St) : Prop := σ'.length = σ.length ∧ ∀ i, i ∉ is → σ'[i]? = σ[i]?
theorem Agr.refl {is : List Nat} {σ : L2.St} : Agr is σ σ := ⟨rfl, fun _ _ => rfl⟩
theorem Agr.trans {is js : List Nat} {σ σ1 σ2 : L2.St} (a : Agr is σ σ1) (b : Agr js σ1 σ2) : Agr (is ++ js) σ σ2 :=
  ⟨b.1.trans a.1, fun i h => (b.2 i fun z => h (List.mem_append_right _ z)).trans (a.2 i fun z => h (List.mem_append_left _ z))⟩
theorem Agr.set {i : Nat} {σ : L2.St} {x : Option V} : Agr [i] σ (σ.set i x) := ⟨by simp, fun j h => by
  rw [List.getElem?_set_ne]
  exact fun e => h (by simp [e])⟩
theorem wipe_get {σ : L2.St} : ∀ {is : List Nat} (i : Nat), (wipe σ is)[i]? = if i ∈ is ∧ i < σ.length then some none else σ[i]?
  | [], i => by simp [wipe]
  | j :: is, i => by
    unfold wipe
    by_cases e : j = i
    · subst e
      by_cases hl : j < σ.length
      · rw [List.getElem?_set_self (by rw [wipe_length]; exact hl), if_pos ⟨by simp, hl⟩]
      · rw [List.getElem?_eq_none (by rw [List.length_set, wipe_length]; omega), if_neg (fun z => hl z.2), List.getElem?_eq_none (by omega)]
    · rw [List.getElem?_set_ne e, wipe_get i]
      have : (i ∈ is ∧ i < σ.length) ↔ (i ∈ j :: is ∧ i < σ.length) := by
        simp only [List.mem_cons]
        constructor
        · exact fun ⟨h1, h2⟩ => ⟨.inr h1, h2⟩
        · rintro ⟨h1 | h1, h2⟩
          · exact absurd h1.symm e
          · exact ⟨h1, h2⟩
      simp only [this]
theorem Agr.wipe {is : List Nat} {σ σ' : L2.St} (a : Agr is σ σ') : wipe σ' is = wipe σ is := by
  apply List.ext_getElem?
  intro i
  rw [wipe_get, wipe_get, a.1]
  split
  · rfl
  · rename_i h
    by_cases hm : i ∈ is
    · have hl : ¬ i < σ.length := fun z => h ⟨hm, z⟩
      have hl' := a.1
      rw [List.getElem?_eq_none (show σ'.length ≤ i by omega), List.getElem?_eq_none (show σ.length ≤ i by omega)]
    · exact a.2 i hm
theorem SRep.set {K : Frg} {H : Hp} {ι : List Addr} {σ : L2.St} {ρ : Env} {d : D} {v : V} (r : SRep K H ι σ ρ) (q : Rep K H ι d v) (i : Nat) : SRep K H ι (σ.set i (some v)) (ρ.set i (some d)) := by
  refine ⟨by simp [r.1], fun j e h => ?_⟩
  by_cases hj : i = j
  · subst hj
    by_cases hl : i < ρ.length
    · rw [List.getElem?_set_self hl] at h
      cases h
      exact ⟨v, List.getElem?_set_self (by rw [r.1]; exact hl), q⟩
    · rw [List.getElem?_eq_none (by simpa using hl)] at h; cases h
  · rw [List.getElem?_set_ne hj] at h ⊢
    exact r.2 j e h
theorem SRep.wipe {K : Frg} {H : Hp} {ι : List Addr} {σ : L2.St} {ρ : Env} (r : SRep K H ι σ ρ) : ∀ is : List Nat, SRep K H ι (wipe σ is) (wipeE ρ is)
  | [] => r
  | i :: is => by
    have q := SRep.wipe r is
    refine ⟨by simp [L2.wipe, wipeE, q.1], fun j e h => ?_⟩
    unfold wipeE at h
    unfold L2.wipe
    by_cases hj : i = j
    · subst hj
      by_cases hl : i < (wipeE ρ is).length
      · rw [List.getElem?_set_self hl] at h; cases h
      · rw [List.getElem?_eq_none (by simpa using hl)] at h; cases h
    · rw [List.getElem?_set_ne hj] at h ⊢
      exact q.2 j e h

/-! ### readings of what is walked, of targets, of lists that are made -/
/-- the iterator J yields these items as long as the lists at g stand -/
structure Wk (K : Frg) (J : It) (g : List (Nat × O)) (xs : List D) (ι0 : List Addr) (H0 : Hp) : Prop where
  go : ∀ ι H hp, Step ι0 H0 ι H → HpRep K H ι hp → guards g hp = true → ∀ (i : Nat) (d : D), xs[i]? = some d → J.go i H ∧ ∀ x H', J.yld i H x H' → Step ι H ι H' ∧ HpRep K H' ι hp ∧ Rep K H' ι d x
  stop : ∀ ι H hp, Step ι0 H0 ι H → HpRep K H ι hp → guards g hp = true → J.stop xs.length H
def SI (K : Frg) (R : It → Hp → Prop) (r : Walk × Heap) (ι' : List Addr) (H' : Hp) : Prop := HpRep K H' ι' r.2 → ∀ J, Wk K J r.1.2 r.1.1 ι' H' → R J H'
def rdI (K : Frg) (W : WS) (c : Ctx) (s : CI) : TI := fun σ H R => ∃ ι ρ hp, SRep K H ι σ ρ ∧ HpRep K H ι hp ∧ Po (wr K W σ) ι H (evI c s ρ hp) (SI K R)
def ST (K : Frg) (is : List Nat) (σ : L2.St) (Q : L2.St → Hp → Prop) (r : Env × Heap) (ι' : List Addr) (H' : Hp) : Prop := HpRep K H' ι' r.2 → ∀ σ', Agr is σ σ' → SRep K H' ι' σ' r.1 → Q σ' H'
def rdT (K : Frg) (c : Ctx) (t : CT) : TG := fun v σ H Q => ∃ ι ρ hp d r, SRep K H ι σ ρ ∧ HpRep K H ι hp ∧ Rep K H ι d v ∧ asg c t d ρ hp = .ok r ∧ Po W0 ι H (.ok r) (ST K t.slots σ Q)
def rdTs (K : Frg) (c : Ctx) (t : CTs) : TGs := fun vs σ H Q => ∃ ι ρ hp ds r, SRep K H ι σ ρ ∧ HpRep K H ι hp ∧ Reps K H ι ds vs ∧ asgs c t ds ρ hp = .ok r ∧ Po W0 ι H (.ok r) (ST K t.slots σ Q)
/-- a list that no number names yet -/
def SL (K : Frg) (H : Hp) (Q : VK) (r : List D × Heap) (ι' : List Addr) (H' : Hp) : Prop := HpRep K H' ι' r.2 → ∀ a vs, H a = none → a ∉ ι' → H' a = some (.lst vs) → Reps K H' ι' r.1 vs → Q (.ref a) H'
def rdL (K : Frg) (W : WS) (c : Ctx) (l : CL) : TE := fun σ H Q => ∃ ι ρ hp, SRep K H ι σ ρ ∧ HpRep K H ι hp ∧ Po (wr K W σ) ι H (evL c l ρ hp) (SL K H Q)
/-- what holds items -/
def SQ (K : Frg) (Q : VK) (r : List D × Heap) (ι' : List Addr) (H' : Hp) : Prop := HpRep K H' ι' r.2 → ∀ v, Holds K H' ι' r.1 v → Q v H'
def rdQ (K : Frg) (W : WS) (c : Ctx) (s : CI) : TE := fun σ H Q => ∃ ι ρ hp, SRep K H ι σ ρ ∧ HpRep K H ι hp ∧ Po (wr K W σ) ι H (evQ c s ρ hp) (SQ K Q)
def rdO (K : Frg) (W : WS) (c : Ctx) (e : CO) : TO := fun σ H Q => ∃ ι ρ hp, SRep K H ι σ ρ ∧ HpRep K H ι hp ∧ Po (wr K W σ) ι H (evO c e ρ hp) fun r ι' H' => HpRep K H' ι' r.2 → Q r.1 H'
def rdF (K : Frg) (c : Ctx) (e : CBO) : TT := fun σ H Q => ∃ ι ρ hp, SRep K H ι σ ρ ∧ HpRep K H ι hp ∧ Po (wr K W00 σ) ι H (tvO c e ρ hp) (SB K Q)
def SP (K : Frg) (Q : List (V × V) → Hp → Prop) (r : List (D × D) × Heap) (ι' : List Addr) (H' : Hp) : Prop := HpRep K H' ι' r.2 → ∀ ps, Reps K H' ι' (r.1.map (·.1)) (ps.map (·.1)) → Reps K H' ι' (r.1.map (·.2)) (ps.map (·.2)) → Q ps H'

theorem _root_.L2.PG.imp {X : Cx} {e : Expr} {t t' : TG} (h : PG X e t) (i : ∀ v σ H Q, t' v σ H Q → t v σ H Q) : PG X e t' := ⟨fun pins s σ H v u Q I r q => h.run pins s σ H v u Q I r (i v σ H Q q)⟩
theorem _root_.L2.PGs.imp {X : Cx} {e : List Expr} {t t' : TGs} (h : PGs X e t) (i : ∀ v σ H Q, t' v σ H Q → t v σ H Q) : PGs X e t' := ⟨fun pins s σ H v u Q I r q => h.run pins s σ H v u Q I r (i v σ H Q q)⟩
theorem _root_.L2.PA.imp {X : Cx} {e : List Expr} {t t' : TA} (h : PA X e t) (i : ∀ σ H Q, t' σ H Q → t σ H Q) : PA X e t' := ⟨fun pos pins s σ H Q I q => h.run pos pins s σ H Q I (i σ H Q q)⟩
theorem _root_.L2.PI.imp {X : Cx} {tg e : Expr} {t t' : TI} (h : PI X tg e t) (i : ∀ σ H R, t' σ H R → t σ H R) : PI X tg e t' := ⟨fun pins s σ H R I q => h.run pins s σ H R I (i σ H R q)⟩
theorem _root_.L2.PO.imp {X : Cx} {e : Option Expr} {t t' : TO} (h : PO X e t) (i : ∀ σ H R, t' σ H R → t σ H R) : PO X e t' := ⟨fun pins s σ H R I q => h.run pins s σ H R I (i σ H R q)⟩
theorem _root_.L2.PTs.imp {X : Cx} {e : List Expr} {t t' : TT} (h : PTs X e t) (i : ∀ σ H R, t' σ H R → t σ H R) : PTs X e t' := ⟨fun pins s σ H R I q => h.run pins s σ H R I (i σ H R q)⟩
theorem _root_.L2.PW.imp {X : Cx} {e : Expr} {t t' : TT} (h : PW X e t) (i : ∀ σ H Q, t' σ H Q → t σ H Q) : PW X e t' := ⟨fun wh pins s σ H Q I q => h.run wh pins s σ H Q I (i σ H Q q)⟩
end Tw
end

section
set_option Elab.async false
set_option linter.all false
set_option maxRecDepth 100000
set_option maxHeartbeats 4000000
/-! Loops and comprehensions. Own work. -/
namespace Tw
open PySem PySem.Spec PyProof.Rows L2

theorem drop_nil {α : Type} {xs : List α} {i : Nat} (h : xs.length ≤ i) : xs.drop i = [] := List.drop_eq_nil_of_le h
theorem drop_cons {α : Type} {xs : List α} {i : Nat} (h : i < xs.length) : xs.drop i = xs[i] :: xs.drop (i + 1) := List.drop_eq_getElem_cons h

/-- back before: nothing stood there -/
theorem Step.was {K : Frg} {ι ι' : List Addr} {H H' : Hp} {hp' : Heap} (s : Step ι H ι' H') (h' : HpRep K H' ι' hp') {a : Addr} (n : H' a = none) : H a = none := by
  cases q : H a with
  | none => rfl
  | some o =>
    by_cases hm : a ∈ ι
    · obtain ⟨κ, e⟩ := s.pre
      have hm' : a ∈ ι' := by rw [e]; exact List.mem_append_left _ hm
      exact absurd hm' (h'.notin n)
    · rw [s.kp a o q hm] at n; cases n
/-- a thing that no number names is written -/
theorem Step.off {ι ι' : List Addr} {H H' : Hp} (s : Step ι H ι' H') {a : Addr} {o : HO} (n : H a = none) : Step ι H ι' (upd H' a o) :=
  ⟨s.pre, s.new, fun b u e hb => by rw [upd_ne (ne_of_none e n)]; exact s.kp b u e hb⟩
/-- where a thing that no number names is written, values stay what they are -/
theorem off_rep {K : Frg} {H : Hp} {ι : List Addr} {a : Addr} {o : HO} (nt : ∀ xs, H a ≠ some (.tup xs)) (nf : ∀ u w, H a ≠ some (.frz u w)) : (∀ (d : D) (v : V), Rep K H ι d v → Rep K (upd H a o) ι d v) ∧ ∀ (ds : List D) (vs : List V), Reps K H ι ds vs → Reps K (upd H a o) ι ds vs := by
  have t : ∀ {b : Addr} {xs : List V}, SqT K H b xs → SqT K (upd H a o) b xs := fun {b xs} h => by
    rcases h with (h | ⟨u, h⟩) | h
    · exact .inl (.inl (by rw [upd_ne (show b ≠ a from fun e => nt xs (by rw [← e]; exact h))]; exact h))
    · exact .inl (.inr ⟨u, by rw [upd_ne (show b ≠ a from fun e => nf u _ (by rw [← e]; exact h))]; exact h⟩)
    · exact .inr h
  have tH : ∀ {b : Addr} {xs : List V}, TupH H b xs → TupH (upd H a o) b xs := fun {b xs} h => by
    show upd H a o b = some (.tup xs)
    rw [upd_ne (show b ≠ a from fun e => nt xs (by rw [← e]; exact h))]
    exact h
  have f : ∀ {b : Addr} {xs : List V}, SqF K H b xs → SqF K (upd H a o) b xs := fun {b xs} h => by
    rcases h with ⟨u, h⟩ | h
    · exact .inl ⟨u, by rw [upd_ne (show b ≠ a from fun e => nf u _ (by rw [← e]; exact h))]; exact h⟩
    · exact .inr h
  have main : ∀ n : Nat, (∀ (d : D), sizeOf d < n → ∀ v : V, Rep K H ι d v → Rep K (upd H a o) ι d v) ∧ ∀ (ds : List D), sizeOf ds < n → ∀ vs : List V, Reps K H ι ds vs → Reps K (upd H a o) ι ds vs := by
    intro n
    induction n with
    | zero => exact ⟨fun d h => absurd h (Nat.not_lt_zero _), fun d h => absurd h (Nat.not_lt_zero _)⟩
    | succ n ih =>
      refine ⟨fun d hd v r => ?_, fun ds hd vs r => ?_⟩
      · cases d with
        | tup ds =>
          obtain ⟨b, vs, e, q, r⟩ := r
          simp only [D.tup.sizeOf_spec] at hd
          exact ⟨b, vs, e, tH q, ih.2 ds (by omega) vs r⟩
        | ctp ds =>
          obtain ⟨b, vs, e, q, r⟩ := r
          simp only [D.ctp.sizeOf_spec] at hd
          exact ⟨b, vs, e, t q, ih.2 ds (by omega) vs r⟩
        | seq ds =>
          obtain ⟨b, vs, e, q, r⟩ := r
          simp only [D.seq.sizeOf_spec] at hd
          exact ⟨b, vs, e, f q, ih.2 ds (by omega) vs r⟩
        | _ => exact r
      · cases ds with
        | nil => exact r
        | cons d ds =>
          obtain ⟨v, w, e, r1, r2⟩ := r
          simp only [List.cons.sizeOf_spec] at hd
          exact ⟨v, w, e, ih.1 d (by omega) v r1, ih.2 ds (by omega) w r2⟩
  exact ⟨fun d v r => (main (sizeOf d + 1)).1 d (Nat.lt_succ_self _) v r, fun d v r => (main (sizeOf d + 1)).2 d (Nat.lt_succ_self _) v r⟩
theorem off_hp {K : Frg} {H : Hp} {ι : List Addr} {hp : Heap} {a : Addr} {o : HO} (hh : HpRep K H ι hp) (na : a ∉ ι) (nt : ∀ xs, H a ≠ some (.tup xs)) (nf : ∀ u w, H a ≠ some (.frz u w)) : HpRep K (upd H a o) ι hp := by
  obtain ⟨f, g⟩ := off_rep (K := K) (ι := ι) (o := o) nt nf
  refine ⟨hh.len, hh.nd, fun n x b h1 h2 => ?_⟩
  have hb : upd H a o b = H b := upd_ne (show b ≠ a from fun e => na (by rw [← e]; exact List.mem_of_getElem? h2))
  have q := hh.ok n x b h1 h2
  cases x with
  | lst xs => obtain ⟨vs, q, r⟩ := q; exact ⟨vs, hb.trans q, g _ _ r⟩
  | dct kvs => obtain ⟨ws, q, r1, r2⟩ := q; exact ⟨ws, hb.trans q, r1, g _ _ r2⟩
  | dtt kvs => obtain ⟨ws, q, r1, r2⟩ := q; exact ⟨ws, hb.trans q, r1, g _ _ r2⟩

/-- one more number: all stays -/
theorem more_reps {K : Frg} {H : Hp} {ι : List Addr} {hp : Heap} (hh : HpRep K H ι hp) (a : Addr) : (∀ (d : D) (v : V), Rep K H ι d v → Rep K H (ι ++ [a]) d v) ∧ ∀ (ds : List D) (vs : List V), Reps K H ι ds vs → Reps K H (ι ++ [a]) ds vs := by
  have main : ∀ n : Nat, (∀ (d : D), sizeOf d < n → ∀ v : V, Rep K H ι d v → Rep K H (ι ++ [a]) d v) ∧ ∀ (ds : List D), sizeOf ds < n → ∀ vs : List V, Reps K H ι ds vs → Reps K H (ι ++ [a]) ds vs := by
    intro n
    induction n with
    | zero => exact ⟨fun d h => absurd h (Nat.not_lt_zero _), fun d h => absurd h (Nat.not_lt_zero _)⟩
    | succ n ih =>
      refine ⟨fun d hd v r => ?_, fun ds hd vs r => ?_⟩
      · cases d with
        | tup ds =>
          obtain ⟨b, vs, e, q, r⟩ := r
          simp only [D.tup.sizeOf_spec] at hd
          exact ⟨b, vs, e, q, ih.2 ds (by omega) vs r⟩
        | ctp ds =>
          obtain ⟨b, vs, e, q, r⟩ := r
          simp only [D.ctp.sizeOf_spec] at hd
          exact ⟨b, vs, e, q, ih.2 ds (by omega) vs r⟩
        | seq ds =>
          obtain ⟨b, vs, e, q, r⟩ := r
          simp only [D.seq.sizeOf_spec] at hd
          exact ⟨b, vs, e, q, ih.2 ds (by omega) vs r⟩
        | ref m =>
          obtain ⟨b, e, q⟩ := r
          exact ⟨b, e, by rw [List.getElem?_append_left (List.getElem?_eq_some_iff.mp q).1]; exact q⟩
        | _ => exact r
      · cases ds with
        | nil => exact r
        | cons d ds =>
          obtain ⟨v, w, e, r1, r2⟩ := r
          simp only [List.cons.sizeOf_spec] at hd
          exact ⟨v, w, e, ih.1 d (by omega) v r1, ih.2 ds (by omega) w r2⟩
  exact ⟨fun d v r => (main (sizeOf d + 1)).1 d (Nat.lt_succ_self _) v r, fun d v r => (main (sizeOf d + 1)).2 d (Nat.lt_succ_self _) v r⟩
/-- a thing that stood without a number gets one -/
theorem num_ok {K : Frg} {H : Hp} {ι : List Addr} {hp : Heap} {a : Addr} {o : O} (hh : HpRep K H ι hp) (na : a ∉ ι) (x : OOk K H (ι ++ [a]) a o) : HpRep K H (ι ++ [a]) (hp ++ [o]) := by
  refine ⟨by simp [hh.len], ?_, fun n o' b h1 h2 => ?_⟩
  · refine List.nodup_append.mpr ⟨hh.nd, by simp, fun b hb c hc e => ?_⟩
    rw [List.mem_singleton.mp hc] at e
    exact na (e ▸ hb)
  · by_cases hl : n < hp.length
    · rw [List.getElem?_append_left hl] at h1
      rw [List.getElem?_append_left (hh.len ▸ hl)] at h2
      have q := hh.ok n o' b h1 h2
      cases o' with
      | lst xs => obtain ⟨vs, q, r⟩ := q; exact ⟨vs, q, (more_reps hh a).2 _ _ r⟩
      | dct kvs => obtain ⟨ws, q, r1, r2⟩ := q; exact ⟨ws, q, r1, (more_reps hh a).2 _ _ r2⟩
      | dtt kvs => obtain ⟨ws, q, r1, r2⟩ := q; exact ⟨ws, q, r1, (more_reps hh a).2 _ _ r2⟩
    · have e : n = hp.length := by
        have := (List.getElem?_eq_some_iff.mp h1).1
        simp at this
        omega
      subst e
      rw [List.getElem?_append_right (Nat.le_refl _), Nat.sub_self] at h1
      rw [← hh.len, List.getElem?_append_right (Nat.le_refl _), Nat.sub_self] at h2
      simp at h1 h2
      subst h1 h2
      exact x
theorem num_at {K : Frg} {H : Hp} {ι : List Addr} {hp : Heap} {a : Addr} (hh : HpRep K H ι hp) : (ι ++ [a])[hp.length]? = some a := by
  rw [List.getElem?_append_right (by rw [hh.len]; exact Nat.le_refl _), hh.len, Nat.sub_self]
  rfl
theorem po_fix {α β : Type} {W : Wish} {ι : List Addr} {H : Hp} {r : R α} {k : α → R β} {S : β → List Addr → Hp → Prop} (p : Po W ι H (r.bind k) S) : Po W ι H r fun a _ _ => Po W ι H (k a) S := by
  cases r with
  | ok a => exact fun _ _ _ => p
  | exc c fs hp => exact p
  | no => exact p

/-! ### for -/
def SS (K : Frg) (W : WS) (De : Ends) (st : Tw.St) (ι' : List Addr) (H' : Hp) : Prop := HpRep K H' ι' st.2.2 → ∀ σ', SRep K H' ι' σ' st.2.1 → match st.1 with
  | .nx => De.nx σ' H'
  | .rt d => ∀ v, Rep K H' ι' d v → De.rt v H'
  | .bk => De.bk σ' H'
  | .ct => De.ct σ' H'
  | .ex k fs => W σ' k fs ι' H'
def rdS (K : Frg) (W : WS) (c : Ctx) (s : CS) : TS := fun De σ H => ∃ ι ρ hp, SRep K H ι σ ρ ∧ HpRep K H ι hp ∧ Po W0 ι H (exec c s ρ hp) (SS K W De)
def rdSs (K : Frg) (W : WS) (c : Ctx) (s : CSs) : TS := fun De σ H => ∃ ι ρ hp, SRep K H ι σ ρ ∧ HpRep K H ι hp ∧ Po W0 ι H (execs c s ρ hp) (SS K W De)

theorem bind_ok {α β : Type} {r : R α} {f : α → R β} {b : β} (e : r.bind f = .ok b) : ∃ a, r = .ok a ∧ f a = .ok b := by
  cases r with
  | ok a => exact ⟨a, rfl, e⟩
  | exc a b d => cases e
  | no => cases e
theorem nox_ok {α β : Type} {W : Wish} {ι : List Addr} {H : Hp} {r : R α} {k : α → R β} {S : β → List Addr → Hp → Prop} (p : Po W ι H (r.nox.bind k) S) : ∃ a, r = .ok a ∧ Po W ι H (k a) S := by
  cases r with
  | ok a => exact ⟨a, rfl, p⟩
  | exc _ _ _ => exact p.elim
  | no => exact p.elim
theorem nox_is {α β : Type} {r : R α} {f : α → R β} {b : β} (e : r.nox.bind f = .ok b) : ∃ a, r = .ok a ∧ f a = .ok b := by
  cases r with
  | ok a => exact ⟨a, rfl, e⟩
  | exc a b d => cases e
  | no => cases e
theorem po_is {α : Type} {W : Wish} {ι : List Addr} {H : Hp} {r : R α} {a : α} (e : r = .ok a) : Po W ι H r fun b _ _ => b = a := by
  rw [e]
  exact fun _ _ _ => rfl
/-- a statement's part that may raise -/
theorem po_lift {α : Type} {K : Frg} {W : WS} {De : Ends} {ι : List Addr} {H : Hp} {σ : L2.St} {ρ : Env} {hp : Heap} {r : R α} {k : α → R Tw.St} (hs : SRep K H ι σ ρ) (hh : HpRep K H ι hp) (hσ : ∀ (σ' : L2.St) (ι' : List Addr) (H' : Hp), SRep K H' ι' σ' ρ → True)
    (p : Po W0 ι H (lift ρ r k) (SS K W De)) : Po (wr K W σ) ι H r fun a ι' H' => Po W0 ι' H' (k a) (SS K W De) := by
  cases r with
  | ok a => exact fun ι' H' s => Po.at p s
  | exc c fs hp' => exact fun ι' H' s h' => p ι' H' s h' σ (hh.srep s hs)
  | no => exact p.elim
theorem for_rd {K : Frg} {W : WS} {c : Ctx} {t : CT} {s : CI} {b : CSs} {De : Ends} {σ : L2.St} {H : Hp} (h : rdS K W c (.loop t s b) De σ H) : tFor (rdI K W c s) (rdT K c t) (rdSs K W c b) De σ H := by
  obtain ⟨ι, ρ, hp, hs, hh, po⟩ := h
  refine ⟨ι, ρ, hp, hs, hh, (po_lift hs hh (fun _ _ _ _ => trivial) po).mono fun w ι1 H1 s1 p1 h1 J wk => ?_⟩
  have hs1 := hh.srep s1 hs
  let f : D → Env → Heap → R Tw.St := fun x ρ h => (asg c t x ρ h).nox.bind fun s => execs c b s.1 s.2
  refine ⟨fun i m σ H => ∃ ι' ρ' hp', Step ι1 H1 ι' H ∧ SRep K H ι' σ ρ' ∧ HpRep K H ι' hp' ∧ m = w.1.1.length - i ∧ i ≤ w.1.1.length ∧ Po W0 ι' H (forL w.1.2 f (w.1.1.drop i) ρ' hp') (SS K W De),
    ⟨_, ι1, ρ, w.2, .refl, hs1, h1, rfl, Nat.zero_le _, p1⟩, ?_⟩
  rintro i m σ2 H2 ⟨ι2, ρ2, hp2, s2, hs2, h2, rfl, hi, p2⟩
  by_cases hl : i < w.1.1.length
  · rw [drop_cons hl] at p2
    obtain ⟨g2, p2⟩ := Po.chk p2
    obtain ⟨go, yl⟩ := wk.go ι2 H2 hp2 s2 h2 g2 i w.1.1[i] (List.getElem?_eq_getElem hl)
    refine .inr ⟨go, fun σ3 H3 => ∃ ι' ρ' hp', Step ι1 H1 ι' H3 ∧ SRep K H3 ι' σ3 ρ' ∧ HpRep K H3 ι' hp' ∧ Po W0 ι' H3 (forL w.1.2 f (w.1.1.drop (i + 1)) ρ' hp') (SS K W De), fun σ3 H3 n3 => ?_, fun x H3 y3 => ?_⟩
    · obtain ⟨ι3, ρ3, hp3, e1, e2, e3, e4⟩ := n3
      exact ⟨w.1.1.length - (i + 1), by omega, ι3, ρ3, hp3, e1, e2, e3, rfl, hl, e4⟩
    · obtain ⟨s3, h3, r3⟩ := yl x H3 y3
      obtain ⟨st, est, p3⟩ := nox_ok (Po.at p2 s3).bind
      refine ⟨ι2, ρ2, hp2, _, st, h2.srep s3 hs2, h3, r3, est, fun ι4 H4 s4 h4 σ4 _ hs4 => ?_⟩
      refine ⟨ι4, st.1, st.2, hs4, h4, (Po.at p3 s4).mono fun fs ι5 H5 s5 p5 h5 σ5 hs5 => ?_⟩
      have st5 : Step ι1 H1 ι5 H5 := ((s2.trans s3).trans s4).trans s5
      cases hf : fs.1 with
      | nx => rw [hf] at p5; exact ⟨ι5, _, _, st5, hs5, h5, p5⟩
      | ct => rw [hf] at p5; exact ⟨ι5, _, _, st5, hs5, h5, p5⟩
      | bk => rw [hf] at p5; exact p5 ι5 H5 .refl h5 σ5 hs5
      | rt d => rw [hf] at p5; exact p5 ι5 H5 .refl h5 σ5 hs5
      | ex k fs => rw [hf] at p5; exact p5 ι5 H5 .refl h5 σ5 hs5
  · have e : i = w.1.1.length := by omega
    subst e
    rw [drop_nil (Nat.le_refl _)] at p2
    obtain ⟨g2, p2⟩ := Po.chk p2
    exact .inl ⟨wk.stop ι2 H2 hp2 s2 h2 g2, p2 ι2 H2 .refl h2 σ2 hs2⟩
theorem while_rd {K : Frg} {W : WS} {c : Ctx} {t : CB} {b : CSs} {De : Ends} {σ : L2.St} {H : Hp} (h : rdS K W c (.wh t b) De σ H) : tWhile (rdB K W c t) (rdSs K W c b) De σ H := by
  obtain ⟨ι, ρ, hp, hs, hh, po⟩ := h
  refine ⟨fun m σ H => ∃ ι' ρ' hp', SRep K H ι' σ ρ' ∧ HpRep K H ι' hp' ∧ Po W0 ι' H (whL (tv c t) (execs c b) m ρ' hp') (SS K W De), ⟨FUEL, ι, ρ, hp, hs, hh, po⟩, ?_⟩
  rintro m σ2 H2 ⟨ι2, ρ2, hp2, hs2, h2, p2⟩
  cases m with
  | zero => exact p2.elim
  | succ m =>
    refine ⟨ι2, ρ2, hp2, hs2, h2, (po_lift hs2 h2 (fun _ _ _ _ => trivial) p2).mono fun k ι3 H3 s3 p3 h3 => ?_⟩
    have hs3 := h2.srep s3 hs2
    cases hk : k.1 with
    | false =>
      rw [hk] at p3
      simp only [Bool.false_eq_true, if_false]
      exact p3 ι3 H3 .refl h3 σ2 hs3
    | true =>
      rw [hk] at p3
      simp only [if_true]
      refine ⟨fun σ3 H3 => ∃ ι' ρ' hp', SRep K H3 ι' σ3 ρ' ∧ HpRep K H3 ι' hp' ∧ Po W0 ι' H3 (whL (tv c t) (execs c b) m ρ' hp') (SS K W De), fun σ3 H3 n3 => ⟨m, Nat.lt_succ_self m, n3⟩, ι3, ρ2, k.2, hs3, h3, p3.bind.mono fun fs ι5 H5 s5 p5 h5 σ5 hs5 => ?_⟩
      cases hf : fs.1 with
      | nx => rw [hf] at p5; exact ⟨ι5, _, _, hs5, h5, p5⟩
      | ct => rw [hf] at p5; exact ⟨ι5, _, _, hs5, h5, p5⟩
      | bk => rw [hf] at p5; exact p5 ι5 H5 .refl h5 σ5 hs5
      | rt d => rw [hf] at p5; exact p5 ι5 H5 .refl h5 σ5 hs5
      | ex k fs => rw [hf] at p5; exact p5 ι5 H5 .refl h5 σ5 hs5

/-! ### comprehensions -/
theorem lc_rd {K : Frg} {W : WS} {c : Ctx} {t : CT} {s : CI} {cd : CBO} {e : CE} {σ : L2.St} {H : Hp} {Q : VK} (h : rdL K W c (.comp e t s cd) σ H Q) : tLc (rdI K W c s) (rdT K c t) (rdF K c cd) (rdE K W00 c e) t.slots σ H Q := by
  obtain ⟨ι, ρ, hp, hs, hh, po⟩ := h
  refine ⟨ι, ρ, hp, hs, hh, po.bind.mono fun w ι1 H1 s1 p1 h1 J wk D hD => ?_⟩
  obtain ⟨hlim, p1⟩ := Po.chk p1
  have hlim := of_decide_eq_true hlim
  have hs1 := hh.srep s1 hs
  have hD0 : H D = none := s1.was h1 hD
  let f : Tw.D → Heap → R (Option Tw.D × Heap) := fun x h => (asg c t x (wipeE ρ t.slots) h).bind fun s => (tvO c cd s.1 s.2).bind fun b => match b.1 with
      | true => (ev c e s.1 b.2).bind fun y => .ok (some y.1, y.2)
      | false => .ok (none, b.2)
  have p1 : Po (wr K W σ) ι1 H1 (mapL w.1.2 f w.1.1 w.2) (SL K H Q) := p1
  refine ⟨fun i m H2 => ∃ ι' hp' ys vs, Step ι1 H1 ι' H2 ∧ HpRep K H2 ι' hp' ∧ H2 D = some (.lst vs) ∧ D ∉ ι' ∧ Reps K H2 ι' ys vs ∧ ys.length ≤ i ∧ m = w.1.1.length - i ∧ i ≤ w.1.1.length ∧
    Po (wr K W σ) ι1 H1 (mapL w.1.2 f (w.1.1.drop i) hp') (fun r ι'' H'' => SL K H Q (ys ++ r.1, r.2) ι'' H''),
    ⟨_, ι1, w.2, [], [], (Step.refl.off hD), h1.laid0 hD, upd_same, h1.notin hD, rfl, Nat.le_refl _, rfl, Nat.zero_le _, p1⟩, ?_⟩
  rintro i m H2 ⟨ι2, hp2, ys, vs, s2, h2, hD2, nD2, r2, hy, rfl, hi, p2⟩
  by_cases hl : i < w.1.1.length
  · rw [drop_cons hl] at p2
    obtain ⟨g2, p2⟩ := Po.chk p2
    obtain ⟨q, hq, p2⟩ := nox_ok p2
    obtain ⟨go, yl⟩ := wk.go ι2 H2 hp2 s2 h2 g2 i w.1.1[i] (List.getElem?_eq_getElem hl)
    refine .inr ⟨go, fun H3 => ∃ ι' hp' ys vs, Step ι1 H1 ι' H3 ∧ HpRep K H3 ι' hp' ∧ H3 D = some (.lst vs) ∧ D ∉ ι' ∧ Reps K H3 ι' ys vs ∧ ys.length ≤ i + 1 ∧
      Po (wr K W σ) ι1 H1 (mapL w.1.2 f (w.1.1.drop (i + 1)) hp') (fun r ι'' H'' => SL K H Q (ys ++ r.1, r.2) ι'' H''), fun H3 n3 => ?_, fun x H3 y3 => ?_⟩
    · obtain ⟨ι3, hp3, ys3, vs3, e1, e2, e3, e4, e5, e6, e7⟩ := n3
      exact ⟨w.1.1.length - (i + 1), by omega, ι3, hp3, ys3, vs3, e1, e2, e3, e4, e5, e6, rfl, hl, e7⟩
    · obtain ⟨s3, h3, r3⟩ := yl x H3 y3
      have nin : ∀ {ιb : List Addr} {Hb : Hp}, Step ι2 H2 ιb Hb → D ∉ ιb := fun {ιb Hb} sb hm => by
        rcases sb.new D hm with z | z
        · exact nD2 z
        · rw [hD2] at z; cases z
      obtain ⟨st, est, hq4⟩ := bind_ok hq
      refine ⟨ι2, wipeE ρ t.slots, hp2, _, st, ((h2.srep s3) ((h1.srep s2 hs1).wipe _)), h3, r3, est, fun ι4 H4 s4 h4 σ4 ag hs4 => ⟨?_, ?_⟩⟩
      · rw [ag.wipe]
        apply List.ext_getElem?
        intro j
        rw [wipe_get, wipe_get, wipe_length]
        split <;> rfl
      · refine ⟨ι4, st.1, st.2, hs4, h4, (po_is hq4).bind.mono fun b ι5 H5 s5 p5 h5 => ?_⟩
        have st5 := ((s2.trans s3).trans s4).trans s5
        have sd5 := (s3.trans s4).trans s5
        cases hb : b.1 with
        | false =>
          rw [hb] at p5
          have e5 : q = (none, b.2) := (p5 ι5 H5 .refl).symm
          subst e5
          simp only [Bool.false_eq_true, if_false]
          have p2 := Po.bind p2
          refine ⟨ι5, b.2, ys, vs, st5, h5, sd5.kp D _ hD2 nD2, nin sd5, h2.reps sd5 _ _ r2, by omega, ?_⟩
          exact p2.mono fun r ι6 H6 s6 p6 => p6 ι6 H6 .refl
        | true =>
          rw [hb] at p5
          simp only [if_true]
          refine ⟨ι5, st.1, b.2, h4.srep s5 hs4, h5, p5.bind.mono fun y ι6 H6 s6 p6 v h6 rv => ?_⟩
          have e6 : q = (some y.1, y.2) := (p6 ι6 H6 .refl).symm
          subst e6
          have st6 := st5.trans s6
          have sd6 := sd5.trans s6
          have hD6 : H6 D = some (.lst vs) := sd6.kp D _ hD2 nD2
          have r6 := h2.reps sd6 _ _ r2
          have ho := off_rep (K := K) (ι := ι6) (H := H6) (a := D) (o := .lst (vs ++ [v])) (fun _ z => by rw [hD6] at z; cases z) (fun _ _ z => by rw [hD6] at z; cases z)
          refine ⟨vs, hD6, by rw [lim_eq, ← r2.length]; omega, ι6, y.2, ys ++ [y.1], vs ++ [v], st6.off hD, off_hp h6 (nin sd6) (fun _ z => by rw [hD6] at z; cases z) (fun _ _ z => by rw [hD6] at z; cases z), upd_same, nin sd6, ho.2 _ _ (r6.append (Reps.one rv)), by simp; omega, ?_⟩
          have p2 := Po.bind p2
          refine p2.mono fun r ι7 H7 s7 p7 => ?_
          have p7 := p7 ι7 H7 .refl
          rw [List.append_assoc]
          exact p7
  · have e : i = w.1.1.length := by omega
    subst e
    rw [drop_nil (Nat.le_refl _)] at p2
    obtain ⟨g2, p2⟩ := Po.chk p2
    refine .inl ⟨wk.stop ι2 H2 hp2 s2 h2 g2, ?_⟩
    have z := p2 ι2 H2 s2 h2 D vs hD0 nD2 hD2
    rw [List.append_nil] at z
    exact z r2
theorem dc_rd {K : Frg} {W : WS} {c : Ctx} {t : CT} {s : CI} {cd : CBO} {k e : CE} {σ : L2.St} {H : Hp} {Q : VK} (h : rdE K W c (.dcomp k e t s cd) σ H Q) : tDc (rdI K W c s) (rdT K c t) (rdF K c cd) (rdE K W00 c k) (rdE K W00 c e) t.slots σ H Q := by
  obtain ⟨ι, ρ, hp, hs, hh, po⟩ := h
  refine ⟨ι, ρ, hp, hs, hh, po.bind.mono fun w ι1 H1 s1 p1 h1 J wk D hD => ?_⟩
  have hs1 := hh.srep s1 hs
  have hD0 : H D = none := s1.was h1 hD
  let f : Tw.D → Heap → R (Option (Tw.D × Tw.D) × Heap) := fun x h => (asg c t x (wipeE ρ t.slots) h).bind fun s => (tvO c cd s.1 s.2).bind fun b => match b.1 with
      | true => (ev c k s.1 b.2).bind fun y => (ev c e s.1 y.2).bind fun z => .ok (some (y.1, z.1), z.2)
      | false => .ok (none, b.2)
  let S : (List (Key × Tw.D) × Heap) → Prop := fun x => Po (wr K W σ) ι1 H1 (.ok (.ref x.2.length, x.2 ++ [.dct x.1])) (SE K Q)
  have p1 : Po (wr K W σ) ι1 H1 (mapD w.1.2 f w.1.1 [] w.2) fun r _ _ => S r := po_fix p1
  refine ⟨fun i m H2 => ∃ ι' hp' kvs ws, Step ι1 H1 ι' H2 ∧ HpRep K H2 ι' hp' ∧ H2 D = some (.dK ws) ∧ D ∉ ι' ∧ RepK K H2 ι' kvs ws ∧ m = w.1.1.length - i ∧ i ≤ w.1.1.length ∧
    Po (wr K W σ) ι1 H1 (mapD w.1.2 f (w.1.1.drop i) kvs hp') fun r _ _ => S r,
    ⟨_, ι1, w.2, [], [], (Step.refl.off hD), h1.laid0 hD, upd_same, h1.notin hD, ⟨rfl, rfl⟩, rfl, Nat.zero_le _, p1⟩, ?_⟩
  rintro i m H2 ⟨ι2, hp2, kvs, ws, s2, h2, hD2, nD2, r2, rfl, hi, p2⟩
  by_cases hl : i < w.1.1.length
  · rw [drop_cons hl] at p2
    obtain ⟨g2, p2⟩ := Po.chk p2
    obtain ⟨q, hq, p2⟩ := nox_ok p2
    obtain ⟨go, yl⟩ := wk.go ι2 H2 hp2 s2 h2 g2 i w.1.1[i] (List.getElem?_eq_getElem hl)
    refine .inr ⟨go, fun H3 => ∃ ι' hp' kvs ws, Step ι1 H1 ι' H3 ∧ HpRep K H3 ι' hp' ∧ H3 D = some (.dK ws) ∧ D ∉ ι' ∧ RepK K H3 ι' kvs ws ∧
      Po (wr K W σ) ι1 H1 (mapD w.1.2 f (w.1.1.drop (i + 1)) kvs hp') fun r _ _ => S r, fun H3 n3 => ?_, fun x H3 y3 => ?_⟩
    · obtain ⟨ι3, hp3, ys3, vs3, e1, e2, e3, e4, e5, e7⟩ := n3
      exact ⟨w.1.1.length - (i + 1), by omega, ι3, hp3, ys3, vs3, e1, e2, e3, e4, e5, rfl, hl, e7⟩
    · obtain ⟨s3, h3, r3⟩ := yl x H3 y3
      have nin : ∀ {ιb : List Addr} {Hb : Hp}, Step ι2 H2 ιb Hb → D ∉ ιb := fun {ιb Hb} sb hm => by
        rcases sb.new D hm with z | z
        · exact nD2 z
        · rw [hD2] at z; cases z
      obtain ⟨st, est, hq4⟩ := bind_ok hq
      refine ⟨ι2, wipeE ρ t.slots, hp2, _, st, ((h2.srep s3) ((h1.srep s2 hs1).wipe _)), h3, r3, est, fun ι4 H4 s4 h4 σ4 ag hs4 => ⟨?_, ?_⟩⟩
      · rw [ag.wipe]
        apply List.ext_getElem?
        intro j
        rw [wipe_get, wipe_get, wipe_length]
        split <;> rfl
      · refine ⟨ι4, st.1, st.2, hs4, h4, (po_is hq4).bind.mono fun b ι5 H5 s5 p5 h5 => ?_⟩
        have st5 := ((s2.trans s3).trans s4).trans s5
        have sd5 := (s3.trans s4).trans s5
        cases hb : b.1 with
        | false =>
          rw [hb] at p5
          have e5 : q = (none, b.2) := (p5 ι5 H5 .refl).symm
          subst e5
          simp only [Bool.false_eq_true, if_false]
          exact ⟨ι5, b.2, kvs, ws, st5, h5, sd5.kp D _ hD2 nD2, nin sd5, ⟨r2.1, h2.reps sd5 _ _ r2.2⟩, p2⟩
        | true =>
          rw [hb] at p5
          simp only [if_true]
          refine ⟨ι5, st.1, b.2, h4.srep s5 hs4, h5, p5.bind.mono fun y ι6 H6 s6 p6 v h6 rv => ?_⟩
          refine ⟨ι6, st.1, y.2, h5.srep s6 (h4.srep s5 hs4), h6, p6.bind.mono fun z ι7 H7 s7 p7 u h7 ru => ?_⟩
          have e7 : q = (some (y.1, z.1), z.2) := (p7 ι7 H7 .refl).symm
          subst e7
          obtain ⟨hlen, p2⟩ := Po.chk p2
          obtain ⟨acc, ha, p2⟩ := Po.ofO p2
          have hlen := of_decide_eq_true hlen
          obtain ⟨kk, hk, rfl⟩ := Option.map_eq_some_iff.mp ha
          have rv7 := h6.rep s7 _ _ rv
          have ek := keyOf_ok rv7 hk
          have st7 := (st5.trans s6).trans s7
          have sd7 := (sd5.trans s6).trans s7
          have hD7 : H7 D = some (.dK ws) := sd7.kp D _ hD2 nD2
          have r7 : RepK K H7 ι7 kvs ws := ⟨r2.1, h2.reps sd7 _ _ r2.2⟩
          have ho := off_rep (K := K) (ι := ι7) (H := H7) (a := D) (o := .dK (putK ws kk u)) (fun _ z => by rw [hD7] at z; cases z) (fun _ _ z => by rw [hD7] at z; cases z)
          have hlw : ws.length < sizeLine := by
            have e := congrArg List.length r2.1
            rw [List.length_map, List.length_map] at e
            rw [lim_eq, ← e]
            exact hlen
          have rp := putV_ok (k := kk) ru r7
          exact ⟨ws, kk, ek, hD7, hlw, ι7, z.2, putV kvs kk z.1, putK ws kk u, st7.off hD, off_hp h7 (nin sd7) (fun _ z => by rw [hD7] at z; cases z) (fun _ _ z => by rw [hD7] at z; cases z), upd_same, nin sd7, ⟨rp.1, ho.2 _ _ rp.2⟩, p2⟩
  · have e : i = w.1.1.length := by omega
    subst e
    rw [drop_nil (Nat.le_refl _)] at p2
    obtain ⟨g2, p2⟩ := Po.chk p2
    refine .inl ⟨wk.stop ι2 H2 hp2 s2 h2 g2, ?_⟩
    have z : S (kvs, hp2) := p2 ι2 H2 s2
    have nn : Step ι1 H1 (ι2 ++ [D]) H2 := by
      obtain ⟨κ, e⟩ := s2.pre
      refine ⟨⟨κ ++ [D], by rw [e, List.append_assoc]⟩, fun a ha => ?_, s2.kp⟩
      rcases List.mem_append.mp ha with q | q
      · exact s2.new a q
      · rw [List.mem_singleton.mp q]; exact .inr hD
    exact z (ι2 ++ [D]) H2 nn _ (num_ok h2 nD2 ⟨ws, hD2, r2.1, (more_reps h2 D).2 _ _ r2.2⟩) ⟨D, rfl, num_at h2⟩
end Tw
end

section
set_option Elab.async false
set_option linter.all false
set_option maxRecDepth 100000
set_option maxHeartbeats 4000000
/-! enumerate(tuple); walks over a list or a tuple. Own work. -/
namespace Tw
open PySem PySem.Spec PyProof.Rows L2

theorem meets_enumerate_new1 {v : Value} {o : Obj} {H : PySem.Heap → Prop} (B : Begins v o H) :
    Meets (Builtin.«enumerate.__new__» ⟨[.type "enumerate", v], []⟩) (fun _ R s => H s.heap ∧
      R (.ok (.ret (.ref (s.heap.push o).objs.size))) { s with heap := (s.heap.push o).push { cls := .type "enumerate", data := .fields #[.none, .bool false, .ref s.heap.objs.size, rawInt 0, .none, .none] } }) :=
  .of_wp fun prog w A R s h => by
    obtain ⟨hp, g, d, tk, os⟩ := s; obtain ⟨h1, h⟩ := h
    have hsub := sub_enumerate
    have q1 : ∀ {A' : Around} {E : Value → Shared → Prop} {Q : Value → Shared → Prop}, Q (.ref hp.objs.size) ⟨hp.push o, g, d, tk, os⟩ → wpAny (model prog w) A' (pyIter v) Q E ⟨hp, g, d, tk, os⟩ :=
      fun q => B.iter prog w _ _ ⟨hp, g, d, tk, os⟩ _ h1 q
    wp_walk using q1
    refine wpAny_stack_any fun st => wpAny_pure ?_
    split
    · rename_i c _ _ _ _ _
      cases (c == Value.type "enumerate")
      · wp_walk using q1
        exact ⟨_, rfl, h⟩
      · wp_walk using q1
        exact ⟨_, rfl, h⟩
    · wp_walk using q1
      exact ⟨_, rfl, h⟩
section
variable {prog : Program} {w : World} {A : Around} {E : Value → Shared → Prop} {s : Shared}
theorem enum_begins1 {v : Value} {o : Obj} {H : PySem.Heap → Prop} {Q : Value → Shared → Prop} (B : Begins v o H) (h1 : H s.heap)
    (h : ∀ h', IsEnum h' (s.heap.objs.size + 1) s.heap.objs.size 0 .none → h'.get? s.heap.objs.size = some o → h'.objs.size = s.heap.objs.size + 2 →
      (∀ b o, s.heap.get? b = some o → h'.get? b = some o) → Q (.ref (s.heap.objs.size + 1)) { s with heap := h' }) :
    wpAny (model prog w) A (call (.type "enumerate") [v]) Q E s := by
  refine callType_new F.called_enumerate (by decide) (F.typeCall_enumerate_1 _) (F.newCall_enumerate_1 _) (fun obj => F.args_object_init_2 obj _) F.entry_enumerate_new
    (meets_enumerate_new1 B) ⟨h1, ?_⟩
  have hz : (s.heap.push o).objs.size = s.heap.objs.size + 1 := Heap.size_push ..
  show _ ∧ _
  rw [hz]
  have he : IsEnum ((s.heap.push o).push { cls := .type "enumerate", data := .fields #[.none, .bool false, .ref s.heap.objs.size, rawInt 0, .none, .none] }) (s.heap.objs.size + 1) s.heap.objs.size 0 .none := by
    have := Heap.get?_push_size (s.heap.push o) (o := { cls := .type "enumerate", data := .fields #[.none, .bool false, .ref s.heap.objs.size, rawInt 0, .none, .none] }) rfl
    rw [hz] at this; exact this
  refine ⟨⟨_, he, rfl⟩, h _ he ?_ (by rw [Heap.size_push, hz]) fun b o x => Heap.get?_push_of_some _ (Heap.get?_push_of_some _ x)⟩
  exact Heap.get?_push_of_some _ (Heap.get?_push_size _ B.free)
end
/-- the tuple at a, each item in a new pair -/
def IteT (K : Frg) (a : Addr) : It :=
  ⟨fun i H => ∃ (xs : List V) (x : V), SqT K H a xs ∧ xs[i]? = some x, fun i H v H' => ∃ T x, v = .ref T ∧ H T = none ∧ H' = upd H T (.tup [.int (i : Nat), x]) ∧ ∀ xs, SqT K H a xs → xs[i]? = some x, fun i H => ∃ xs : List V, SqT K H a xs ∧ xs.length = i⟩
theorem turn_enumT {P : Program} {w : World} {K : Frg} {elts : List Expr} {kk : Nat} {tpos : Pos} (a e it : Addr) (hat : a ≠ it) (hae : a ≠ e) :
    Turn P w K (.Tuple elts kk tpos) (IteT K a) [e, it] e (fun i h => (∃ old, IsEnum h e it ((i : Nat) : Int) old) ∧ h.IsTupleIter it a i ∧ e ≠ it) where
  mem := by simp
  obj := fun i h st b hb => by
    obtain ⟨⟨old, he⟩, ⟨o, ho, hc, hd⟩, _⟩ := st
    have e' : b = e ∨ b = it := by simpa using hb
    rcases e' with z | z
    · rw [z]; exact ⟨_, he, fun v q => nomatch q⟩
    · rw [z]; exact ⟨o, ho, fun v q => by rw [hd] at q; cases q⟩
  keep := fun i h h' st k => let ⟨⟨old, he⟩, hi, hne⟩ := st; ⟨⟨old, k e (by simp) _ he⟩, hi.at fun o q => k it (by simp) o q, hne⟩
  item := by
    intro X hP hw hK hc i pins s σ H E I hf st hg
    subst hP hw hK
    obtain ⟨⟨old, he⟩, hit, hne⟩ := st
    obtain ⟨xs, x, hq, hx⟩ := hg
    obtain ⟨its, rv, p, hz⟩ := I.tuple hq
    obtain ⟨u, hu, ru⟩ := rv.get hx
    have hel : e < s.heap.objs.size := Heap.lt_size he
    have hil : it < s.heap.objs.size := by obtain ⟨_, q, _⟩ := hit; exact Heap.lt_size q
    have hilt : i < its.toArray.size := by
      have := (List.getElem?_eq_some_iff.mp hu).1
      simpa using this
    have D := Draws.tuple (prog := X.prog) (w := X.w) (A := X.A.in1) (show X.A.in1.handled = none from I.ok.hd hc) it a hat its.toArray
    have hef : e ∉ [it, a] := by
      intro hm
      rcases List.mem_cons.mp hm with z | z
      · exact hne z
      · exact hae (List.mem_singleton.mp z).symm
    refine wpAny_pyNext_enum_itemD D he ⟨hit, p⟩ hilt hne hef fun x' h' tk hP ho hit' hT hsz hk => ?_
    have eu : x' = u := by
      have q : its[i]? = some x' := by simpa using hP
      rw [hu] at q
      exact (Option.some.inj q).symm
    subst eu
    refine ⟨_, rfl, wpAny_letOwnedTupleGo_enum (s := { s with heap := h', toks := tk + 1 }) ho fun h'' he' sb => ?_⟩
    have hT2 : h''.get? s.heap.objs.size = some { cls := .type "tuple", data := .seq #[.int i tk, x'] } := (sb.2 _ (Nat.ne_of_gt hel)).trans hT
    have new : ObjOk X.prog X.w (upd H s.heap.objs.size (.tup [.int (i : Nat), x])) h'' s.heap.objs.size (.tup [.int (i : Nat), x]) :=
      ⟨by show 2 ≤ sizeLine; decide, [.int i tk, x'], .cons ⟨_, rfl⟩ (.cons ru .nil), ⟨_, hT2, rfl, _, rfl⟩⟩
    have I1 : L2.Inv X pins σ (upd H s.heap.objs.size (.tup [.int (i : Nat), x])) { s with heap := h'', toks := tk + 1 } :=
      I.turnedNew (ch := [e, it]) (fun b ob hb q => (sb.2 b (fun z => hb (by simp [z]))).trans (hk b ob (fun z => hb (by simp [z])) (fun z => hb (by simp [z])) q)) hf (Nat.le_refl _) new
    refine ⟨.ref s.heap.objs.size, _, I1, rfl, ⟨_, x, rfl, I.hok.fresh (Nat.le_refl _), rfl, fun ys hy => by rw [I.tuple_inj hy hq]; exact hx⟩, ⟨⟨x', ?_⟩, hit'.1.at fun o q => (sb.2 it (Ne.symm hne)).trans q, hne⟩, fun b hb => ?_⟩
    · have e1 : ((i + 1 : Nat) : Int) = (i : Int) + 1 := by omega
      rw [e1]; exact he'
    · have hb' : b < s.heap.objs.size := by
        have e' : b = e ∨ b = it := by simpa using hb
        rcases e' with z | z
        · rw [z]; exact hel
        · rw [z]; exact hil
      rw [upd_ne (Nat.ne_of_lt hb')]
      exact (hf b hb).1
  done := by
    intro X hP hw hK hc i pins s σ H E I hf st hg
    subst hP hw hK
    obtain ⟨⟨old, he⟩, hit, hne⟩ := st
    obtain ⟨xs, hq, hx⟩ := hg
    obtain ⟨its, rv, p, hz⟩ := I.tuple hq
    obtain ⟨f0, f1, f2, f3, f4, f5⟩ := hf it (by simp)
    have hl := rv.length
    by_cases hi : i = its.toArray.size
    · subst hi
      have D := Draws.tuple (prog := X.prog) (w := X.w) (A := X.A.in1) (show X.A.in1.handled = none from I.ok.hd hc) it a hat its.toArray
      exact wpAny_pyNext_enum_endD D he ⟨hit, p⟩ fun h' eb => ⟨rfl, I.turned (t' := s.toks) (fun b o hb q => eb b o hb q) f0 f1 f3 f4 f5⟩
    · exact absurd (show i = its.toArray.size by rw [List.size_toArray, ← hl, hx]) hi
  self := fun A i s Q E st h => let ⟨⟨_, he⟩, _⟩ := st; wpAny_pyIter_enum he h
section
variable {X : Cx}
theorem fp_two {pins : List (Addr × Obj)} {σ : L2.St} {H1 : Hp} {s1 : Shared} (I1 : L2.Inv X pins σ H1 s1) : ∀ b ∈ [s1.heap.objs.size + 1, s1.heap.objs.size], FpOk X pins H1 b := fun b hb => by
  have e' : b = s1.heap.objs.size + 1 ∨ b = s1.heap.objs.size := by simpa using hb
  have hle : s1.heap.objs.size ≤ b := by
    rcases e' with z | z
    · rw [z]; exact Nat.le_add_right _ _
    · rw [z]; exact Nat.le_refl _
  exact I1.fpOk hle (I1.hok.fresh hle)
/-- a list or a tuple is walked -/
theorem pi_seq {tg l : Expr} {tl : TE} (hl : PE X l tl) : PI X tg l (fun σ H R => tl σ H fun x H1 => (∃ a, x = .ref a ∧ (∃ xs, SqL X.K H1 a xs) ∧ R (Itl X.K a) H1) ∨ ∃ a, x = .ref a ∧ (∃ xs, SqT X.K H1 a xs) ∧ R (Itt X.K a) H1) := by
  refine ⟨fun pins s σ H R I h => ?_⟩
  refine thn (hl.run pins s σ H _ I h) fun v s1 ⟨x, H1, I1, r1, q1⟩ => ?_
  rcases q1 with ⟨a, e, ⟨xs, hq⟩, q⟩ | ⟨a, e, ⟨xs, hq⟩, q⟩
  · subst e
    cases r1
    obtain ⟨its, rv, p, hz⟩ := I1.list hq
    refine wpAny_pyIter_list p.isList ?_
    refine ⟨s1.heap.objs.size, [s1.heap.objs.size], _, _, H1, rfl, I1.kept (t' := s1.toks) fun b o e => Heap.get?_push_of_some _ e, turn_list a _, ⟨_, Heap.get?_push_size _ rfl, rfl, rfl⟩, fun b hb => ?_, q⟩
    have e : b = s1.heap.objs.size := by simpa using hb
    subst e
    exact I1.fpOk (Nat.le_refl _) (I1.hok.fresh (Nat.le_refl _))
  · subst e
    cases r1
    obtain ⟨its, rv, p, hz⟩ := I1.tuple hq
    refine wpAny_pyIter_tuple (show s1.heap.IsTuple a its.toArray from p) ?_
    refine ⟨s1.heap.objs.size, [s1.heap.objs.size], _, _, H1, rfl, I1.kept (t' := s1.toks) fun b o e => Heap.get?_push_of_some _ e, turn_tuple a _, ⟨_, Heap.get?_push_size _ rfl, rfl, rfl⟩, fun b hb => ?_, q⟩
    have e : b = s1.heap.objs.size := by simpa using hb
    subst e
    exact I1.fpOk (Nat.le_refl _) (I1.hok.fresh (Nat.le_refl _))
/-- enumerate of a list or a tuple -/
theorem pi_enum2 {e : Expr} {ta : TA} {p pos tpos : Pos} {elts : List Expr} {kk : Nat} (hg : Gl X "enumerate") (hm : X.mg "enumerate" = none) (ha : PA X [e] ta) (hs : starEach [e] X.env = [(false, eval e X.env)]) :
    PI X (.Tuple elts kk tpos) (.Call (.Name "enumerate" p) [e] [] pos) (fun σ H R => ta σ H fun vs H1 => (∃ a xs, vs = [.ref a] ∧ SqL X.K H1 a xs ∧ R (Ite X.K a) H1) ∨ ∃ a xs, vs = [.ref a] ∧ SqT X.K H1 a xs ∧ R (IteT X.K a) H1) := by
  refine ⟨fun pins s σ H R I h => ?_⟩
  refine Call_ (ld_blt I hg hm boot_enumerate (PyProof.Rows.callWith_type1 (thn (ha.run pos pins s σ H _ I h) fun us s1 ⟨vs, H1, I1, r1, q1⟩ => ?_) hs rfl))
  rcases q1 with ⟨a, xs, ex, hq, q⟩ | ⟨a, xs, ex, hq, q⟩
  · subst ex
    obtain rfl := r1.ref1
    obtain ⟨its, rv, p', hz⟩ := I1.list hq
    refine call_enumerate_list p'.isList fun h' he hit hsz hk => wpAny_pyIter_enum he ?_
    have I2 : L2.Inv X pins σ H1 { s1 with heap := h' } := I1.kept (t' := s1.toks) hk
    exact ⟨s1.heap.objs.size + 1, [s1.heap.objs.size + 1, s1.heap.objs.size], _, _, H1, rfl, I2, turn_enum a (s1.heap.objs.size + 1) s1.heap.objs.size, ⟨⟨.none, he⟩, hit, Nat.succ_ne_self _⟩, fp_two I1, q⟩
  · subst ex
    obtain rfl := r1.ref1
    obtain ⟨its, rv, p', hz⟩ := I1.tuple hq
    have hlt : a < s1.heap.objs.size := by
      obtain ⟨o, ho, _⟩ := p'
      exact Heap.lt_size ho
    refine enum_begins1 (begins_tuple a its.toArray) (show s1.heap.IsTuple a its.toArray from p') fun h' he hit hsz hk => wpAny_pyIter_enum he ?_
    have I2 : L2.Inv X pins σ H1 { s1 with heap := h' } := I1.kept (t' := s1.toks) hk
    exact ⟨s1.heap.objs.size + 1, [s1.heap.objs.size + 1, s1.heap.objs.size], _, _, H1, rfl, I2, turn_enumT a (s1.heap.objs.size + 1) s1.heap.objs.size (Nat.ne_of_lt hlt) (Nat.ne_of_lt (Nat.lt_succ_of_lt hlt)), ⟨⟨.none, he⟩, ⟨_, hit, rfl, rfl⟩, Nat.succ_ne_self _⟩, fp_two I1, q⟩
end
end Tw
end

section
set_option Elab.async false
set_option linter.all false
set_option maxRecDepth 100000
set_option maxHeartbeats 4000000
/-! THE THEOREM: a term that stands for a piece of text tells what the piece does. Own work. -/
namespace Tw
open PySem PySem.Spec PyProof.Rows L2 RZ

theorem kit_ok {K : Frg} {H : Hp} {ι : List Addr} {hp : Heap} {d : D} {x : V} {t : Ty} {b : Bool} (hh : HpRep K H ι hp) (r : Rep K H ι d x) (e : isTy t d hp = some b) :
    ∃ T : String, TyX K H x (.type T) ∧ PySem.W.kitOne K (.type T) (.type (tyX t)) = some b := by
  cases d with
  | non => cases (show x = .non from r); cases e; exact ⟨_, .base .non, kit_ty (by cases t <;> decide +kernel)⟩
  | bl y => cases (show x = .bl y from r); cases e; exact ⟨_, .base (.bl y), kit_ty (by cases t <;> decide +kernel)⟩
  | int y => cases (show x = .int y from r); cases e; exact ⟨_, .base (.int y), kit_ty (by cases t <;> decide +kernel)⟩
  | str y => cases (show x = .str y from r); cases e; exact ⟨_, .base (.str y), kit_ty (by cases t <;> decide +kernel)⟩
  | tup ds =>
    obtain ⟨a, vs, rfl, q, z⟩ := r
    cases e
    exact ⟨"tuple", .base (.tup q), kit_ty (by cases t <;> decide +kernel)⟩
  | ctp ds =>
    obtain ⟨a, vs, rfl, q, z⟩ := r
    cases e
    refine ⟨"tuple", ?_, kit_ty (by cases t <;> decide +kernel)⟩
    rcases q with (q | ⟨o, q⟩) | ⟨o, its, n, q, c, _⟩
    · exact .base (.tup q)
    · exact .fTuple q
    · exact .kTuple q c
  | seq ds =>
    obtain ⟨a, vs, rfl, q, z⟩ := r
    cases e
    refine ⟨"list", ?_, kit_ty (by cases t <;> decide +kernel)⟩
    rcases q with ⟨o, q⟩ | ⟨o, its, n, q, c, _⟩
    · exact .base (.frz q)
    · exact .kList q c
  | ref n =>
    obtain ⟨a, rfl, ha⟩ := r
    cases hn : hp[n]? with
    | none => simp only [isTy, hn] at e; cases e
    | some o =>
      cases o with
      | lst xs =>
        simp only [isTy, hn] at e
        cases e
        obtain ⟨vs, q, z⟩ := hh.lst hn ha
        exact ⟨"list", .base (.lst q), kit_ty (by cases t <;> decide +kernel)⟩
      | dct kvs => simp only [isTy, hn] at e; cases e
      | dtt kvs => simp only [isTy, hn] at e; cases e

/-! ### what is walked -/
theorem seq_wk {K : Frg} {H : Hp} {ι : List Addr} {hp : Heap} {d : D} {x : V} {w : Walk} (hh : HpRep K H ι hp) (r : Rep K H ι d x) (e : seqOf d hp = some w) :
    (∃ a, x = .ref a ∧ (∃ xs, SqL K H a xs) ∧ isTup d = false ∧ ∀ ι' H' hp', Step ι H ι' H' → HpRep K H' ι' hp' → guards w.2 hp' = true → ∃ xs, SqL K H' a xs ∧ Reps K H' ι' w.1 xs) ∨
    ∃ a, x = .ref a ∧ (∃ xs, SqT K H a xs) ∧ isTup d = true ∧ ∀ ι' H' hp', Step ι H ι' H' → HpRep K H' ι' hp' → guards w.2 hp' = true → ∃ xs, SqT K H' a xs ∧ Reps K H' ι' w.1 xs := by
  cases d with
  | tup ds =>
    obtain ⟨a, vs, rfl, q, z⟩ := r
    cases e
    exact .inr ⟨a, rfl, ⟨vs, q⟩, rfl, fun ι' H' hp' s h' _ => ⟨vs, hh.sqT s q, hh.reps s _ _ z⟩⟩
  | ctp ds =>
    obtain ⟨a, vs, rfl, q, z⟩ := r
    cases e
    exact .inr ⟨a, rfl, ⟨vs, q⟩, rfl, fun ι' H' hp' s h' _ => ⟨vs, hh.sqT s q, hh.reps s _ _ z⟩⟩
  | seq ds =>
    obtain ⟨a, vs, rfl, q, z⟩ := r
    cases e
    exact .inl ⟨a, rfl, ⟨vs, q.sq⟩, rfl, fun ι' H' hp' s h' _ => ⟨vs, (hh.sqF s q).sq, hh.reps s _ _ z⟩⟩
  | ref n =>
    obtain ⟨a, rfl, ha⟩ := r
    cases hn : hp[n]? with
    | none => simp only [seqOf, hn] at e; cases e
    | some o =>
      cases o with
      | lst xs =>
        simp only [seqOf, hn] at e
        cases e
        obtain ⟨vs, q, z⟩ := hh.lst hn ha
        refine .inl ⟨a, rfl, ⟨vs, .of q⟩, rfl, fun ι' H' hp' s h' g => ?_⟩
        have g' : hp'[n]? = some (.lst xs) := by
          unfold guards at g
          rw [List.all_cons] at g
          exact of_decide_eq_true (tt g).1
        have ha' : ι'[n]? = some a := by
          obtain ⟨κ, e⟩ := s.pre
          rw [e, List.getElem?_append_left (List.getElem?_eq_some_iff.mp ha).1]
          exact ha
        obtain ⟨vs', q', z'⟩ := h'.lst g' ha'
        exact ⟨vs', .of q', z'⟩
      | dct kvs => simp only [seqOf, hn] at e; cases e
      | dtt kvs => simp only [seqOf, hn] at e; cases e
  | _ => cases e
theorem seq_holds {K : Frg} {H : Hp} {ι : List Addr} {hp : Heap} {d : D} {x : V} {w : Walk} (hh : HpRep K H ι hp) (r : Rep K H ι d x) (e : seqH d hp = some w) : Holds K H ι w.1 x := by
  cases d with
  | tup ds => obtain ⟨a, vs, rfl, q, z⟩ := r; cases e; exact ⟨a, vs, rfl, .inr q, z⟩
  | seq ds => obtain ⟨a, vs, rfl, q, z⟩ := r; cases e; exact ⟨a, vs, rfl, .inl q.sq, z⟩
  | ref n =>
    obtain ⟨a, rfl, ha⟩ := r
    cases hn : hp[n]? with
    | none => simp only [seqH, hn] at e; cases e
    | some o =>
      cases o with
      | lst xs =>
        simp only [seqH, hn] at e
        cases e
        obtain ⟨vs, q, z⟩ := hh.lst hn ha
        exact ⟨a, vs, rfl, .inl (.of q), z⟩
      | dct kvs => simp only [seqH, hn] at e; cases e
      | dtt kvs => simp only [seqH, hn] at e; cases e
  | _ => cases e
theorem wk_list {K : Frg} {a : Addr} {g : List (Nat × O)} {xs : List D} {ι : List Addr} {H : Hp} (h : ∀ ι' H' hp', Step ι H ι' H' → HpRep K H' ι' hp' → guards g hp' = true → ∃ vs, SqL K H' a vs ∧ Reps K H' ι' xs vs) : Wk K (Itl K a) g xs ι H := by
  refine ⟨fun ι' H' hp' s h' g' i d e => ?_, fun ι' H' hp' s h' g' => ?_⟩
  · obtain ⟨vs, q, z⟩ := h ι' H' hp' s h' g'
    obtain ⟨v, hv, rv⟩ := z.get e
    refine ⟨⟨vs, v, q, hv⟩, fun x H2 y => ?_⟩
    obtain ⟨rfl, y⟩ := y
    have ex : x = v := Option.some.inj ((y vs q).symm.trans hv)
    subst ex
    exact ⟨.refl, h', rv⟩
  · obtain ⟨vs, q, z⟩ := h ι' H' hp' s h' g'
    exact ⟨vs, q, by rw [z.length]; exact Nat.le_refl _⟩
theorem wk_tup {K : Frg} {a : Addr} {g : List (Nat × O)} {xs : List D} {ι : List Addr} {H : Hp} (h : ∀ ι' H' hp', Step ι H ι' H' → HpRep K H' ι' hp' → guards g hp' = true → ∃ vs, SqT K H' a vs ∧ Reps K H' ι' xs vs) : Wk K (Itt K a) g xs ι H := by
  refine ⟨fun ι' H' hp' s h' g' i d e => ?_, fun ι' H' hp' s h' g' => ?_⟩
  · obtain ⟨vs, q, z⟩ := h ι' H' hp' s h' g'
    obtain ⟨v, hv, rv⟩ := z.get e
    refine ⟨⟨vs, v, q, hv⟩, fun x H2 y => ?_⟩
    obtain ⟨rfl, y⟩ := y
    have ex : x = v := Option.some.inj ((y vs q).symm.trans hv)
    subst ex
    exact ⟨.refl, h', rv⟩
  · obtain ⟨vs, q, z⟩ := h ι' H' hp' s h' g'
    exact ⟨vs, q, by rw [z.length]; exact Nat.le_refl _⟩
theorem rng_get : ∀ {n : Nat} {lo : Int} {i : Nat} {d : D}, (rngD lo n)[i]? = some d → i < n ∧ d = .int (lo + i)
  | 0, _, _, _, h => by simp [rngD] at h
  | n + 1, lo, 0, d, h => by
    simp [rngD] at h
    exact ⟨Nat.succ_pos _, by rw [← h]; simp⟩
  | n + 1, lo, i + 1, d, h => by
    simp only [rngD, List.getElem?_cons_succ] at h
    obtain ⟨h1, h2⟩ := rng_get h
    refine ⟨by omega, ?_⟩
    rw [h2]
    congr 1
    omega
theorem rng_len : ∀ (n : Nat) (lo : Int), (rngD lo n).length = n
  | 0, _ => rfl
  | n + 1, lo => by simp [rngD, rng_len n]
theorem wk_rng {K : Frg} {lo : Int} {n : Nat} {g : List (Nat × O)} {ι : List Addr} {H : Hp} : Wk K (Itr lo n) g (rngD lo n) ι H := by
  refine ⟨fun ι' H' hp' s h' g' i d e => ?_, fun ι' H' hp' s h' g' => ?_⟩
  · obtain ⟨h1, rfl⟩ := rng_get e
    refine ⟨h1, fun x H2 y => ?_⟩
    obtain ⟨rfl, rfl⟩ := y
    exact ⟨.refl, h', rfl⟩
  · show n ≤ _
    rw [rng_len]
    exact Nat.le_refl _
theorem enum_get : ∀ {xs : List D} {k i : Nat} {d : D}, (enumD k xs)[i]? = some d → ∃ x, xs[i]? = some x ∧ d = .tup [.int ((k + i : Nat) : Int), x]
  | [], _, _, _, h => by simp [enumD] at h
  | x :: xs, k, 0, d, h => by
    simp [enumD] at h
    exact ⟨x, rfl, by rw [← h]; rfl⟩
  | x :: xs, k, i + 1, d, h => by
    simp only [enumD, List.getElem?_cons_succ] at h
    obtain ⟨y, h1, h2⟩ := enum_get h
    refine ⟨y, by simpa using h1, ?_⟩
    rw [h2]
    have e : k + 1 + i = k + (i + 1) := by omega
    rw [e]
theorem enum_len : ∀ (xs : List D) (k : Nat), (enumD k xs).length = xs.length
  | [], _ => rfl
  | x :: xs, k => by simp [enumD, enum_len xs]
theorem zip_get : ∀ {xs ys : List D} {i : Nat} {d : D}, (zipD xs ys)[i]? = some d → ∃ x y, xs[i]? = some x ∧ ys[i]? = some y ∧ d = .tup [x, y]
  | [], ys, _, _, h => by cases ys <;> simp [zipD] at h
  | x :: xs, [], _, _, h => by simp [zipD] at h
  | x :: xs, y :: ys, 0, d, h => by
    simp [zipD] at h
    exact ⟨x, y, rfl, rfl, h.symm⟩
  | x :: xs, y :: ys, i + 1, d, h => by
    simp only [zipD, List.getElem?_cons_succ] at h
    obtain ⟨u, v, h1, h2, h3⟩ := zip_get h
    exact ⟨u, v, by simpa using h1, by simpa using h2, h3⟩
theorem zip_len : ∀ (xs ys : List D), (zipD xs ys).length = min xs.length ys.length
  | [], ys => by cases ys <;> simp [zipD]
  | x :: xs, [] => by simp [zipD]
  | x :: xs, y :: ys => by
    simp only [zipD, List.length_cons, zip_len xs ys]
    omega
theorem wk_enum {K : Frg} {a : Addr} {g : List (Nat × O)} {xs : List D} {ι : List Addr} {H : Hp} (h : ∀ ι' H' hp', Step ι H ι' H' → HpRep K H' ι' hp' → guards g hp' = true → ∃ vs, SqL K H' a vs ∧ Reps K H' ι' xs vs) : Wk K (Ite K a) g (enumD 0 xs) ι H := by
  refine ⟨fun ι' H' hp' s h' g' i d e => ?_, fun ι' H' hp' s h' g' => ?_⟩
  · obtain ⟨vs, q, z⟩ := h ι' H' hp' s h' g'
    obtain ⟨d', e', rfl⟩ := enum_get e
    obtain ⟨v, hv, rv⟩ := z.get e'
    refine ⟨⟨vs, v, q, hv⟩, fun x H2 y => ?_⟩
    obtain ⟨T, x', rfl, nT, rfl, y⟩ := y
    have ex : x' = v := Option.some.inj ((y vs q).symm.trans hv)
    subst ex
    have st := h'.fresh0 nT (ho := .tup [.int (i : Nat), x'])
    refine ⟨st, h'.laid0 nT, T, _, rfl, upd_same, Reps.two ?_ (h'.rep st _ _ rv)⟩
    show V.int _ = V.int _
    rw [Nat.zero_add]
  · obtain ⟨vs, q, z⟩ := h ι' H' hp' s h' g'
    exact ⟨vs, q, by rw [enum_len, z.length]; exact Nat.le_refl _⟩
theorem wk_enumT {K : Frg} {a : Addr} {g : List (Nat × O)} {xs : List D} {ι : List Addr} {H : Hp} (h : ∀ ι' H' hp', Step ι H ι' H' → HpRep K H' ι' hp' → guards g hp' = true → ∃ vs, SqT K H' a vs ∧ Reps K H' ι' xs vs) : Wk K (IteT K a) g (enumD 0 xs) ι H := by
  refine ⟨fun ι' H' hp' s h' g' i d e => ?_, fun ι' H' hp' s h' g' => ?_⟩
  · obtain ⟨vs, q, z⟩ := h ι' H' hp' s h' g'
    obtain ⟨d', e', rfl⟩ := enum_get e
    obtain ⟨v, hv, rv⟩ := z.get e'
    refine ⟨⟨vs, v, q, hv⟩, fun x H2 y => ?_⟩
    obtain ⟨T, x', rfl, nT, rfl, y⟩ := y
    have ex : x' = v := Option.some.inj ((y vs q).symm.trans hv)
    subst ex
    have st := h'.fresh0 nT (ho := .tup [.int (i : Nat), x'])
    refine ⟨st, h'.laid0 nT, T, _, rfl, upd_same, Reps.two ?_ (h'.rep st _ _ rv)⟩
    show V.int _ = V.int _
    rw [Nat.zero_add]
  · obtain ⟨vs, q, z⟩ := h ι' H' hp' s h' g'
    exact ⟨vs, q, by rw [enum_len, z.length]⟩
theorem guards_app {g g' : List (Nat × O)} {h : Heap} (e : guards (g ++ g') h = true) : guards g h = true ∧ guards g' h = true := by
  unfold guards at e ⊢
  rw [List.all_append] at e
  exact tt e
theorem wk_zip {K : Frg} {a b : Addr} {g g' : List (Nat × O)} {xs ys : List D} {ι : List Addr} {H : Hp} (h : ∀ ι' H' hp', Step ι H ι' H' → HpRep K H' ι' hp' → guards g hp' = true → ∃ vs, SqL K H' a vs ∧ Reps K H' ι' xs vs)
    (k : ∀ ι' H' hp', Step ι H ι' H' → HpRep K H' ι' hp' → guards g' hp' = true → ∃ vs, SqL K H' b vs ∧ Reps K H' ι' ys vs) : Wk K (Itz K a b) (g ++ g') (zipD xs ys) ι H := by
  refine ⟨fun ι' H' hp' s h' g' i d e => ?_, fun ι' H' hp' s h' g' => ?_⟩
  · obtain ⟨g1, g2⟩ := guards_app g'
    obtain ⟨vs, q, z⟩ := h ι' H' hp' s h' g1
    obtain ⟨ws, q2, z2⟩ := k ι' H' hp' s h' g2
    obtain ⟨d1, d2, e1, e2, rfl⟩ := zip_get e
    obtain ⟨v, hv, rv⟩ := z.get e1
    obtain ⟨w, hw, rw2⟩ := z2.get e2
    refine ⟨⟨vs, ws, v, w, q, q2, hv, hw⟩, fun x H2 y => ?_⟩
    obtain ⟨T, x', y', rfl, nT, rfl, y1, y2⟩ := y
    have ex : x' = v := Option.some.inj ((y1 vs q).symm.trans hv)
    have ey : y' = w := Option.some.inj ((y2 ws q2).symm.trans hw)
    subst ex ey
    have st := h'.fresh0 nT (ho := .tup [x', y'])
    exact ⟨st, h'.laid0 nT, T, _, rfl, upd_same, Reps.two (h'.rep st _ _ rv) (h'.rep st _ _ rw2)⟩
  · obtain ⟨g1, g2⟩ := guards_app g'
    obtain ⟨vs, q, z⟩ := h ι' H' hp' s h' g1
    obtain ⟨ws, q2, z2⟩ := k ι' H' hp' s h' g2
    refine ⟨vs, ws, q, q2, ?_⟩
    rw [zip_len, ← z.length, ← z2.length]
    omega
theorem wk_zipT {K : Frg} {a b : Addr} {g g' : List (Nat × O)} {xs ys : List D} {ι : List Addr} {H : Hp} (h : ∀ ι' H' hp', Step ι H ι' H' → HpRep K H' ι' hp' → guards g hp' = true → ∃ vs, SqT K H' a vs ∧ Reps K H' ι' xs vs)
    (k : ∀ ι' H' hp', Step ι H ι' H' → HpRep K H' ι' hp' → guards g' hp' = true → ∃ vs, SqT K H' b vs ∧ Reps K H' ι' ys vs) : Wk K (ItzT K a b) (g ++ g') (zipD xs ys) ι H := by
  refine ⟨fun ι' H' hp' s h' g' i d e => ?_, fun ι' H' hp' s h' g' => ?_⟩
  · obtain ⟨g1, g2⟩ := guards_app g'
    obtain ⟨vs, q, z⟩ := h ι' H' hp' s h' g1
    obtain ⟨ws, q2, z2⟩ := k ι' H' hp' s h' g2
    obtain ⟨d1, d2, e1, e2, rfl⟩ := zip_get e
    obtain ⟨v, hv, rv⟩ := z.get e1
    obtain ⟨w, hw, rw2⟩ := z2.get e2
    refine ⟨⟨vs, ws, v, w, q, q2, hv, hw⟩, fun x H2 y => ?_⟩
    obtain ⟨T, x', y', rfl, nT, rfl, y1, y2⟩ := y
    have ex : x' = v := Option.some.inj ((y1 vs q).symm.trans hv)
    have ey : y' = w := Option.some.inj ((y2 ws q2).symm.trans hw)
    subst ex ey
    have st := h'.fresh0 nT (ho := .tup [x', y'])
    exact ⟨st, h'.laid0 nT, T, _, rfl, upd_same, Reps.two (h'.rep st _ _ rv) (h'.rep st _ _ rw2)⟩
  · obtain ⟨g1, g2⟩ := guards_app g'
    obtain ⟨vs, q, z⟩ := h ι' H' hp' s h' g1
    obtain ⟨ws, q2, z2⟩ := k ι' H' hp' s h' g2
    refine ⟨vs, ws, q, q2, ?_⟩
    rw [zip_len, ← z.length, ← z2.length]
    omega

/-! ### one construct after another -/
section
variable {G : GI} {c : Ctx} {w : Wh} {X : Cx} {W : WS}
theorem s_var {i : Nat} {x : Str} {pos : Pos} (O : XOk G c w X) (h1 : w.N[i]? = some x) (h2 : visB w.sc x = true) (h3 : nmB x = true) : PE X (.Name x pos) (rdE X.K W c (.var i)) := by
  obtain ⟨n1, n2, _⟩ := nm_of h3
  refine (pe_var (i := i) (by rw [O.N]; exact h1) (by rw [O.sc]; exact vis_of h2) n1 n2).imp fun σ H Q ⟨ι, ρ, hp, hs, hh, po⟩ => ?_
  cases e : ρ[i]? with
  | none => simp only [ev, e] at po; exact po.elim
  | some od =>
    cases od with
    | none => simp only [ev, e] at po; exact po.elim
    | some d =>
      simp only [ev, e] at po
      obtain ⟨v, hv, r⟩ := hs.2 i d e
      exact ⟨v, hv, PoE.now po hh r⟩
theorem s_cst {i : Nat} {x : Str} {pos : Pos} (O : XOk G c w X) (h1 : G.cs[i]? = some x) (h2 : glB w.sc x = true) (h3 : nmB x = true) : PE X (.Name x pos) (rdE X.K W c (.cst i)) := by
  obtain ⟨n1, n2, _⟩ := nm_of h3
  obtain ⟨d, u, v, e, hm, r, q⟩ := O.cs i x h1
  refine (pe_glob (gl_of O h2) hm r n1).imp fun σ H Q ⟨ι, ρ, hp, hs, hh, po⟩ => ?_
  obtain ⟨d', e', po⟩ := Po.ofO po
  rw [e] at e'
  cases e'
  exact PoE.now po hh (q H ι)
/-- a test as its value's truth -/
theorem tru_rd {K : Frg} {e : CE} {σ : L2.St} {H : Hp} {Q : Bool → Hp → Prop} (h : rdB K W c (.val e) σ H Q) : rdE K W c e σ H fun x H' => ∃ k, TruV K x H' k ∧ Q k H' := by
  obtain ⟨ι, ρ, hp, hs, hh, po⟩ := h
  refine ⟨ι, ρ, hp, hs, hh, po.bind.mono fun x ι1 H1 s1 p1 v h1 r1 => ?_⟩
  obtain ⟨b, e, p1⟩ := Po.ofO p1
  exact ⟨b, truth_ok h1 r1 e, p1 ι1 H1 .refl h1⟩
theorem and_rd {K : Frg} {a b : CE} {σ : L2.St} {H : Hp} {Q : VK} (h : rdE K W c (.and a b) σ H Q) : tAndT K (rdE K W c a) (rdE K W c b) σ H Q := by
  obtain ⟨ι, ρ, hp, hs, hh, po⟩ := h
  refine ⟨ι, ρ, hp, hs, hh, po.bind.mono fun x ι1 H1 s1 p1 v h1 r1 => ?_⟩
  obtain ⟨k, e, p1⟩ := Po.ofO p1
  refine ⟨k, truth_ok h1 r1 e, ?_⟩
  cases k with
  | true => exact ⟨ι1, ρ, x.2, hh.srep s1 hs, h1, p1⟩
  | false => exact PoE.now p1 h1 r1
theorem or_rd {K : Frg} {a b : CE} {σ : L2.St} {H : Hp} {Q : VK} (h : rdE K W c (.or a b) σ H Q) : tOrT K (rdE K W c a) (rdE K W c b) σ H Q := by
  obtain ⟨ι, ρ, hp, hs, hh, po⟩ := h
  refine ⟨ι, ρ, hp, hs, hh, po.bind.mono fun x ι1 H1 s1 p1 v h1 r1 => ?_⟩
  obtain ⟨k, e, p1⟩ := Po.ofO p1
  refine ⟨k, truth_ok h1 r1 e, ?_⟩
  cases k with
  | true => exact PoE.now p1 h1 r1
  | false => exact ⟨ι1, ρ, x.2, hh.srep s1 hs, h1, p1⟩
theorem andB_rd {K : Frg} {a b : CB} {σ : L2.St} {H : Hp} {Q : Bool → Hp → Prop} (h : rdB K W c (.and a b) σ H Q) : tAnd (rdB K W c a) (rdB K W c b) σ H Q := by
  obtain ⟨ι, ρ, hp, hs, hh, po⟩ := h
  refine ⟨ι, ρ, hp, hs, hh, po.bind.mono fun x ι1 H1 s1 p1 h1 => ?_⟩
  cases hx : x.1 with
  | true => rw [hx] at p1; exact ⟨ι1, ρ, x.2, hh.srep s1 hs, h1, p1⟩
  | false => rw [hx] at p1; exact p1 ι1 H1 .refl h1
theorem orB_rd {K : Frg} {a b : CB} {σ : L2.St} {H : Hp} {Q : Bool → Hp → Prop} (h : rdB K W c (.or a b) σ H Q) : tOr (rdB K W c a) (rdB K W c b) σ H Q := by
  obtain ⟨ι, ρ, hp, hs, hh, po⟩ := h
  refine ⟨ι, ρ, hp, hs, hh, po.bind.mono fun x ι1 H1 s1 p1 h1 => ?_⟩
  cases hx : x.1 with
  | true => rw [hx] at p1; exact p1 ι1 H1 .refl h1
  | false => rw [hx] at p1; exact ⟨ι1, ρ, x.2, hh.srep s1 hs, h1, p1⟩
theorem notB_rd {K : Frg} {a : CB} {σ : L2.St} {H : Hp} {Q : Bool → Hp → Prop} (h : rdB K W c (.not a) σ H Q) : tNot (rdB K W c a) σ H Q := by
  obtain ⟨ι, ρ, hp, hs, hh, po⟩ := h
  exact ⟨ι, ρ, hp, hs, hh, po.bind.mono fun x ι1 H1 s1 p1 h1 => p1 ι1 H1 .refl h1⟩
theorem notE_rd {K : Frg} {a : CE} {σ : L2.St} {H : Hp} {Q : VK} (h : rdE K W c (.not (.val a)) σ H Q) : tNotT K (rdE K W c a) σ H Q := by
  obtain ⟨ι, ρ, hp, hs, hh, po⟩ := h
  refine ⟨ι, ρ, hp, hs, hh, po.bind.bind.mono fun x ι1 H1 s1 p1 v h1 r1 => ?_⟩
  obtain ⟨b, e, p1⟩ := Po.ofO p1
  exact ⟨b, truth_ok h1 r1 e, PoE.now (p1 ι1 H1 .refl) h1 rfl⟩
theorem ite_rd {K : Frg} {t : CB} {a b : CE} {σ : L2.St} {H : Hp} {Q : VK} (h : rdE K W c (.ite t a b) σ H Q) : tIf (rdB K W c t) (rdE K W c a) (rdE K W c b) σ H Q := by
  obtain ⟨ι, ρ, hp, hs, hh, po⟩ := h
  refine ⟨ι, ρ, hp, hs, hh, po.bind.mono fun x ι1 H1 s1 p1 h1 => ?_⟩
  cases hx : x.1 with
  | true => rw [hx] at p1; exact ⟨ι1, ρ, x.2, hh.srep s1 hs, h1, p1⟩
  | false => rw [hx] at p1; exact ⟨ι1, ρ, x.2, hh.srep s1 hs, h1, p1⟩
theorem ifS_rd {K : Frg} {t : CB} {a b : CSs} {σ : L2.St} {H : Hp} {De : Ends} (h : rdS K W c (.ite t a b) De σ H) : tIfS (rdB K W c t) (rdSs K W c a) (rdSs K W c b) De σ H := by
  obtain ⟨ι, ρ, hp, hs, hh, po⟩ := h
  refine ⟨ι, ρ, hp, hs, hh, (po_lift hs hh (fun _ _ _ _ => trivial) po).mono fun x ι1 H1 s1 p1 h1 => ?_⟩
  cases hx : x.1 with
  | true => rw [hx] at p1; exact ⟨ι1, ρ, x.2, hh.srep s1 hs, h1, p1⟩
  | false => rw [hx] at p1; exact ⟨ι1, ρ, x.2, hh.srep s1 hs, h1, p1⟩
/-- a list that is made is a value when it gets its number -/
theorem new_rd {K : Frg} {l : CL} {σ : L2.St} {H : Hp} {Q : VK} (h : rdE K W c (.new l) σ H Q) : rdL K W c l σ H Q := by
  obtain ⟨ι, ρ, hp, hs, hh, po⟩ := h
  refine ⟨ι, ρ, hp, hs, hh, ?_⟩
  have p := po_fix po
  refine p.mono fun x ι1 H1 s1 p1 h1 a vs na ni ha r => ?_
  have nn : Step ι H (ι1 ++ [a]) H1 := by
    obtain ⟨κ, e⟩ := s1.pre
    refine ⟨⟨κ ++ [a], by rw [e, List.append_assoc]⟩, fun b hb => ?_, s1.kp⟩
    rcases List.mem_append.mp hb with q | q
    · exact s1.new b q
    · rw [List.mem_singleton.mp q]; exact .inr na
  exact p1 (ι1 ++ [a]) H1 nn _ (num_ok h1 ni ⟨vs, ha, (more_reps h1 a).2 _ _ r⟩) ⟨a, rfl, num_at h1⟩
/-- a list that is made, taken by a built-in at once -/
theorem tmp_rd {K : Frg} {l : CL} {σ : L2.St} {H : Hp} {Q : VK} (h : rdQ K W c (.tmp l) σ H Q) : rdL K W c l σ H Q := by
  obtain ⟨ι, ρ, hp, hs, hh, po⟩ := h
  exact ⟨ι, ρ, hp, hs, hh, po.mono fun x ι1 H1 s1 p1 h1 a vs na ni ha r => p1 h1 _ ⟨a, vs, rfl, .inl (.of ha), r⟩⟩
theorem val_rd {K : Frg} {e : CE} {σ : L2.St} {H : Hp} {Q : VK} (h : rdQ K W c (.val e) σ H Q) : rdE K W c e σ H Q := by
  obtain ⟨ι, ρ, hp, hs, hh, po⟩ := h
  refine ⟨ι, ρ, hp, hs, hh, po.bind.mono fun x ι1 H1 s1 p1 v h1 r1 => ?_⟩
  obtain ⟨w', e, p1⟩ := Po.ofO p1
  exact p1 ι1 H1 .refl h1 v (seq_holds h1 r1 e)
end
end Tw
end

section
set_option Elab.async false
set_option linter.all false
set_option maxRecDepth 100000
set_option maxHeartbeats 4000000
/-! THE THEOREM, piece by piece. Own work. -/
namespace Tw
open PySem PySem.Spec PyProof.Rows L2 RZ

theorem inW_ok {G : GI} {c : Ctx} {w : Wh} {X : Cx} (O : XOk G c w X) (scope : Scope) (hk : scope.kind = .function) (s : Shared) (H : Hp) (C : Addr) (cl : List (Str × Addr)) (fp : List Addr) : XOk G c (inW w scope) (X.blk s H scope (compEnvC scope cl C X.env) fp) where
  N := O.N
  nd := O.nd
  sc := by
    show relabel scope X.env = relS scope w.sc
    rw [← O.sc]
    rfl
  knd := hk
  calm := O.calm
  fn := fun x h => by
    have h : locB scope x = true := h
    unfold locB at h
    split at h
    · rename_i e
      have q : (relS scope w.sc).names.lookup x = some .local := lookup_relS_keep (by decide) e
      exact ⟨.inl q, .inr q⟩
    · rename_i e
      have q : (relS scope w.sc).names.lookup x = some .cell := lookup_relS_keep (by decide) e
      refine ⟨.inr q, .inl ?_⟩
      show (scope.names.lookup x == some .cell) = true
      rw [e] <;> rfl
    · cases h
  hu := O.hu
  bl := O.bl
  cs := O.cs
  ar := O.ar
  fns := O.fns
  ex := O.ex
  mkx := O.mkx

section
variable {G : GI} {c : Ctx} {W : WS}
theorem own_ix {w : Wh} {is : List Nat} : (ownOf w.N is).map (·.2) = is := by
  unfold ownOf
  rw [List.map_map]
  exact (List.map_congr_left (fun _ _ => rfl)).trans (List.map_id is)
theorem biBoot (b : Bi) : bootBuiltins (Str.ofString (biX b)) = some (biF b) := by cases b <;> decide +kernel
theorem sqBoot (b : Sq) : bootBuiltins (Str.ofString (sqX b)) = some (sqF b) := by cases b <;> decide +kernel
theorem tyBoot (t : Ty) : bootBuiltins (Str.ofString (tyX t)) = some (.type (tyX t)) := by cases t <;> decide +kernel
theorem isiBoot : bootBuiltins (Str.ofString "isinstance") = some (.builtin "isinstance") := by decide +kernel
theorem biN (b : Bi) : Str.ofString (biX b) ≠ "__name__" ∧ (Str.ofString (biX b) == ("__debug__" : Str)) = false := by cases b <;> exact ⟨by decide +kernel, by decide +kernel⟩
theorem sqN (b : Sq) : Str.ofString (sqX b) ≠ "__name__" ∧ (Str.ofString (sqX b) == ("__debug__" : Str)) = false := by cases b <;> exact ⟨by decide +kernel, by decide +kernel⟩
theorem tyN (b : Ty) : Str.ofString (tyX b) ≠ "__name__" ∧ (Str.ofString (tyX b) == ("__debug__" : Str)) = false := by cases b <;> exact ⟨by decide +kernel, by decide +kernel⟩
theorem pe_callF {X : Cx} {x : Str} {p pos : Pos} {e : Expr} {es : List Expr} {t : TA} {f : Value} {r : List V → Hp → VK → Prop} (hf : (∃ id, f = .builtin id) ∨ ∃ T, f = .type T) (hc : CallR X f r) (hg : Gl X x) (hm : X.mg x = none) (hv : bootBuiltins x = some f) (ha : PA X (e :: es) t) (hn : x ≠ "__name__") (hdb : (x == ("__debug__" : Str)) = false)
    (he : starEach (e :: es) X.env = (false, eval e X.env) :: starEach es X.env) (hpl : (backTo pos (starEach es X.env)).any (·.1) = false) : PE X (.Call (.Name x p) (e :: es) [] pos) (tCB r t) := by
  rcases hf with ⟨id, rfl⟩ | ⟨T, rfl⟩
  · exact pe_callB hc hg hm hv ha hn hdb he hpl
  · exact pe_callTy hc hg hm hv ha hn hdb he hpl
theorem biK (b : Bi) : (∃ id, biF b = .builtin id) ∨ ∃ T, biF b = .type T := by cases b <;> first | exact .inl ⟨_, rfl⟩ | exact .inr ⟨_, rfl⟩
theorem sqK (b : Sq) : (∃ id, sqF b = .builtin id) ∨ ∃ T, sqF b = .type T := by cases b <;> first | exact .inl ⟨_, rfl⟩ | exact .inr ⟨_, rfl⟩
/-- a dict display's pairs -/
def trs (K : Frg) (W : WS) (c : Ctx) : CPs → List (TE × TE)
  | .nil => []
  | .cons k v ps => (rdE K W c k, rdE K W c v) :: trs K W c ps
theorem pairs_rd {K : Frg} : ∀ {ps : CPs} {σ : L2.St} {H : Hp} {Q : List (V × V) → Hp → Prop}, (∃ ι ρ hp, SRep K H ι σ ρ ∧ HpRep K H ι hp ∧ Po (wr K W σ) ι H (evP c ps ρ hp) (Tw.SP K Q)) → tPairs (trs K W c ps) σ H Q
  | .nil, σ, H, Q, ⟨ι, ρ, hp, hs, hh, po⟩ => po ι H .refl hh [] rfl rfl
  | .cons k v ps, σ, H, Q, ⟨ι, ρ, hp, hs, hh, po⟩ => by
    refine ⟨ι, ρ, hp, hs, hh, po.bind.mono fun x ι1 H1 s1 p1 u h1 r1 => ?_⟩
    have hs1 := hh.srep s1 hs
    refine ⟨ι1, ρ, x.2, hs1, h1, p1.bind.mono fun y ι2 H2 s2 p2 t h2 r2 => ?_⟩
    refine pairs_rd ⟨ι2, ρ, y.2, h1.srep s2 hs1, h2, p2.bind.mono fun z ι3 H3 s3 p3 h3 qs e1 e2 => ?_⟩
    exact p3 ι3 H3 .refl h3 ((u, t) :: qs) ⟨u, _, rfl, h2.rep s3 _ _ (h1.rep s2 _ _ r1), e1⟩ ⟨t, _, rfl, h2.rep s3 _ _ r2, e2⟩
theorem dbuild_ok {K : Frg} {H : Hp} {ι : List Addr} : ∀ {ps : List (D × D)} {qs : List (V × V)} {acc : List (Key × D)} {ws : List (L2.Key × V)} {kvs : List (Key × D)}, dbuild ps acc = .ok kvs → Reps K H ι (ps.map (·.1)) (qs.map (·.1)) → Reps K H ι (ps.map (·.2)) (qs.map (·.2)) → RepK K H ι acc ws →
    ∃ ks : List (L2.Key × V), qs = ks.map (fun kv => (kV kv.1, kv.2)) ∧ RepK K H ι kvs (mergeK ws ks)
  | [], qs, acc, ws, kvs, h, r1, r2, r => by
    cases h
    have e : qs.map (·.1) = [] := r1
    cases qs with
    | nil => exact ⟨[], rfl, r⟩
    | cons q qs => cases e
  | p :: ps, qs, acc, ws, kvs, h, r1, r2, r => by
    obtain ⟨k, v⟩ := p
    cases qs with
    | nil => obtain ⟨_, _, e, _⟩ := r1; cases e
    | cons q qs =>
      obtain ⟨a, b⟩ := q
      obtain ⟨u, t, e1, h1, h2⟩ := r1
      obtain ⟨u', t', e1', h1', h2'⟩ := r2
      simp only [List.map_cons, List.cons.injEq] at e1 e1'
      obtain ⟨rfl, rfl⟩ := e1
      obtain ⟨rfl, rfl⟩ := e1'
      unfold dbuild at h
      cases hl : decide (acc.length < LIM) with
      | false => rw [hl] at h; cases h
      | true =>
        rw [hl] at h
        cases hd : dputM acc k v with
        | none => simp only [chk, hd, ofO] at h; cases h
        | some acc' =>
          simp only [chk, hd, ofO] at h
          obtain ⟨kk, hk, rfl⟩ := Option.map_eq_some_iff.mp hd
          have ek := keyOf_ok h1 hk
          subst ek
          obtain ⟨ks, e, z⟩ := dbuild_ok h h2 h2' (putV_ok (k := kk) h1' r)
          exact ⟨(kk, _) :: ks, by rw [e]; rfl, z⟩
theorem dbuildT_ok {K : Frg} {H : Hp} {ι : List Addr} : ∀ {ps : List (D × D)} {qs : List (V × V)} {acc : List (List Key × D)} {ws : List (List L2.Key × V)} {kvs : List (List Key × D)}, dbuildT ps acc = .ok kvs → Reps K H ι (ps.map (·.1)) (qs.map (·.1)) → Reps K H ι (ps.map (·.2)) (qs.map (·.2)) → RepK K H ι acc ws →
    ∃ ks : List (List L2.Key × Addr × V), qs = ks.map (fun x => (V.ref x.2.1, x.2.2)) ∧ (∀ x ∈ ks, H x.2.1 = some (.tup (x.1.map kV))) ∧ RepK K H ι kvs (mergeT ws ks)
  | [], qs, acc, ws, kvs, h, r1, r2, r => by
    cases h
    have e : qs.map (·.1) = [] := r1
    cases qs with
    | nil => exact ⟨[], rfl, fun _ hx => (by simp at hx), r⟩
    | cons q qs => cases e
  | p :: ps, qs, acc, ws, kvs, h, r1, r2, r => by
    obtain ⟨k, v⟩ := p
    cases qs with
    | nil => obtain ⟨_, _, e, _⟩ := r1; cases e
    | cons q qs =>
      obtain ⟨a, b⟩ := q
      obtain ⟨u, t, e1, h1, h2⟩ := r1
      obtain ⟨u', t', e1', h1', h2'⟩ := r2
      simp only [List.map_cons, List.cons.injEq] at e1 e1'
      obtain ⟨rfl, rfl⟩ := e1
      obtain ⟨rfl, rfl⟩ := e1'
      unfold dbuildT at h
      cases hl : decide (acc.length < LIM) with
      | false => rw [hl] at h; cases h
      | true =>
        rw [hl] at h
        cases hd : keyT k with
        | none => simp only [chk, hd, ofO] at h; cases h
        | some kk =>
          simp only [chk, hd, ofO] at h
          obtain ⟨b', rfl, eb⟩ := keyT_ok h1 hd
          obtain ⟨ks, e, hk, z⟩ := dbuildT_ok h h2 h2' (putV_ok (k := kk) h1' r)
          exact ⟨(kk, b', _) :: ks, by rw [e]; rfl, fun x hx => by
            rcases List.mem_cons.mp hx with rfl | hx
            · exact eb
            · exact hk x hx, z⟩
theorem dbuildT_nx : ∀ (xs : List (D × D)) (acc : List (List Key × D)) {a : Nat} {b : List D} {d : Heap}, dbuildT xs acc = .exc a b d → False
  | [], acc, a, b, d, e => by cases e
  | (k, v) :: r, acc, a, b, d, e => by
    unfold dbuildT at e
    cases hc : decide (acc.length < LIM) with
    | false => rw [hc] at e; cases e
    | true =>
      rw [hc] at e
      cases hm : keyT k with
      | none => rw [hm] at e; cases e
      | some x => rw [hm] at e; exact dbuildT_nx r _ e
def CPs.len : CPs → Nat
  | .nil => 0
  | .cons _ _ ps => ps.len + 1
theorem evP_len : ∀ {ps : CPs} {ρ : Env} {hp : Heap} {x : List (D × D) × Heap}, evP c ps ρ hp = .ok x → x.1.length = ps.len
  | .nil, _, _, _, h => by cases h; rfl
  | .cons k v ps, ρ, hp, x, h => by
    unfold evP at h
    cases e1 : ev c k ρ hp with
    | ok a =>
      rw [e1] at h
      simp only [R.bind] at h
      cases e2 : ev c v ρ a.2 with
      | ok b =>
        rw [e2] at h
        simp only [R.bind] at h
        cases e3 : evP c ps ρ b.2 with
        | ok d =>
          rw [e3] at h
          simp only [R.bind] at h
          cases h
          show d.1.length + 1 = _
          rw [evP_len e3]
          rfl
        | _ => rw [e3] at h; cases h
      | _ => rw [e2] at h; cases h
    | _ => rw [e1] at h; cases h
theorem dbuild_nx : ∀ (xs : List (D × D)) (acc : List (Key × D)) {a : Nat} {b : List D} {d : Heap}, dbuild xs acc = .exc a b d → False
  | [], acc, a, b, d, e => by cases e
  | (k, v) :: r, acc, a, b, d, e => by
    unfold dbuild at e
    cases hc : decide (acc.length < LIM) with
    | false => rw [hc] at e; cases e
    | true =>
      rw [hc] at e
      cases hm : dputM acc k v with
      | none => rw [hm] at e; cases e
      | some x => rw [hm] at e; exact dbuild_nx r x e
theorem dct_rd {K : Frg} {ps : CPs} {σ : L2.St} {H : Hp} {Q : VK} (hn : ps.len ≤ 15) (h : rdE K W c (.dct ps) σ H Q) : tDisp2 (trs K W c ps) σ H Q := by
  obtain ⟨ι, ρ, hp, hs, hh, po⟩ := h
  intro p hp0
  have s0 := hh.fresh0 hp0 (ho := .dK [])
  have h0 : HpRep K (upd H p (.dK [])) ι hp := hh.laid0 hp0
  have p1 : Po (wr K W σ) ι (upd H p (.dK [])) (evP c ps ρ hp) fun x _ _ => x.1.length = ps.len ∧ Po (wr K W σ) ι H ((dbuildO x.1).bind fun o => .ok (.ref x.2.length, x.2 ++ [o])) (SE K Q) := by
    have q := Po.at (po_fix po) s0
    cases e : evP c ps ρ hp with
    | ok x => rw [e] at q; exact fun ι' H' s => ⟨evP_len e, q ι' H' s⟩
    | exc a b d => rw [e] at q; exact q
    | no => rw [e] at q; exact q
  refine pairs_rd ⟨ι, ρ, hp, hh.srep s0 hs, h0, p1.mono fun x ι1 H1 s1 ⟨lx, q⟩ h1 qs r1 r2 => ?_⟩
  have hD : H1 p = some (.dK []) := s1.kp p _ upd_same (hh.notin hp0)
  have nD : p ∉ ι1 := fun hm => by
    rcases s1.new p hm with z | z
    · exact hh.notin hp0 z
    · rw [upd_same] at z; cases z
  have st : Step ι H ι1 H1 := s0.trans s1
  have st2 : ∀ o, Step ι H (ι1 ++ [p]) (upd H1 p o) := fun o => by
    have so := st.off hp0 (o := o)
    obtain ⟨κ, e⟩ := so.pre
    refine ⟨⟨κ ++ [p], by rw [e, List.append_assoc]⟩, fun a ha => ?_, so.kp⟩
    rcases List.mem_append.mp ha with q | q
    · exact so.new a q
    · rw [List.mem_singleton.mp q]; exact .inr hp0
  have l2 := r1.length
  rw [List.length_map, List.length_map] at l2
  refine ⟨hD, ?_⟩
  unfold dbuildO at q
  cases hk : isKT x.1 with
  | false =>
    rw [hk] at q
    cases hb : dbuild x.1 [] with
    | exc a b d => exact (dbuild_nx _ _ hb).elim
    | no => rw [hb] at q; exact q.elim
    | ok kvs =>
      rw [hb] at q
      obtain ⟨ks, e, z⟩ := dbuild_ok hb r1 r2 (ws := []) ⟨rfl, rfl⟩
      have hlen : ks.length ≤ 15 := by
        have l1 : ks.length = qs.length := by rw [e, List.length_map]
        omega
      have ho := off_rep (K := K) (ι := ι1) (H := H1) (a := p) (o := .dK (mergeK [] ks)) (fun _ z => by rw [hD] at z; cases z) (fun _ _ z => by rw [hD] at z; cases z)
      have h2 : HpRep K (upd H1 p (.dK (mergeK [] ks))) ι1 x.2 := off_hp h1 nD (fun _ z => by rw [hD] at z; cases z) (fun _ _ z => by rw [hD] at z; cases z)
      refine .inl ⟨ks, e, hlen, ?_⟩
      exact q (ι1 ++ [p]) _ (st2 _) _ (num_ok h2 nD ⟨_, upd_same, z.1, (more_reps h2 p).2 _ _ (ho.2 _ _ z.2)⟩) ⟨p, rfl, num_at h2⟩
  | true =>
    rw [hk] at q
    cases hb : dbuildT x.1 [] with
    | exc a b d => exact (dbuildT_nx _ _ hb).elim
    | no => rw [hb] at q; exact q.elim
    | ok kvs =>
      rw [hb] at q
      obtain ⟨ks, e, hks, z⟩ := dbuildT_ok hb r1 r2 (ws := []) ⟨rfl, rfl⟩
      have hlen : ks.length ≤ 15 := by
        have l1 : ks.length = qs.length := by rw [e, List.length_map]
        omega
      have ho := off_rep (K := K) (ι := ι1) (H := H1) (a := p) (o := .dT (mergeT [] ks)) (fun _ z => by rw [hD] at z; cases z) (fun _ _ z => by rw [hD] at z; cases z)
      have h2 : HpRep K (upd H1 p (.dT (mergeT [] ks))) ι1 x.2 := off_hp h1 nD (fun _ z => by rw [hD] at z; cases z) (fun _ _ z => by rw [hD] at z; cases z)
      refine .inr ⟨ks, e, hlen, hks, ?_⟩
      exact q (ι1 ++ [p]) _ (st2 _) _ (num_ok h2 nD ⟨_, upd_same, z.1, (more_reps h2 p).2 _ _ (ho.2 _ _ z.2)⟩) ⟨p, rfl, num_at h2⟩
end
end Tw
end

section
set_option Elab.async false
set_option linter.all false
set_option maxRecDepth 100000
set_option maxHeartbeats 8000000
/-! THE THEOREM. Own work. -/
namespace Tw
open PySem PySem.Spec PyProof.Rows L2 RZ
section
variable {G : GI} {c : Ctx} {W : WS}
theorem evs_rd {K : Frg} {e : CE} {es : CEs} {σ : L2.St} {H : Hp} {Q : List V → Hp → Prop} (h : rdA K W c (.cons e es) σ H Q) : tCons (rdE K W c e) (rdA K W c es) σ H Q := by
  obtain ⟨ι, ρ, hp, hs, hh, po⟩ := h
  refine ⟨ι, ρ, hp, hs, hh, po.bind.mono fun x ι1 H1 s1 p1 v h1 r1 => ?_⟩
  refine ⟨ι1, ρ, x.2, hh.srep s1 hs, h1, p1.bind.mono fun y ι2 H2 s2 p2 ws h2 r2 => ?_⟩
  exact p2 ι2 H2 .refl (v :: ws) h2 ⟨v, ws, rfl, h1.rep s2 _ _ r1, r2⟩
/-- some values, then what a call of them does -/
theorem call_rd {K : Frg} {es : CEs} {f : List D → Heap → R (D × Heap)} {σ : L2.St} {H : Hp} {Q : VK} {ι : List Addr} {ρ : Env} {hp : Heap} (hs : SRep K H ι σ ρ) (hh : HpRep K H ι hp) (po : PoE K (wr K W σ) ι H ((evs c es ρ hp).bind fun x => f x.1 x.2) Q) :
    tCB (rCall K f) (rdA K W c es) σ H Q :=
  ⟨ι, ρ, hp, hs, hh, po.bind.mono fun x ι1 H1 s1 p1 vs h1 r1 => ⟨_, ι1, x.2, x.1, h1, r1, p1⟩⟩
theorem sq_rd {K : Frg} {s : CI} {f : List D → Heap → R (D × Heap)} {σ : L2.St} {H : Hp} {Q : VK} {ι : List Addr} {ρ : Env} {hp : Heap} (hs : SRep K H ι σ ρ) (hh : HpRep K H ι hp) (po : PoE K (wr K W σ) ι H ((evQ c s ρ hp).bind fun x => f x.1 x.2) Q) :
    tCB (rSq K f) (tCons (rdQ K W c s) tNil) σ H Q :=
  ⟨ι, ρ, hp, hs, hh, po.bind.mono fun x ι1 H1 s1 p1 h1 v hv => ⟨_, ι1, x.2, x.1, v, h1, rfl, hv, p1⟩⟩

theorem ar_len {w : Wh} {X : Cx} {f : Nat} {p : Str × List Str} {K : Frg} {σ : L2.St} {ι : List Addr} {H : Hp} {ds : List D} {vs : List V} {hp : Heap} {Q : VK} (O : XOk G c w X) (hp' : G.fns[f]? = some p) (r : Reps K H ι ds vs) (po : PoE K (wr K W σ) ι H (c.T f ds hp) Q) : vs.length = p.2.length := by
  rw [← r.length]
  apply Classical.byContradiction
  intro n
  rw [O.ar f p hp' ds hp n] at po
  exact po.elim
theorem mL_plain {w : Wh} {l : CL} {x : Expr} (h : mL G w l x = true) : plainE x = true := by
  cases l <;> (simp only [mL] at h; first | (cases h; done) | (split at h <;> first | rfl | cases h))
theorem mE_plain {w : Wh} {e : CE} {x : Expr} (h : mE G w e x = true) : plainE x = true := by
  cases e
  case new l => simp only [mE] at h; exact mL_plain h
  case call => simp only [mE] at h; split at h <;> first | rfl | cases h
  case back s b => cases b <;> (simp only [mE] at h; split at h <;> first | rfl | cases h)
  all_goals (simp only [mE] at h; first | (exact h) | (split at h <;> first | rfl | cases h))
theorem mL_set {w : Wh} {l : CL} {x : Expr} (h : mL G w l x = true) : setE x = true := by
  cases l <;> (simp only [mL] at h; first | (cases h; done) | (split at h <;> first | rfl | cases h))
theorem sISet {w : Wh} {X : Cx} {s : CI} {x tg : Expr} (h : mI G w s x tg = true) : ∀ v, foldedSetIterable x X.env v = pure v := by
  apply fold_of
  cases s
  case val => simp only [mI] at h; exact (tt h).2
  case tmp => simp only [mI] at h; exact mL_set h
  all_goals (simp only [mI] at h; split at h <;> first | rfl | cases h)
theorem chain_rd {K : Frg} {o1 o2 : COp} {a b d : CE} {σ : L2.St} {H : Hp} {Q : VK} (h : rdE K W c (.chain o1 o2 a b d) σ H Q) : tChain (rOp K (opC o1)) (rOp K (opC o2)) (rdE K W c a) (rdE K W c b) (rdE K W c d) σ H Q := by
  obtain ⟨ι, ρ, hp, hs, hh, po⟩ := h
  refine ⟨ι, ρ, hp, hs, hh, po.bind.mono fun x ι1 H1 s1 p1 v h1 r1 => ?_⟩
  have hs1 := hh.srep s1 hs
  refine ⟨ι1, ρ, x.2, hs1, h1, p1.bind.mono fun y ι2 H2 s2 p2 u h2 r2 => ?_⟩
  have hs2 := h1.srep s2 hs1
  refine ⟨_, ι2, y.2, x.1, y.1, h2, h1.rep s2 _ _ r1, r2, p2.bind.mono fun z ι3 H3 s3 p3 t h3 r3 => ?_⟩
  cases hz : z.1 with
  | bl k =>
    rw [hz] at p3 r3
    refine ⟨k, r3, ?_⟩
    cases k with
    | false => simp only [Bool.false_eq_true, if_false]; exact PoE.now p3 h3 rfl
    | true =>
      simp only [if_true]
      exact ⟨ι3, ρ, z.2, h2.srep s3 hs2, h3, p3.bind.mono fun w4 ι4 H4 s4 p4 v4 h4 r4 => ⟨_, ι4, w4.2, y.1, w4.1, h4, h3.rep s4 _ _ (h2.rep s3 _ _ r2), r4, p4⟩⟩
  | _ => rw [hz] at p3; exact p3.elim
theorem neg_rd {K : Frg} {a : CE} {σ : L2.St} {H : Hp} {Q : VK} (h : rdE K W c (.neg a) σ H Q) : tUn (rU fun i => .int (-i)) (rdE K W c a) σ H Q := by
  obtain ⟨ι, ρ, hp, hs, hh, po⟩ := h
  refine ⟨ι, ρ, hp, hs, hh, po.bind.mono fun x ι1 H1 s1 p1 v h1 r1 => ?_⟩
  cases hx : x.1 with
  | int i => rw [hx] at p1 r1; exact ⟨i, r1, PoE.now p1 h1 rfl⟩
  | _ => rw [hx] at p1; exact p1.elim
theorem slc_rd {K : Frg} {a : CE} {lo hi : CO} {σ : L2.St} {H : Hp} {Q : VK} (h : rdE K W c (.slc a lo hi) σ H Q) : tSl (fun x lo hi H Q => ∃ (W : Wish) (ι : List Addr) (hp : Heap) (d : D), HpRep K H ι hp ∧ Rep K H ι d x ∧ PoE K W ι H (slcV d lo hi hp) Q) (rdE K W c a) (rdO K W c lo) (rdO K W c hi) σ H Q := by
  obtain ⟨ι, ρ, hp, hs, hh, po⟩ := h
  refine ⟨ι, ρ, hp, hs, hh, po.bind.mono fun x ι1 H1 s1 p1 v h1 r1 => ?_⟩
  have hs1 := hh.srep s1 hs
  refine ⟨ι1, ρ, x.2, hs1, h1, p1.bind.mono fun y ι2 H2 s2 p2 h2 => ?_⟩
  refine ⟨ι2, ρ, y.2, h1.srep s2 hs1, h2, p2.bind.mono fun z ι3 H3 s3 p3 h3 => ?_⟩
  exact ⟨_, ι3, z.2, x.1, h3, h2.rep s3 _ _ (h1.rep s2 _ _ r1), p3⟩
theorem isLst_ok {K : Frg} {H : Hp} {ι : List Addr} {hp : Heap} {d : D} {v : V} (hh : HpRep K H ι hp) (r : Rep K H ι d v) (e : isLst d hp = true) : ∃ n a xs vs, d = .ref n ∧ v = .ref a ∧ hp[n]? = some (.lst xs) ∧ ι[n]? = some a ∧ H a = some (.lst vs) ∧ Reps K H ι xs vs := by
  cases d with
  | ref n =>
    obtain ⟨a, rfl, ha⟩ := r
    cases hn : hp[n]? with
    | none => simp only [isLst, hn] at e; cases e
    | some o =>
      cases o with
      | lst xs =>
        obtain ⟨vs, q, z⟩ := hh.lst hn ha
        exact ⟨n, a, xs, vs, rfl, rfl, hn, ha, q, z⟩
      | dct kvs => simp only [isLst, hn] at e; cases e
      | dtt kvs => simp only [isLst, hn] at e; cases e
  | _ => cases e
theorem app_rd {K : Frg} {l a : CE} {σ : L2.St} {H : Hp} {Q : VK} (h : rdE K W c (.app l a) σ H Q) : tBM K "list" rAppend (rdE K W c l) (tCons (rdE K W c a) tNil) σ H Q := by
  obtain ⟨ι, ρ, hp, hs, hh, po⟩ := h
  refine ⟨ι, ρ, hp, hs, hh, po.bind.mono fun x ι1 H1 s1 p1 v h1 r1 => ?_⟩
  obtain ⟨hl, p1⟩ := Po.chk p1
  obtain ⟨n, b, xs, vs, ex, rfl, hn, ha, q, z⟩ := isLst_ok h1 r1 hl
  refine ⟨.inl ⟨rfl, vs, .of q⟩, ι1, ρ, x.2, hh.srep s1 hs, h1, p1.bind.mono fun y ι2 H2 s2 p2 u h2 r2 => ?_⟩
  rw [ex] at p2
  cases hn2 : y.2[n]? with
  | none => simp only [appV, hn2] at p2; exact p2.elim
  | some o =>
    cases o with
    | lst ys =>
      simp only [appV, hn2] at p2
      obtain ⟨hlim, p2⟩ := Po.chk p2
      have ha2 : ι2[n]? = some b := by
        obtain ⟨κ, e⟩ := s2.pre
        rw [e, List.getElem?_append_left (List.getElem?_eq_some_iff.mp ha).1]
        exact ha
      obtain ⟨ws, q2, z2⟩ := h2.lst hn2 ha2
      have st : Step ι2 H2 ι2 (upd H2 b (.lst (ws ++ [u]))) := Step.write (List.mem_of_getElem? ha2)
      refine ⟨b, ws, u, rfl, rfl, q2, by rw [lim_eq, ← z2.length]; exact of_decide_eq_true hlim, ?_⟩
      exact p2 ι2 _ st _ (h2.write ha2 ⟨_, upd_same, (h2.reps st _ _ z2).append (Reps.one (h2.rep st _ _ r2))⟩) rfl
    | dct kvs => simp only [appV, hn2] at p2; exact p2.elim
    | dtt kvs => simp only [appV, hn2] at p2; exact p2.elim
theorem pop_at {α : Type} {xs : List α} {d : α} (h : xs.getLast? = some d) : xs[xs.length - 1]? = some d := by
  rw [← List.getLast?_eq_getElem?]
  exact h
theorem Reps.dropLast {K : Frg} {H : Hp} {ι : List Addr} {ds : List D} {vs : List V} (r : Reps K H ι ds vs) : Reps K H ι ds.dropLast vs.dropLast := by
  rw [List.dropLast_eq_take, List.dropLast_eq_take, ← r.length]
  exact r.take _
theorem pop_rd {K : Frg} {l : CE} {σ : L2.St} {H : Hp} {Q : VK} (h : rdE K W c (.pop l) σ H Q) : tBM K "list" rPop (rdE K W c l) tNil σ H Q := by
  obtain ⟨ι, ρ, hp, hs, hh, po⟩ := h
  refine ⟨ι, ρ, hp, hs, hh, po.bind.mono fun x ι1 H1 s1 p1 v h1 r1 => ?_⟩
  cases hx : x.1 with
  | ref n =>
    rw [hx] at p1 r1
    obtain ⟨a, rfl, ha⟩ := r1
    cases hn : x.2[n]? with
    | none => simp only [popV, hn] at p1; exact p1.elim
    | some o =>
      cases o with
      | dct kvs => simp only [popV, hn] at p1; exact p1.elim
      | dtt kvs => simp only [popV, hn] at p1; exact p1.elim
      | lst xs =>
        simp only [popV, hn] at p1
        obtain ⟨d, hd, p1⟩ := Po.ofO p1
        obtain ⟨vs, q, z⟩ := h1.lst hn ha
        obtain ⟨u, hu, ru⟩ := z.get (pop_at hd)
        rw [z.length] at hu
        have st : Step ι1 H1 ι1 (upd H1 a (.lst vs.dropLast)) := Step.write (List.mem_of_getElem? ha)
        refine ⟨.inl ⟨rfl, vs, .of q⟩, a, vs, u, rfl, rfl, q, hu, ?_⟩
        exact p1 ι1 _ st _ (h1.write ha ⟨_, upd_same, (h1.reps st _ _ z).dropLast⟩) (h1.rep st _ _ ru)
  | _ => rw [hx] at p1; exact p1.elim
theorem Po.later {α : Type} {W : Wish} {ι : List Addr} {H : Hp} {r : R α} {S : α → List Addr → Hp → Prop} (p : Po W ι H r S) : Po W ι H r fun a ι1 H1 => ∀ ι2 H2, Step ι1 H1 ι2 H2 → S a ι2 H2 := by
  cases r with
  | ok a => exact fun ι1 H1 s1 ι2 H2 s2 => p ι2 H2 (s1.trans s2)
  | exc a b d => exact p
  | no => exact p
theorem nix_ix {n : Nat} {i : Int} {j : Nat} (h : nix n i = some j) : seqIndex? i n = some j := by
  unfold nix at h
  unfold seqIndex?
  by_cases h0 : 0 ≤ i
  · rw [if_pos h0] at h
    split at h
    · cases h
      rename_i hl
      simp only [show ¬ i < 0 by omega, if_false]
      rw [decide_eq_true h0, decide_eq_true hl]
      rfl
    · cases h
  · rw [if_neg h0] at h
    split at h
    · cases h
      rename_i hl
      simp only [show i < 0 by omega, if_true]
      rw [decide_eq_true (show 0 ≤ i + (n : Int) by omega), decide_eq_true (show i + (n : Int) < n by omega)]
      rfl
    · cases h
theorem Reps.erase {K : Frg} {H : Hp} {ι : List Addr} : ∀ {ds : List D} {vs : List V} (j : Nat), Reps K H ι ds vs → Reps K H ι (ds.eraseIdx j) (vs.eraseIdx j)
  | [], _, j, e => by rw [show _ = [] from e]; exact rfl
  | _ :: ds, _, 0, ⟨v, r, rfl, _, h2⟩ => h2
  | _ :: ds, _, j + 1, ⟨v, r, rfl, h1, h2⟩ => ⟨_, _, rfl, h1, Reps.erase j h2⟩
theorem popi_rd {K : Frg} {l a : CE} {σ : L2.St} {H : Hp} {Q : VK} (h : rdE K W c (.popi l a) σ H Q) : tBM K "list" rPopAt (rdE K W c l) (tCons (rdE K W c a) tNil) σ H Q := by
  obtain ⟨ι, ρ, hp, hs, hh, po⟩ := h
  refine ⟨ι, ρ, hp, hs, hh, po.bind.mono fun x ι1 H1 s1 p1 v h1 r1 => ?_⟩
  obtain ⟨hl, p1⟩ := Po.chk p1
  obtain ⟨n, b, xs, vs, ex, rfl, hn, ha, q, z⟩ := isLst_ok h1 r1 hl
  refine ⟨.inl ⟨rfl, vs, .of q⟩, ι1, ρ, x.2, hh.srep s1 hs, h1, p1.bind.mono fun y ι2 H2 s2 p2 u h2 r2 => ?_⟩
  rw [ex] at p2
  cases hy : y.1 with
  | int i =>
    rw [hy] at p2 r2
    cases hn2 : y.2[n]? with
    | none => simp only [popiV, hn2] at p2; exact p2.elim
    | some o =>
      cases o with
      | lst ys =>
        simp only [popiV, hn2] at p2
        obtain ⟨hb, p2⟩ := Po.chk p2
        obtain ⟨b1, b2⟩ := tt hb
        have b1 := of_decide_eq_true b1
        have b2 := of_decide_eq_true b2
        obtain ⟨j, hj, p2⟩ := Po.ofO p2
        obtain ⟨d, hd, p2⟩ := Po.ofO p2
        have ha2 : ι2[n]? = some b := by
          obtain ⟨κ, e⟩ := s2.pre
          rw [e, List.getElem?_append_left (List.getElem?_eq_some_iff.mp ha).1]
          exact ha
        obtain ⟨ws, q2, z2⟩ := h2.lst hn2 ha2
        obtain ⟨g, hg, rg⟩ := z2.get hd
        have st : Step ι2 H2 ι2 (upd H2 b (.lst (ws.eraseIdx j))) := Step.write (List.mem_of_getElem? ha2)
        refine ⟨b, ws, i, j, g, rfl, by rw [show u = .int i from r2], q2, by omega, by omega, by rw [← z2.length]; exact nix_ix hj, hg, ?_⟩
        exact p2 ι2 _ st _ (h2.write ha2 ⟨_, upd_same, (h2.reps st _ _ z2).erase j⟩) (h2.rep st _ _ rg)
      | dct kvs => simp only [popiV, hn2] at p2; exact p2.elim
      | dtt kvs => simp only [popiV, hn2] at p2; exact p2.elim
  | _ => rw [hy] at p2; exact p2.elim
def rLstOf (K : Frg) : List V → Hp → VK → Prop := fun xs H Q => ∃ p ys, xs = [.ref p] ∧ (SqL K H p ys ∨ SqT K H p ys) ∧ ∀ l, H l = none → Q (.ref l) (upd H l (.lst ys))
theorem of_rd {K : Frg} {s : CI} {σ : L2.St} {H : Hp} {Q : VK} (h : rdL K W c (.of s) σ H Q) : tCB (rLstOf K) (tCons (rdQ K W c s) tNil) σ H Q := by
  obtain ⟨ι, ρ, hp, hs, hh, po⟩ := h
  refine ⟨ι, ρ, hp, hs, hh, po.later.mono fun x ι1 H1 s1 p1 h1 v hv => ?_⟩
  obtain ⟨a, ws, rfl, hq, z⟩ := hv
  refine ⟨a, ws, rfl, hq.imp id TupH.sq, fun l hl => ?_⟩
  have s2 := h1.fresh0 hl (ho := .lst ws)
  exact p1 ι1 _ s2 (h1.laid0 hl) l ws (s1.was h1 hl) (h1.notin hl) upd_same (h1.reps s2 _ _ z)
theorem ext_rd {K : Frg} {l : CE} {a : CL} {σ : L2.St} {H : Hp} {Q : VK} (h : rdE K W c (.ext l a) σ H Q) : tBM K "list" rExtend (rdE K W c l) (tCons (rdL K W c a) tNil) σ H Q := by
  obtain ⟨ι, ρ, hp, hs, hh, po⟩ := h
  refine ⟨ι, ρ, hp, hs, hh, po.bind.mono fun x ι1 H1 s1 p1 v h1 r1 => ?_⟩
  obtain ⟨hl, p1⟩ := Po.chk p1
  obtain ⟨n, b, xs, vs, ex, rfl, hn, ha, q, z⟩ := isLst_ok h1 r1 hl
  refine ⟨.inl ⟨rfl, vs, .of q⟩, ι1, ρ, x.2, hh.srep s1 hs, h1, p1.bind.mono fun y ι2 H2 s2 p2 h2 d us nd ni hd r2 => ?_⟩
  rw [ex] at p2
  cases hn2 : y.2[n]? with
  | none => simp only [extV, hn2] at p2; exact p2.elim
  | some o =>
    cases o with
    | lst ys =>
      simp only [extV, hn2] at p2
      obtain ⟨hlim, p2⟩ := Po.chk p2
      have ha2 : ι2[n]? = some b := by
        obtain ⟨κ, e⟩ := s2.pre
        rw [e, List.getElem?_append_left (List.getElem?_eq_some_iff.mp ha).1]
        exact ha
      obtain ⟨ws, q2, z2⟩ := h2.lst hn2 ha2
      have st : Step ι2 H2 ι2 (upd H2 b (.lst (ws ++ us))) := Step.write (List.mem_of_getElem? ha2)
      refine ⟨b, d, ws, us, rfl, rfl, q2, hd, by rw [lim_eq, ← z2.length, ← r2.length]; exact of_decide_eq_true hlim, ?_⟩
      exact p2 ι2 _ st _ (h2.write ha2 ⟨_, upd_same, (h2.reps st _ _ z2).append (h2.reps st _ _ r2)⟩) rfl
    | dct kvs => simp only [extV, hn2] at p2; exact p2.elim
    | dtt kvs => simp only [extV, hn2] at p2; exact p2.elim
theorem disp_rd {K : Frg} {es : CEs} {σ : L2.St} {H : Hp} {Q : VK} (h : rdL K W c (.disp es) σ H Q) : tLst (rdA K W c es) σ H Q := by
  obtain ⟨ι, ρ, hp, hs, hh, po⟩ := h
  refine ⟨ι, ρ, hp, hs, hh, po.bind.mono fun y ι1 H1 s1 p1 vs h1 r1 => ?_⟩
  obtain ⟨hl, p1⟩ := Po.chk p1
  refine ⟨by rw [lim_eq, ← r1.length]; exact of_decide_eq_true hl, fun p hn => ?_⟩
  have s2 := h1.fresh0 hn (ho := .lst vs)
  exact p1 ι1 _ s2 (h1.laid0 hn) p vs (s1.was h1 hn) (h1.notin hn) upd_same (h1.reps s2 _ _ r1)
theorem rep_rd {K : Frg} {es : CEs} {n : CE} {σ : L2.St} {H : Hp} {Q : VK} (h : rdL K W c (.rep es n) σ H Q) : tOp rRep (tLst (rdA K W c es)) (rdE K W c n) σ H Q := by
  obtain ⟨ι, ρ, hp, hs, hh, po⟩ := h
  refine ⟨ι, ρ, hp, hs, hh, po.bind.mono fun y ι1 H1 s1 p1 vs h1 r1 => ?_⟩
  obtain ⟨hl, p1⟩ := Po.chk p1
  refine ⟨by rw [lim_eq, ← r1.length]; exact of_decide_eq_true hl, fun p hn => ?_⟩
  have s2 := h1.fresh0 hn (ho := .lst vs)
  have h2 := h1.laid0 hn (ho := .lst vs)
  refine ⟨ι1, ρ, y.2, h1.srep s2 (hh.srep s1 hs), h2, (Po.at p1 s2).bind.mono fun z ι3 H3 s3 p3 u h3 r3 => ?_⟩
  cases hz : z.1 with
  | int k =>
    rw [hz] at p3 r3
    obtain ⟨hk, p3⟩ := Po.chk p3
    obtain ⟨k1, k2⟩ := tt hk
    obtain ⟨k0, k1⟩ := tt k1
    have k0 := of_decide_eq_true k0
    have k1 := of_decide_eq_true k1
    have k2 := of_decide_eq_true k2
    have r3' := h1.reps (s2.trans s3) _ _ r1
    refine ⟨p, k, vs, rfl, r3, s3.kp p _ upd_same (h1.notin hn), by omega, by omega, by rw [lim_eq, ← r1.length]; exact k2, fun q hq => ?_⟩
    have s4 := h3.fresh0 hq (ho := .lst (List.replicate k.toNat vs).flatten)
    exact p3 ι3 _ s4 (h3.laid0 hq) q _ ((s1.trans (s2.trans s3)).was h3 hq) (h3.notin hq) upd_same (h3.reps s4 _ _ (r3'.rep k.toNat))
  | _ => rw [hz] at p3; exact p3.elim
theorem Po.eqn {α : Type} {W : Wish} {ι : List Addr} {H : Hp} {r : R α} {S : α → List Addr → Hp → Prop} (p : Po W ι H r S) : Po W ι H r fun a ι' H' => r = .ok a ∧ S a ι' H' := by
  cases r with
  | ok a => exact fun ι' H' s => ⟨rfl, p ι' H' s⟩
  | exc a b d => exact p
  | no => exact p
theorem inL_bl {n : Bool} {x : D} {ds : List D} {h : Heap} {r : D × Heap} (e : inL n x ds h = .ok r) : ∃ k, r.1 = .bl k := by
  unfold inL at e
  split at e
  · cases e
    exact ⟨_, rfl⟩
  · cases hk : (D.deeps DEEP ds && x.deep DEEP) <;> (rw [hk] at e; first | (cases e; exact ⟨_, rfl⟩) | cases e)
theorem inB_bl {n : Bool} {x y : D} {h : Heap} {r : D × Heap} (e : inB n x y h = .ok r) : ∃ k, r.1 = .bl k := by
  unfold inB at e
  split at e
  · exact inL_bl e
  · cases hk : (Tw.scal x && (_ : List D).all Tw.scal) <;> (rw [hk] at e; first | (cases e; exact ⟨_, rfl⟩) | cases e)
  · exact inL_bl e
  · split at e
    · exact inL_bl e
    · cases hk : keyOf x <;> (rw [hk] at e; first | (cases e; exact ⟨_, rfl⟩) | cases e)
    · cases hk : keyT x <;> (rw [hk] at e; first | (cases e; exact ⟨_, rfl⟩) | cases e)
    · cases e
  · cases e
theorem opC_bl {o : COp} {x y : D} {h : Heap} {r : D × Heap} (e : opC o x y h = .ok r) : ∃ k, r.1 = .bl k := by
  cases o <;> simp only [opC] at e
  case isin => exact inB_bl e
  case notin => exact inB_bl e
  case eq => cases hk : eqs x y <;> (rw [hk] at e; first | (cases e; exact ⟨_, rfl⟩) | cases e)
  case ne => cases hk : eqs x y <;> (rw [hk] at e; first | (cases e; exact ⟨_, rfl⟩) | cases e)
  all_goals (split at e <;> first | (cases e; exact ⟨_, rfl⟩) | cases e)
theorem cmp_bl {o : COp} {a b : CE} {ρ : Env} {hp : Heap} {x : D × Heap} (e : ev c (.cmp o a b) ρ hp = .ok x) : ∃ k, x.1 = .bl k := by
  simp only [ev] at e
  obtain ⟨_, _, e⟩ := bind_ok e
  obtain ⟨_, _, e⟩ := bind_ok e
  exact opC_bl e
theorem chain_bl {o1 o2 : COp} {a b d : CE} {ρ : Env} {hp : Heap} {x : D × Heap} (e : ev c (.chain o1 o2 a b d) ρ hp = .ok x) : ∃ k, x.1 = .bl k := by
  simp only [ev] at e
  obtain ⟨_, _, e⟩ := bind_ok e
  obtain ⟨_, _, e⟩ := bind_ok e
  obtain ⟨_, _, e⟩ := bind_ok e
  split at e
  · cases e; exact ⟨_, rfl⟩
  · obtain ⟨_, _, e⟩ := bind_ok e
    exact opC_bl e
  · cases e
/-- a test of what is a bool -/
theorem bl_rd {K : Frg} {e : CE} {σ : L2.St} {H : Hp} {Q : Bool → Hp → Prop} (hb : ∀ ρ hp x, ev c e ρ hp = .ok x → ∃ k, x.1 = .bl k) (h : rdB K W c (.val e) σ H Q) : rdE K W c e σ H fun x H' => ∃ k, x = .bl k ∧ Q k H' := by
  obtain ⟨ι, ρ, hp, hs, hh, po⟩ := h
  refine ⟨ι, ρ, hp, hs, hh, (Po.eqn po.bind).mono fun x ι1 H1 s1 ⟨e, p1⟩ v h1 r1 => ?_⟩
  obtain ⟨k, ek⟩ := hb _ _ _ e
  rw [ek] at p1 r1
  exact ⟨k, r1, p1 ι1 H1 .refl h1⟩
theorem tst_cmp {K : Frg} {o : COp} {a b : CE} {σ : L2.St} {H : Hp} {Q : Bool → Hp → Prop} (h : rdB K W c (.val (.cmp o a b)) σ H Q) : tTest (tOp (rOp K (opC o)) (rdE K W c a) (rdE K W c b)) σ H Q := by
  obtain ⟨ι, ρ, hp, hs, hh, po⟩ := bl_rd (fun _ _ _ e => cmp_bl e) h
  exact rdE_op hs hh po
theorem tst_chain {K : Frg} {o1 o2 : COp} {a b d : CE} {σ : L2.St} {H : Hp} {Q : Bool → Hp → Prop} (h : rdB K W c (.val (.chain o1 o2 a b d)) σ H Q) : tTest (tChain (rOp K (opC o1)) (rOp K (opC o2)) (rdE K W c a) (rdE K W c b) (rdE K W c d)) σ H Q :=
  chain_rd (bl_rd (fun _ _ _ e => chain_bl e) h)
def _root_.Tw.CTs.len : CTs → Nat
  | .nil => 0
  | .cons _ ts => ts.len + 1
theorem asgs_len : ∀ {ts : CTs} {ds : List D} {ρ : Env} {hp : Heap} {r : Env × Heap}, asgs c ts ds ρ hp = .ok r → ds.length = ts.len
  | .nil, ds, ρ, hp, r, e => by
    cases ds with
    | nil => rfl
    | cons _ _ => cases e
  | .cons t ts, ds, ρ, hp, r, e => by
    cases ds with
    | nil => cases e
    | cons d ds =>
      simp only [asgs] at e
      obtain ⟨s, _, e⟩ := bind_ok e
      rw [List.length_cons, asgs_len e]
      rfl
theorem sub_asg {X : Cx} {o i : Expr} {pos : Pos} (h : plainE i = true) : ∀ v, assign (.Subscript o i pos) X.env v = (do
      let ov ← holding [v] (eval o X.env)
      let iv ← holding [v, ov] (eval i X.env)
      standAt pos
      holding [v, ov, iv] (setItem ov iv v)
      release [v, ov, iv] []) := by
  intro v
  cases i <;> first | rfl | cases h
theorem blk_kind {N : List Str} {sc scope : Scope} {own : List (Str × Nat)} (h : blkC N sc scope own = true) : scope.kind = .function := (blkOk_by h).kind
theorem pw_of {X : Cx} {op : BoolOp} {es : List Expr} {pos : Pos} {t : TT} (h : PT X (.BoolOp op es pos) t) : PW X (.BoolOp op es pos) t :=
  ⟨fun whole pins s σ H Q I q => h.run pins s σ H Q I q⟩
end
end Tw
end

section
set_option Elab.async false
set_option linter.all false
set_option maxRecDepth 100000
set_option maxHeartbeats 400000
/-! sorted, reversed, range with a step, index: what the readings ask. Own work. -/
namespace Tw
open PySem PySem.Spec PyProof.Rows L2 RT
section
variable {c : Ctx} {W : WS}
theorem toPs_get : ∀ (ds : List D) (j : Nat), (toPs ds)[j]? = ds[j]?.map toP
  | [], j => by simp [toPs]
  | d :: ds, 0 => by simp [toPs]
  | d :: ds, j + 1 => by simp only [toPs, List.getElem?_cons_succ]; exact toPs_get ds j
theorem deeps_at : ∀ (k : Nat) (ds : List D) (j : Nat) (d : D), D.deeps k ds = true → ds[j]? = some d → d.deep k = true
  | k, [], j, d, _, h => by cases j <;> cases h
  | k, x :: ds, 0, d, h, e => by
    cases e
    exact (Bool.and_eq_true_iff.mp (show (D.deep k x && D.deeps k ds) = true from h)).1
  | k, x :: ds, j + 1, d, h, e => deeps_at k ds j d (Bool.and_eq_true_iff.mp (show (D.deep k x && D.deeps k ds) = true from h)).2 e
theorem index_rd {K : Frg} {l a : CE} {σ : L2.St} {H : Hp} {Q : VK} (h : rdE K W c (.index l a) σ H Q) : tBM K "list" (rIndexD K) (rdE K W c l) (tCons (rdE K W c a) tNil) σ H Q := by
  obtain ⟨ι, ρ, hp, hs, hh, po⟩ := h
  refine ⟨ι, ρ, hp, hs, hh, po.bind.mono fun x ι1 H1 s1 p1 v h1 r1 => ?_⟩
  obtain ⟨hl, p1⟩ := Po.chk p1
  obtain ⟨n, b, xs, vs, ex, rfl, hn, ha, q, z⟩ := isLst_ok h1 r1 hl
  refine ⟨.inl ⟨rfl, vs, .of q⟩, ι1, ρ, x.2, hh.srep s1 hs, h1, p1.bind.mono fun y ι2 H2 s2 p2 u h2 r2 => ?_⟩
  rw [ex] at p2
  cases hn2 : y.2[n]? with
  | none => simp only [indexV, hn2] at p2; exact p2.elim
  | some o =>
    cases o with
    | lst ys =>
      simp only [indexV, hn2] at p2
      obtain ⟨hd, p2⟩ := Po.chk p2
      obtain ⟨j, hj, p2⟩ := Po.ofO p2
      obtain ⟨g1, g2⟩ := Bool.and_eq_true_iff.mp hd
      have ha2 : ι2[n]? = some b := by
        obtain ⟨κ, e⟩ := s2.pre
        rw [e, List.getElem?_append_left (List.getElem?_eq_some_iff.mp ha).1]
        exact ha
      obtain ⟨ws, q2, z2⟩ := h2.lst hn2 ha2
      obtain ⟨d1, d2, d3, d4, _⟩ := in_deep r2 (.of q2) z2 g1 g2
      obtain ⟨hlt, hz, hno⟩ := List.findIdx?_eq_some_iff_getElem.mp hj
      have hg := List.getElem?_eq_getElem hlt
      refine ⟨b, u, toP y.1, toPs ys, j, toP ys[j], rfl, rfl, d2, d1, d4, d3, by rw [toPs_get, hg]; rfl, ?_, ?_, PoE.now p2 h2 rfl⟩
      · rw [eqd_ok _ _ _ _ (deeps_at _ _ _ _ g1 hg) g2]
        exact hz
      · intro m z' hm hz'
        have hml : m < ys.length := by omega
        rw [toPs_get, List.getElem?_eq_getElem hml] at hz'
        cases hz'
        rw [eqd_ok _ _ _ _ (deeps_at _ _ _ _ g1 (List.getElem?_eq_getElem hml)) g2]
        exact Bool.eq_false_iff.mpr (hno m hm)
    | dct kvs => simp only [indexV, hn2] at p2; exact p2.elim
    | dtt kvs => simp only [indexV, hn2] at p2; exact p2.elim
theorem srt_rd {K : Frg} {l : CL} {σ : L2.St} {H : Hp} {Q : VK} (h : rdL K W c (.srt l) σ H Q) : tCB (rSrtD K) (tCons (rdL K W c l) tNil) σ H Q := by
  obtain ⟨ι, ρ, hp, hs, hh, po⟩ := h
  refine ⟨ι, ρ, hp, hs, hh, po.bind.mono fun x ι1 H1 s1 p1 h1 a vs na ni ha r => ?_⟩
  obtain ⟨es, he, p1⟩ := Po.ofO p1
  refine ⟨a, vs, ι1, x.1, es, rfl, .of ha, r, he, fun l us hl hus => ?_⟩
  have s2 := h1.fresh0 hl (ho := .lst us)
  exact p1 ι1 _ s2 (h1.laid0 hl) l us (s1.was h1 hl) (h1.notin hl) upd_same (hus _ (upd_keeps hl))
theorem lstOf_ok {K : Frg} {H : Hp} {ι : List Addr} {hp : Heap} {d : D} {v : V} {xs : List D} (hh : HpRep K H ι hp) (r : Rep K H ι d v) (e : lstOf d hp = some xs) : ∃ a ws, v = .ref a ∧ SqL K H a ws ∧ Reps K H ι xs ws := by
  cases d with
  | seq ds =>
    obtain ⟨a, ws, rfl, q, z⟩ := r
    cases e
    exact ⟨a, ws, rfl, q.sq, z⟩
  | ref n =>
    obtain ⟨a, rfl, ha⟩ := r
    unfold lstOf at e
    cases hn : hp[n]? with
    | none => simp only [hn] at e; cases e
    | some o =>
      cases o with
      | lst ys =>
        simp only [hn] at e
        cases e
        obtain ⟨ws, q, z⟩ := hh.lst hn ha
        exact ⟨a, ws, rfl, .of q, z⟩
      | dct kvs => simp only [hn] at e; cases e
      | dtt kvs => simp only [hn] at e; cases e
  | _ => cases e
theorem srtE_rd {K : Frg} {e : CE} {σ : L2.St} {H : Hp} {Q : VK} (h : rdL K W c (.srtE e) σ H Q) : tCB (rSrtD K) (tCons (rdE K W c e) tNil) σ H Q := by
  obtain ⟨ι, ρ, hp, hs, hh, po⟩ := h
  refine ⟨ι, ρ, hp, hs, hh, po.bind.mono fun x ι1 H1 s1 p1 v h1 r1 => ?_⟩
  obtain ⟨xs, hx, p1⟩ := Po.ofO p1
  obtain ⟨es, he, p1⟩ := Po.ofO p1
  obtain ⟨a, ws, rfl, hq, z⟩ := lstOf_ok h1 r1 hx
  refine ⟨a, ws, ι1, xs, es, rfl, hq, z, he, fun l us hl hus => ?_⟩
  have s2 := h1.fresh0 hl (ho := .lst us)
  exact p1 ι1 _ s2 (h1.laid0 hl) l us (s1.was h1 hl) (h1.notin hl) upd_same (hus _ (upd_keeps hl))
theorem seq_guards {d : D} {h : Heap} {w : Walk} (e : seqOf d h = some w) : guards w.2 h = true := by
  unfold seqOf at e
  cases d with
  | ref n =>
    simp only at e
    cases hn : h[n]? with
    | none => simp only [hn] at e; cases e
    | some o =>
      cases o with
      | lst xs =>
        simp only [hn] at e
        cases e
        simp [guards, hn]
      | dct kvs => simp only [hn] at e; cases e
      | dtt kvs => simp only [hn] at e; cases e
  | tup ds => cases e; rfl
  | seq ds => cases e; rfl
  | ctp ds => cases e; rfl
  | _ => cases e
theorem wk_rev {K : Frg} {a : Addr} {g : List (Nat × O)} {xs : List D} {n : Nat} {ι : List Addr} {H : Hp} (hn : n = xs.length) (h : ∀ ι' H' hp', Step ι H ι' H' → HpRep K H' ι' hp' → guards g hp' = true → ∃ vs, SqL K H' a vs ∧ Reps K H' ι' xs vs) : Wk K (Itv K a n) g xs.reverse ι H := by
  subst hn
  refine ⟨fun ι' H' hp' s h' g' i d e => ?_, fun ι' H' hp' s h' g' => by show xs.length ≤ xs.reverse.length; simp⟩
  obtain ⟨vs, q, z⟩ := h ι' H' hp' s h' g'
  have hi : i < xs.length := by
    have := (List.getElem?_eq_some_iff.mp e).1
    simpa using this
  rw [List.getElem?_reverse hi] at e
  obtain ⟨v, hv, rv⟩ := z.get e
  refine ⟨⟨hi, vs, v, q, hv⟩, fun x H2 y => ?_⟩
  obtain ⟨rfl, y⟩ := y
  have ex : x = v := Option.some.inj ((y vs q).symm.trans hv)
  subst ex
  exact ⟨.refl, h', rv⟩
theorem wk_revT {K : Frg} {a : Addr} {g : List (Nat × O)} {xs : List D} {n : Nat} {ι : List Addr} {H : Hp} (hn : n = xs.length) (h : ∀ ι' H' hp', Step ι H ι' H' → HpRep K H' ι' hp' → guards g hp' = true → ∃ vs, SqT K H' a vs ∧ Reps K H' ι' xs vs) : Wk K (ItvT K a n) g xs.reverse ι H := by
  subst hn
  refine ⟨fun ι' H' hp' s h' g' i d e => ?_, fun ι' H' hp' s h' g' => by show xs.length ≤ xs.reverse.length; simp⟩
  obtain ⟨vs, q, z⟩ := h ι' H' hp' s h' g'
  have hi : i < xs.length := by
    have := (List.getElem?_eq_some_iff.mp e).1
    simpa using this
  rw [List.getElem?_reverse hi] at e
  obtain ⟨v, hv, rv⟩ := z.get e
  refine ⟨⟨hi, vs, v, q, hv⟩, fun x H2 y => ?_⟩
  obtain ⟨rfl, y⟩ := y
  have ex : x = v := Option.some.inj ((y vs q).symm.trans hv)
  subst ex
  exact ⟨.refl, h', rv⟩
theorem rev_rd {K : Frg} {e : CE} {σ : L2.St} {H : Hp} {R : It → Hp → Prop} (h : rdI K W c (.rev e) σ H R) : iRevA K (rdE K W c e) σ H R := by
  obtain ⟨ι, ρ, hp, hs, hh, po⟩ := h
  refine ⟨ι, ρ, hp, hs, hh, po.bind.mono fun x ι1 H1 s1 p1 v h1 r1 => ?_⟩
  obtain ⟨wk, e, p1⟩ := Po.ofO p1
  have hg := seq_guards e
  rcases seq_wk h1 r1 e with ⟨a, rfl, _, _, k⟩ | ⟨a, rfl, _, _, k⟩
  · obtain ⟨vs, q, z⟩ := k ι1 H1 x.2 .refl h1 hg
    exact ⟨a, vs, rfl, .inl ⟨q, p1 ι1 H1 .refl h1 _ (wk_rev z.length.symm k)⟩⟩
  · obtain ⟨vs, q, z⟩ := k ι1 H1 x.2 .refl h1 hg
    exact ⟨a, vs, rfl, .inr ⟨q, p1 ι1 H1 .refl h1 _ (wk_revT z.length.symm k)⟩⟩
theorem rgC_ok {i j k : Int} (h : (r3Ok i && r3Ok j && r3Ok k && decide (k ≠ 0)) = true) : RgC i j k (cntR i j k) := by
  unfold r3Ok at h
  simp only [Bool.and_eq_true, decide_eq_true_eq] at h
  obtain ⟨⟨⟨⟨i0, i1⟩, j0, j1⟩, k0, k1⟩, kn⟩ := h
  have hsz : Builtin.Range.rangeSize i j k = (cntR i j k : Nat) ∧ (cntR i j k : Int) ≤ 4000000 := by
    unfold Builtin.Range.rangeSize cntR
    by_cases hk : 0 < k
    · simp only [gt_iff_lt, hk, if_true]
      by_cases hij : i < j
      · simp only [hij, if_true]
        have h1 : 0 ≤ (j - i - 1) / k := Int.ediv_nonneg (by omega) (by omega)
        have h2 : (j - i - 1) / k ≤ j - i - 1 := Int.ediv_le_self _ (by omega)
        generalize (j - i - 1) / k = z at h1 h2
        omega
      · simp only [hij, if_false]
        omega
    · simp only [gt_iff_lt, hk, if_false]
      by_cases hij : j < i
      · simp only [hij, if_true]
        have h1 : 0 ≤ (i - j - 1) / -k := Int.ediv_nonneg (by omega) (by omega)
        have h2 : (i - j - 1) / -k ≤ i - j - 1 := Int.ediv_le_self _ (by omega)
        generalize (i - j - 1) / -k = z at h1 h2
        omega
      · simp only [hij, if_false]
        omega
  refine ⟨kn, by omega, ?_, hsz.1⟩
  unfold Builtin.Range.small
  rw [hsz.1]
  unfold Builtin.Range.rangeFitsLong
  simp only [Bool.and_eq_true, Bool.or_eq_true, decide_eq_true_eq]
  refine ⟨⟨⟨⟨⟨by omega, by omega⟩, by omega, by omega⟩, by omega, by omega⟩, by omega, by omega⟩, .inr ?_⟩
  split <;> simp only [Bool.and_eq_true, decide_eq_true_eq] <;> omega
theorem wk_rngS {K : Frg} {i k : Int} {n : Nat} {ι : List Addr} {H : Hp} : Wk K (Itc i k n) [] (rngS i k n) ι H := by
  refine ⟨fun ι' H' hp' s h' g' m d e => ?_, fun ι' H' hp' s h' g' => by show n ≤ (rngS i k n).length; simp [rngS]⟩
  unfold rngS at e
  rw [List.getElem?_map] at e
  have hm : m < n := by
    rcases Nat.lt_or_ge m n with z | z
    · exact z
    · rw [List.getElem?_eq_none (by simpa using z)] at e
      cases e
  rw [List.getElem?_range hm] at e
  cases e
  refine ⟨hm, fun x H2 y => ?_⟩
  obtain ⟨rfl, rfl⟩ := y
  exact ⟨.refl, h', rfl⟩
end
end Tw
end

section
set_option Elab.async false
set_option linter.all false
set_option maxRecDepth 100000
set_option maxHeartbeats 1000000
/-! Reckoning with the core language: loops, rows, heaps. Own work. -/
namespace Tw
open PySem (Str)

/-! ### loops -/
theorem whL_run {c : Env → Heap → R (Bool × Heap)} {f : Env → Heap → R St} (Inv : Nat → Env → Heap → Prop) (Q : Env → Heap → Prop)
    (step : ∀ m ρ h, Inv m ρ h → (c ρ h = .ok (false, h) ∧ Q ρ h) ∨ (c ρ h = .ok (true, h) ∧ ∃ m' ρ' h', m' < m ∧ f ρ h = .ok (.nx, ρ', h') ∧ Inv m' ρ' h')) :
    ∀ n m ρ h, Inv m ρ h → m < n → ∃ ρ' h', whL c f n ρ h = .ok (.nx, ρ', h') ∧ Q ρ' h'
  | 0, m, ρ, h, _, hm => absurd hm (Nat.not_lt_zero _)
  | n + 1, m, ρ, h, hi, hm => by
    rcases step m ρ h hi with ⟨e, q⟩ | ⟨e, m', ρ', h', hl, ef, hi'⟩
    · exact ⟨ρ, h, by simp only [whL, e, lift], q⟩
    · obtain ⟨ρ2, h2, e2, q2⟩ := whL_run Inv Q step n m' ρ' h' hi' (by omega)
      exact ⟨ρ2, h2, by simp only [whL, e, lift, R.bind, ef, e2], q2⟩
theorem forL_run {g : List (Nat × O)} {f : D → Env → Heap → R St} (Inv : Nat → Env → Heap → Prop) : ∀ (xs : List D) (k : Nat) (ρ : Env) (h : Heap),
    (∀ i ρ h, k ≤ i → i ≤ k + xs.length → Inv i ρ h → guards g h = true) →
    (∀ (i : Nat) (x : D) ρ h, xs[i]? = some x → Inv (k + i) ρ h → ∃ ρ' h', f x ρ h = .ok (.nx, ρ', h') ∧ Inv (k + i + 1) ρ' h') →
    Inv k ρ h → ∃ ρ' h', forL g f xs ρ h = .ok (.nx, ρ', h') ∧ Inv (k + xs.length) ρ' h'
  | [], k, ρ, h, hg, _, hi => ⟨ρ, h, by simp only [forL, hg k ρ h (Nat.le_refl _) (Nat.le_refl _) hi, chk], hi⟩
  | x :: xs, k, ρ, h, hg, hf, hi => by
    obtain ⟨ρ1, h1, e1, i1⟩ := hf 0 x ρ h rfl hi
    obtain ⟨ρ2, h2, e2, i2⟩ := forL_run Inv xs (k + 1) ρ1 h1 (fun i ρ h a b => hg i ρ h (by omega) (by simp only [List.length_cons]; omega)) (fun i y ρ h e q => by
      have z := hf (i + 1) y ρ h (by simpa using e) (by rw [show k + (i + 1) = k + 1 + i by omega]; exact q)
      rw [show k + (i + 1) + 1 = k + 1 + i + 1 by omega] at z
      exact z) i1
    refine ⟨ρ2, h2, ?_, by rw [List.length_cons, show k + (xs.length + 1) = k + 1 + xs.length by omega]; exact i2⟩
    simp only [forL, hg k ρ h (Nat.le_refl _) (Nat.le_add_right _ _) hi, chk, e1, R.bind, e2]
theorem rngD_len : ∀ (n : Nat) (lo : Int), (rngD lo n).length = n
  | 0, _ => rfl
  | n + 1, lo => by simp [rngD, rngD_len n]
theorem rngD_get : ∀ {n : Nat} {lo : Int} {i : Nat} {d : D}, (rngD lo n)[i]? = some d → i < n ∧ d = .int (lo + i)
  | 0, _, _, _, h => by simp [rngD] at h
  | n + 1, lo, 0, d, h => by
    simp [rngD] at h
    exact ⟨Nat.succ_pos _, by rw [← h]; simp⟩
  | n + 1, lo, i + 1, d, h => by
    simp only [rngD, List.getElem?_cons_succ] at h
    obtain ⟨h1, h2⟩ := rngD_get h
    refine ⟨by omega, ?_⟩
    rw [h2]
    congr 1
    omega
/-- for k in range(n) -/
theorem for_rng {f : D → Env → Heap → R St} (n : Nat) (Inv : Nat → Env → Heap → Prop) {ρ : Env} {h : Heap} (h0 : Inv 0 ρ h)
    (hf : ∀ (i : Nat) ρ h, i < n → Inv i ρ h → ∃ ρ' h', f (.int i) ρ h = .ok (.nx, ρ', h') ∧ Inv (i + 1) ρ' h') :
    ∃ ρ' h', forL [] f (rngD 0 n) ρ h = .ok (.nx, ρ', h') ∧ Inv n ρ' h' := by
  obtain ⟨ρ', h', e, q⟩ := forL_run (g := []) (f := f) Inv (rngD 0 n) 0 ρ h (fun _ _ _ _ _ _ => rfl) (fun i x ρ h e q => by
    obtain ⟨h1, rfl⟩ := rngD_get e
    rw [Nat.zero_add] at q ⊢
    have z := hf i ρ h h1 q
    rwa [Int.zero_add]) h0
  rw [rngD_len, Nat.zero_add] at q
  exact ⟨ρ', h', e, q⟩
/-- for x in items -/
theorem for_items {f : D → Env → Heap → R St} (xs : List D) (Inv : Nat → Env → Heap → Prop) {ρ : Env} {h : Heap} (h0 : Inv 0 ρ h)
    (hf : ∀ (i : Nat) (x : D) ρ h, xs[i]? = some x → Inv i ρ h → ∃ ρ' h', f x ρ h = .ok (.nx, ρ', h') ∧ Inv (i + 1) ρ' h') :
    ∃ ρ' h', forL [] f xs ρ h = .ok (.nx, ρ', h') ∧ Inv xs.length ρ' h' := by
  obtain ⟨ρ', h', e, q⟩ := forL_run (g := []) (f := f) Inv xs 0 ρ h (fun _ _ _ _ _ _ => rfl) (fun i x ρ h e q => by
    rw [Nat.zero_add] at q ⊢
    exact hf i x ρ h e q) h0
  rw [Nat.zero_add] at q
  exact ⟨ρ', h', e, q⟩
/-! ### comprehensions -/
theorem mapL_all {β : Type} {f : D → Heap → R (Option β × Heap)} (G : Nat → β) {h : Heap} : ∀ (xs : List D) (k : Nat), (∀ (i : Nat) (x : D), xs[i]? = some x → f x h = .ok (some (G (k + i)), h)) →
    mapL [] f xs h = .ok ((List.range xs.length).map fun i => G (k + i), h)
  | [], k, _ => rfl
  | x :: xs, k, hf => by
    have e := mapL_all G xs (k + 1) (fun i y hy => by
      have z := hf (i + 1) y (by simpa using hy)
      rwa [show k + (i + 1) = k + 1 + i by omega] at z)
    have e0 := hf 0 x rfl
    rw [Nat.add_zero] at e0
    simp only [mapL, guards, List.all_nil, chk, e0, R.nox, R.bind, e]
    rw [List.length_cons, List.range_succ_eq_map, List.map_cons, List.map_map]
    congr 3
    apply List.map_congr_left
    intro i _
    show G (k + 1 + i) = G (k + (i + 1))
    rw [show k + (i + 1) = k + 1 + i by omega]
/-- [e for k in range(n)] -/
theorem lc_rng {β : Type} {f : D → Heap → R (Option β × Heap)} (n : Nat) (G : Nat → β) {h : Heap} (hf : ∀ i, i < n → f (.int (i : Nat)) h = .ok (some (G i), h)) :
    mapL [] f (rngD 0 n) h = .ok ((List.range n).map G, h) := by
  have e := mapL_all (f := f) G (h := h) (rngD 0 n) 0 (fun i x hx => by
    obtain ⟨h1, rfl⟩ := rngD_get hx
    rw [Nat.zero_add, Int.zero_add]
    exact hf i h1)
  rw [rngD_len] at e
  simpa using e
theorem lc_items {β : Type} {f : D → Heap → R (Option β × Heap)} (xs : List D) (G : Nat → β) {h : Heap} (hf : ∀ (i : Nat) (x : D), xs[i]? = some x → f x h = .ok (some (G i), h)) :
    mapL [] f xs h = .ok ((List.range xs.length).map G, h) := by
  have e := mapL_all (f := f) G (h := h) xs 0 (fun i x hx => by
    rw [Nat.zero_add]
    exact hf i x hx)
  simpa using e

/-! ### rows -/
/-- the intz f 0 .. f (n - 1) -/
def intz (n : Nat) (f : Nat → Int) : List D := (List.range n).map fun i => .int (f i)
abbrev row (n : Nat) (f : Nat → Int) : D := .tup (intz n f)
theorem ints_len (n : Nat) (f : Nat → Int) : (intz n f).length = n := by simp [intz]
theorem ints_get {n : Nat} {f : Nat → Int} {i : Nat} (h : i < n) : (intz n f)[i]? = some (.int (f i)) := by simp [intz, h]
theorem ints_nth {n : Nat} {f : Nat → Int} {i : Int} (h0 : 0 ≤ i) (h : i < n) : nth (intz n f) i = some (.int (f i.toNat)) := by
  unfold nth
  rw [if_pos h0]
  exact ints_get (by omega)
theorem ints_at {n : Nat} {f : Nat → Int} {i : Nat} (h : i < n) : nth (intz n f) (i : Int) = some (.int (f i)) := by
  rw [ints_nth (by omega) (by omega)]
  simp
theorem ints_neg {n : Nat} {f : Nat → Int} {i : Int} (h0 : i < 0) (h : -(n : Int) ≤ i) : nth (intz n f) i = some (.int (f (i + n).toNat)) := by
  unfold nth
  rw [if_neg (by omega), ints_len, if_pos h]
  exact ints_get (by omega)
theorem ints_some {n : Nat} {f : Nat → Int} {i : Nat} {d : D} (h : (intz n f)[i]? = some d) : i < n ∧ d = .int (f i) := by
  unfold intz at h
  rw [List.getElem?_map] at h
  by_cases hi : i < n
  · simp [hi] at h
    exact ⟨hi, h.symm⟩
  · simp [hi] at h
theorem ints_congr {n : Nat} {f g : Nat → Int} (h : ∀ i, i < n → f i = g i) : intz n f = intz n g := by
  unfold intz
  apply List.map_congr_left
  intro i hi
  rw [h i (List.mem_range.mp hi)]
theorem ints_succ (n : Nat) (f : Nat → Int) : intz (n + 1) f = intz n f ++ [.int (f n)] := by
  unfold intz
  rw [List.range_succ, List.map_append]
  rfl
theorem ints_zero (f : Nat → Int) : intz 0 f = [] := rfl
theorem map_ints (n : Nat) (f : Nat → Int) : (List.range n).map (fun i => D.int (f i)) = intz n f := rfl
theorem intsOf_map (l : List Int) : intsOf (l.map D.int) = some l := by
  induction l with
  | nil => rfl
  | cons a l ih => simp [intsOf, ih]
/-- f 0 + .. + f (n - 1) -/
def sm : Nat → (Nat → Int) → Int
  | 0, _ => 0
  | n + 1, f => sm n f + f n
theorem sum_append (a b : List Int) : (a ++ b).sum = a.sum + b.sum := by
  induction a with
  | nil => simp
  | cons x a ih => rw [List.cons_append, List.sum_cons, List.sum_cons, ih, Int.add_assoc]
theorem ints_sum (n : Nat) (f : Nat → Int) : ∃ l, intsOf (intz n f) = some l ∧ l.sum = sm n f := by
  refine ⟨(List.range n).map f, ?_, ?_⟩
  · rw [show intz n f = ((List.range n).map f).map D.int by rw [List.map_map]; rfl]
    exact intsOf_map _
  · induction n with
    | zero => rfl
    | succ n ih =>
      rw [List.range_succ, List.map_append, sum_append, ih]
      simp [sm]
theorem sum_ints (n : Nat) (f : Nat → Int) (h : Heap) : sqV .sum (intz n f) h = .ok (.int (sm n f), h) := by
  obtain ⟨l, e, s⟩ := ints_sum n f
  simp only [sqV, e, ofO, s]
theorem lows_ints (k n : Nat) (f : Nat → Int) : D.lows k (intz n f) = true := by
  have : ∀ l : List Nat, D.lows k (l.map fun i => D.int (f i)) = true := by
    intro l
    induction l with
    | nil => rfl
    | cons a l ih => simp [D.lows, D.low, ih]
  exact this _
theorem low_row (k n : Nat) (f : Nat → Int) : (row n f).low k = true := lows_ints k n f

/-! ### a call's end -/
theorem tidy_id (h : Heap) (d : D) : tidy h (d, h) = (d, h) := by
  unfold tidy
  split
  · simp
  · rfl
theorem tidy_app (h g : Heap) (d : D) (hd : d.low h.length = true) : tidy h (d, h ++ g) = (d, h) := by
  unfold tidy
  rw [if_pos ⟨hd, by simp, fun i hi => .inl (List.getElem?_append_left hi)⟩]
  simp
theorem tidy_head (a b : O) (t g : Heap) (d : D) (hd : d.low (t.length + 1) = true) (hb : b.low (t.length + 1) = true) : tidy (a :: t) (d, b :: (t ++ g)) = (d, b :: t) := by
  unfold tidy
  rw [if_pos]
  · simp
  · refine ⟨hd, by simp, fun i hi => ?_⟩
    cases i with
    | zero => exact .inr ⟨b, rfl, hb⟩
    | succ i =>
      refine .inl ?_
      simp only [List.length_cons] at hi
      simp only [List.getElem?_cons_succ]
      rw [List.getElem?_append_left (by omega)]
theorem get_app (h l : Heap) (k : Nat) : (h ++ l)[h.length + k]? = l[k]? := by
  rw [List.getElem?_append_right (by omega)]
  congr 1
  omega
theorem get_app0 (h l : Heap) : (h ++ l)[h.length]? = l[0]? := get_app h l 0
theorem set_app (h l : Heap) (k : Nat) (o : O) : (h ++ l).set (h.length + k) o = h ++ l.set k o := by
  have e := List.set_append_right (s := h) (t := l) (h.length + k) o (by omega)
  rw [show h.length + k - h.length = k by omega] at e
  exact e
theorem set_app0 (h l : Heap) (o : O) : (h ++ l).set h.length o = h ++ l.set 0 o := set_app h l 0 o

/-! ### texts -/
theorem str_eq (a b : String) : (Str.ofString a = Str.ofString b) ↔ a = b := by
  constructor
  · intro h
    rw [Str.ofString_eq_toList, Str.ofString_eq_toList] at h
    have h1 : (a.toList.map Char.toNat) = (b.toList.map Char.toNat) := by
      have := congrArg (fun s : Str => s.cps.toList) h
      simpa using this
    have inj : ∀ {l m : List Char}, l.map Char.toNat = m.map Char.toNat → l = m := by
      intro l
      induction l with
      | nil => intro m h; cases m <;> simp at h ⊢
      | cons x l ih =>
        intro m h
        cases m with
        | nil => simp at h
        | cons y m =>
          simp only [List.map_cons, List.cons.injEq] at h
          obtain ⟨h1, h2⟩ := h
          rw [Char.ext (UInt32.toNat_inj.mp h1), ih h2]
    exact String.ext (inj h1)
  · rintro rfl
    rfl
theorem small_of {i : Int} (h1 : -18446744073709551616 < i) (h2 : i < 18446744073709551616) : small i = true := by
  unfold small
  rw [decide_eq_true h1, decide_eq_true h2]
  rfl
theorem foldl_max : ∀ (l : List Int) (x : Int), x ≤ l.foldl (fun a b => if b > a then b else a) x ∧ (∀ y ∈ l, y ≤ l.foldl (fun a b => if b > a then b else a) x) ∧ (l.foldl (fun a b => if b > a then b else a) x = x ∨ l.foldl (fun a b => if b > a then b else a) x ∈ l)
  | [], x => ⟨Int.le_refl _, fun y hy => (by simp at hy), .inl rfl⟩
  | z :: l, x => by
    obtain ⟨h1, h2, h3⟩ := foldl_max l (if z > x then z else x)
    rw [List.foldl_cons]
    have hx : x ≤ if z > x then z else x := by split <;> omega
    have hz : z ≤ if z > x then z else x := by split <;> omega
    refine ⟨by omega, fun y hy => ?_, ?_⟩
    · rcases List.mem_cons.mp hy with rfl | hy
      · omega
      · exact h2 y hy
    · rcases h3 with h3 | h3
      · rw [h3]
        split
        · exact .inr (List.mem_cons_self ..)
        · exact .inl rfl
      · exact .inr (List.mem_cons_of_mem _ h3)
theorem foldl_min : ∀ (l : List Int) (x : Int), l.foldl (fun a b => if b < a then b else a) x ≤ x ∧ (∀ y ∈ l, l.foldl (fun a b => if b < a then b else a) x ≤ y) ∧ (l.foldl (fun a b => if b < a then b else a) x = x ∨ l.foldl (fun a b => if b < a then b else a) x ∈ l)
  | [], x => ⟨Int.le_refl _, fun y hy => (by simp at hy), .inl rfl⟩
  | z :: l, x => by
    obtain ⟨h1, h2, h3⟩ := foldl_min l (if z < x then z else x)
    rw [List.foldl_cons]
    have hx : (if z < x then z else x) ≤ x := by split <;> omega
    have hz : (if z < x then z else x) ≤ z := by split <;> omega
    refine ⟨by omega, fun y hy => ?_, ?_⟩
    · rcases List.mem_cons.mp hy with rfl | hy
      · omega
      · exact h2 y hy
    · rcases h3 with h3 | h3
      · rw [h3]
        split
        · exact .inr (List.mem_cons_self ..)
        · exact .inl rfl
      · exact .inr (List.mem_cons_of_mem _ h3)
theorem maxL_ok {l : List Int} {m : Int} (h : maxL l = some m) : m ∈ l ∧ ∀ y ∈ l, y ≤ m := by
  cases l with
  | nil => cases h
  | cons x l =>
    cases h
    obtain ⟨h1, h2, h3⟩ := foldl_max l x
    refine ⟨?_, fun y hy => ?_⟩
    · rcases h3 with h3 | h3
      · rw [h3]; exact List.mem_cons_self ..
      · exact List.mem_cons_of_mem _ h3
    · rcases List.mem_cons.mp hy with rfl | hy
      · exact h1
      · exact h2 y hy
theorem minL_ok {l : List Int} {m : Int} (h : minL l = some m) : m ∈ l ∧ ∀ y ∈ l, m ≤ y := by
  cases l with
  | nil => cases h
  | cons x l =>
    cases h
    obtain ⟨h1, h2, h3⟩ := foldl_min l x
    refine ⟨?_, fun y hy => ?_⟩
    · rcases h3 with h3 | h3
      · rw [h3]; exact List.mem_cons_self ..
      · exact List.mem_cons_of_mem _ h3
    · rcases List.mem_cons.mp hy with rfl | hy
      · exact h1
      · exact h2 y hy
end Tw
end

section
set_option Elab.async false
set_option linter.all false
set_option maxRecDepth 100000
set_option maxHeartbeats 400000
/-! max, min, all, any of lists; tuple(reversed(..)); d.get(k, x): what the readings ask. Own work. -/
namespace Tw
open PySem PySem.Spec PyProof.Rows L2 RT
def rSqL (K : Frg) (f : List D → Heap → R (D × Heap)) : List V → Hp → VK → Prop := fun vs H Q => ∃ (a : Addr) (ws : List V) (ds : List D) (ι : List Addr), vs = [V.ref a] ∧ SqL K H a ws ∧ Reps K H ι ds ws ∧ ∃ d h, f ds h = .ok (d, h) ∧ (∀ d' h', f ds h = .ok (d', h') → ∀ v, Rep K H ι d' v → Q v H)
theorem minRw_reps {K : Frg} {H : Hp} {ι : List Addr} {ds : List D} {ws : List V} {m : D} (z : Reps K H ι ds ws) (e : minRw ds = some m) : ∃ (ks : List (Addr × List Int)) (r : List Int) (rs : List (List Int)), ws = ks.map (fun p => V.ref p.1) ∧ (∀ p ∈ ks, TupH H p.1 (p.2.map V.int)) ∧ ks.map (·.2) = r :: rs ∧
    ∀ p ∈ ks, p.2 = rs.foldl (fun a y => if ltR y a = true then y else a) r → rowD p.2 = m := by
  unfold minRw at e
  cases hr : rowsI ds with
  | none => rw [hr] at e; cases e
  | some rs =>
    rw [hr] at e
    cases rs with
    | nil => cases e
    | cons r rs =>
      cases e
      rw [rowsI_eq hr] at z
      obtain ⟨ks, h1, h2, h3⟩ := reps_rows z
      exact ⟨ks, r, rs, h1, h3, h2.symm, fun p hp e => by rw [e]⟩
theorem call_SqL {X : Cx} (hc : X.calm = true) (hu : X.A.units + 70 < cLine) (b : Sq) : CallR X (sqF b) (rSqL X.K (sqLV b)) := by
  intro pins s σ H xs us Q I rs h
  obtain ⟨a, ws, ds, ι, rfl, hq, z, d, hp, e, q⟩ := h
  cases b with
  | max =>
    simp only [sqLV] at e
    cases hi : intsOf ds with
    | none => rw [hi] at e; cases e
    | some is =>
      rw [hi] at e
      cases hm : maxL is with
      | none => simp only [ofO, hm] at e; cases e
      | some m =>
        simp only [ofO, hm] at e
        cases e
        rw [z.ints hi] at hq
        obtain ⟨m1, m2⟩ := maxL_ok hm
        refine cr_max hc pins s σ H _ us Q I rs ⟨a, is, rfl, hq, List.length_pos_of_mem m1, fun m' h1 h2 => ?_⟩
        have em : m' = m := Int.le_antisymm (m2 _ h1) (h2 _ m1)
        subst em
        exact q (.int m') hp (by simp only [sqLV, hi, ofO, hm]) _ rfl
  | min =>
    simp only [sqLV, minV] at e
    cases hi : intsOf ds with
    | none =>
      rw [hi] at e
      simp only at e
      cases hm : minRw ds with
      | none => rw [hm] at e; cases e
      | some m =>
        rw [hm] at e
        cases e
        obtain ⟨ks, r0, rs0, rfl, hk, hr, hx⟩ := minRw_reps z hm
        refine call_minR hc hu pins s σ H _ us Q I rs ⟨a, ks, r0, rs0, rfl, .inl hq, fun p hm => (hk p hm).sq, hr, fun p hm' ep => ?_⟩
        exact q (rowD p.2) hp (by simp only [sqLV, minV, hi, ofO, hm, hx p hm' ep]) _ (rep_row.mpr ⟨p.1, rfl, hk p hm'⟩)
    | some is =>
      rw [hi] at e
      simp only at e
      cases hm : minL is with
      | none => rw [hm] at e; cases e
      | some m =>
        rw [hm] at e
        cases e
        rw [z.ints hi] at hq
        obtain ⟨m1, m2⟩ := minL_ok hm
        refine cr_min hc pins s σ H _ us Q I rs ⟨a, is, rfl, hq, List.length_pos_of_mem m1, fun m' h1 h2 => ?_⟩
        have em : m' = m := Int.le_antisymm (h2 _ m1) (m2 _ h1)
        subst em
        exact q (.int m') hp (by simp only [sqLV, minV, hi, ofO, hm, Option.map_some]) _ rfl
  | all =>
    simp only [sqLV] at e
    cases hi : boolsOf ds with
    | none => rw [hi] at e; cases e
    | some bs =>
      rw [z.bools hi] at hq
      exact cr_all hc pins s σ H _ us Q I rs ⟨a, bs, rfl, hq, q (.bl (bs.all id)) hp (by simp only [sqLV, hi, ofO]) _ rfl⟩
  | any =>
    simp only [sqLV] at e
    cases hi : boolsOf ds with
    | none => rw [hi] at e; cases e
    | some bs =>
      rw [z.bools hi] at hq
      exact cr_any hc pins s σ H _ us Q I rs ⟨a, bs, rfl, hq, q (.bl (bs.any id)) hp (by simp only [sqLV, hi, ofO]) _ rfl⟩
  | _ => cases e
theorem sqLV_h {b : Sq} {ds : List D} {h h' : Heap} {d : D} (e : sqLV b ds h = .ok (d, h')) : h' = h ∧ ∀ g, sqLV b ds g = .ok (d, g) := by
  cases b with
  | max =>
    simp only [sqLV] at e ⊢
    cases hi : intsOf ds with
    | none => rw [hi] at e; cases e
    | some is =>
      rw [hi] at e
      cases hm : maxL is with
      | none => simp only [ofO, hm] at e; cases e
      | some m => simp only [ofO, hm] at e ⊢; cases e; exact ⟨rfl, fun _ => rfl⟩
  | min =>
    simp only [sqLV] at e ⊢
    cases hm : minV ds with
    | none => rw [hm] at e; cases e
    | some m => rw [hm] at e; simp only [ofO] at e ⊢; cases e; exact ⟨rfl, fun _ => rfl⟩
  | all =>
    simp only [sqLV] at e ⊢
    cases hi : boolsOf ds with
    | none => rw [hi] at e; cases e
    | some is => rw [hi] at e; simp only [ofO] at e ⊢; cases e; exact ⟨rfl, fun _ => rfl⟩
  | any =>
    simp only [sqLV] at e ⊢
    cases hi : boolsOf ds with
    | none => rw [hi] at e; cases e
    | some is => rw [hi] at e; simp only [ofO] at e ⊢; cases e; exact ⟨rfl, fun _ => rfl⟩
  | _ => cases e
theorem sqLV_po {K : Frg} {W : Wish} {b : Sq} {ds : List D} {h : Heap} {ι : List Addr} {H : Hp} {Q : VK} (hh : HpRep K H ι h) (po : PoE K W ι H (sqLV b ds h) Q) : ∃ d h', sqLV b ds h' = .ok (d, h') ∧ (∀ d' h'', sqLV b ds h' = .ok (d', h'') → ∀ v, Rep K H ι d' v → Q v H) := by
  cases e : sqLV b ds h with
  | no => rw [e] at po; exact po.elim
  | exc a fs g =>
    exfalso
    cases b <;> simp only [sqLV] at e <;> (try cases e)
    case max => cases hi : intsOf ds with
      | none => rw [hi] at e; cases e
      | some is => cases hm : maxL is <;> (rw [hi] at e; simp only [ofO, hm] at e; cases e)
    case min => cases hm : minV ds <;> (rw [hm] at e; simp only [ofO] at e; cases e)
    case all => cases hi : boolsOf ds <;> (rw [hi] at e; simp only [ofO] at e; cases e)
    case any => cases hi : boolsOf ds <;> (rw [hi] at e; simp only [ofO] at e; cases e)
  | ok r =>
    obtain ⟨d, h'⟩ := r
    obtain ⟨rfl, g⟩ := sqLV_h e
    refine ⟨d, h', e, fun d' h'' e' v rv => ?_⟩
    rw [e] at e'
    cases e'
    rw [e] at po
    exact PoE.now po hh rv
section
variable {c : Ctx} {W : WS}
theorem sqL_rd {K : Frg} {b : Sq} {l : CL} {σ : L2.St} {H : Hp} {Q : VK} (h : rdE K W c (.sqL b l) σ H Q) : tCB (rSqL K (sqLV b)) (tCons (rdL K W c l) tNil) σ H Q := by
  obtain ⟨ι, ρ, hp, hs, hh, po⟩ := h
  refine ⟨ι, ρ, hp, hs, hh, po.bind.mono fun x ι1 H1 s1 p1 h1 a vs na ni ha r => ?_⟩
  exact ⟨a, vs, x.1, ι1, rfl, .of ha, r, sqLV_po h1 p1⟩
def rSqE (K : Frg) (b : Sq) : List V → Hp → VK → Prop := fun vs H Q => rSqL K (sqLV b) vs H Q ∨ (b = .min ∧ rMinR K vs H Q)
theorem call_SqE {X : Cx} (hc : X.calm = true) (hu : X.A.units + 70 < cLine) (b : Sq) : CallR X (sqF b) (rSqE X.K b) := by
  intro pins s σ H xs us Q I rs h
  rcases h with h | ⟨rfl, h⟩
  · exact call_SqL hc hu b pins s σ H xs us Q I rs h
  · exact call_minR hc hu pins s σ H xs us Q I rs h
theorem sqE_rd {K : Frg} {b : Sq} {e : CE} {σ : L2.St} {H : Hp} {Q : VK} (h : rdE K W c (.sqE b e) σ H Q) : tCB (rSqE K b) (tCons (rdE K W c e) tNil) σ H Q := by
  obtain ⟨ι, ρ, hp, hs, hh, po⟩ := h
  refine ⟨ι, ρ, hp, hs, hh, po.bind.mono fun x ι1 H1 s1 p1 v h1 r1 => ?_⟩
  obtain ⟨d, hx⟩ := x
  have gen : ∀ {xs : List D}, lstOf d hx = some xs → PoE K (wr K W σ) ι1 H1 (ofO (lstOf d hx) fun ds => sqLV b ds hx) Q → rSqE K b [v] H1 Q := fun {xs} el p1 => by
    rw [el] at p1
    obtain ⟨a, ws, rfl, hq, z⟩ := lstOf_ok h1 r1 el
    exact .inl ⟨a, ws, xs, ι1, rfl, hq, z, sqLV_po h1 p1⟩
  have all : PoE K (wr K W σ) ι1 H1 (ofO (lstOf d hx) fun ds => sqLV b ds hx) Q → rSqE K b [v] H1 Q := fun p1 => by
    cases el : lstOf d hx with
    | none => rw [el] at p1; exact p1.elim
    | some xs => exact gen el p1
  cases d with
  | tup ds =>
    cases b with
    | min =>
      obtain ⟨m, hm, p1⟩ := Po.ofO (show PoE K (wr K W σ) ι1 H1 (ofO (minRw ds) fun m => .ok (m, hx)) Q from p1)
      obtain ⟨a, vs, rfl, ha, z⟩ := r1
      obtain ⟨ks, r0, rs0, rfl, hk, hr, hx'⟩ := minRw_reps z hm
      refine .inr ⟨rfl, a, ks, r0, rs0, rfl, .inr ha.sq, fun p hp => (hk p hp).sq, hr, fun p hp ep => ?_⟩
      rw [← hx' p hp ep] at p1
      exact PoE.now p1 h1 (rep_row.mpr ⟨p.1, rfl, hk p hp⟩)
    | _ => exact (show False from p1).elim
  | _ => exact all p1
theorem Reps.rev {K : Frg} {H : Hp} {ι : List Addr} : ∀ {ds : List D} {vs : List V}, Reps K H ι ds vs → Reps K H ι ds.reverse vs.reverse
  | [], _, e => by rw [show _ = [] from e]; exact rfl
  | d :: ds, _, ⟨v, r, e, h1, h2⟩ => by
    subst e
    rw [List.reverse_cons, List.reverse_cons]
    exact (Reps.rev h2).append (Reps.one h1)
theorem trev_rd {K : Frg} {e : CE} {σ : L2.St} {H : Hp} {Q : VK} (h : rdE K W c (.trev e) σ H Q) : tTupRev K (rdE K W c e) σ H Q := by
  obtain ⟨ι, ρ, hp, hs, hh, po⟩ := h
  refine ⟨ι, ρ, hp, hs, hh, po.bind.mono fun x ι1 H1 s1 p1 v h1 r1 => ?_⟩
  obtain ⟨xs, hx, p1⟩ := Po.ofO p1
  obtain ⟨a, ws, rfl, hq, z⟩ := lstOf_ok h1 r1 hx
  exact ⟨a, ws, rfl, hq, fun l hn => new_tup h1 z.rev hn p1⟩
theorem Reps.backL {K : Frg} {H : Hp} {ι : List Addr} {ds : List D} {vs : List V} (h : Reps K H ι ds vs) (b : Bool) : Reps K H ι (if b = true then (ds.drop 1).reverse else ds.reverse) (Tw.backL b vs) := by
  cases b with
  | false => exact h.rev
  | true =>
    cases ds with
    | nil => rw [show vs = [] from h]; exact rfl
    | cons d ds =>
      obtain ⟨v, r, rfl, _, h2⟩ := h
      exact h2.rev
theorem back_rd {K : Frg} {b : Bool} {e : CE} {σ : L2.St} {H : Hp} {Q : VK} (h : rdE K W c (.back e b) σ H Q) : tBackT K b (rdE K W c e) σ H Q := by
  obtain ⟨ι, ρ, hp, hs, hh, po⟩ := h
  refine ⟨ι, ρ, hp, hs, hh, po.bind.mono fun x ι1 H1 s1 p1 v h1 r1 => ?_⟩
  obtain ⟨d, hx⟩ := x
  cases d with
  | tup ds =>
    obtain ⟨a, vs, rfl, ha, z⟩ := r1
    exact ⟨a, vs, rfl, ha.sq, fun l hn => new_tup h1 (z.backL b) hn p1⟩
  | _ => exact (show False from p1).elim
theorem get2_rd {K : Frg} {d k y : CE} {σ : L2.St} {H : Hp} {Q : VK} (h : rdE K W c (.get2 d k y) σ H Q) : tDGet2 (rdE K W c d) (rdE K W c k) (rdE K W c y) σ H Q := by
  obtain ⟨ι, ρ, hp, hs, hh, po⟩ := h
  refine ⟨ι, ρ, hp, hs, hh, po.bind.mono fun x ι1 H1 s1 p1 v h1 r1 => ?_⟩
  have hs1 := hh.srep s1 hs
  obtain ⟨hd, p1⟩ := Po.chk p1
  cases hx : x.1 with
  | ref n =>
    rw [hx] at hd r1 p1
    obtain ⟨a, rfl, ha⟩ := r1
    have isd : IsD H1 a := by
      cases hn : x.2[n]? with
      | none => simp only [isDct, hn] at hd; cases hd
      | some o =>
        cases o with
        | lst xs => simp only [isDct, hn] at hd; cases hd
        | dct kvs => obtain ⟨ws, q, _⟩ := h1.dct hn ha; exact .inl ⟨ws, .inl q⟩
        | dtt kvs => obtain ⟨ws, q, _⟩ := h1.dtt hn ha; exact .inr ⟨ws, .inl q⟩
    refine ⟨a, rfl, isd, ι1, ρ, x.2, hs1, h1, p1.bind.mono fun b ι2 H2 s2 p2 u h2 r2 => ?_⟩
    refine ⟨ι2, ρ, b.2, h1.srep s2 hs1, h2, p2.bind.mono fun z ι3 H3 s3 p3 t h3 r3 => ?_⟩
    have ha3 : ι3[n]? = some a := by
      obtain ⟨κ, e⟩ := (s2.trans s3).pre
      rw [e, List.getElem?_append_left (List.getElem?_eq_some_iff.mp ha).1]
      exact ha
    have r2' := h2.rep s3 _ _ r2
    cases hn : z.2[n]? with
    | none => simp only [getV2, hn] at p3; exact p3.elim
    | some o =>
      cases o with
      | lst xs => simp only [getV2, hn] at p3; exact p3.elim
      | dct kvs =>
        simp only [getV2, hn] at p3
        obtain ⟨kk, hk, p3⟩ := Po.ofO p3
        obtain ⟨ws, q, zz⟩ := h3.dct hn ha3
        have ex := keyOf_ok r2' hk
        subst ex
        refine ⟨valV ws kk, DGet.k q, ?_⟩
        rcases findV_ok kk zz with ⟨e1, e2⟩ | ⟨d', w, e1, e2, rw'⟩
        · rw [e2]
          rw [e1] at p3
          exact PoE.now p3 h3 r3
        · rw [e2]
          rw [e1] at p3
          exact PoE.now p3 h3 rw'
      | dtt kvs =>
        simp only [getV2, hn] at p3
        obtain ⟨kk, hk, p3⟩ := Po.ofO p3
        obtain ⟨ws, q, zz⟩ := h3.dtt hn ha3
        obtain ⟨b', rfl, eb⟩ := keyT_ok r2' hk
        refine ⟨valV ws kk, DGet.t q eb, ?_⟩
        rcases findV_ok kk zz with ⟨e1, e2⟩ | ⟨d', w, e1, e2, rw'⟩
        · rw [e2]
          rw [e1] at p3
          exact PoE.now p3 h3 r3
        · rw [e2]
          rw [e1] at p3
          exact PoE.now p3 h3 rw'
  | _ => rw [hx] at hd; cases hd
end
end Tw
end

section
set_option Elab.async false
set_option linter.all false
set_option maxRecDepth 100000
set_option maxHeartbeats 1000000
/-! sorted(set(..)), sorted({..}) of rows: what the readings ask. Own work. -/
namespace Tw
open PySem PySem.Spec PyProof.Rows L2 RT
theorem R.nox_nx {α : Type} {r : R α} {k : Nat} {fs : List D} {h : Heap} : r.nox ≠ .exc k fs h := by
  cases r <;> intro e <;> cases e
theorem mapL_nx {β : Type} {g : List (Nat × O)} {f : D → Heap → R (Option β × Heap)} {k : Nat} {fs : List D} {h' : Heap} : ∀ {xs : List D} {h : Heap}, mapL g f xs h ≠ .exc k fs h'
  | [], h => by
    unfold mapL
    cases guards g h <;> intro e <;> cases e
  | x :: xs, h => by
    unfold mapL
    cases guards g h
    · intro e; cases e
    · intro e
      simp only [chk] at e
      cases e1 : f x h with
      | exc => rw [e1] at e; cases e
      | no => rw [e1] at e; cases e
      | ok p =>
        rw [e1] at e
        simp only [R.nox, R.bind] at e
        cases e2 : mapL g f xs p.2 with
        | exc => exact mapL_nx e2
        | no => rw [e2] at e; cases e
        | ok q => rw [e2] at e; cases e
theorem srtU_rows {ds es : List D} (h : srtU ds = some es) : ∃ rs, ds = rs.map rowD ∧ rowsOk rs = true ∧ es = (srtG leR (nubR rs)).map rowD := by
  unfold srtU at h
  cases hr : rowsI ds with
  | none => rw [hr] at h; cases h
  | some rs =>
    rw [hr] at h
    simp only [Option.bind_some] at h
    split at h
    · rename_i ok
      cases h
      exact ⟨rs, rowsI_eq hr, ok, rfl⟩
    · cases h
theorem rowD_inj {a b : List Int} (h : rowD a = rowD b) : a = b := by
  unfold rowD at h
  injection h with h
  have : ∀ {a b : List Int}, a.map D.int = b.map D.int → a = b := by
    intro a
    induction a with
    | nil => intro b h; cases b with
      | nil => rfl
      | cons => cases h
    | cons x a ih =>
      intro b h
      cases b with
      | nil => cases h
      | cons y b =>
        rw [List.map_cons, List.map_cons] at h
        injection h with h1 h2
        injection h1 with h1
        rw [h1, ih h2]
  exact this h
/-- what the set holds, the rows so far being these -/
structure SetHas (H : Hp) (L : List (Addr × List Int)) (rs : List (List Int)) : Prop where
  at_ : ∀ p ∈ L, TupH H p.1 (p.2.map V.int)
  mem : ∀ r, r ∈ L.map (·.2) ↔ r ∈ rs
theorem SetHas.same {H : Hp} {L : List (Addr × List Int)} {rs : List (List Int)} (S : SetHas H L rs) {r : List Int} (h : r ∈ L.map (·.2)) : SetHas H L (rs ++ [r]) :=
  ⟨S.at_, fun q => by
    rw [S.mem, List.mem_append, List.mem_singleton]
    exact ⟨.inl, fun z => z.elim id fun e => by rw [e]; exact (S.mem r).mp h⟩⟩
theorem SetHas.more {H : Hp} {L L' : List (Addr × List Int)} {rs : List (List Int)} (S : SetHas H L rs) {a : Addr} {r : List Int} (hr : TupH H a (r.map V.int)) (pm : L'.Perm ((a, r) :: L)) : SetHas H L' (rs ++ [r]) := by
  refine ⟨fun p hp => ?_, fun q => ?_⟩
  · rcases List.mem_cons.mp (pm.mem_iff.mp hp) with e | e
    · rw [e]; exact hr
    · exact S.at_ p e
  · rw [(pm.map (·.2)).mem_iff, List.map_cons, List.mem_cons, S.mem, List.mem_append, List.mem_singleton, or_comm]
section
variable {c : Ctx} {W : WS}
/-- the set's end -/
theorem set_end {K : Frg} {P : Program} {w : World} {Wi : Wish} {H0 : Hp} {ι ι2 : List Addr} {H2 : Hp} {hp2 : Heap} {D : Addr} {L : List (Addr × List Int)} {rs : List (List Int)} {Q : VK}
    (s0 : Step ι H0 ι2 H2) (hh0 : ∀ a, H2 a = none → H0 a = none) (h2 : HpRep K H2 ι2 hp2) (hD : H2 D = some (SetTO P w D L)) (S : SetHas H2 L rs)
    (p : Po Wi ι2 H2 (ofO (srtU (rs.map rowD)) fun ds => .ok (ds, hp2)) (SL K H0 Q)) : rSortedT K P w [V.ref D] H2 Q := by
  obtain ⟨es, he, p⟩ := Po.ofO p
  obtain ⟨rs', e1, hok, e2⟩ := srtU_rows he
  have e1 : rs = rs' := by
    have : ∀ {a b : List (List Int)}, a.map rowD = b.map rowD → a = b := by
      intro a
      induction a with
      | nil => intro b h; cases b with
        | nil => rfl
        | cons => cases h
      | cons x a ih =>
        intro b h
        cases b with
        | nil => cases h
        | cons y b =>
          rw [List.map_cons, List.map_cons] at h
          injection h with h1 h2
          rw [rowD_inj h1, ih h2]
    exact this e1
  subst e1
  obtain ⟨h64, d, B, hd, hB⟩ := rowsOk_ex hok
  have hL : ∀ p ∈ L, p.2.length = d ∧ TS.Bd B p.2 := fun p hp => hB p.2 ((S.mem p.2).mp (List.mem_map_of_mem hp))
  refine ⟨D, L, d, B, rfl, hD, fun p hp => (S.at_ p hp).sq, hd, hL, fun L' a pm nd hl so hn => ?_⟩
  have pp : (L'.map (·.2)).Perm (nubR rs) := by
    refine (List.perm_ext_iff_of_nodup nd (nub_nodup rs)).mpr fun r => ?_
    rw [nub_mem, ← S.mem, (pm.map (·.2)).mem_iff]
  have eL := srt_rows hL pm pp so
  have st := h2.fresh0 hn (ho := .lst (L'.map fun q => V.ref q.1))
  refine p ι2 _ st (h2.laid0 hn) a _ (hh0 a hn) (h2.notin hn) upd_same ?_
  show Reps K _ ι2 es _
  rw [e2, ← eL]
  exact reps_of_rows fun q hq => upd_keeps hn _ _ (S.at_ q (pm.mem_iff.mp hq))
theorem srtS_rd {K : Frg} {P : Program} {w : World} {l : CL} {σ : L2.St} {H : Hp} {Q : VK} (h : rdL K W c (.srtS l) σ H Q) : tCB (rSortedT K P w) (tCons (tCB (rSetOfT K P w) (tCons (rdL K W c l) tNil)) tNil) σ H Q := by
  obtain ⟨ι, ρ, hp, hs, hh, po⟩ := h
  refine ⟨ι, ρ, hp, hs, hh, po.bind.mono fun x ι1 H1 s1 p1 h1 a vs na ni ha r => ?_⟩
  obtain ⟨es, he, _⟩ := Po.ofO p1
  obtain ⟨rs, e1, hok, e2⟩ := srtU_rows he
  have h64 := (rowsOk_ex hok).1
  rw [e1] at r p1
  obtain ⟨ks, rfl, rfl, hk⟩ := reps_rows r
  refine ⟨a, ks, rfl, .of ha, fun p hp => (hk p hp).sq, by simpa using h64, fun D L hD h3 h4 => ?_⟩
  have st := h1.fresh0 hD (ho := SetTO P w D L)
  refine set_end (s1.trans st) (fun b hb => s1.was h1 ?_) (h1.laid0 hD) upd_same ⟨fun p hp => upd_keeps hD _ _ (hk p (h3 p hp)), fun r => ⟨fun hr => ?_, fun hr => ?_⟩⟩ (Po.at p1 st)
  · by_cases e : b = D
    · rw [e]; exact hD
    · rw [upd_ne e] at hb
      exact hb
  · obtain ⟨p, hp, rfl⟩ := List.mem_map.mp hr
    exact List.mem_map_of_mem (h3 p hp)
  · obtain ⟨p, hp, rfl⟩ := List.mem_map.mp hr
    exact h4 p hp
theorem srtC_rd {K : Frg} {P : Program} {w : World} {t : CT} {s : CI} {cd : CBO} {e : CE} {σ : L2.St} {H : Hp} {Q : VK} (h : rdL K W c (.srtC e t s cd) σ H Q) : tCB (rSortedT K P w) (tCons (tSk (SetTO P w) [] (adT K) (rdI K W c s) (rdT K c t) (rdF K c cd) (rdE K W00 c e) t.slots) tNil) σ H Q := by
  obtain ⟨ι, ρ, hp, hs, hh, po⟩ := h
  refine ⟨ι, ρ, hp, hs, hh, po.bind.bind.mono fun w' ι1 H1 s1 p1 h1 J wk D hD => ?_⟩
  obtain ⟨hlim, p1⟩ := Po.chk p1
  have hs1 := hh.srep s1 hs
  have hD0 : H D = none := s1.was h1 hD
  let f : Tw.D → Heap → R (Option Tw.D × Heap) := fun x h => (asg c t x (wipeE ρ t.slots) h).bind fun s => (tvO c cd s.1 s.2).bind fun b => match b.1 with
      | true => (ev c e s.1 b.2).bind fun y => .ok (some y.1, y.2)
      | false => .ok (none, b.2)
  let C : List Tw.D → List Tw.D × Heap → List Addr → Hp → Prop := fun ys x ι'' H'' => Po (wr K W σ) ι'' H'' (ofO (srtU (ys ++ x.1)) fun ds => .ok (ds, x.2)) (SL K H Q)
  have p1 : Po (wr K W σ) ι1 H1 (mapL w'.1.2 f w'.1.1 w'.2) (C []) := p1
  -- what is told of the rest when it ends
  have told : ∀ {ι' : List Addr} {H' : Hp} {xs ys : List Tw.D} {g : Heap}, Po (wr K W σ) ι' H' (mapL w'.1.2 f xs g) (C ys) → ∃ rest es, srtU (ys ++ rest) = some es := fun {ι' H' xs ys g} p => by
    cases em : mapL w'.1.2 f xs g with
    | exc => exact absurd em mapL_nx
    | no => rw [em] at p; exact p.elim
    | ok x =>
      rw [em] at p
      obtain ⟨es, he, _⟩ := Po.ofO (p ι' H' .refl)
      exact ⟨x.1, es, he⟩
  refine ⟨fun i m H2 => ∃ ι' hp' rs L, Step ι1 H1 ι' H2 ∧ HpRep K H2 ι' hp' ∧ H2 D = some (SetTO P w D L) ∧ D ∉ ι' ∧ SetHas H2 L rs ∧ L.length ≤ rs.length ∧ m = w'.1.1.length - i ∧ i ≤ w'.1.1.length ∧
    Po (wr K W σ) ι1 H1 (mapL w'.1.2 f (w'.1.1.drop i) hp') (C (rs.map rowD)),
    ⟨_, ι1, w'.2, [], [], (Step.refl.off hD), h1.laid0 hD, upd_same, h1.notin hD, ⟨fun p hp => by (cases hp), fun r => Iff.rfl⟩, Nat.le_refl _, rfl, Nat.zero_le _, p1⟩, ?_⟩
  rintro i m H2 ⟨ι2, hp2, rs, L, s2, h2, hD2, nD2, S2, hlen, rfl, hi, p2⟩
  by_cases hl : i < w'.1.1.length
  · rw [drop_cons hl] at p2
    obtain ⟨g2, p2⟩ := Po.chk p2
    obtain ⟨q, hq, p2⟩ := nox_ok p2
    obtain ⟨go, yl⟩ := wk.go ι2 H2 hp2 s2 h2 g2 i w'.1.1[i] (List.getElem?_eq_getElem hl)
    refine .inr ⟨go, fun H3 => ∃ ι' hp' rs L, Step ι1 H1 ι' H3 ∧ HpRep K H3 ι' hp' ∧ H3 D = some (SetTO P w D L) ∧ D ∉ ι' ∧ SetHas H3 L rs ∧ L.length ≤ rs.length ∧
      Po (wr K W σ) ι1 H1 (mapL w'.1.2 f (w'.1.1.drop (i + 1)) hp') (C (rs.map rowD)), fun H3 n3 => ?_, fun x H3 y3 => ?_⟩
    · obtain ⟨ι3, hp3, rs3, L3, e1, e2, e3, e4, e5, e6, e7⟩ := n3
      exact ⟨w'.1.1.length - (i + 1), by omega, ι3, hp3, rs3, L3, e1, e2, e3, e4, e5, e6, rfl, hl, e7⟩
    · obtain ⟨s3, h3, r3⟩ := yl x H3 y3
      have nin : ∀ {ιb : List Addr} {Hb : Hp}, Step ι2 H2 ιb Hb → D ∉ ιb := fun {ιb Hb} sb hm => by
        rcases sb.new D hm with z | z
        · exact nD2 z
        · rw [hD2] at z; cases z
      have S2at : ∀ {ιb : List Addr} {Hb : Hp}, Step ι2 H2 ιb Hb → SetHas Hb L rs := fun {ιb Hb} sb => ⟨fun p hp => h2.tupH sb (S2.at_ p hp), S2.mem⟩
      obtain ⟨st, est, hq4⟩ := bind_ok hq
      refine ⟨ι2, wipeE ρ t.slots, hp2, _, st, ((h2.srep s3) ((h1.srep s2 hs1).wipe _)), h3, r3, est, fun ι4 H4 s4 h4 σ4 ag hs4 => ⟨?_, ?_⟩⟩
      · rw [ag.wipe]
        apply List.ext_getElem?
        intro j
        rw [wipe_get, wipe_get, wipe_length]
        split <;> rfl
      · refine ⟨ι4, st.1, st.2, hs4, h4, (po_is hq4).bind.mono fun b ι5 H5 s5 p5 h5 => ?_⟩
        have st5 := ((s2.trans s3).trans s4).trans s5
        have sd5 := (s3.trans s4).trans s5
        cases hb : b.1 with
        | false =>
          rw [hb] at p5
          have e5 : q = (none, b.2) := (p5 ι5 H5 .refl).symm
          subst e5
          simp only [Bool.false_eq_true, if_false]
          have p2 := Po.bind p2
          refine ⟨ι5, b.2, rs, L, st5, h5, sd5.kp D _ hD2 nD2, nin sd5, S2at sd5, hlen, ?_⟩
          exact p2.mono fun r ι6 H6 s6 p6 => p6 ι6 H6 .refl
        | true =>
          rw [hb] at p5
          simp only [if_true]
          refine ⟨ι5, st.1, b.2, h4.srep s5 hs4, h5, p5.bind.mono fun y ι6 H6 s6 p6 v h6 rv => ?_⟩
          have e6 : q = (some y.1, y.2) := (p6 ι6 H6 .refl).symm
          subst e6
          have st6 := st5.trans s6
          have sd6 := sd5.trans s6
          have hD6 : H6 D = some (SetTO P w D L) := sd6.kp D _ hD2 nD2
          have S6 := S2at sd6
          have p2 : Po (wr K W σ) ι1 H1 (mapL w'.1.2 f (w'.1.1.drop (i + 1)) y.2) (C (rs.map rowD ++ [y.1])) := by
            refine (Po.bind p2).mono fun r ι7 H7 s7 p7 => ?_
            have p7 := p7 ι7 H7 .refl
            show Po _ _ _ (ofO (srtU ((rs.map rowD ++ [y.1]) ++ r.1)) _) _
            rw [List.append_assoc]
            exact p7
          obtain ⟨rest, es, hes⟩ := told p2
          obtain ⟨rs', e1, hok, _⟩ := srtU_rows hes
          have hlt := (rowsOk_ex hok).1
          have el := congrArg List.length e1
          simp only [List.length_append, List.length_map, List.length_cons, List.length_nil] at el
          have ey : ∃ r, y.1 = rowD r := by
            have hm : y.1 ∈ rs'.map rowD := by
              rw [← e1]
              simp
            obtain ⟨r, _, e⟩ := List.mem_map.mp hm
            exact ⟨r, e.symm⟩
          obtain ⟨r, ey⟩ := ey
          rw [ey] at rv p2
          obtain ⟨a, rfl, ha⟩ := rep_row.mp rv
          have nt : ∀ xs, H6 D ≠ some (.tup xs) := fun _ z => by rw [hD6] at z; cases z
          refine ⟨L, hD6, a, r, rfl, ha.sq, fun p hp => (S6.at_ p hp).sq, by omega, fun L' c1 c2 => ?_⟩
          have kpD : ∀ {b : Addr} {xs : List V}, TupH H6 b xs → TupH (upd H6 D (SetTO P w D L')) b xs := fun {b xs} z => by
            show upd H6 D _ b = _
            rw [upd_ne (fun e => nt xs (by rw [← e]; exact z))]
            exact z
          have S7 : SetHas H6 L' (rs ++ [r]) := by
            rcases Classical.em (r ∈ L.map (·.2)) with cs | cs
            · rw [c1 cs]; exact S6.same cs
            · exact S6.more ha (c2 cs)
          refine ⟨ι6, y.2, rs ++ [r], L', st6.off hD, off_hp h6 (nin sd6) nt (fun _ _ z => by rw [hD6] at z; cases z), upd_same, nin sd6, ⟨fun p hp => kpD (S7.at_ p hp), S7.mem⟩, ?_, ?_⟩
          · rcases Classical.em (r ∈ L.map (·.2)) with cs | cs
            · rw [c1 cs]; simp; omega
            · rw [(c2 cs).length_eq]; simp; omega
          · rw [List.map_append]
            exact p2
  · have e : i = w'.1.1.length := by omega
    subst e
    rw [drop_nil (Nat.le_refl _)] at p2
    obtain ⟨g2, p2⟩ := Po.chk p2
    refine .inl ⟨wk.stop ι2 H2 hp2 s2 h2 g2, ?_⟩
    have z := p2 ι2 H2 s2
    have z : Po (wr K W σ) ι2 H2 (ofO (srtU (rs.map rowD ++ [])) fun ds => .ok (ds, hp2)) (SL K H Q) := z
    rw [List.append_nil] at z
    exact set_end (s1.trans s2) (fun b hb => s1.was h1 (s2.was h2 hb)) h2 hD2 S2 z
end
end Tw
end

section
set_option Elab.async false
set_option linter.all false
set_option maxRecDepth 100000
set_option maxHeartbeats 4000000
/-! Calls with keywords. Own work. -/
namespace Tw
open PySem PySem.Spec PyProof.Rows L2
theorem look_app {k : Str} : ∀ {s t : List (Str × Value)}, (s.lookup k).isSome = false → (s ++ t).lookup k = t.lookup k
  | [], t, _ => rfl
  | (a, v) :: s, t, h => by
    rw [List.lookup_cons] at h
    rw [List.cons_append, List.lookup_cons]
    cases e : k == a with
    | true => rw [e] at h; cases h
    | false => rw [e] at h; exact look_app h
theorem look_appL {k : Str} : ∀ {s t : List (Str × Value)}, (s.lookup k).isSome = true → (s ++ t).lookup k = s.lookup k
  | [], t, h => by cases h
  | (a, v) :: s, t, h => by
    rw [List.lookup_cons] at h
    rw [List.cons_append, List.lookup_cons, List.lookup_cons]
    cases e : k == a with
    | true => rfl
    | false => rw [e] at h; exact look_appL h
theorem for_kw {body : Str × Value → List (Str × Value) × List (Str × Value) → Sem (ForInStep (List (Str × Value) × List (Str × Value)))} : ∀ (l s e : List (Str × Value)), (l.map (·.1)).Nodup → (∀ p ∈ l, (s.lookup p.1).isSome = false) →
    (∀ p ∈ l, ∀ s e : List (Str × Value), (s.lookup p.1).isSome = false → body p (s, e) = pure (.yield (s ++ [p], e))) → forIn l (s, e) body = pure (s ++ l, e)
  | [], s, e, _, _, _ => by rw [List.append_nil]; rfl
  | p :: l, s, e, nd, hs, hb => by
    rw [List.forIn_cons, hb p List.mem_cons_self s e (hs p List.mem_cons_self), pure_bind]
    obtain ⟨n1, n2⟩ := List.nodup_cons.mp nd
    have q := for_kw (body := body) l (s ++ [p]) e n2 (fun r hr => ?_) (fun r hr => hb r (List.mem_cons_of_mem _ hr))
    · show forIn l (s ++ [p], e) body = _
      rw [q, List.append_assoc]
      rfl
    · rw [look_app (hs r (List.mem_cons_of_mem _ hr)), List.lookup_cons]
      have : (r.1 == p.1) = false := by
        apply Bool.eq_false_iff.mpr
        intro e
        have n1 : ¬ p.1 ∈ l.map (·.1) := n1
        rw [← beq_iff_eq.mp e] at n1
        exact n1 (List.mem_map_of_mem hr)
      rw [this]
      rfl
theorem zip_none : ∀ {ns : List Str} {us : List Value} {k : Str}, k ∉ ns.take us.length → ((ns.zip us).lookup k).isSome = false
  | [], us, k, _ => by simp
  | a :: ns, [], k, _ => rfl
  | a :: ns, u :: us, k, h => by
    rw [List.length_cons, List.take_succ_cons] at h
    rw [List.zip_cons_cons, List.lookup_cons]
    have : (k == a) = false := by
      apply Bool.eq_false_iff.mpr
      intro e
      exact h (beq_iff_eq.mp e ▸ List.mem_cons_self)
    rw [this]
    exact zip_none fun z => h (List.mem_cons_of_mem _ z)
theorem zip_there : ∀ {ns : List Str} {us : List Value} {k : Str}, k ∈ ns.take us.length → ((ns.zip us).lookup k).isSome = true
  | [], us, k, h => by simp at h
  | a :: ns, [], k, h => by simp at h
  | a :: ns, u :: us, k, h => by
    rw [List.length_cons, List.take_succ_cons] at h
    rw [List.zip_cons_cons, List.lookup_cons]
    cases e : k == a with
    | true => rfl
    | false =>
      rcases List.mem_cons.mp h with z | z
      · exact absurd (beq_iff_eq.mpr z) (by rw [e]; exact Bool.false_ne_true)
      · exact zip_there z
theorem map_zip : ∀ {ks : List Str} {ws : List Value}, ws.length = ks.length → (ks.zip ws).map (·.1) = ks
  | [], _, _ => rfl
  | k :: ks, [], h => by cases h
  | k :: ks, w :: ws, h => by rw [List.zip_cons_cons, List.map_cons, map_zip (by simpa using h)]
theorem filterMap_same {α β : Type} {f g : α → Option β} : ∀ {l : List α}, (∀ a ∈ l, f a = g a) → l.filterMap f = l.filterMap g
  | [], _ => rfl
  | a :: l, h => by
    rw [List.filterMap_cons, List.filterMap_cons, h a List.mem_cons_self, filterMap_same fun b hb => h b (List.mem_cons_of_mem _ hb)]
/-- the parameters looked up in what was given -/
theorem look_all {kw : List (Str × Value)} : ∀ {ns : List Str} {us : List Value}, ns.Nodup → us.length ≤ ns.length → (∀ q ∈ ns.drop us.length, (kw.lookup q).isSome = true) →
    ns.filterMap (fun n => Option.map (fun x => (n, x)) ((ns.zip us ++ kw).lookup n)) = ns.zip (us ++ (ns.drop us.length).filterMap fun q => kw.lookup q)
  | ns, [], nd, hl, h => by
    rw [List.zip_nil_right, List.nil_append, List.nil_append]
    rw [List.length_nil, List.drop_zero] at h ⊢
    clear nd hl
    induction ns with
    | nil => rfl
    | cons n ns ih =>
      have h1 := h n List.mem_cons_self
      obtain ⟨v, e⟩ := Option.isSome_iff_exists.mp h1
      rw [List.filterMap_cons, e, List.filterMap_cons, e]
      show (n, v) :: _ = (n, v) :: _
      rw [ih fun q hq => h q (List.mem_cons_of_mem _ hq)]
      rfl
  | [], u :: us, nd, hl, h => by simp at hl
  | n :: ns, u :: us, nd, hl, h => by
    obtain ⟨n1, n2⟩ := List.nodup_cons.mp nd
    have ih := look_all (kw := kw) (ns := ns) (us := us) n2 (by simpa using hl) (by simpa using h)
    rw [List.zip_cons_cons, List.filterMap_cons]
    simp only [List.cons_append, List.lookup_cons, beq_self_eq_true, Option.map_some, List.length_cons, List.drop_succ_cons, List.zip_cons_cons]
    congr 1
    rw [← ih]
    apply filterMap_same
    intro a ha
    have : (a == n) = false := by
      apply Bool.eq_false_iff.mpr
      intro q
      exact n1 (beq_iff_eq.mp q ▸ ha)
    simp only [this]
theorem kw_there : ∀ {ks : List Str} {ws : List Value} {k : Str}, ws.length = ks.length → k ∈ ks → ((ks.zip ws).lookup k).isSome = true
  | ks, ws, k, hl, h => zip_there (by rw [hl, List.take_length]; exact h)
theorem bind_kw {x qual : Str} {as : List Arg} {body : List Stmt} {scope : Scope} (kV doc pm : Value) (an : Option Addr) (cdv ct : Value) (us : List Value) (ks : List Str) (ws : List Value) (nd : (as.map (·.arg)).Nodup) (nk : ks.Nodup) (hl : us.length + ks.length = (as.map (·.arg)).length) (hw : ws.length = ks.length)
    (hk : ∀ k ∈ ks, k ∈ (as.map (·.arg)).drop us.length) :
    bindArgs (PySem.W.fnOf x qual { posonlyargs := [], args := as, vararg := none, kwonlyargs := [], kw_defaults := [], kwarg := none, defaults := [] } body scope .none kV doc pm an cdv ct) ⟨us, ks.zip ws⟩ =
      pure ((as.map (·.arg)).zip (us ++ ((as.map (·.arg)).drop us.length).filterMap fun q => (ks.zip ws).lookup q)) := by
  have hz : seqItems? Value.none = pure none := rfl
  -- every parameter behind the positional ones is a keyword
  have hall : ∀ q ∈ (as.map (·.arg)).drop us.length, q ∈ ks := by
    have sub : ks ⊆ (as.map (·.arg)).drop us.length := hk
    have len : ((as.map (·.arg)).drop us.length).length = ks.length := by rw [List.length_drop]; omega
    intro q hq
    apply Classical.byContradiction
    intro hn
    have nd2 : (q :: ks).Nodup := List.nodup_cons.mpr ⟨hn, nk⟩
    have := nd2.length_le_of_subset (l₂ := (as.map (·.arg)).drop us.length) (fun z hz => by
      rcases List.mem_cons.mp hz with rfl | hz
      · exact hq
      · exact sub hz)
    rw [len, List.length_cons] at this
    omega
  have split : ∀ q ∈ as.map (·.arg), q ∉ (as.map (·.arg)).take us.length → q ∈ (as.map (·.arg)).drop us.length := fun q hq hn => by
    rw [← List.take_append_drop us.length (as.map (·.arg))] at hq
    rcases List.mem_append.mp hq with z | z
    · exact absurd z hn
    · exact z
  have notin : ∀ k ∈ ks, k ∉ (as.map (·.arg)).take us.length := fun k hk2 ht => by
    have := hk k hk2
    rw [← List.take_append_drop us.length (as.map (·.arg))] at nd
    exact (List.nodup_append.mp nd).2.2 k ht k this rfl
  unfold bindArgs PySem.W.fnOf
  simp only [List.map_nil, List.nil_append, hz, List.length_map, pure_bind, Option.getD_none, Nat.lt_irrefl, decide_false, Bool.false_and, if_false, Bool.false_eq_true, gt_iff_lt, List.drop_nil, List.length_nil, Nat.sub_zero, List.isEmpty_nil, Bool.not_true, List.zip_nil_right, List.append_nil]
  rw [for_kw]
  · have hlt : ¬ as.length < us.length := by rw [List.length_map] at hl; omega
    have hm : (((as.map (·.arg)).take as.length).filter fun n => (((as.map (·.arg)).zip us ++ ks.zip ws).lookup n).isNone) = [] := by
      rw [List.filter_eq_nil_iff]
      intro n hn
      have hn := List.mem_of_mem_take hn
      by_cases ht : n ∈ (as.map (·.arg)).take us.length
      · rw [look_appL (zip_there ht)]
        have := zip_there ht
        revert this
        cases (((as.map (·.arg)).zip us).lookup n) <;> simp
      · rw [look_app (zip_none ht)]
        have := kw_there hw (hall n (split n hn ht))
        revert this
        cases ((ks.zip ws).lookup n) <;> simp
    simp only [pure_bind, hlt, decide_false, Bool.false_and, Bool.false_eq_true, if_false, hm, List.isEmpty_nil, Bool.not_true, List.forIn_nil]
    rw [look_all nd (by rw [← hl]; omega) fun q hq => kw_there hw (hall q hq)]
  · rw [map_zip hw]; exact nk
  · intro p hp
    have := List.of_mem_zip hp
    exact zip_none (notin _ this.1)
  · intro p hp s e hs
    have h1 := (List.of_mem_zip hp).1
    have h2 : (as.map (·.arg)).contains p.1 = true := by
      rw [List.contains_iff_mem]
      exact List.mem_of_mem_drop (hk _ h1)
    simp only [h2, Bool.true_or, if_true, hs, Bool.false_eq_true, if_false]
section
variable {X : Cx} {kk : Nat} {fa : Addr} {fd : FuncData} {ps ks : List Str} {sp : Sp} {WE0 : L2.St → XK} {x : Str} {p pos : Pos} {kws : List Keyword} {t tk : TA}
/-- what a call of so many values, keywords named ks, binds -/
def KwOk (fd : FuncData) (ps : List Str) (n : Nat) (ks : List Str) : Prop := ∀ (us ws : List Value), us.length = n → ws.length = ks.length → ∀ s, BindsTo s fd ⟨us, ks.zip ws⟩ (ps.zip (us ++ (ps.drop n).filterMap fun q => (ks.zip ws).lookup q))
theorem look_vals {q : Str} : ∀ {ks : List Str} {vs : List V} {ws : List Value}, Vals vs ws → ((ks.zip vs).lookup q = none ∧ (ks.zip ws).lookup q = none) ∨ ∃ v w, (ks.zip vs).lookup q = some v ∧ (ks.zip ws).lookup q = some w ∧ RelV v w
  | [], _, _, _ => .inl ⟨rfl, rfl⟩
  | k :: ks, _, _, .nil => .inl ⟨rfl, rfl⟩
  | k :: ks, _, _, .cons h t => by
    rw [List.zip_cons_cons, List.zip_cons_cons, List.lookup_cons, List.lookup_cons]
    cases e : q == k with
    | true => exact .inr ⟨_, _, rfl, rfl, h⟩
    | false => exact look_vals t
theorem sel_vals {ks : List Str} {vs : List V} {ws : List Value} (r : Vals vs ws) : ∀ (qs : List Str), Vals (qs.filterMap fun q => (ks.zip vs).lookup q) (qs.filterMap fun q => (ks.zip ws).lookup q)
  | [] => .nil
  | q :: qs => by
    rw [List.filterMap_cons, List.filterMap_cons]
    rcases look_vals (q := q) (ks := ks) r with ⟨e1, e2⟩ | ⟨v, w, e1, e2, h⟩
    · rw [e1, e2]; exact sel_vals r qs
    · rw [e1, e2]; exact .cons h (sel_vals r qs)
theorem run_kw {pins : List (Addr × Obj)} {σ : L2.St} {H : Hp} {s : Shared} {Q : VK} {us ws : List Value} {vs zs : List V} {n : Nat} (F : FnOk X.prog X.w X.K X.mg X.base (L2.CX X.prog X.w) kk fa fd ps sp) (hr : Room kk X.A) (hb : KwOk fd ps n ks) (hx : PassesAt (L2.CX X.prog X.w) X σ (WE0 σ))
    (I : Inv X pins σ H s) (r1 : Vals vs us) (r2 : Vals zs ws) (l1 : vs.length = n) (l2 : zs.length = ks.length) (h : sp (vs ++ (ps.drop n).filterMap fun q => (ks.zip zs).lookup q) H Q (WE0 σ)) :
    wpAny (model X.prog X.w) X.A (call (.ref fa) us (ks.zip ws)) (EP X pins σ Q) X.xe s := by
  have b := hb us ws (r1.length ▸ l1) (r2.length ▸ l2) s
  have run := F.run X.A X.stack s H ⟨us, ks.zip ws⟩ _ _ Q (WE0 σ) hr I.env0 b (r1.append (sel_vals r2 _)) h
  refine wpAny_call (codeAny_mono run fun o s1 q => ?_)
  cases o with
  | ok fl => cases fl <;> first | exact I.after q | exact False.elim q
  | error u => exact hx pins H s u s1 I q
def tCallKw (ps : List Str) (n : Nat) (ks : List Str) (sp : Sp) (E : L2.St → XK) (t tk : TA) : TE := fun σ H Q => t σ H fun vs H1 => tk σ H1 fun zs H2 => vs.length = n ∧ zs.length = ks.length ∧ sp (vs ++ (ps.drop n).filterMap fun q => (ks.zip zs).lookup q) H2 Q (E σ)
theorem pe_kwS {n : Nat} {e : Expr} {es : List Expr} (F : FnOk X.prog X.w X.K X.mg X.base (L2.CX X.prog X.w) kk fa fd ps sp) (hr : Room kk X.A) (hg : Gl X x) (hm : X.mg x = some (.ref fa)) (hk : PySem.W.keepIn X.K (.ref fa) = true) (hb : KwOk fd ps n ks) (hx : ∀ σ, PassesAt (L2.CX X.prog X.w) X σ (WE0 σ))
    (ha : PA X (e :: es) t) (hkw : PK X kws tk) (hall : (backToKw pos (keywordEach kws X.env)).all (·.1.isSome) = true) (hks : (backToKw pos (keywordEach kws X.env)).filterMap (·.1) = ks) (hdb : (x == ("__debug__" : Str)) = false)
    (hst : starEach (e :: es) X.env = (false, eval e X.env) :: starEach es X.env) (hn : (backTo pos (starEach (e :: es) X.env)).any (·.1) = false) (hne : (backToKw pos (keywordEach kws X.env)).any (·.1.isNone) = false) :
    PE X (.Call (.Name x p) (e :: es) kws pos) (tCallKw ps n ks sp WE0 t tk) := by
  refine ⟨fun pins s σ H Q I h => wpAny_Call_Name_kw (ld_glob I hg hm ?_ hdb)⟩
  refine PySem.W.callWith_KW (h₀ := X.base) I.ok.mod.kin hk hall ?_ (by rw [hn, hne]; rfl) hst
  refine thn (ha.run pos pins s σ H _ I h) fun us s1 ⟨vs, H1, I1, r1, q1⟩ => ?_
  refine thn (hkw.run pos pins s1 σ H1 _ I1 q1) fun ws s2 ⟨zs, H2, I2, r2, l1, l2, q2⟩ => ⟨I2.kIn, ?_⟩
  rw [hks]
  exact run_kw F hr hb (hx σ) I2 r1 r2 l1 l2 q2
theorem pe_kw0S (F : FnOk X.prog X.w X.K X.mg X.base (L2.CX X.prog X.w) kk fa fd ps sp) (hr : Room kk X.A) (hg : Gl X x) (hm : X.mg x = some (.ref fa)) (hk : PySem.W.keepIn X.K (.ref fa) = true) (hb : KwOk fd ps 0 ks) (hx : ∀ σ, PassesAt (L2.CX X.prog X.w) X σ (WE0 σ))
    (hkw : PK X kws tk) (hall : (backToKw pos (keywordEach kws X.env)).all (·.1.isSome) = true) (hks : (backToKw pos (keywordEach kws X.env)).filterMap (·.1) = ks) (hdb : (x == ("__debug__" : Str)) = false)
    (hne : (backToKw pos (keywordEach kws X.env)).any (·.1.isNone) = false) :
    PE X (.Call (.Name x p) [] kws pos) (tCallKw ps 0 ks sp WE0 tNil tk) := by
  refine ⟨fun pins s σ H Q I h => wpAny_Call_Name_kw (ld_glob I hg hm ?_ hdb)⟩
  refine PySem.W.callWith_KW0 (h₀ := X.base) I.ok.mod.kin hk hall ?_ (by rw [hne]; rfl)
  refine thn (hkw.run pos pins s σ H _ I h) fun ws s2 ⟨zs, H2, I2, r2, l1, l2, q2⟩ => ⟨I2.kIn, ?_⟩
  rw [hks]
  exact run_kw (us := []) F hr hb (hx σ) I2 .nil r2 l1 l2 q2
theorem kw_all {pos : Pos} {env : PySem.Env} : ∀ {kws : List Keyword}, kws.all (·.arg.isSome) = true → (backToKw pos (keywordEach kws env)).all (·.1.isSome) = true ∧ (backToKw pos (keywordEach kws env)).filterMap (·.1) = kws.filterMap (·.arg) ∧ (backToKw pos (keywordEach kws env)).any (·.1.isNone) = false
  | [], _ => ⟨rfl, rfl, rfl⟩
  | ⟨nm, e, kp⟩ :: kws, h => by
    rw [List.all_cons] at h
    obtain ⟨h1, h2⟩ := tt h
    obtain ⟨q1, q2, q3⟩ := kw_all (pos := pos) (env := env) h2
    cases nm with
    | none => cases h1
    | some n =>
      refine ⟨?_, ?_, ?_⟩
      · show (true && (backToKw pos (keywordEach kws env)).all (·.1.isSome)) = true
        rw [q1]; rfl
      · show n :: (backToKw pos (keywordEach kws env)).filterMap (·.1) = _
        rw [q2]
        rfl
      · show (false || (backToKw pos (keywordEach kws env)).any (·.1.isNone)) = false
        rw [q3]; rfl
theorem kw_len : ∀ {kws : List Keyword}, kws.all (·.arg.isSome) = true → (kws.filterMap (·.arg)).length = kws.length
  | [], _ => rfl
  | ⟨nm, e, kp⟩ :: kws, h => by
    rw [List.all_cons] at h
    obtain ⟨h1, h2⟩ := tt h
    cases nm with
    | none => cases h1
    | some n => show (kws.filterMap (·.arg)).length + 1 = kws.length + 1; rw [kw_len h2]
theorem lookup_idx {q : Str} : ∀ {ks : List Str} {zs : List V}, zs.length = ks.length → (ks.zip zs).lookup q = zs[ks.idxOf q]?
  | [], [], _ => rfl
  | k :: ks, z :: zs, h => by
    rw [List.zip_cons_cons, List.lookup_cons, List.idxOf_cons]
    cases e : q == k with
    | true =>
      have : (k == q) = true := by rw [beq_iff_eq] at e ⊢; exact e.symm
      rw [this]
      rfl
    | false =>
      have : (k == q) = false := by
        apply Bool.eq_false_iff.mpr
        intro z
        rw [beq_iff_eq] at z
        rw [z] at e
        simp at e
      rw [this]
      show (ks.zip zs).lookup q = (z :: zs)[ks.idxOf q + 1]?
      rw [List.getElem?_cons_succ]
      exact lookup_idx (by simpa using h)
theorem sel_kw {ks : List Str} {zs : List V} (h : zs.length = ks.length) : ∀ qs : List Str, qs.filterMap (fun q => (ks.zip zs).lookup q) = selD (qs.map fun q => ks.idxOf q) zs
  | [] => rfl
  | q :: qs => by
    unfold selD
    rw [List.map_cons, List.filterMap_cons, List.filterMap_cons, lookup_idx h]
    have := sel_kw h qs
    unfold selD at this
    rw [this]
theorem Reps.sel {K : Frg} {H : Hp} {ι : List Addr} {ds : List D} {vs : List V} (r : Reps K H ι ds vs) : ∀ ix : List Nat, Reps K H ι (selD ix ds) (selD ix vs)
  | [] => rfl
  | i :: ix => by
    unfold selD
    rw [List.filterMap_cons, List.filterMap_cons]
    have q := Reps.sel r ix
    cases e : ds[i]? with
    | none =>
      have e2 : vs[i]? = none := by
        rw [List.getElem?_eq_none_iff] at e ⊢
        rw [← r.length]
        exact e
      rw [e2]
      exact q
    | some d =>
      obtain ⟨v, e2, rv⟩ := r.get e
      rw [e2]
      exact ⟨v, _, rfl, rv, q⟩
theorem evs_len {G : GI} {w : Wh} {c : Ctx} : ∀ {as : CEs} {es : List Expr} {ρ : Env} {h : Heap} {y : List D × Heap}, mEs G w as es = true → evs c as ρ h = .ok y → y.1.length = es.length
  | .nil, [], ρ, h, y, _, e => by
    simp only [evs] at e
    cases e
    rfl
  | .nil, _ :: _, _, _, _, h, _ => by simp [mEs] at h
  | .cons a as, [], _, _, _, h, _ => by simp [mEs] at h
  | .cons a as, x :: xs, ρ, hp, y, h, e => by
    simp only [mEs] at h
    obtain ⟨h, h2⟩ := tt h
    simp only [evs] at e
    obtain ⟨u, e1, e⟩ := bind_ok e
    obtain ⟨v, e2, e⟩ := bind_ok e
    cases e
    rw [List.length_cons, List.length_cons, evs_len h2 e2]
end
end Tw
end

section
set_option Elab.async false
set_option linter.all false
set_option maxRecDepth 100000
set_option maxHeartbeats 8000000
/-! THE THEOREM. Own work. -/
namespace Tw
open PySem PySem.Spec PyProof.Rows L2 RZ
section
variable {G : GI} {c : Ctx}
mutual
theorem sE : ∀ (e : CE) (w : Wh) (x : Expr) (X : Cx) (W : WS), XOk G c w X → TkOk G X W → mE G w e x = true → PE X x (rdE X.K W c e)
  | .var i, w, x, X, W, O, T, h => by
    simp only [mE] at h
    split at h
    · obtain ⟨h, h3⟩ := tt h
      obtain ⟨h1, h2⟩ := tt h
      exact s_var O (of_decide_eq_true h1) h2 h3
    · cases h
  | .int i, w, x, X, W, O, T, h => by
    simp only [mE] at h
    split at h
    · cases of_decide_eq_true h
      exact pe_int.imp fun σ H Q ⟨ι, ρ, hp, hs, hh, po⟩ => PoE.now po hh rfl
    · cases h
  | .bl i, w, x, X, W, O, T, h => by
    simp only [mE] at h
    split at h
    · cases of_decide_eq_true h
      exact pe_bl.imp fun σ H Q ⟨ι, ρ, hp, hs, hh, po⟩ => PoE.now po hh rfl
    · cases h
  | .non, w, x, X, W, O, T, h => by
    simp only [mE] at h
    split at h
    · exact pe_non.imp fun σ H Q ⟨ι, ρ, hp, hs, hh, po⟩ => PoE.now po hh rfl
    · cases h
  | .str i, w, x, X, W, O, T, h => by
    simp only [mE] at h
    split at h
    · cases of_decide_eq_true h
      exact pe_str.imp fun σ H Q ⟨ι, ρ, hp, hs, hh, po⟩ => PoE.now po hh rfl
    · cases h
  | .cst i, w, x, X, W, O, T, h => by
    simp only [mE] at h
    split at h
    · obtain ⟨h, h3⟩ := tt h
      obtain ⟨h1, h2⟩ := tt h
      exact s_cst O (of_decide_eq_true h1) h2 h3
    · cases h
  | .bin op a b, w, x, X, W, O, T, h => by
    simp only [mE] at h
    split at h
    · obtain ⟨h, h3⟩ := tt h
      obtain ⟨h1, h2⟩ := tt h
      rw [op_of h1]
      exact (pe_op (op_B op) (sE a w _ X W O T h2) (sE b w _ X W O T h3)).imp fun σ H Q ⟨ι, ρ, hp, hs, hh, po⟩ => rdE_op hs hh po
    · cases h
  | .cmp op a b, w, x, X, W, O, T, h => by
    simp only [mE] at h
    split at h
    · obtain ⟨h, h4⟩ := tt h
      obtain ⟨h, h3⟩ := tt h
      obtain ⟨h1, h2⟩ := tt h
      have h4 := Bool.not_eq_true' _ ▸ h4
      rw [cp_of h1] at h4 ⊢
      exact (pe_cmpR (op_C op O.hu) (sE a w _ X W O T h2) (sE b w _ X W O T h3) h4).imp fun σ H Q ⟨ι, ρ, hp, hs, hh, po⟩ => rdE_op hs hh po
    · cases h
  | .chain o1 o2 a b d, w, x, X, W, O, T, h => by
    simp only [mE] at h
    split at h
    · obtain ⟨h, h6⟩ := tt h
      obtain ⟨h, h5⟩ := tt h
      obtain ⟨h, h4⟩ := tt h
      obtain ⟨h, h3⟩ := tt h
      obtain ⟨h1, h2⟩ := tt h
      have h6 := Bool.not_eq_true' _ ▸ h6
      rw [cp_of h1, cp_of h2] at h6 ⊢
      exact (pe_chain (op_C o1 O.hu) (op_C o2 O.hu) (sE a w _ X W O T h3) (sE b w _ X W O T h4) (sE d w _ X W O T h5) h6).imp fun σ H Q h => chain_rd h
    · cases h
  | .and a b, w, x, X, W, O, T, h => by
    simp only [mE] at h
    split at h
    · obtain ⟨h1, h2⟩ := tt h
      exact (pe_andT (sE a w _ X W O T h1) (pe_one (sE b w _ X W O T h2))).imp fun σ H Q h => and_rd h
    · obtain ⟨h1, h2⟩ := tt h
      exact (pe_andT (sE a w _ X W O T h1) (sE b w _ X W O T h2)).imp fun σ H Q h => and_rd h
    · cases h
  | .or a b, w, x, X, W, O, T, h => by
    simp only [mE] at h
    split at h
    · obtain ⟨h1, h2⟩ := tt h
      exact (pe_orT (sE a w _ X W O T h1) (pe_one (sE b w _ X W O T h2))).imp fun σ H Q h => or_rd h
    · obtain ⟨h1, h2⟩ := tt h
      exact (pe_orT (sE a w _ X W O T h1) (sE b w _ X W O T h2)).imp fun σ H Q h => or_rd h
    · cases h
  | .not a, w, x, X, W, O, T, h => by
    simp only [mE] at h
    split at h
    · cases a with
      | val a =>
        simp only [mN] at h
        exact (pe_notT (sE a w _ X W O T h)).imp fun σ H Q h => notE_rd h
      | _ => simp [mN] at h
    · cases h
  | .neg a, w, x, X, W, O, T, h => by
    simp only [mE] at h
    split at h
    · exact (pe_un un_neg (sE a w _ X W O T h)).imp fun σ H Q h => neg_rd h
    · cases h
  | .ite t a b, w, x, X, W, O, T, h => by
    simp only [mE] at h
    split at h
    · obtain ⟨h, h3⟩ := tt h
      obtain ⟨h1, h2⟩ := tt h
      exact (pe_ifExp (sB t w _ X W O T h1) (sE a w _ X W O T h2) (sE b w _ X W O T h3)).imp fun σ H Q h => ite_rd h
    · cases h
  | .idx a i, w, x, X, W, O, T, h => by
    simp only [mE] at h
    split at h
    · obtain ⟨h, h3⟩ := tt h
      obtain ⟨h1, h2⟩ := tt h
      exact (pe_ix (ix_V (hu1 O)) (sE a w _ X W O T h1) (sE i w _ X W O T h2) (plain_ix h3)).imp fun σ H Q ⟨ι, ρ, hp, hs, hh, po⟩ => rdE_op hs hh po
    · cases h
  | .slc a lo hi, w, x, X, W, O, T, h => by
    simp only [mE] at h
    split at h
    · obtain ⟨h, h3⟩ := tt h
      obtain ⟨h1, h2⟩ := tt h
      exact (pe_slice sl_V (sE a w _ X W O T h1) (sO lo w _ X W O T h2) (sO hi w _ X W O T h3)).imp fun σ H Q h => slc_rd h
    · cases h
  | .tup es, w, x, X, W, O, T, h => by
    simp only [mE] at h
    split at h
    · exact (pe_tup (sEs es w _ X W O T h)).imp fun σ H Q ⟨ι, ρ, hp, hs, hh, po⟩ => ⟨ι, ρ, hp, hs, hh, po.bind.mono fun y ι1 H1 s1 p1 vs h1 r1 => by
        obtain ⟨hl, p1⟩ := Po.chk p1
        exact ⟨by rw [lim_eq, ← r1.length]; exact of_decide_eq_true hl, fun p hn => new_tup h1 r1 hn p1⟩⟩
    · cases h
  | .new l, w, x, X, W, O, T, h => by
    simp only [mE] at h
    exact (sL l w _ X W O T h).imp fun σ H Q h => new_rd h
  | .dct ps, w, x, X, W, O, T, h => by
    simp only [mE] at h
    split at h
    · obtain ⟨h, h3⟩ := tt h
      obtain ⟨h1, h2⟩ := tt h
      obtain ⟨p1, p2, p3, p4⟩ := sP ps w _ _ _ X W O T h1
      have h3 := of_decide_eq_true h3
      exact (pe_disp2 (by have := O.hu; omega) p1 p2 p3 (fun e => by rw [e] at h2; cases h2) h3).imp fun σ H Q h => dct_rd (by rw [← p4]; exact h3) h
    · cases h
  | .dcomp k v t it cd, w, x, X, W, O, T, h => by
    simp only [mE] at h
    split at h
    · obtain ⟨h, h7⟩ := tt h
      obtain ⟨h, h6⟩ := tt h
      obtain ⟨h, h5⟩ := tt h
      obtain ⟨h, h4⟩ := tt h
      obtain ⟨h, h3⟩ := tt h
      obtain ⟨hb, h2⟩ := tt h
      have q := fun pos => pe_dc (pos := pos) (own := ownOf w.N t.slots) (g := rdT X.K c t) (tt := rdF X.K c cd) (tk := rdE X.K W00 c k) (tv := rdE X.K W00 c v) O.calm (by rw [O.N]; exact O.nd) (sI it w _ _ X W O T h3) (by rw [O.N, O.sc]; exact blkOk_by hb) (fun s H C cl fp => sT t (inW w _) _ _ (inW_ok O _ (blk_kind hb) s H C cl fp) h4)
        (fun s H C cl fp => sIf cd (inW w _) _ _ (inW_ok O _ (blk_kind hb) s H C cl fp) h5) (fun s H C cl fp => sE k (inW w _) _ _ W00 (inW_ok O _ (blk_kind hb) s H C cl fp) tk0 h6) (fun s H C cl fp => sE v (inW w _) _ _ W00 (inW_ok O _ (blk_kind hb) s H C cl fp) tk0 h7) (sISet h3)
      simp only [own_ix] at q
      exact (q _).imp fun σ H Q h => dc_rd h
    · cases h
  | .call f bs, w, x, X, W, O, T, h => by
    simp only [mE] at h
    split at h
    · rename_i nm q1 args q2
      split at h
      · rename_i p hp
        have hp' := hp
        obtain ⟨h, h4⟩ := tt h
        obtain ⟨h, h3⟩ := tt h
        obtain ⟨h1, h2⟩ := tt h
        have e := of_decide_eq_true h1
        subst e
        obtain ⟨k, fa, fd, F, hr, hm, hk, hb⟩ := O.fns f p hp
        obtain ⟨n1, n2, n3⟩ := nm_of h3
        have pa := sEs bs w _ X W O T h4
        have pl := mEs_plain h4
        obtain ⟨wx, tw, twi⟩ := T
        have hb : Binds X.K fd p.2 [] := fun s us _ hl => by
          rw [List.append_nil] at hl ⊢
          have q := hb us [] [] List.nodup_nil (by simpa using hl) rfl (fun _ h => nomatch h) s
          have e : (p.2.drop us.length).filterMap (fun q => (([] : List Str).zip ([] : List Value)).lookup q) = [] := by
            rw [List.drop_eq_nil_of_le (by omega)]
            rfl
          rw [e, List.append_nil] at q
          exact q
        have wish : ∀ σ k fs hp ι H, wr X.K W σ k fs hp ι H → wrE X.K G X.mg (L2.WE wx σ) k fs hp ι H := fun σ k fs hp ι H h hh cls d e => twi _ _ _ _ _ _ _ (h hh) e
        cases args with
        | nil =>
          refine ⟨fun pins s σ H Q I ⟨ι, ρ, hp, hs, hh, po⟩ => ?_⟩
          refine wpAny_Call_Name_kw (ld_glob I (gl_of O h2) hm ?_ n1)
          refine PySem.W.callWith_K0 I.kIn hk (run_fnS (us := []) (E := L2.WE wx) F hr hb (passAt tw σ) I .nil ?_)
          cases bs with
          | nil => exact ⟨ar_len O hp' Reps.nil po, ι, _, [], hh, rfl, po.wish fun _ _ _ _ _ _ => wish _ _ _ _ _ _⟩
          | cons a b => simp [mEs] at h4
        | cons a args =>
          exact (pe_callS (E := L2.WE wx) F hr (gl_of O h2) hm hk hb (passAt tw) pa n1 (star_cons (pl a List.mem_cons_self)) (star_all (fun e he => pl e (List.mem_cons_of_mem _ he)) _)).imp fun σ H Q ⟨ι, ρ, hp, hs, hh, po⟩ => by
            refine ⟨ι, ρ, hp, hs, hh, po.bind.mono fun y ι1 H1 s1 p1 vs h1 r1 => ?_⟩
            exact ⟨ar_len O hp' r1 p1, ι1, y.2, y.1, h1, r1, p1.wish fun _ _ _ _ _ _ => wish _ _ _ _ _ _⟩
      · cases h
    · cases h
  | .callK f ix as bs, w, x, X, W, O, T, h => by
    simp only [mE] at h
    split at h
    · rename_i nm q1 args kws q2
      split at h
      · rename_i p hp
        have hp' := hp
        obtain ⟨h, h6⟩ := tt h
        obtain ⟨h, h5⟩ := tt h
        obtain ⟨h, h4⟩ := tt h
        obtain ⟨h, h3⟩ := tt h
        obtain ⟨h1, h2⟩ := tt h
        have e := of_decide_eq_true h1
        subst e
        unfold kwB at h6
        obtain ⟨h6, k5⟩ := tt h6
        obtain ⟨h6, k4⟩ := tt h6
        obtain ⟨h6, k3⟩ := tt h6
        obtain ⟨k1, k2⟩ := tt h6
        have k2 := of_decide_eq_true k2
        have k3 := of_decide_eq_true k3
        have k5 := of_decide_eq_true k5
        obtain ⟨k, fa, fd, F, hr, hm, hk, hb⟩ := O.fns f p hp
        obtain ⟨n1, n2, n3⟩ := nm_of h3
        have pa := sEs as w _ X W O T h4
        have pk := sKs bs w kws X W O T h5
        have pl := mEs_plain h4
        obtain ⟨wx, tw, twi⟩ := T
        obtain ⟨a1, a2, a3⟩ := kw_all (pos := q2) (env := X.env) k1
        have kb : KwOk fd p.2 args.length (kws.filterMap (·.arg)) := fun us ws l1 l2 s => by
          rw [← l1]
          refine hb us _ ws k2 (by rw [l1]; exact k3) l2 (fun z hz => ?_) s
          have := List.all_eq_true.mp k4 z hz
          rw [l1]
          exact List.contains_iff_mem.mp this
        have wish : ∀ σ k fs hp ι H, wr X.K W σ k fs hp ι H → wrE X.K G X.mg (L2.WE wx σ) k fs hp ι H := fun σ k fs hp ι H h hh cls d e => twi _ _ _ _ _ _ _ (h hh) e
        have fin : ∀ (σ : L2.St) (H : Hp) (Q : VK) (ι : List Addr) (ρ : Env) (hp : Heap) (vs : List V) (ds : List D), SRep X.K H ι σ ρ → HpRep X.K H ι hp → Reps X.K H ι ds vs → vs.length = args.length →
            PoE X.K (wr X.K W σ) ι H ((evs c bs ρ hp).bind fun y => c.T f (ds ++ selD ix y.1) y.2) Q → rdA X.K W c bs σ H fun zs H2 => vs.length = args.length ∧ zs.length = (kws.filterMap (·.arg)).length ∧ spT X.K G X.mg (c.T f) p.2.length (vs ++ (p.2.drop args.length).filterMap fun q => ((kws.filterMap (·.arg)).zip zs).lookup q) H2 Q (L2.WE wx σ) := by
          intro σ H Q ι ρ hp vs ds hs hh r lv po
          refine ⟨ι, ρ, hp, hs, hh, (Po.eqn po.bind).mono fun y ι1 H1 s1 ⟨ey, p1⟩ zs h1 r1 => ?_⟩
          have lz : zs.length = (kws.filterMap (·.arg)).length := by
            rw [← r1.length, kw_len k1, evs_len h5 ey, List.length_map]
          have es : (p.2.drop args.length).filterMap (fun q => ((kws.filterMap (·.arg)).zip zs).lookup q) = selD ix zs := by
            rw [k5]
            exact sel_kw lz _
          have rr := (hh.reps s1 _ _ r).append (r1.sel ix)
          refine ⟨lv, lz, ?_⟩
          rw [es]
          exact ⟨ar_len O hp' rr p1, ι1, y.2, _, h1, rr, p1.wish fun _ _ _ _ _ _ => wish _ _ _ _ _ _⟩
        cases args with
        | nil =>
          exact (pe_kw0S (WE0 := L2.WE wx) F hr (gl_of O h2) hm hk kb (passAt tw) pk a1 a2 n1 a3).imp fun σ H Q ⟨ι, ρ, hp, hs, hh, po⟩ => by
            cases as with
            | nil => exact fin σ H Q ι ρ hp [] [] hs hh rfl rfl po
            | cons a b => simp [mEs] at h4
        | cons a args =>
          exact (pe_kwS (WE0 := L2.WE wx) F hr (gl_of O h2) hm hk kb (passAt tw) pa pk a1 a2 n1 (star_cons (pl a List.mem_cons_self)) (star_all pl _) a3).imp fun σ H Q ⟨ι, ρ, hp, hs, hh, po⟩ => by
            refine ⟨ι, ρ, hp, hs, hh, (Po.eqn po.bind).mono fun y ι1 H1 s1 ⟨ey, p1⟩ vs h1 r1 => ?_⟩
            exact fin σ H1 Q ι1 ρ y.2 vs y.1 (hh.srep s1 hs) h1 r1 (by rw [← r1.length]; exact evs_len h4 ey) p1
      · cases h
    · cases h
  | .pop l, w, x, X, W, O, T, h => by
    simp only [mE] at h
    split at h
    · obtain ⟨h, h4⟩ := tt h
      obtain ⟨h, h3⟩ := tt h
      obtain ⟨h1, h2⟩ := tt h
      have e := of_decide_eq_true h1
      subst e
      exact (pe_bm0 PySem.F.plainAttrs_list PySem.F.slot_list_pop PySem.F.type_list_pop mt_pop (sE l w _ X W O T h2) (base_of h3) h4).imp fun σ H Q h => pop_rd h
    · cases h
  | .popi l a, w, x, X, W, O, T, h => by
    simp only [mE] at h
    split at h
    · obtain ⟨h, h5⟩ := tt h
      obtain ⟨h, h4⟩ := tt h
      obtain ⟨h, h3⟩ := tt h
      obtain ⟨h1, h2⟩ := tt h
      have e := of_decide_eq_true h1
      subst e
      have pl := mE_plain h3
      exact (pe_bm PySem.F.plainAttrs_list PySem.F.slot_list_pop PySem.F.type_list_pop mt_popAt (sE l w _ X W O T h2) (pa_cons (sE a w _ X W O T h3) pa_nil (star_cons pl)) (base_of h4) (by rw [star_cons pl]; rfl) h5 (star_cons pl) rfl).imp fun σ H Q h => popi_rd h
    · cases h
  | .index l a, w, x, X, W, O, T, h => by
    simp only [mE] at h
    split at h
    · obtain ⟨h, h5⟩ := tt h
      obtain ⟨h, h4⟩ := tt h
      obtain ⟨h, h3⟩ := tt h
      obtain ⟨h1, h2⟩ := tt h
      have e := of_decide_eq_true h1
      subst e
      have pl := mE_plain h3
      exact (pe_bm PySem.F.plainAttrs_list PySem.F.slot_list_index PySem.F.type_list_index (mt_indexD (by have := O.hu; omega)) (sE l w _ X W O T h2) (pa_cons (sE a w _ X W O T h3) pa_nil (star_cons pl)) (base_of h4) (by rw [star_cons pl]; rfl) h5 (star_cons pl) rfl).imp fun σ H Q h => index_rd h
    · cases h
  | .sqL b l, w, x, X, W, O, T, h => by
    simp only [mE] at h
    split at h
    · obtain ⟨h1, h2⟩ := tt h
      obtain ⟨e, hg, hm⟩ := bl_of O h1
      subst e
      have pl := mL_plain h2
      exact (pe_callF (sqK b) (call_SqL O.calm O.hu b) hg hm (sqBoot b) (pa_cons (sL l w _ X W O T h2) pa_nil (star_cons pl)) (sqN b).1 (sqN b).2 (star_cons pl) rfl).imp fun σ H Q h => sqL_rd h
    · cases h
  | .sqE b s, w, x, X, W, O, T, h => by
    simp only [mE] at h
    split at h
    · obtain ⟨h, pl⟩ := tt h
      obtain ⟨h1, h2⟩ := tt h
      obtain ⟨e, hg, hm⟩ := bl_of O h1
      subst e
      exact (pe_callF (sqK b) (call_SqE O.calm O.hu b) hg hm (sqBoot b) (pa_cons (sE s w _ X W O T h2) pa_nil (star_cons pl)) (sqN b).1 (sqN b).2 (star_cons pl) rfl).imp fun σ H Q h => sqE_rd h
    · cases h
  | .trev s, w, x, X, W, O, T, h => by
    simp only [mE] at h
    split at h
    · obtain ⟨h, pl⟩ := tt h
      obtain ⟨h, h3⟩ := tt h
      obtain ⟨h1, h2⟩ := tt h
      obtain ⟨e, hg, hm⟩ := bl_of O h1
      subst e
      obtain ⟨e, hg2, hm2⟩ := bl_of O h2
      subst e
      exact (RT.pe_tupRev O.calm hg hm hg2 hm2 (sE s w _ X W O T h3) (star_cons pl) (star_cons rfl)).imp fun σ H Q h => trev_rd h
    · cases h
  | .back s false, w, x, X, W, O, T, h => by
    simp only [mE] at h
    split at h
    · obtain ⟨h1, h2⟩ := tt h
      cases of_decide_eq_true h1
      exact (pe_back (sE s w _ X W O T h2) (.inl ⟨rfl, rfl⟩)).imp fun σ H Q h => back_rd h
    · cases h
  | .back s true, w, x, X, W, O, T, h => by
    simp only [mE] at h
    split at h
    · obtain ⟨h, h2⟩ := tt h
      obtain ⟨h1, h3⟩ := tt h
      cases of_decide_eq_true h1
      cases of_decide_eq_true h3
      exact (pe_back (sE s w _ X W O T h2) (.inr ⟨rfl, _, _, rfl⟩)).imp fun σ H Q h => back_rd h
    · cases h
  | .get2 d k y, w, x, X, W, O, T, h => by
    simp only [mE] at h
    split at h
    · obtain ⟨h, h6⟩ := tt h
      obtain ⟨h, h5⟩ := tt h
      obtain ⟨h, h4⟩ := tt h
      obtain ⟨h, h3⟩ := tt h
      obtain ⟨h1, h2⟩ := tt h
      have e := of_decide_eq_true h1
      subst e
      have pl1 := mE_plain h3
      have pl2 := mE_plain h4
      exact (pe_dget2 (by have := O.hu; omega) (sE d w _ X W O T h2) (sE k w _ X W O T h3) (sE y w _ X W O T h4) ⟨base_of h5, by rw [star_cons pl1, star_cons pl2]; rfl, h6, by rw [star_cons pl1, star_cons pl2]; rfl⟩).imp fun σ H Q h => get2_rd h
    · cases h
  | .stuck, w, x, X, W, O, T, h => ⟨fun pins s σ H Q I ⟨ι, ρ, hp, hs, hh, po⟩ => by
      unfold ev at po
      exact po.elim⟩
  | .bi b bs, w, x, X, W, O, T, h => by
    simp only [mE] at h
    split at h
    · rename_i nm q1 args q2
      obtain ⟨h, h3⟩ := tt h
      obtain ⟨h1, h2⟩ := tt h
      obtain ⟨e, hg, hm⟩ := bl_of O h1
      subst e
      have pa := sEs bs w _ X W O T h2
      have pl := mEs_plain h2
      cases args with
      | nil => cases h3
      | cons a args =>
        exact (pe_callF (biK b) (call_Bi O.calm b) hg hm (biBoot b) pa (biN b).1 (biN b).2 (star_cons (pl a List.mem_cons_self)) (star_all (fun e he => pl e (List.mem_cons_of_mem _ he)) _)).imp fun σ H Q ⟨ι, ρ, hp, hs, hh, po⟩ => call_rd hs hh po
    · cases h
  | .sq b s, w, x, X, W, O, T, h => by
    simp only [mE] at h
    split at h
    · obtain ⟨h1, h2⟩ := tt h
      obtain ⟨e, hg, hm⟩ := bl_of O h1
      subst e
      obtain ⟨pq, pl⟩ := sQ s w _ X W O T h2
      exact (pe_callF (sqK b) (call_Sq O.calm b) hg hm (sqBoot b) (pa_cons pq pa_nil (star_cons pl)) (sqN b).1 (sqN b).2 (star_cons pl) rfl).imp fun σ H Q ⟨ι, ρ, hp, hs, hh, po⟩ => sq_rd hs hh po
    · cases h
  | .isin a t, w, x, X, W, O, T, h => by
    simp only [mE] at h
    split at h
    · obtain ⟨h, h3⟩ := tt h
      obtain ⟨h1, h2⟩ := tt h
      obtain ⟨e, hg, hm⟩ := bl_of O h1
      subst e
      obtain ⟨e, hg2, hm2⟩ := bl_of O h3
      subst e
      have pe := sE a w _ X W O T h2
      have ty : ∀ pos, PE X (.Name (Str.ofString (tyX t)) pos) (tC (.ty (tyX t))) := fun pos => pe_bltn hg2 hm2 (tyBoot t) rfl (tyN t).1 (tyN t).2
      have pl := mE_plain h2
      exact (pe_callF (.inl ⟨_, rfl⟩) call_isi hg hm isiBoot (pa_cons pe (pa_cons (ty _) pa_nil (star_cons rfl)) (star_cons pl)) (by decide +kernel) (by decide +kernel) (star_cons pl) rfl).imp fun σ H Q ⟨ι, ρ, hp, hs, hh, po⟩ => by
        refine ⟨ι, ρ, hp, hs, hh, po.bind.mono fun y ι1 H1 s1 p1 v h1 r1 => ?_⟩
        obtain ⟨b, e, p1⟩ := Po.ofO p1
        obtain ⟨T, h2, h3⟩ := kit_ok h1 r1 e
        exact ⟨v, .ty (tyX t), .type T, .type (tyX t), b, rfl, .ty _, h2, h3, PoE.now p1 h1 rfl⟩
    · cases h
  | .app l a, w, x, X, W, O, T, h => by
    simp only [mE] at h
    split at h
    · obtain ⟨h, h5⟩ := tt h
      obtain ⟨h, h4⟩ := tt h
      obtain ⟨h, h3⟩ := tt h
      obtain ⟨h1, h2⟩ := tt h
      have e := of_decide_eq_true h1
      subst e
      have pl := mE_plain h3
      exact (pe_bm PySem.F.plainAttrs_list PySem.F.slot_list_append PySem.F.type_list_append mt_append (sE l w _ X W O T h2) (pa_cons (sE a w _ X W O T h3) pa_nil (star_cons pl)) (base_of h4) (by rw [star_cons pl]; rfl) h5 (star_cons pl) rfl).imp fun σ H Q h => app_rd h
    · cases h
  | .ext l a, w, x, X, W, O, T, h => by
    simp only [mE] at h
    split at h
    · obtain ⟨h, h5⟩ := tt h
      obtain ⟨h, h4⟩ := tt h
      obtain ⟨h, h3⟩ := tt h
      obtain ⟨h1, h2⟩ := tt h
      have e := of_decide_eq_true h1
      subst e
      have pl := mL_plain h3
      exact (pe_bm PySem.F.plainAttrs_list PySem.F.slot_list_extend PySem.F.type_list_extend mt_extend (sE l w _ X W O T h2) (pa_cons (sL a w _ X W O T h3) pa_nil (star_cons pl)) (base_of h4) (by rw [star_cons pl]; rfl) h5 (star_cons pl) rfl).imp fun σ H Q h => ext_rd h
    · cases h
theorem sB : ∀ (e : CB) (w : Wh) (x : Expr) (X : Cx) (W : WS), XOk G c w X → TkOk G X W → mB G w e x = true → PT X x (rdB X.K W c e)
  | .val e, w, x, X, W, O, T, h => by
    simp only [mB] at h
    obtain ⟨h1, h2⟩ := tt h
    rcases Bool.or_eq_true_iff.mp h2 with h2 | h2
    · exact (pt_truth (sE e w _ X W O T h1) (tst_of h2)).imp fun σ H Q h => tru_rd h
    · cases x <;> first | cases h2 | skip
      cases e
      case cmp op a b =>
        simp only [mE] at h1
        split at h1
        · rename_i e
          cases e
          obtain ⟨h, h4⟩ := tt h1
          obtain ⟨h, h3⟩ := tt h
          obtain ⟨h1, h2⟩ := tt h
          have h4 := Bool.not_eq_true' _ ▸ h4
          rw [cp_of h1] at h4 ⊢
          exact (pt_cmpR (op_C op O.hu) (sE a w _ X W O T h2) (sE b w _ X W O T h3) h4).imp fun σ H Q h => tst_cmp h
        · cases h1
      case chain o1 o2 a b d =>
        simp only [mE] at h1
        split at h1
        · rename_i e
          cases e
          obtain ⟨h, h6⟩ := tt h1
          obtain ⟨h, h5⟩ := tt h
          obtain ⟨h, h4⟩ := tt h
          obtain ⟨h, h3⟩ := tt h
          obtain ⟨h1, h2⟩ := tt h
          have h6 := Bool.not_eq_true' _ ▸ h6
          rw [cp_of h1, cp_of h2] at h6 ⊢
          exact (pt_chain (op_C o1 O.hu) (op_C o2 O.hu) (sE a w _ X W O T h3) (sE b w _ X W O T h4) (sE d w _ X W O T h5) h6).imp fun σ H Q h => tst_chain h
        · cases h1
      case new l => cases l <;> (simp only [mE, mL] at h1; cases h1)
      case back s b => cases b <;> (simp only [mE] at h1; cases h1)
      case stuck =>
        refine ⟨fun pins s σ H Q I ⟨ι, ρ, hp, hs, hh, po⟩ => ?_⟩
        unfold tv ev at po
        exact po.elim
      all_goals (simp only [mE] at h1; cases h1)
  | .and a b, w, x, X, W, O, T, h => by
    simp only [mB] at h
    split at h
    · obtain ⟨h1, h2⟩ := tt h
      exact (pw_and (sB a w _ X W O T h1) (pw_and1 (sB b w _ X W O T h2))).pt.imp fun σ H Q h => andB_rd h
    · obtain ⟨h1, h2⟩ := tt h
      exact (pw_and (sB a w _ X W O T h1) (pw_of (sB b w _ X W O T h2))).pt.imp fun σ H Q h => andB_rd h
    · cases h
  | .or a b, w, x, X, W, O, T, h => by
    simp only [mB] at h
    split at h
    · obtain ⟨h1, h2⟩ := tt h
      exact (pw_or (sB a w _ X W O T h1) (pw_or1 (sB b w _ X W O T h2))).pt.imp fun σ H Q h => orB_rd h
    · obtain ⟨h1, h2⟩ := tt h
      exact (pw_or (sB a w _ X W O T h1) (pw_of (sB b w _ X W O T h2))).pt.imp fun σ H Q h => orB_rd h
    · cases h
  | .not a, w, x, X, W, O, T, h => by
    simp only [mB] at h
    split at h
    · exact (pt_not (sB a w _ X W O T h)).imp fun σ H Q h => notB_rd h
    · cases h
  | .ite _ _ _, w, x, X, W, O, T, h => by simp [mB] at h
theorem sIf : ∀ (e : CBO) (w : Wh) (xs : List Expr) (X : Cx), XOk G c w X → mIf G w e xs = true → PTs X xs (rdF X.K c e)
  | .none, w, xs, X, O, h => by
    simp only [mIf] at h
    split at h
    · exact pts_nil.imp fun σ H Q ⟨ι, ρ, hp, hs, hh, po⟩ => po ι H .refl hh
    · cases h
  | .some a, w, xs, X, O, h => by
    simp only [mIf] at h
    split at h
    · exact (pts_one (sB a w _ X W00 O tk0 h)).imp fun σ H Q h => h
    · cases h
theorem sO : ∀ (e : CO) (w : Wh) (x : Option Expr) (X : Cx) (W : WS), XOk G c w X → TkOk G X W → mO G w e x = true → PO X x (rdO X.K W c e)
  | .none, w, xs, X, W, O, T, h => by
    simp only [mO] at h
    split at h
    · exact po_none.imp fun σ H Q ⟨ι, ρ, hp, hs, hh, po⟩ => po ι H .refl hh
    · cases h
  | .some a, w, xs, X, W, O, T, h => by
    simp only [mO] at h
    split at h
    · refine (po_some (sE a w _ X W O T h)).imp fun σ H Q ⟨ι, ρ, hp, hs, hh, po⟩ => ⟨ι, ρ, hp, hs, hh, po.bind.mono fun x ι1 H1 s1 p1 v h1 r1 => ?_⟩
      cases hx : x.1 with
      | int i => rw [hx] at p1 r1; exact ⟨i, r1, p1 ι1 H1 .refl h1⟩
      | _ => rw [hx] at p1; exact p1.elim
    · cases h
theorem sEs : ∀ (es : CEs) (w : Wh) (xs : List Expr) (X : Cx) (W : WS), XOk G c w X → TkOk G X W → mEs G w es xs = true → PA X xs (rdA X.K W c es)
  | .nil, w, xs, X, W, O, T, h => by
    simp only [mEs] at h
    split at h
    · exact pa_nil.imp fun σ H Q ⟨ι, ρ, hp, hs, hh, po⟩ => po ι H .refl [] hh rfl
    · cases h
  | .cons e es, w, xs, X, W, O, T, h => by
    simp only [mEs] at h
    split at h
    · obtain ⟨h, h3⟩ := tt h
      obtain ⟨h1, h2⟩ := tt h
      exact (pa_cons (sE e w _ X W O T h1) (sEs es w _ X W O T h3) (star_cons h2)).imp fun σ H Q h => evs_rd h
    · cases h
theorem sKs : ∀ (es : CEs) (w : Wh) (xs : List Keyword) (X : Cx) (W : WS), XOk G c w X → TkOk G X W → mEs G w es (xs.map (·.value)) = true → PK X xs (rdA X.K W c es)
  | .nil, w, xs, X, W, O, T, h => by
    cases xs with
    | nil => exact ⟨fun pos pins s σ H Q I ⟨ι, ρ, hp, hs, hh, po⟩ => pk_nil.run pos pins s σ H Q I (po ι H .refl [] hh rfl)⟩
    | cons a b => simp [mEs] at h
  | .cons e es, w, xs, X, W, O, T, h => by
    cases xs with
    | nil => simp [mEs] at h
    | cons a b =>
      simp only [List.map_cons, mEs] at h
      obtain ⟨h, h3⟩ := tt h
      obtain ⟨h1, h2⟩ := tt h
      obtain ⟨nm, v, kp⟩ := a
      exact ⟨fun pos pins s σ H Q I h => (pk_cons (nm := nm) (kpos := kp) (sE e w _ X W O T h1) (sKs es w b X W O T h3)).run pos pins s σ H Q I (evs_rd h)⟩
theorem sP : ∀ (ps : CPs) (w : Wh) (ks : List (Option Expr)) (vs : List Expr) (pos : Pos) (X : Cx) (W : WS), XOk G c w X → TkOk G X W → mP G w ps ks vs = true → PPs X pos ks vs (trs X.K W c ps) ∧ ks.all (·.isSome) = true ∧ ks.length = vs.length ∧ ks.length = ps.len
  | .nil, w, ks, vs, pos, X, W, O, T, h => by
    simp only [mP] at h
    split at h
    · exact ⟨pps_nil, rfl, rfl, rfl⟩
    · cases h
  | .cons a b ps, w, ks, vs, pos, X, W, O, T, h => by
    simp only [mP] at h
    split at h
    · obtain ⟨h, h3⟩ := tt h
      obtain ⟨h1, h2⟩ := tt h
      obtain ⟨q1, q2, q3, q4⟩ := sP ps w _ _ pos X W O T h3
      exact ⟨pps_cons (sE a w _ X W O T h1) (sE b w _ X W O T h2) q1, by rw [List.all_cons, q2]; rfl, by rw [List.length_cons, List.length_cons, q3], by rw [List.length_cons, q4]; rfl⟩
    · cases h
theorem sL : ∀ (l : CL) (w : Wh) (x : Expr) (X : Cx) (W : WS), XOk G c w X → TkOk G X W → mL G w l x = true → PE X x (rdL X.K W c l)
  | .comp a t it cd, w, x, X, W, O, T, h => by
    simp only [mL] at h
    split at h
    · obtain ⟨h, h6⟩ := tt h
      obtain ⟨h, h5⟩ := tt h
      obtain ⟨h, h4⟩ := tt h
      obtain ⟨h, h3⟩ := tt h
      obtain ⟨hb, h2⟩ := tt h
      have q := fun pos => pe_lc (pos := pos) (own := ownOf w.N t.slots) (g := rdT X.K c t) (tt := rdF X.K c cd) (te := rdE X.K W00 c a) O.calm (by rw [O.N]; exact O.nd) (sI it w _ _ X W O T h3) (by rw [O.N, O.sc]; exact blkOk_by hb) (fun s H C cl fp => sT t (inW w _) _ _ (inW_ok O _ (blk_kind hb) s H C cl fp) h4)
        (fun s H C cl fp => sIf cd (inW w _) _ _ (inW_ok O _ (blk_kind hb) s H C cl fp) h5) (fun s H C cl fp => sE a (inW w _) _ _ W00 (inW_ok O _ (blk_kind hb) s H C cl fp) tk0 h6) (sISet h3)
      simp only [own_ix] at q
      exact (q _).imp fun σ H Q h => lc_rd h
    · cases h
  | .disp es, w, x, X, W, O, T, h => by
    simp only [mL] at h
    split at h
    · exact (pe_lst (sEs es w _ X W O T h)).imp fun σ H Q h => disp_rd h
    · cases h
  | .rep es n, w, x, X, W, O, T, h => by
    simp only [mL] at h
    split at h
    · obtain ⟨h1, h2⟩ := tt h
      exact (pe_op op_rep (pe_lst (sEs es w _ X W O T h1)) (sE n w _ X W O T h2)).imp fun σ H Q h => rep_rd h
    · cases h
  | .of s, w, x, X, W, O, T, h => by
    simp only [mL] at h
    split at h
    · obtain ⟨h1, h2⟩ := tt h
      obtain ⟨e, hg, hm⟩ := bl_of O h1
      subst e
      obtain ⟨pq, pl⟩ := sQ s w _ X W O T h2
      exact (pe_callTy call_list_of hg hm (by decide +kernel) (pa_cons pq pa_nil (star_cons pl)) (by decide +kernel) (by decide +kernel) (star_cons pl) rfl).imp fun σ H Q h => of_rd h
    · cases h
  | .srt l, w, x, X, W, O, T, h => by
    simp only [mL] at h
    split at h
    · obtain ⟨h1, h2⟩ := tt h
      obtain ⟨e, hg, hm⟩ := bl_of O h1
      subst e
      have pl := mL_plain h2
      exact (pe_callB srt_call hg hm (by decide +kernel) (pa_cons (sL l w _ X W O T h2) pa_nil (star_cons pl)) (by decide +kernel) (by decide +kernel) (star_cons pl) rfl).imp fun σ H Q h => srt_rd h
    · cases h
  | .srtE b, w, x, X, W, O, T, h => by
    simp only [mL] at h
    split at h
    · obtain ⟨h, pl⟩ := tt h
      obtain ⟨h1, h2⟩ := tt h
      obtain ⟨e, hg, hm⟩ := bl_of O h1
      subst e
      exact (pe_callB srt_call hg hm (by decide +kernel) (pa_cons (sE b w _ X W O T h2) pa_nil (star_cons pl)) (by decide +kernel) (by decide +kernel) (star_cons pl) rfl).imp fun σ H Q h => srtE_rd h
    · cases h
  | .srtC a t it cd, w, x, X, W, O, T, h => by
    simp only [mL] at h
    split at h
    · obtain ⟨h, h6⟩ := tt h
      obtain ⟨h, h5⟩ := tt h
      obtain ⟨h, h4⟩ := tt h
      obtain ⟨h, h3⟩ := tt h
      obtain ⟨h, h2⟩ := tt h
      obtain ⟨h0, hb⟩ := tt h
      obtain ⟨e, hg, hm⟩ := bl_of O h0
      subst e
      have q := fun pos => pe_sk (pos := pos) (own := ownOf w.N t.slots) (g := rdT X.K c t) (tt := rdF X.K c cd) (te := rdE X.K W00 c a) (set_tups O.hu) O.calm (by rw [O.N]; exact O.nd) (sI it w _ _ X W O T h3) (by rw [O.N, O.sc]; exact blkOk_by hb) (fun s H C cl fp => sT t (inW w _) _ _ (inW_ok O _ (blk_kind hb) s H C cl fp) h4)
        (fun s H C cl fp => sIf cd (inW w _) _ _ (inW_ok O _ (blk_kind hb) s H C cl fp) h5) (fun s H C cl fp => sE a (inW w _) _ _ W00 (inW_ok O _ (blk_kind hb) s H C cl fp) tk0 h6) (sISet h3)
      simp only [own_ix] at q
      exact (pe_callB (cr_sortedT O.calm) hg hm (by decide +kernel) (pa_cons (q _) pa_nil (star_cons rfl)) (by decide +kernel) (by decide +kernel) (star_cons rfl) rfl).imp fun σ H Q h => srtC_rd h
    · cases h
  | .srtS l, w, x, X, W, O, T, h => by
    simp only [mL] at h
    split at h
    · obtain ⟨h, h2⟩ := tt h
      obtain ⟨h0, h1⟩ := tt h
      obtain ⟨e, hg, hm⟩ := bl_of O h0
      subst e
      obtain ⟨e, hg2, hm2⟩ := bl_of O h1
      subst e
      have pl := mL_plain h2
      exact (pe_callB (cr_sortedT O.calm) hg hm (by decide +kernel) (pa_cons (pe_callTy (cr_setOfT O.calm (by have := O.hu; omega)) hg2 hm2 (by decide +kernel) (pa_cons (sL l w _ X W O T h2) pa_nil (star_cons pl)) (by decide +kernel) (by decide +kernel) (star_cons pl) rfl) pa_nil (star_cons rfl)) (by decide +kernel) (by decide +kernel) (star_cons rfl) rfl).imp fun σ H Q h => srtS_rd h
    · cases h
theorem sI : ∀ (s : CI) (w : Wh) (x tg : Expr) (X : Cx) (W : WS), XOk G c w X → TkOk G X W → mI G w s x tg = true → PI X tg x (rdI X.K W c s)
  | .val e, w, x, tg, X, W, O, T, h => by
    simp only [mI] at h
    obtain ⟨h, h3⟩ := tt h
    obtain ⟨h1, h2⟩ := tt h
    refine (pi_seq (sE e w _ X W O T h1)).imp fun σ H R ⟨ι, ρ, hp, hs, hh, po⟩ => ⟨ι, ρ, hp, hs, hh, po.bind.mono fun x ι1 H1 s1 p1 v h1 r1 => ?_⟩
    obtain ⟨wk, e, p1⟩ := Po.ofO p1
    rcases seq_wk h1 r1 e with ⟨a, rfl, ex, _, k⟩ | ⟨a, rfl, ex, _, k⟩
    · exact .inl ⟨a, rfl, ex, p1 ι1 H1 .refl h1 _ (wk_list k)⟩
    · exact .inr ⟨a, rfl, ex, p1 ι1 H1 .refl h1 _ (wk_tup k)⟩
  | .tmp l, w, x, tg, X, W, O, T, h => by
    simp only [mI] at h
    refine (pi_list (sL l w _ X W O T h)).imp fun σ H R ⟨ι, ρ, hp, hs, hh, po⟩ => ⟨ι, ρ, hp, hs, hh, po.bind.mono fun x ι1 H1 s1 p1 h1 a vs na ni ha r => ?_⟩
    refine ⟨a, rfl, ⟨vs, .of ha⟩, p1 ι1 H1 .refl h1 _ (wk_list fun ι' H' hp' s h' _ => ⟨vs, .of (s.kp a _ ha ni), h1.reps s _ _ r⟩)⟩
  | .rng1 a, w, x, tg, X, W, O, T, h => by
    simp only [mI] at h
    split at h
    · obtain ⟨h, h3⟩ := tt h
      obtain ⟨h1, h2⟩ := tt h
      obtain ⟨e, hg, hm⟩ := bl_of O h1
      subst e
      refine (pi_range1 hg hm (pa_cons (sE a w _ X W O T h2) pa_nil (star_cons h3)) (star_cons h3)).imp fun σ H R ⟨ι, ρ, hp, hs, hh, po⟩ => ⟨ι, ρ, hp, hs, hh, po.bind.mono fun x ι1 H1 s1 p1 v h1 r1 => ?_⟩
      cases hx : x.1 with
      | int j =>
        rw [hx] at p1 r1
        obtain ⟨k, p1⟩ := Po.chk p1
        obtain ⟨k1, k2⟩ := tt k
        exact ⟨j, by rw [show v = .int j from r1], of_decide_eq_true k1, of_decide_eq_true k2, p1 ι1 H1 .refl h1 _ wk_rng⟩
      | _ => rw [hx] at p1; exact p1.elim
    · cases h
  | .rev a, w, x, tg, X, W, O, T, h => by
    simp only [mI] at h
    split at h
    · obtain ⟨h, h3⟩ := tt h
      obtain ⟨h1, h2⟩ := tt h
      obtain ⟨e, hg, hm⟩ := bl_of O h1
      subst e
      exact (RT.pi_revA hg hm (sE a w _ X W O T h2) (star_cons h3)).imp fun σ H R h => rev_rd h
    · cases h
  | .rng3 a b d, w, x, tg, X, W, O, T, h => by
    simp only [mI] at h
    split at h
    · obtain ⟨h, h7⟩ := tt h
      obtain ⟨h, h6⟩ := tt h
      obtain ⟨h, h5⟩ := tt h
      obtain ⟨h, h4⟩ := tt h
      obtain ⟨h, h3⟩ := tt h
      obtain ⟨h1, h2⟩ := tt h
      obtain ⟨e, hg, hm⟩ := bl_of O h1
      subst e
      refine (pi_range3 hg hm (pa_cons (sE a w _ X W O T h2) (pa_cons (sE b w _ X W O T h4) (pa_cons (sE d w _ X W O T h6) pa_nil (star_cons h7)) (star_cons h5)) (star_cons h3)) (star_cons h3) (by rw [star_cons h5, star_cons h7]; rfl)).imp fun σ H R ⟨ι, ρ, hp, hs, hh, po⟩ => ⟨ι, ρ, hp, hs, hh, po.bind.mono fun x ι1 H1 s1 p1 v h1 r1 => ?_⟩
      refine ⟨ι1, ρ, x.2, hh.srep s1 hs, h1, p1.bind.mono fun y ι2 H2 s2 p2 u h2 r2 => ?_⟩
      have r1 := h1.rep s2 _ _ r1
      refine ⟨ι2, ρ, y.2, h1.srep s2 (hh.srep s1 hs), h2, p2.bind.mono fun z ι3 H3 s3 p3 t h3 r3 => ?_⟩
      have r1 := h2.rep s3 _ _ r1
      have r2 := h2.rep s3 _ _ r2
      cases hx : x.1 with
      | int i =>
        cases hy : y.1 with
        | int j =>
          cases hz : z.1 with
          | int k =>
            rw [hx, hy, hz] at p3
            rw [hx] at r1
            rw [hy] at r2
            rw [hz] at r3
            obtain ⟨ck, p3⟩ := Po.chk p3
            exact ⟨i, j, k, _, by rw [show v = .int i from r1, show u = .int j from r2, show t = .int k from r3], rgC_ok ck, p3 ι3 H3 .refl h3 _ wk_rngS⟩
          | _ => rw [hx, hy, hz] at p3; exact p3.elim
        | _ => rw [hx, hy] at p3; exact p3.elim
      | _ => rw [hx] at p3; exact p3.elim
    · cases h
  | .rng2 a b, w, x, tg, X, W, O, T, h => by
    simp only [mI] at h
    split at h
    · obtain ⟨h, h5⟩ := tt h
      obtain ⟨h, h4⟩ := tt h
      obtain ⟨h, h3⟩ := tt h
      obtain ⟨h1, h2⟩ := tt h
      obtain ⟨e, hg, hm⟩ := bl_of O h1
      subst e
      refine (pi_range2 hg hm (pa_cons (sE a w _ X W O T h2) (pa_cons (sE b w _ X W O T h4) pa_nil (star_cons h5)) (star_cons h3)) (by rw [star_cons h3, star_cons h5]; rfl) (star_cons h5)).imp fun σ H R ⟨ι, ρ, hp, hs, hh, po⟩ => ⟨ι, ρ, hp, hs, hh, po.bind.mono fun x ι1 H1 s1 p1 v h1 r1 => ?_⟩
      refine ⟨ι1, ρ, x.2, hh.srep s1 hs, h1, p1.bind.mono fun y ι2 H2 s2 p2 u h2 r2 => ?_⟩
      have r1 := h1.rep s2 _ _ r1
      cases hx : x.1 with
      | int i =>
        cases hy : y.1 with
        | int j =>
          rw [hx, hy] at p2
          rw [hx] at r1
          rw [hy] at r2
          obtain ⟨k, p2⟩ := Po.chk p2
          obtain ⟨k1, k2⟩ := tt k
          obtain ⟨k1, k1'⟩ := tt k1
          obtain ⟨k2, k2'⟩ := tt k2
          exact ⟨i, j, by rw [show v = .int i from r1, show u = .int j from r2], ⟨of_decide_eq_true k1, of_decide_eq_true k1', of_decide_eq_true k2, of_decide_eq_true k2'⟩, p2 ι2 H2 .refl h2 _ wk_rng⟩
        | _ => rw [hx, hy] at p2; exact p2.elim
      | _ => rw [hx] at p2; exact p2.elim
    · cases h
  | .enum a, w, x, tg, X, W, O, T, h => by
    simp only [mI] at h
    split at h
    · obtain ⟨h, h3⟩ := tt h
      obtain ⟨h1, h2⟩ := tt h
      obtain ⟨e, hg, hm⟩ := bl_of O h1
      subst e
      refine (pi_enum2 hg hm (pa_cons (sE a w _ X W O T h2) pa_nil (star_cons h3)) (star_cons h3)).imp fun σ H R ⟨ι, ρ, hp, hs, hh, po⟩ => ⟨ι, ρ, hp, hs, hh, po.bind.mono fun x ι1 H1 s1 p1 v h1 r1 => ?_⟩
      obtain ⟨wk, e, p1⟩ := Po.ofO p1
      rcases seq_wk h1 r1 e with ⟨a, rfl, ⟨xs, ex⟩, _, k⟩ | ⟨a, rfl, ⟨xs, ex⟩, _, k⟩
      · exact .inl ⟨a, xs, rfl, ex, p1 ι1 H1 .refl h1 _ (wk_enum k)⟩
      · exact .inr ⟨a, xs, rfl, ex, p1 ι1 H1 .refl h1 _ (wk_enumT k)⟩
    · cases h
  | .zip a b, w, x, tg, X, W, O, T, h => by
    simp only [mI] at h
    split at h
    · obtain ⟨h, h5⟩ := tt h
      obtain ⟨h, h4⟩ := tt h
      obtain ⟨h, h3⟩ := tt h
      obtain ⟨h1, h2⟩ := tt h
      obtain ⟨e, hg, hm⟩ := bl_of O h1
      subst e
      refine (pi_zipA hg hm (pa_cons (sE a w _ X W O T h2) (pa_cons (sE b w _ X W O T h4) pa_nil (star_cons h5)) (star_cons h3)) (star_cons h3) (by rw [star_cons h5]; rfl)).imp fun σ H R ⟨ι, ρ, hp, hs, hh, po⟩ => ⟨ι, ρ, hp, hs, hh, po.bind.mono fun x ι1 H1 s1 p1 v h1 r1 => ?_⟩
      refine ⟨ι1, ρ, x.2, hh.srep s1 hs, h1, p1.bind.mono fun y ι2 H2 s2 p2 u h2 r2 => ?_⟩
      have r1 := h1.rep s2 _ _ r1
      obtain ⟨wk1, e1, p2⟩ := Po.ofO p2
      obtain ⟨wk2, e2, p2⟩ := Po.ofO p2
      obtain ⟨et, p2⟩ := Po.chk p2
      have et := of_decide_eq_true et
      rcases seq_wk h2 r1 e1 with ⟨a, rfl, ⟨xs, ex⟩, t1, k⟩ | ⟨a, rfl, ⟨xs, ex⟩, t1, k⟩
      · rcases seq_wk h2 r2 e2 with ⟨b, rfl, ⟨ys, ey⟩, t2, k2⟩ | ⟨b, rfl, ⟨ys, ey⟩, t2, k2⟩
        · exact ⟨a, b, xs, ys, rfl, .inl ⟨ex, ey, p2 ι2 H2 .refl h2 _ (wk_zip k k2)⟩⟩
        · rw [t1, t2] at et; cases et
      · rcases seq_wk h2 r2 e2 with ⟨b, rfl, ⟨ys, ey⟩, t2, k2⟩ | ⟨b, rfl, ⟨ys, ey⟩, t2, k2⟩
        · rw [t1, t2] at et; cases et
        · exact ⟨a, b, xs, ys, rfl, .inr ⟨ex, ey, p2 ι2 H2 .refl h2 _ (wk_zipT k k2)⟩⟩
    · cases h
theorem sQ : ∀ (s : CI) (w : Wh) (x : Expr) (X : Cx) (W : WS), XOk G c w X → TkOk G X W → mQ G w s x = true → PE X x (rdQ X.K W c s) ∧ plainE x = true
  | .val e, w, x, X, W, O, T, h => by
    simp only [mQ] at h
    obtain ⟨h1, h2⟩ := tt h
    exact ⟨(sE e w _ X W O T h1).imp fun σ H Q h => val_rd h, h2⟩
  | .tmp l, w, x, X, W, O, T, h => by
    simp only [mQ] at h
    exact ⟨(sL l w _ X W O T h).imp fun σ H Q h => tmp_rd h, mL_plain h⟩
  | .rng1 _, w, x, X, W, O, T, h => by simp [mQ] at h
  | .rng2 _ _, w, x, X, W, O, T, h => by simp [mQ] at h
  | .rev _, w, x, X, W, O, T, h => by simp [mQ] at h
  | .rng3 _ _ _, w, x, X, W, O, T, h => by simp [mQ] at h
  | .enum _, w, x, X, W, O, T, h => by simp [mQ] at h
  | .zip _ _, w, x, X, W, O, T, h => by simp [mQ] at h
theorem sT : ∀ (t : CT) (w : Wh) (x : Expr) (X : Cx), XOk G c w X → mT G w t x = true → PG X x (rdT X.K c t)
  | .name i, w, x, X, O, h => by
    simp only [mT] at h
    split at h
    · obtain ⟨h1, h2⟩ := tt h
      obtain ⟨q1, q2⟩ := O.fn _ h2
      refine (pg_name (i := i) (by rw [O.N]; exact O.nd) (by rw [O.N]; exact of_decide_eq_true h1) (by rw [O.sc]; exact q1) (by rw [O.sc]; exact q2)).imp fun v σ H Q ⟨ι, ρ, hp, d, z, hs, hh, r, ez, po⟩ => ?_
      cases ez
      exact po ι H .refl hh _ Agr.set (hs.set r i)
    · cases h
  | .tup ts, w, x, X, O, h => by
    simp only [mT] at h
    split at h
    · obtain ⟨q1, q2, q3⟩ := sTs ts w _ X O h
      refine (pg_tup O.calm q1 rfl q2).imp fun v σ H Q ⟨ι, ρ, hp, d, z, hs, hh, r, ez, po⟩ => ?_
      cases d with
      | tup ds =>
        obtain ⟨a, vs, rfl, q, zz⟩ := r
        have ez : asgs c ts ds ρ hp = .ok z := ez
        refine ⟨a, vs, rfl, q, ?_, ι, ρ, hp, ds, z, hs, hh, zz, ez, po⟩
        rw [q3, ← zz.length, asgs_len ez]
      | _ => cases ez
    · cases h
  | .sub o i, w, x, X, O, h => by
    simp only [mT] at h
    split at h
    · obtain ⟨h, h3⟩ := tt h
      obtain ⟨h1, h2⟩ := tt h
      refine (pg_sub (sE o w _ X W00 O tk0 h1) (sE i w _ X W00 O tk0 h2) (set_V (hu1 O)) ?_).imp fun v σ H Q ⟨ι, ρ, hp, d, z, hs, hh, r, ez, po⟩ => ?_
      · exact sub_asg h3
      · simp only [asg] at ez
        obtain ⟨x, e1, ez⟩ := bind_ok ez
        obtain ⟨y, e2, ez⟩ := bind_ok ez
        obtain ⟨hp3, e3, ez⟩ := bind_ok ez
        cases ez
        refine ⟨ι, ρ, hp, hs, hh, (po_is e1).mono fun x' ι1 H1 s1 ex u h1 r1 => ?_⟩
        subst ex
        have hs1 := hh.srep s1 hs
        refine ⟨ι1, ρ, x'.2, hs1, h1, (po_is e2).mono fun y' ι2 H2 s2 ey t h2 r2 => ?_⟩
        subst ey
        have hs2 := h1.srep s2 hs1
        refine ⟨W0, ι2, y'.2, x'.1, y'.1, d, h2, h1.rep s2 _ _ r1, r2, h1.rep s2 _ _ (hh.rep s1 _ _ r), (po_is e3).mono fun hp4 ι3 H3 s3 e4 h3 => ?_⟩
        subst e4
        exact po ι3 H3 (s1.trans (s2.trans s3)) h3 σ .refl (h2.srep s3 hs2)
    · cases h
theorem sTs : ∀ (ts : CTs) (w : Wh) (xs : List Expr) (X : Cx), XOk G c w X → mTs G w ts xs = true → PGs X xs (rdTs X.K c ts) ∧ (assignEach xs X.env).findIdx? (·.1) = none ∧ (assignEach xs X.env).length = ts.len
  | .nil, w, xs, X, O, h => by
    simp only [mTs] at h
    split at h
    · refine ⟨pgs_nil.imp fun vs σ H Q ⟨ι, ρ, hp, ds, z, hs, hh, r, ez, po⟩ => ?_, rfl, rfl⟩
      cases ds with
      | nil =>
        cases ez
        exact ⟨r, po ι H .refl hh σ .refl hs⟩
      | cons _ _ => cases ez
    · cases h
  | .cons t ts, w, xs, X, O, h => by
    simp only [mTs] at h
    split at h
    · obtain ⟨h, h3⟩ := tt h
      obtain ⟨h1, h2⟩ := tt h
      obtain ⟨q1, q2, q3⟩ := sTs ts w _ X O h3
      refine ⟨(pgs_cons (sT t w _ X O h1) q1 (by rw [asg_cons h2]; rfl)).imp fun vs σ H Q ⟨ι, ρ, hp, ds, z, hs, hh, r, ez, po⟩ => ?_, ?_, ?_⟩
      · cases ds with
        | nil => cases ez
        | cons d ds =>
          obtain ⟨v, vr, rfl, r1, r2⟩ := r
          simp only [asgs] at ez
          obtain ⟨st, e1, e2⟩ := bind_ok ez
          refine ⟨v, vr, rfl, ι, ρ, hp, d, st, hs, hh, r1, e1, fun ι1 H1 s1 h1 σ1 ag hs1 => ?_⟩
          exact ⟨ι1, st.1, st.2, ds, z, hs1, h1, hh.reps s1 _ _ r2, e2, fun ι2 H2 s2 h2 σ2 ag2 hs2 => po ι2 H2 (s1.trans s2) h2 σ2 (ag.trans ag2) hs2⟩
      · rw [asg_cons h2, List.findIdx?_cons, q2]
        rfl
      · rw [asg_cons h2, List.length_cons, q3]
        rfl
    · cases h
end
end
end Tw
end

section
set_option Elab.async false
set_option linter.all false
set_option maxRecDepth 100000
set_option maxHeartbeats 4000000
/-! A try with clauses, each with a name or without. Own work. -/
namespace Tw
open PySem PySem.Spec PyProof.Rows L2
abbrev Cl : Type := Value × Option Nat × (Addr → Value → Option Addr → TS)
def forget (De : Ends) (i : Nat) : Ends := { nx := fun τ G => De.nx (τ.set i none) G, rt := De.rt, bk := fun τ G => De.bk (τ.set i none) G, ct := fun τ G => De.ct (τ.set i none) G }
def inSuite (De : Ends) : Option Nat → (Addr → Value → Option Addr → TS) → Addr → Value → Option Addr → L2.St → Hp → Prop
  | none, ts, a, cls, d, τ, G => ts a cls d De τ G
  | some i, ts, a, cls, d, τ, G => ts a cls d (forget De i) (τ.set i (some (.ref a))) G
/-- what the clauses want of an exception of the body, one after the other -/
def wMix (K : Frg) (Wo : WX) (De : Ends) : List Cl → WX
  | [] => Wo
  | (cv, nm, ts) :: r => fun cls d τ G => ∃ b, PySem.W.exmOne K cls cv = some b ∧ (b = true → ∀ a, G a = none → inSuite De nm ts a cls d τ G) ∧ (b = false → wMix K Wo De r cls d τ G)
abbrev SuiteOk (X : Cx) (su : List Stmt) (ts : Addr → Value → Option Addr → TS) : Prop :=
  ∀ (a : Addr) (ob : Obj) (cls : Value) (d : Option Addr) (pn : List (Addr × Obj)), Zc cls d ob → (∃ vs, ob.data = .fields vs) → PSs (X.suite a ((a, ob) :: pn)) su (ts a cls d)
inductive MixOk (X : Cx) : List ExceptHandler → List Cl → Prop
  | nil : MixOk X [] []
  | anon {x : Str} {cv : Value} {ts : Addr → Value → Option Addr → TS} {b₀ : Stmt} {su : List Stmt} {p1 p2 : Pos} {hs : List ExceptHandler} {l : List Cl} (hc : Names X x cv) (h : SuiteOk X (b₀ :: su) ts) (r : MixOk X hs l) :
      MixOk X (.ExceptHandler (some (.Name x p1)) none (b₀ :: su) p2 :: hs) ((cv, none, ts) :: l)
  | named {x n : Str} {i : Nat} {cv : Value} {ts : Addr → Value → Option Addr → TS} {b₀ : Stmt} {su : List Stmt} {p1 p2 : Pos} {hs : List ExceptHandler} {l : List Cl} (hc : Names X x cv) (hN : X.N.Nodup) (hi : X.N[i]? = some n) (hl : X.env.kindOf n = some .local) (h : SuiteOk X (b₀ :: su) ts)
      (r : MixOk X hs l) : MixOk X (.ExceptHandler (some (.Name x p1)) (some n) (b₀ :: su) p2 :: hs) ((cv, some i, ts) :: l)
section
variable {X : Cx} {Wo : WX} {De : Ends} {pins : List (Addr × Obj)} {τ : L2.St} {G : Hp} {sI s : Shared} {e : Addr} {B : PySem.Heap} {cls : Value} {d : Option Addr}
/-- an exception in hand at X: noted at its frame -/
structure InHand (X : Cx) (pins : List (Addr × Obj)) (τ : L2.St) (G : Hp) (sI s : Shared) (e : Addr) (B : PySem.Heap) (cls : Value) (d : Option Addr) : Prop where
  inv : Inv X pins τ G sI
  keep : ∀ b o, sI.heap.get? b = some o → b ∉ frs X.stack → B.get? b = some o
  up : sI.heap.UpToSlots s.heap
  fly : HandSPX.FlyingZ B (X.env :: X.outer) e (Zc cls d) s.heap
  new : G e = none
  os : s.os = sI.os
  bare : AllBare s.gens
theorem InHand.here (h : InHand X pins τ G sI s e B cls d) : Inv X pins τ G s := h.inv.landed h.keep h.fly.1 h.up h.os h.bare
theorem InHand.later {g : PySem.Heap} (h : InHand X pins τ G sI s e B cls d) (f : HandSPX.FlyingZ B (X.env :: X.outer) e (Zc cls d) g) (u : s.heap.UpToSlots g) : InHand X pins τ G sI { s with heap := g } e B cls d :=
  ⟨h.inv, h.keep, h.up.trans u, f, h.new, h.os, h.bare⟩
theorem InHand.there (h : InHand X pins τ G sI s e B cls d) : ∃ ob vs, s.heap.get? e = some ob ∧ Zc cls d ob ∧ ob.data = .fields vs := h.fly.there
theorem InHand.off (hf : X.env.frame = some X.env.locals) (h : InHand X pins τ G sI s e B cls d) : e ≠ X.env.locals ∧ e ∉ X.fs := by
  obtain ⟨ob, vs, he, _, hd⟩ := h.there
  have no : e ∉ frs (X.env :: X.outer) := fun m => by
    obtain ⟨_, o, ho, nf⟩ := h.fly.2.2.1.mem m
    cases he.symm.trans ho
    exact nf vs hd
  refine ⟨fun q => no ?_, fun m => no ?_⟩
  · exact List.mem_filterMap.mpr ⟨X.env, .head _, by rw [hf, q]⟩
  · obtain ⟨u, hu, q⟩ := List.mem_filterMap.mp m
    exact List.mem_filterMap.mpr ⟨u, .tail _ hu, q⟩
theorem InHand.suite (hf : X.env.frame = some X.env.locals) (h : InHand X pins τ G sI s e B cls d) : ∃ ob vs, s.heap.get? e = some ob ∧ Zc cls d ob ∧ ob.data = .fields vs ∧ Inv (X.suite e ((e, ob) :: (X.pn ++ pins))) [] τ G s := by
  obtain ⟨ob, vs, he, hz, hd⟩ := h.there
  obtain ⟨n1, n2⟩ := h.off hf
  exact ⟨ob, vs, he, hz, hd, h.here.suite he hd h.new n1 n2⟩
/-- no clause fits: it flies on -/
theorem onward (hs : X.stack = X.env :: X.outer) (hf : X.env.frame = some X.env.locals) (tk : Takes X Wo) (h : InHand X pins τ G sI s e B cls d) (w : Wo cls d τ G) : wpAny (model X.prog X.w) X.A (handleBy (.ref e) X.env []) (L2.SP X pins De) X.xe s := by
  refine wpAny_handleBy_nil ?_
  obtain ⟨_, _, _, ob, vs, T, oT, tv, he, hz, hd, h1, hr⟩ := h.fly
  have go : wpAny (model X.prog X.w) X.A (setFlight (.ref e) X.env.frame) (fun _ z => wpAny (model X.prog X.w) X.A (throw (.ref e) : Sem Flow) (L2.SP X pins De) X.xe z) X.xe s := by
    rw [hf]
    refine HandSPX.setFlight_upZ h.fly fun g held u => wpAny_throw (tk _ _ ⟨e, B, sI, pins, τ, G, cls, d, rfl, h.inv, h.keep, h.up.trans u, .inr (.inr ?_), h.new, h.os, h.bare, w⟩)
    rw [hs]
    exact held
  unfold PySem.passOn
  refine wpAny_bind (wpAny_field he hd h1 ?_)
  rw [if_neg (show ¬ ((Value.ref T == Value.none) = true) from by simp)]
  first
    | exact wpAny_bind (wpAny_pure (wpAny_bind go))
    | exact wpAny_bind go
theorem handled (hs : X.stack = X.env :: X.outer) (hf : X.env.frame = some X.env.locals) (tk : Takes X Wo) {hds : List ExceptHandler} {l : List Cl} (m : MixOk X hds l) (ok : X.Ok) : ∀ {s : Shared}, InHand X pins τ G sI s e B cls d → wMix X.K Wo De l cls d τ G →
    wpAny (model X.prog X.w) X.A (handleBy (.ref e) X.env hds) (L2.SP X pins De) X.xe s := by
  induction m with
  | nil => exact fun h w => onward hs hf tk h w
  | @anon x cv ts b₀ su p1 p2 hds2 l2 hc hsu r ih =>
    intro s h w
    obtain ⟨b, hb, yes, no⟩ := w
    obtain ⟨ob, vs, he, hz, hd, S⟩ := h.suite hf
    refine wpAny_handleBy_cons (codeAny_handlers_test ?_) (by intro q; cases q)
    have name : ∀ {Q E : Value → Shared → Prop}, Q cv s → wpAny (model X.prog X.w) (X.A.mark (some (.ref e))) (eval (.Name x p1) X.env) Q E s := by
      intro Q E q
      obtain ⟨g1, g2, g3 | ⟨g3, g4, g5⟩⟩ := hc
      · exact ld_glob (X := X.suite e ((e, ob) :: (X.pn ++ pins))) S g1 g3 q g2
      · exact ld_blt (X := X.suite e ((e, ob) :: (X.pn ++ pins))) S g1 g3 g4 q g5 g2
    have cl : PySem.W.Looks (model X.prog X.w) s.heap (typeOf (.ref e)) cls := fun A Q E z k q => wpAny_typeOf_ref (k _ _ he) (by rw [hz.1]; exact q)
    refine name ((PySem.W.exm_one h.here.kIn cl hb).here ?_)
    cases b with
    | false => exact ih h (no rfl)
    | true =>
      refine codeAny_handlers_suite (HandSPX.lands_againZ h.fly fun g f u => ?_)
      have h' := h.later f u
      obtain ⟨ob', vs', he', hz', hd', S'⟩ := h'.suite hf
      refine wpAny_mono ((hsu e ob' cls d (X.pn ++ pins) hz' ⟨_, hd'⟩).run [] _ _ G _ S' (yes rfl e h.new)) (fun fl z q => ?_) (fun _ _ z => z.elim)
      cases fl with
      | ret u => obtain ⟨v, τ', G', J, rv, q⟩ := q; exact ⟨v, τ', G', J.unsuite ok, rv, q⟩
      | next => obtain ⟨τ', G', J, q⟩ := q; exact ⟨τ', G', J.unsuite ok, q⟩
      | brk => obtain ⟨τ', G', J, q⟩ := q; exact ⟨τ', G', J.unsuite ok, q⟩
      | cont => obtain ⟨τ', G', J, q⟩ := q; exact ⟨τ', G', J.unsuite ok, q⟩
  | @named x n i cv ts b₀ su p1 p2 hds2 l2 hc hN hi hl hsu r ih =>
    intro s h w
    obtain ⟨b, hb, yes, no⟩ := w
    obtain ⟨ob, vs, he, hz, hd, S⟩ := h.suite hf
    refine wpAny_handleBy_cons (codeAny_handlers_test ?_) (by intro q; cases q)
    have name : ∀ {Q E : Value → Shared → Prop}, Q cv s → wpAny (model X.prog X.w) (X.A.mark (some (.ref e))) (eval (.Name x p1) X.env) Q E s := by
      intro Q E q
      obtain ⟨g1, g2, g3 | ⟨g3, g4, g5⟩⟩ := hc
      · exact ld_glob (X := X.suite e ((e, ob) :: (X.pn ++ pins))) S g1 g3 q g2
      · exact ld_blt (X := X.suite e ((e, ob) :: (X.pn ++ pins))) S g1 g3 g4 q g5 g2
    have cl : PySem.W.Looks (model X.prog X.w) s.heap (typeOf (.ref e)) cls := fun A Q E z k q => wpAny_typeOf_ref (k _ _ he) (by rw [hz.1]; exact q)
    refine name ((PySem.W.exm_one h.here.kIn cl hb).here ?_)
    cases b with
    | false => exact ih h (no rfl)
    | true =>
      refine codeAny_handlers_suite_as (HandSPX.lands_againZ h.fly fun g f u => ?_)
      have h' := h.later f u
      obtain ⟨ob', vs', he', hz', hd', S'⟩ := h'.suite hf
      refine store_ok (X := X.suite e ((e, ob') :: (X.pn ++ pins))) (v := .ref e) S' hN hi (.inl hl) rfl (fun z Z => ?_) (.inr hl)
      refine wpAny_mono ((hsu e ob' cls d (X.pn ++ pins) hz' ⟨_, hd'⟩).run [] z _ G _ Z (yes rfl e h.new)) (fun fl y q => ?_) (fun _ _ z => z.elim)
      have gone : ∀ {τ' : L2.St} {G' : Hp} {Q : Shared → Prop}, Inv (X.suite e ((e, ob') :: (X.pn ++ pins))) [] τ' G' y → (∀ y', Inv X pins (τ'.set i none) G' y' → Q y') →
          wpAny (model X.prog X.w) X.A (do bindName X.env n .none; unbindBehindTheSuite X.env n p2) (fun _ y' => Q y') X.xe y := fun J k => gone_ok (J.unsuite ok) hN hi hl k
      cases fl with
      | ret u => obtain ⟨v, τ', G', J, rv, q⟩ := q; exact gone J fun y' J' => ⟨v, _, G', J', rv, q⟩
      | next => obtain ⟨τ', G', J, q⟩ := q; exact gone J fun y' J' => ⟨_, G', J', q⟩
      | brk => obtain ⟨τ', G', J, q⟩ := q; exact gone J fun y' J' => ⟨_, G', J', q⟩
      | cont => obtain ⟨τ', G', J, q⟩ := q; exact gone J fun y' J' => ⟨_, G', J', q⟩
theorem try_mix {body : List Stmt} {h₀ : ExceptHandler} {hds : List ExceptHandler} {l : List Cl} {pos : Pos} {tb : WX → TS} (hs : X.stack = X.env :: X.outer) (hf : X.env.frame = some X.env.locals) (tk : Takes X Wo)
    (hb : ∀ (V : WX) (pn : List (Addr × Obj)) (xe : Value → Shared → Prop), Takes (X.tr pn xe) V → PassesOwn (model X.prog X.w) X.A X.env xe → PSs (X.tr pn xe) body (tb V))
    (m : MixOk X (h₀ :: hds) l) : PS X (.Try body (h₀ :: hds) [] [] pos) (fun De τ G => tb (wMix X.K Wo De l) De τ G) := by
  refine ⟨fun pins s τ G De I h => wpAny_Try_except ?_⟩
  have ok := I.ok
  have fr : X.A.frames = some (X.env :: X.outer) := by rw [ok.frames, hs]
  let xe2 : Value → Shared → Prop := fun u s1 => wpAny (model X.prog X.w) X.A (noteFrame u X.env) (fun _ s2 => wpAny (model X.prog X.w) X.A (setFlight u none) (fun _ s3 => wpAny (model X.prog X.w) X.A (handleBy u X.env (h₀ :: hds)) (L2.SP X pins De) X.xe s3) X.xe s2) X.xe s1
  have take : Takes (X.tr (X.pn ++ pins) xe2) (wMix X.K Wo De l) := by
    rintro u s1 ⟨e, B, sI, pins2, τ2, G2, cls, d, rfl, J, nb, up, sky, na, os, ag, w⟩
    have sky : Sky B (X.env :: X.outer) e (Zc cls d) X.env.locals s1.heap := by rw [← hs]; exact sky
    refine Sky.land Zc.steady fr hf sky fun g fly u => ?_
    exact handled hs hf tk m ok (s := { s1 with heap := g }) ⟨J.ofTry ok, nb, up.trans u, fly, na, os, ag⟩ w
  refine wpAny_mono ((hb (wMix X.K Wo De l) (X.pn ++ pins) xe2 take PassesOwn.looking).run [] s τ G De (I.toTry _) h) (fun fl y q => ?_) (fun _ _ q => q)
  cases fl with
  | ret u => obtain ⟨v, τ', G', J, rv, q⟩ := q; exact ⟨v, τ', G', J.ofTry ok, rv, q⟩
  | next => obtain ⟨τ', G', J, q⟩ := q; exact wpAny_execs_nil ⟨τ', G', J.ofTry ok, q⟩
  | brk => obtain ⟨τ', G', J, q⟩ := q; exact ⟨τ', G', J.ofTry ok, q⟩
  | cont => obtain ⟨τ', G', J, q⟩ := q; exact ⟨τ', G', J.ofTry ok, q⟩
end
end Tw
end

section
set_option Elab.async false
set_option linter.all false
set_option maxRecDepth 100000
set_option maxHeartbeats 4000000
/-! Except suites. Own work. -/
namespace Tw
open PySem PySem.Spec PyProof.Rows L2
theorem fld_at : ∀ {fl : List Str} {fs : List D} {f : Str} {e : D}, fldV fl fs f = some e → ∃ j : Nat, fl[j]? = some f ∧ fs[j]? = some e
  | [], _, _, _, h => by simp [fldV] at h
  | _ :: _, [], _, _, h => by simp [fldV] at h
  | g :: gs, x :: xs, f, e, h => by
    unfold fldV at h
    by_cases q : g = f
    · rw [if_pos q] at h
      cases h
      exact ⟨0, by rw [q]; rfl, rfl⟩
    · rw [if_neg q] at h
      obtain ⟨j, h1, h2⟩ := fld_at h
      exact ⟨j + 1, h1, h2⟩
section
variable {G : GI} {cl : List (List Nat × List Str)} {X : Cx} {a : Addr} {ob : Obj} {cls : Value} {d : Option Addr} {pn : List (Addr × Obj)}
/-- the exception at hand, seen from a suite -/
structure Hand (G : GI) (X : Cx) (a : Addr) (cls : Value) (d : Option Addr) (nm : Option Nat) (k : Nat) (fl : List Str) (fs : List D) (ι : List Addr) (σ : L2.St) (H : Hp) : Prop where
  at_ : ∃ x, G.cl[k]? = some (x, fl)
  is : ExIs X.K G X.mg k fs ι H cls d
  slot : ∀ i, nm = some i → σ[i]? = some (some (.ref a))
def rdAt (G : GI) (X : Cx) (a : Addr) (cls : Value) (d : Option Addr) (nm : Option Nat) (e : CAt) : TE := fun σ H Q => ∃ k fl fs ι D', Hand G X a cls d nm k fl fs ι σ H ∧ atV fl fs e = some D' ∧ ∀ v, Rep X.K H ι D' v → Q v H
def rdAts (G : GI) (X : Cx) (a : Addr) (cls : Value) (d : Option Addr) (nm : Option Nat) (es : List CAt) : TA := fun σ H Q => ∃ k fl fs ι ds, Hand G X a cls d nm k fl fs ι σ H ∧ atsV fl fs es = some ds ∧ ∀ vs, Reps X.K H ι ds vs → Q vs H
def rdX (G : GI) (X : Cx) (a : Addr) (cls : Value) (d : Option Addr) (nm : Option Nat) (e : CX) : TE := fun σ H Q => ∃ k fl fs ι hp D', Hand G X a cls d nm k fl fs ι σ H ∧ HpRep X.K H ι hp ∧ cxV fl fs e = some D' ∧ PoE X.K W0 ι H (.ok (D', hp)) Q
theorem su_at (ck : ClsOk G cl X.K X.mg) (hz : Zc cls d ob) (hf : ∃ vs, ob.data = .fields vs) {nm : Option Nat} {nx : Option Str} (hnm : ∀ n, nx = some n → ∃ i, nm = some i ∧ X.N[i]? = some n) : ∀ {e : CAt} {x : Expr}, mAt nx X.env.scope e x = true → PE (X.suite a ((a, ob) :: pn)) x (rdAt G X a cls d nm e)
  | .str i, x, h => by
    simp only [mAt] at h
    split at h
    · cases of_decide_eq_true h
      exact (pe_str (X := X.suite a ((a, ob) :: pn))).imp fun σ H Q ⟨k, fl, fs, ι, D', hd, e, q⟩ => by cases e; exact q _ rfl
    · cases h
  | .int i, x, h => by
    simp only [mAt] at h
    split at h
    · cases of_decide_eq_true h
      exact (pe_int (X := X.suite a ((a, ob) :: pn))).imp fun σ H Q ⟨k, fl, fs, ι, D', hd, e, q⟩ => by cases e; exact q _ rfl
    · cases h
  | .bl i, x, h => by
    simp only [mAt] at h
    split at h
    · cases of_decide_eq_true h
      exact (pe_bl (X := X.suite a ((a, ob) :: pn))).imp fun σ H Q ⟨k, fl, fs, ι, D', hd, e, q⟩ => by cases e; exact q _ rfl
    · cases h
  | .non, x, h => by
    simp only [mAt] at h
    split at h
    · exact (pe_non (X := X.suite a ((a, ob) :: pn))).imp fun σ H Q ⟨k, fl, fs, ι, D', hd, e, q⟩ => by cases e; exact q _ rfl
    · cases h
  | .fld f, x, h => by
    simp only [mAt] at h
    split at h
    · rename_i n p g p2
      obtain ⟨h, h4⟩ := tt h
      obtain ⟨h, h3⟩ := tt h
      obtain ⟨h1, h2⟩ := tt h
      have h1 := of_decide_eq_true h1
      have h2 := of_decide_eq_true h2
      subst h2
      obtain ⟨i, hi, hN⟩ := hnm n h1
      obtain ⟨n1, n2, _⟩ := nm_of h4
      refine ⟨fun pins s σ H Q I ⟨k, fl, fs, ι, D', hd, e, q⟩ => ?_⟩
      obtain ⟨y, hk⟩ := hd.at_
      obtain ⟨y2, fl2, C, dd, ws, vs, g1, g2, g3, g4, g5, g6, g7, g8⟩ := hd.is
      cases hk.symm.trans g1
      obtain ⟨j, j1, j2⟩ := fld_at (show fldV fl fs f = some D' from e)
      obtain ⟨v, v1, v2⟩ := g7.get j2
      obtain ⟨_, C2, c1, c2, c3⟩ := ck.at_ k _ _ g1
      cases g2.symm.trans c1
      have pv : PE (X.suite a ((a, ob) :: pn)) (.Name n p) _ := pe_var (X := X.suite a ((a, ob) :: pn)) (i := i) hN (vis_of h3) n1 n2
      exact (pe_xf (X := X) (a := a) (d := d) c2 (c3 f (List.mem_of_getElem? j1)) hz hf pv).run pins s σ H Q I ⟨.ref a, hd.slot i hi, rfl, g3, dd, ws, v, g4, g5, g8 j f v j1 v1, q v v2⟩
    · cases h
theorem su_ats (ck : ClsOk G cl X.K X.mg) (hz : Zc cls d ob) (hf : ∃ vs, ob.data = .fields vs) {nm : Option Nat} {nx : Option Str} (hnm : ∀ n, nx = some n → ∃ i, nm = some i ∧ X.N[i]? = some n) : ∀ {es : List CAt} {xs : List Expr}, mAts nx X.env.scope es xs = true → PA (X.suite a ((a, ob) :: pn)) xs (rdAts G X a cls d nm es)
  | [], xs, h => by
    simp only [mAts] at h
    split at h
    · exact (pa_nil (X := X.suite a ((a, ob) :: pn))).imp fun σ H Q ⟨k, fl, fs, ι, ds, hd, e, q⟩ => by cases e; exact q [] rfl
    · cases h
  | e :: es, xs, h => by
    simp only [mAts] at h
    split at h
    · obtain ⟨h, h3⟩ := tt h
      obtain ⟨h1, h2⟩ := tt h
      refine (pa_cons (su_at ck hz hf hnm h1) (su_ats ck hz hf hnm h3) (star_cons (X := X.suite a ((a, ob) :: pn)) h2)).imp fun σ H Q ⟨k, fl, fs, ι, ds, hd, e, q⟩ => ?_
      simp only [atsV] at e
      obtain ⟨d1, e1, e⟩ := Option.bind_eq_some_iff.mp e
      obtain ⟨dr, e2, rfl⟩ := Option.map_eq_some_iff.mp e
      exact ⟨k, fl, fs, ι, d1, hd, e1, fun v rv => ⟨k, fl, fs, ι, dr, hd, e2, fun vs rvs => q (v :: vs) ⟨v, vs, rfl, rv, rvs⟩⟩⟩
    · cases h
theorem ats_len : ∀ {es : List CAt} {fl : List Str} {fs ds : List D}, atsV fl fs es = some ds → ds.length = es.length
  | [], fl, fs, ds, e => by cases e; rfl
  | x :: xs, fl, fs, ds, e => by
    simp only [atsV] at e
    obtain ⟨d1, e1, e⟩ := Option.bind_eq_some_iff.mp e
    obtain ⟨dr, e2, rfl⟩ := Option.map_eq_some_iff.mp e
    rw [List.length_cons, List.length_cons, ats_len e2]
theorem su_x (ck : ClsOk G cl X.K X.mg) (hz : Zc cls d ob) (hf : ∃ vs, ob.data = .fields vs) {nm : Option Nat} {nx : Option Str} (hnm : ∀ n, nx = some n → ∃ i, nm = some i ∧ X.N[i]? = some n) : ∀ {e : CX} {x : Expr}, mCX nx X.env.scope e x = true → PE (X.suite a ((a, ob) :: pn)) x (rdX G X a cls d nm e)
  | .at e, x, h => (su_at ck hz hf hnm h).imp fun σ H Q ⟨k, fl, fs, ι, hp, D', hd, hh, e, po⟩ => ⟨k, fl, fs, ι, D', hd, e, fun v rv => PoE.now po hh rv⟩
  | .tup es, x, h => by
    simp only [mCX] at h
    split at h
    · obtain ⟨h, h2⟩ := tt h
      have h2 := of_decide_eq_true h2
      refine (pe_tup (su_ats ck hz hf hnm h)).imp fun σ H Q ⟨k, fl, fs, ι, hp, D', hd, hh, e, po⟩ => ?_
      obtain ⟨ds, e1, rfl⟩ := Option.map_eq_some_iff.mp (show (atsV fl fs es).map D.tup = some D' from e)
      refine ⟨k, fl, fs, ι, ds, hd, e1, fun vs rvs => ⟨?_, fun p hn => new_tup hh rvs hn po⟩⟩
      rw [← rvs.length, ats_len e1, sizeLine_eq]
      omega
    · cases h
theorem mcx_sw {nx : Option Str} {sc : Scope} {e : CX} {x : Expr} (h : mCX nx sc e x = true) (y : Str) (p : Pos) : swOk x (.Name y p) = true := by
  cases e with
  | tup es => simp only [mCX] at h; split at h <;> first | rfl | cases h
  | «at» e => cases e <;> (simp only [mCX, mAt] at h; split at h <;> first | rfl | cases h)
/-- what a suite comes to -/
def tSu (G : GI) (X : Cx) (W : WS) (nm : Option Nat) (su : CSu) (a : Addr) (cls : Value) (d : Option Addr) : TS := fun De σ H => ∃ k fl fs ι hp ρ, Hand G X a cls d nm k fl fs ι σ H ∧ HpRep X.K H ι hp ∧ SRep X.K H ι σ ρ ∧ Po W0 ι H (suV fl fs ρ hp su) (SS X.K W De)
theorem su_ok {c : Ctx} {w : Wh} {W : WS} (O : XOk G c w X) (hz : Zc cls d ob) (hf : ∃ vs, ob.data = .fields vs) {nm : Option Nat} {nx : Option Str} (hnm : ∀ n, nx = some n → ∃ i, nm = some i ∧ X.N[i]? = some n)
    (sw : ∀ {e tg : Expr} {l : Nat} {env : PySem.Env}, swOk e tg = true → swapsWithSole [tg] e l env = pure false ∧ swappedStores [tg] e env = pure none) : ∀ {su : CSu} {ss : List Stmt}, mSu w nx su ss = true → ∃ s r, ss = s :: r ∧ PSs (X.suite a ((a, ob) :: pn)) ss (tSu G X W nm su a cls d)
  | .ret e, ss, h => by
    simp only [mSu] at h
    split at h
    · refine ⟨_, _, rfl, (pss_one (ps_ret (su_x O.ex hz hf hnm (by rw [O.sc]; exact h)))).imp fun De σ H ⟨k, fl, fs, ι, hp, ρ, hd, hh, hs, po⟩ => ?_⟩
      obtain ⟨D', e, po⟩ := Po.ofO po
      exact ⟨k, fl, fs, ι, hp, D', hd, hh, e, fun ι' H' s v h' rv => po ι' H' s h' σ (hh.srep s hs) v rv⟩
    · cases h
  | .asg j e, ss, h => by
    simp only [mSu] at h
    split at h
    · rename_i y py x sp
      obtain ⟨h, h4⟩ := tt h
      obtain ⟨h, h3⟩ := tt h
      obtain ⟨h1, h2⟩ := tt h
      obtain ⟨q1, q2⟩ := O.fn _ h2
      obtain ⟨z1, z2⟩ := sw (l := sp.line) (env := X.env) (mcx_sw h4 y py)
      have pg : PG (X.suite a ((a, ob) :: pn)) (.Name y py) (gName j) := pg_name (X := X.suite a ((a, ob) :: pn)) (i := j) (by rw [show (X.suite a ((a, ob) :: pn)).N = w.N from O.N]; exact O.nd) (by rw [show (X.suite a ((a, ob) :: pn)).N = w.N from O.N]; exact of_decide_eq_true h1)
        (by rw [show (X.suite a ((a, ob) :: pn)).env.scope = w.sc from O.sc]; exact q1) (by rw [show (X.suite a ((a, ob) :: pn)).env.scope = w.sc from O.sc]; exact q2)
      refine ⟨_, _, rfl, (pss_one (ps_asg (su_x O.ex hz hf hnm (by rw [O.sc]; exact h4)) pg z1 z2 (by rw [asg_cons rfl]; rfl))).imp fun De σ H ⟨k, fl, fs, ι, hp, ρ, hd, hh, hs, po⟩ => ?_⟩
      obtain ⟨D', e, po⟩ := Po.ofO po
      exact ⟨k, fl, fs, ι, hp, D', hd, hh, e, fun ι' H' s v h' rv => po ι' H' s h' _ ((hh.srep s hs).set rv j)⟩
    · cases h
end
theorem sw_asg {e tg : Expr} {l : Nat} {env : PySem.Env} (h : swOk e tg = true) : swapsWithSole [tg] e l env = pure false ∧ swappedStores [tg] e env = pure none := by
  cases e
  case ListComp => cases tg <;> first | exact ⟨rfl, rfl⟩ | cases h
  case SetComp => cases tg <;> first | exact ⟨rfl, rfl⟩ | cases h
  case DictComp => cases tg <;> first | exact ⟨rfl, rfl⟩ | cases h
  case Tuple => cases tg <;> first | exact ⟨rfl, rfl⟩ | cases h
  all_goals (cases tg <;> exact ⟨rfl, rfl⟩)
theorem sw_mir {env : PySem.Env} {ts vs : List Expr} {k1 k2 : Nat} {p1 p2 : Pos} (hk : env.scope.kind = .function) (hc : (vs.all (foldedForSure 8) || !vs.all (constantsAlone 8)) = true) : swappedStores [.Tuple ts k1 p1] (.Tuple vs k2 p2) env = pure (swMir env.scope ts vs) := by
  have hb : (env.blockKind != .function) = false := by unfold PySem.Env.blockKind; rw [hk]; rfl
  unfold swappedStores swMir
  simp only [hb, Bool.or_false]
  have e1 : (vs.any fun | .Starred .. => true | _ => false) = vs.any starB := congrArg _ (funext fun x => by cases x <;> rfl)
  have e2 : (ts.filterMap fun
      | .Name id pos => if env.kindOf id == some .local && pos.line == (Option.map (fun x => x.pos.line) ts.head?).getD 0 then some id else none
      | _ => none) = swNames env.scope ts := rfl
  by_cases h1 : (!(ts.length == 2 || ts.length == 3) || vs.length != ts.length) = true
  · rw [if_pos h1, if_pos h1]
  · rw [if_neg h1, if_neg h1]
    by_cases h2 : vs.any starB = true
    · rw [if_pos h2]
      exact if_pos (e1 ▸ h2)
    · rw [if_neg h2]
      refine (if_neg (e1 ▸ h2)).trans ?_
      by_cases h3 : ((swNames env.scope ts).length != ts.length || (swNames env.scope ts).eraseDups.length != (swNames env.scope ts).length) = true
      · rw [if_pos h3]
        exact if_pos h3
      · rw [if_neg h3]
        refine (if_neg h3).trans ?_
        by_cases h4 : vs.all (foldedForSure 8) = true
        · rw [if_pos h4, if_pos h4]
        · rw [if_neg h4, if_neg h4]
          have h5 : ¬ vs.all (constantsAlone 8) = true := fun z => by
            rw [z] at hc
            rw [Bool.not_true, Bool.or_false] at hc
            exact h4 hc
          exact if_neg h5
end Tw
end

section
set_option Elab.async false
set_option linter.all false
set_option maxRecDepth 100000
set_option maxHeartbeats 4000000
/-! raise, try. Own work. -/
namespace Tw
open PySem PySem.Spec PyProof.Rows L2 RZ
def Fr (X : Cx) : Prop := X.stack = X.env :: X.outer ∧ X.env.frame = some X.env.locals
section
variable {G : GI} {c : Ctx} {w : Wh} {X : Cx} {W : WS}
theorem tr_ok (O : XOk G c w X) (pn : List (Addr × Obj)) (xe : Value → Shared → Prop) : XOk G c w (X.tr pn xe) := ⟨O.N, O.nd, O.sc, O.knd, O.calm, O.fn, O.hu, O.bl, O.cs, O.ar, O.fns, O.ex, O.mkx⟩
theorem s_raise {k : Nat} {p : Str × List Str} {es : CEs} {args : List Expr} {q1 q2 pos : Pos} (O : XOk G c w X) (T : TkOk G X W) (hp : G.cl[k]? = some p) (hg : Gl X p.1) (hn : nmB p.1 = true) (pa : PA X args (rdA X.K W00 c es)) (pl : ∀ e ∈ args, plainE e = true) (hne : p.2 ≠ [])
    (hl : args.length = p.2.length) (h15 : args.length ≤ 15) (el : ∀ ρ hp y, evs c es ρ hp = .ok y → y.1.length = args.length) : PS X (.Raise (some (.Call (.Name p.1 q1) args [] q2)) none pos) (rdS X.K W c (.raise k es)) := by
  obtain ⟨wx, tk, twi⟩ := T
  obtain ⟨n1, n2, n3⟩ := nm_of hn
  obtain ⟨n, C, fI, fd, m1, m2, m3, m4, m5, m6, m7⟩ := O.mkx k p.1 p.2 hp hne
  obtain ⟨_, C2, c1, c2, c3⟩ := O.ex.at_ k p.1 p.2 hp
  cases m1.symm.trans c1
  cases args with
  | nil => exact absurd (List.eq_nil_of_length_eq_zero hl.symm) hne
  | cons e args =>
    have mk := pmk_oex (pos := q2) (p := q1) (dvs := []) m2 m3 m4 m5 m6 m7 .nil passL hg m1 pa n1 (star_cons (pl e List.mem_cons_self)) (star_all (fun a ha => pl a (List.mem_cons_of_mem _ ha)) _)
    refine (ps_raise (pos := pos) O.calm tk mk).imp fun De σ H ⟨ι, ρ, hp', hs, hh, po⟩ => ?_
    obtain ⟨y, ey, po⟩ := nox_ok po
    have ly := el _ _ _ ey
    refine ⟨ι, ρ, hp', hs, hh, (po_is ey).mono fun y' ι1 H1 s1 e1 vs h1 r1 => ?_⟩
    subst e1
    have lv : vs.length = p.2.length := by rw [← r1.length, ly, hl]
    refine ⟨by rw [lv, ← hl]; omega, fun a ha => ?_⟩
    rw [List.append_nil]
    refine ⟨a, C, vs, rfl, lv, m2, c3, upd_same, fun d ws hd dne hws H2 e1 e2 e3 => ⟨rfl, d, ws, e1, e2, ?_, ?_⟩⟩
    · rw [upd_ne dne] at hd
      exact hd
    · rw [upd_ne dne] at hd
      have e3' : ∀ b o, H1 b = some o → upd (del H2 a) d (.xd ws) b = some o := fun b o hb => by
        have n1 : b ≠ a := ne_of_none hb ha
        have n2 : b ≠ d := ne_of_none hb hd
        rw [upd_ne n2, del_ne n1, e3 b n1 n2, upd_ne n1]
        exact hb
      have st : Step ι1 H1 ι1 (upd (del H2 a) d (.xd ws)) := ⟨⟨[], by simp⟩, fun b hb => .inl hb, fun b o hb _ => e3' b o hb⟩
      have h2 : HpRep X.K (upd (del H2 a) d (.xd ws)) ι1 y'.2 := h1.keep0 st fun b hb => by
        rcases h1.mut hb with ⟨vs, q⟩ | ⟨ws, q⟩ | ⟨ws, q⟩
        · rw [q]; exact e3' b _ q
        · rw [q]; exact e3' b _ q
        · rw [q]; exact e3' b _ q
      have q := po ι1 _ (s1.trans st) h2 σ (hh.srep (s1.trans st) hs)
      exact twi _ _ _ _ _ _ _ q ⟨p.1, p.2, C, d, ws, vs, hp, m1, rfl, rfl, upd_same, by rw [ly, hl], h1.reps st _ _ r1, hws⟩
theorem srep_off {K : Frg} {H : Hp} {ι : List Addr} {σ : L2.St} {ρ : Env} (h : SRep K H ι σ ρ) (i : Nat) (v : Option V) : SRep K H ι (σ.set i v) (ρ.set i none) := by
  refine ⟨by simp [h.1], fun j d e => ?_⟩
  by_cases hj : i = j
  · subst hj
    rw [List.getElem?_set] at e
    simp at e
  · rw [List.getElem?_set_ne hj] at e ⊢
    exact h.2 j d e
theorem srep_gone {K : Frg} {H : Hp} {ι : List Addr} {σ : L2.St} {ρ : Env} (h : SRep K H ι σ ρ) {i : Nat} (n : ∀ d, ρ[i]? ≠ some (some d)) : SRep K H ι (σ.set i none) ρ := by
  refine ⟨by simp [h.1], fun j d e => ?_⟩
  by_cases hj : i = j
  · subst hj
    exact absurd e (n d)
  · rw [List.getElem?_set_ne hj]
    exact h.2 j d e
theorem su_gone {K : Frg} {ι : List Addr} {H : Hp} {De : Ends} {i : Nat} {fl : List Str} {fs : List D} {ρ : Env} {hp : Heap} {su : CSu} (hne : ∀ j e, su = .asg j e → i ≠ j) (po : Po W0 ι H (suV fl fs (ρ.set i none) hp su) (SS K W De)) : Po W0 ι H (suV fl fs (ρ.set i none) hp su) (SS K W (forget De i)) := by
  cases su with
  | ret e =>
    obtain ⟨D', q, po⟩ := Po.ofO po
    simp only [suV, q, ofO]
    exact fun ι' H' s h' σ' hs v rv => po ι' H' s h' σ' hs v rv
  | asg j e =>
    obtain ⟨D', q, po⟩ := Po.ofO po
    simp only [suV, q, ofO]
    refine fun ι' H' s h' σ' hs => po ι' H' s h' _ (srep_gone hs fun d z => ?_)
    have := hne j e rfl
    rw [List.getElem?_set_ne (Ne.symm this), List.getElem?_set] at z
    simp at z
theorem clauses {wx : WX} (O : XOk G c w X) (twi : ∀ σ k fs ι H cls d, W σ k fs ι H → ExIs X.K G X.mg k fs ι H cls d → wx cls d σ H) : ∀ {hs : List CH} {hds : List ExceptHandler}, mHs G w hs hds = true →
    ∃ l : List Cl, MixOk X hds l ∧ ∀ De k fs ι hp ρ σ H cls d, ExIs X.K G X.mg k fs ι H cls d → HpRep X.K H ι hp → SRep X.K H ι σ ρ → Po W0 ι H (catchV c.cl k fs ρ hp hs) (SS X.K W De) → wMix X.K wx De l cls d σ H
  | [], hds, h => by
    cases hds with
    | nil => exact ⟨[], .nil, fun De k fs ι hp ρ σ H cls d ex hh hs po => twi _ _ _ _ _ _ _ (po ι H .refl hh σ hs) ex⟩
    | cons _ _ => simp [mHs] at h
  | x :: hs, hds, h => by
    cases hds with
    | nil => simp [mHs] at h
    | cons y hds =>
      simp only [mHs] at h
      obtain ⟨h1, h2⟩ := tt h
      obtain ⟨l, m, link⟩ := clauses O twi h2
      unfold mHd at h1
      split at h1
      · rename_i cn np nm su p2
        split at h1
        · rename_i p hp
          obtain ⟨h, h6⟩ := tt h1
          obtain ⟨h, h5⟩ := tt h
          obtain ⟨h3, h4⟩ := tt h
          have e := of_decide_eq_true h3
          subst e
          obtain ⟨n1, n2, n3⟩ := nm_of h5
          obtain ⟨⟨lc, hlc⟩, C, c1, c2, c3⟩ := O.ex.at_ x.k p.1 p.2 hp
          have hN : Names X p.1 (.ref C) := ⟨gl_of O h4, n1, .inl c1⟩
          have test : ∀ k fs ι H cls d, ExIs X.K G X.mg k fs ι H cls d → ∃ l y fl, G.cl[k]? = some (y, fl) ∧ c.cl[k]? = some l ∧ l.2 = fl ∧ PySem.W.exmOne X.K cls (.ref C) = some (l.1.contains x.k) := by
            rintro k fs ι H cls d ⟨y, fl, C', dd, ws, vs, g1, g2, rfl, _⟩
            obtain ⟨l, e1, e2⟩ := O.ex.exm k x.k y p.1 fl p.2 C' C g1 hp g2 c1
            obtain ⟨⟨l2, e3⟩, _⟩ := O.ex.at_ k y fl g1
            cases e1.symm.trans e3
            exact ⟨_, y, fl, g1, e1, rfl, e2⟩
          split at h6
          · rename_i nn1 nn2 e1
            obtain ⟨s, r, rfl, hsu⟩ : ∃ s r, su = s :: r ∧ SuiteOk X su (tSu G X W none x.su) := by
              obtain ⟨s, r, e, _⟩ := su_ok (a := 0) (ob := ⟨.none, none, .fields #[], #[]⟩) (cls := .none) (d := none) (pn := []) (W := W) (nm := none) O ⟨rfl, rfl⟩ ⟨_, rfl⟩ (fun _ z => by cases z) (fun h => sw_asg h) h6
              exact ⟨s, r, e, fun a ob cls d pn hz hf => by
                obtain ⟨_, _, _, q⟩ := su_ok (a := a) (ob := ob) (cls := cls) (d := d) (pn := pn) (W := W) (nm := none) O hz hf (fun _ z => by cases z) (fun h => sw_asg h) h6
                exact q⟩
            refine ⟨_, .anon hN hsu m, fun De k fs ι hp ρ σ H cls d ex hh hs po => ?_⟩
            obtain ⟨l, y, fl, g1, g2, g3, g4⟩ := test _ _ _ _ _ _ ex
            refine ⟨_, g4, fun hb a ha => ?_, fun hb => ?_⟩
            · simp only [catchV, g2, ofO, hb, if_true, e1] at po
              rw [g3] at po
              exact ⟨k, fl, fs, ι, hp, ρ, ⟨⟨y, g1⟩, ex, fun _ z => by cases z⟩, hh, hs, po⟩
            · simp only [catchV, g2, ofO, hb, Bool.false_eq_true, if_false] at po
              exact link De k fs ι hp ρ σ H cls d ex hh hs po
          · rename_i i n e1
            obtain ⟨h6, h9⟩ := tt h6
            obtain ⟨h7, h8⟩ := tt h6
            have h7 := of_decide_eq_true h7
            have hnm : ∀ z, some n = some z → ∃ j, some i = some j ∧ X.N[j]? = some z := fun z e => by
              cases e
              exact ⟨i, rfl, by rw [O.N]; exact h7⟩
            obtain ⟨s, r, rfl, hsu⟩ : ∃ s r, su = s :: r ∧ SuiteOk X su (tSu G X W (some i) x.su) := by
              obtain ⟨s, r, e, _⟩ := su_ok (a := 0) (ob := ⟨.none, none, .fields #[], #[]⟩) (cls := .none) (d := none) (pn := []) (W := W) (nm := some i) O ⟨rfl, rfl⟩ ⟨_, rfl⟩ hnm (fun h => sw_asg h) h9
              exact ⟨s, r, e, fun a ob cls d pn hz hf => by
                obtain ⟨_, _, _, q⟩ := su_ok (a := a) (ob := ob) (cls := cls) (d := d) (pn := pn) (W := W) (nm := some i) O hz hf hnm (fun h => sw_asg h) h9
                exact q⟩
            have hloc : X.env.kindOf n = some .local := by
              show X.env.scope.names.lookup n = _
              rw [O.sc]
              unfold locO at h8
              split at h8
              · assumption
              · cases h8
            have hne : ∀ j e, x.su = .asg j e → i ≠ j := fun j e q z => by
              rw [q] at h9
              simp only [mSu] at h9
              split at h9
              · obtain ⟨h9, _⟩ := tt h9
                obtain ⟨h9, z3⟩ := tt h9
                obtain ⟨z1, _⟩ := tt h9
                have z1 := of_decide_eq_true z1
                have z3 := of_decide_eq_true z3
                rw [← z, h7] at z1
                exact z3 z1
              · cases h9
            refine ⟨_, .named hN (by rw [O.N]; exact O.nd) (by rw [O.N]; exact h7) hloc hsu m, fun De k fs ι hp ρ σ H cls d ex hh hs po => ?_⟩
            obtain ⟨l, y, fl, g1, g2, g3, g4⟩ := test _ _ _ _ _ _ ex
            refine ⟨_, g4, fun hb a ha => ?_, fun hb => ?_⟩
            · simp only [catchV, g2, ofO, hb, if_true, e1] at po
              rw [g3] at po
              obtain ⟨hl, po⟩ := Po.chk po
              have hl := of_decide_eq_true hl
              exact ⟨k, fl, fs, ι, hp, ρ.set i none, ⟨⟨y, g1⟩, ex, fun j z => by cases z; exact List.getElem?_set_self (by rw [hs.1]; exact hl)⟩, hh, srep_off hs i _, su_gone hne po⟩
            · simp only [catchV, g2, ofO, hb, Bool.false_eq_true, if_false] at po
              exact link De k fs ι hp ρ σ H cls d ex hh hs po
          · cases h6
        · cases h1
      · cases h1
theorem s_try {b : CSs} {hs : List CH} {body : List Stmt} {hds : List ExceptHandler} {pos : Pos} (O : XOk G c w X) (T : TkOk G X W) (F : Fr X) (hm : mHs G w hs hds = true) (hne : hs.isEmpty ≠ true)
    (bd : ∀ pn xe V, TkOk G (X.tr pn xe) V → PassesOwn (model X.prog X.w) X.A X.env xe → PSs (X.tr pn xe) body (rdSs X.K V c b)) : PS X (.Try body hds [] [] pos) (rdS X.K W c (.tr b hs)) := by
  obtain ⟨wx, tk, twi⟩ := T
  obtain ⟨l, m, link⟩ := clauses O twi hm
  cases hds with
  | nil => cases hs with
    | nil => exact absurd rfl hne
    | cons _ _ => simp [mHs] at hm
  | cons h₀ hds =>
    refine (try_mix (tb := fun V De σ H => ∃ W' : WS, (∀ σ k fs ι H cls d, W' σ k fs ι H → ExIs X.K G X.mg k fs ι H cls d → V cls d σ H) ∧ rdSs X.K W' c b De σ H) F.1 F.2 tk
      (fun V pn xe tk2 P2 => ⟨fun pins s σ H De I ⟨W', hw, h⟩ => (bd pn xe W' ⟨V, tk2, hw⟩ P2).run pins s σ H De I h⟩) m).imp fun De σ H ⟨ι, ρ, hp, hs', hh, po⟩ => ?_
    refine ⟨fun σ k fs ι H => ∃ hp ρ, HpRep X.K H ι hp ∧ SRep X.K H ι σ ρ ∧ Po W0 ι H (catchV c.cl k fs ρ hp hs) (SS X.K W De), fun σ k fs ι H cls d ⟨hp, ρ, q1, q2, q3⟩ ex => link De k fs ι hp ρ σ H cls d ex q1 q2 q3, ι, ρ, hp, hs', hh, po.bind.mono fun st ι1 H1 s1 p1 h1 σ1 hs1 => ?_⟩
    obtain ⟨fl, ρ1, hp1⟩ := st
    cases fl with
    | ex k fs => exact ⟨hp1, ρ1, h1, hs1, p1⟩
    | nx => exact p1 ι1 H1 .refl h1 σ1 hs1
    | rt d => exact p1 ι1 H1 .refl h1 σ1 hs1
    | bk => exact p1 ι1 H1 .refl h1 σ1 hs1
    | ct => exact p1 ι1 H1 .refl h1 σ1 hs1
end
end Tw
end

section
set_option Elab.async false
set_option linter.all false
set_option maxRecDepth 100000
set_option maxHeartbeats 8000000
/-! Statements, functions, tables of functions. Own work. -/
namespace Tw
open PySem PySem.Spec PyProof.Rows L2 RZ
section
variable {G : GI} {c : Ctx} {X : Cx} {W : WS}
theorem sw_none {e : Expr} {tg : Option Expr} {l : Nat} {env : PySem.Env} (h : compE e = false) : swapsWith e tg l env = pure false := by
  cases e <;> first | rfl | cases h
theorem ip_B (op : BOp) : PIp X (opN op) (rOp X.K (opI op)) := by
  intro pins s σ H x y v u Q I rx ry h
  obtain ⟨W, ι, hp, d1, d2, hh, r1, r2, po⟩ := h
  cases op with
  | add =>
    cases d1 <;> cases d2 <;> first | exact po.elim | skip
    exact iop_add pins s σ H x y v u Q I rx ry ⟨_, _, r1, r2, PoE.now po hh rfl⟩
  | sub =>
    cases d1 <;> cases d2 <;> first | exact po.elim | skip
    exact iop_sub pins s σ H x y v u Q I rx ry ⟨_, _, r1, r2, PoE.now po hh rfl⟩
  | mul =>
    cases d1 <;> cases d2 <;> first | exact po.elim | skip
    obtain ⟨hl, po⟩ := Po.chk po
    exact iop_mul pins s σ H x y v u Q I rx ry ⟨_, _, r1, r2, small_mul hl, PoE.now po hh rfl⟩
  | _ => exact po.elim
theorem seq_rd {K : Frg} {s : CS} {r : CSs} {De : Ends} {σ : L2.St} {H : Hp} (h : rdSs K W c (.cons s r) De σ H) : tSeq (rdS K W c s) (rdSs K W c r) De σ H := by
  obtain ⟨ι, ρ, hp, hs, hh, po⟩ := h
  refine ⟨ι, ρ, hp, hs, hh, po.bind.mono fun x ι1 H1 s1 p1 h1 σ1 hs1 => ?_⟩
  cases hx : x.1 with
  | nx =>
    rw [hx] at p1
    exact ⟨ι1, x.2.1, x.2.2, hs1, h1, p1⟩
  | rt d =>
    rw [hx] at p1
    have q := p1 ι1 H1 .refl h1 σ1 hs1
    rw [hx] at q
    exact q
  | bk =>
    rw [hx] at p1
    have q := p1 ι1 H1 .refl h1 σ1 hs1
    rw [hx] at q
    exact q
  | ct =>
    rw [hx] at p1
    have q := p1 ι1 H1 .refl h1 σ1 hs1
    rw [hx] at q
    exact q
  | ex k fs =>
    rw [hx] at p1
    have q := p1 ι1 H1 .refl h1 σ1 hs1
    rw [hx] at q
    exact q
theorem sw_cell {e : Expr} {y : Str} {py : Pos} {l : Nat} {env : PySem.Env} (h : env.scope.names.lookup y = some .cell) : swapsWithSole [.Name y py] e l env = pure false ∧ swappedStores [.Name y py] e env = pure none := by
  refine ⟨?_, by cases e <;> rfl⟩
  show swapsWith e (some (.Name y py)) l env = pure false
  have hk : env.kindOf y = some .cell := h
  unfold swapsWith
  cases e <;> first
    | rfl
    | (simp only [hk]
       have e2 : (some NameKind.cell == some NameKind.local) = false := rfl
       rw [e2, Bool.and_false, Bool.false_and, Bool.false_and])
theorem sw_dict {kx vx : Expr} {gs : List Comprehension} {scope : Scope} {pos py : Pos} {y : Str} {l : Nat} {env : PySem.Env} (hk : env.scope.kind = .function) (hy : env.scope.names.lookup y = some .local) (hl : (py.line == pos.line) = true)
    (ha : (scope.names.any fun (n, k) => n == y && (k == .local || k == .cell)) = false) : swapsWith (.DictComp kx vx gs scope pos) (some (.Name y py)) l env = pure true := by
  have ky : env.kindOf y = some .local := hy
  have hb : env.blockKind = .function := by unfold PySem.Env.blockKind; rw [hk]; rfl
  unfold swapsWith
  simp only [hb, ky, ha, Expr.pos, hl]
  rfl
/-- name = {..} on one line, the name a local -/
theorem ps_setDc {i : Nat} {y : Str} {py : Pos} {kx vx tg iter : Expr} {ifs : List Expr} {scope : Scope} {own : List (Str × Nat)} {pos spos : Pos} {wi : TI} {g : TG} {tt : TT} {tk tv : TE} (hc : X.calm = true) (hN : X.N.Nodup) (hy : X.N[i]? = some y) (hyl : X.env.scope.names.lookup y = some .local)
    (hsw : swapsWith (.DictComp kx vx [⟨tg, iter, ifs, 0⟩] scope pos) (some (.Name y py)) spos.line X.env = pure true) (hi : PI X tg iter wi) (ok : BlkOk X.N X.env.scope scope own)
    (hg : ∀ (s : Shared) (H : Hp) (C : Addr) (cl : List (Str × Addr)) (fp : List Addr), PG (X.blk s H scope (compEnvC scope cl C X.env) fp) tg g) (ht : ∀ (s : Shared) (H : Hp) (C : Addr) (cl : List (Str × Addr)) (fp : List Addr), PTs (X.blk s H scope (compEnvC scope cl C X.env) fp) ifs tt)
    (hk : ∀ (s : Shared) (H : Hp) (C : Addr) (cl : List (Str × Addr)) (fp : List Addr), PE (X.blk s H scope (compEnvC scope cl C X.env) fp) kx tk)
    (he : ∀ (s : Shared) (H : Hp) (C : Addr) (cl : List (Str × Addr)) (fp : List Addr), PE (X.blk s H scope (compEnvC scope cl C X.env) fp) vx tv) (hs : ∀ x, foldedSetIterable iter X.env x = pure x) :
    PS X (.Assign [.Name y py] (.DictComp kx vx [⟨tg, iter, ifs, 0⟩] scope pos) spos) (tAsg (tDc wi g tt tk tv (own.map (·.2))) (gName i)) := by
  refine ⟨fun pins s σ H D I h => ?_⟩
  rw [exec_Assign_Name_used _ _ _ _ hsw]
  refine wpAny_bind (wpAny_standAt (wpAny_bind ?_))
  show wpAny _ X.A (do let _ ← comprehension (.DictComp kx vx [⟨tg, iter, ifs, 0⟩] scope pos) scope X.env (firstIterPos [⟨tg, iter, ifs, 0⟩] pos) newDict false (eval iter X.env) (some (assign (.Name y py) X.env))) _ _ s
  have h : tDc wi g tt tk tv (own.map (·.2)) σ H (fun x H1 => gName i x σ H1 D.nx) := h
  refine wpAny_bind (thn (dc_core (Qf := fun _ s' => L2.SP X pins D .next s') hc hN I hi ok hg ht hk he hs h fun L C s' m H' I' q hn f => ?_) fun _ s' hq => wpAny_pure (wpAny_pure hq))
  show wpAny _ _ (assign (.Name y py) X.env (.ref L)) _ _ _
  refine wpAny_assign_Name (store_ok2 (v := V.ref L) I' hN hy (.inl hyl) rfl (fun s2 I2 ⟨a, sb, ha⟩ => ?_) (.inr hyl))
  obtain ⟨f0, f1, f2, f3, f4, f5⟩ := f
  have haC : C ≠ a := by
    rcases ha with z | z
    · rw [z]; exact f1
    · exact fun e => f4 y a z e.symm
  refine ⟨m, hn.sameBut sb haC, fun h3 sb3 => ?_⟩
  exact ⟨_, H', I2.turned (t' := s2.toks) (fun b o hb e => (sb3.2 b hb).trans e) f0 f1 f3 f4 f5, q⟩
theorem asg_name_rd {K : Frg} {i : Nat} {e : CE} {De : Ends} {σ : L2.St} {H : Hp} (h : rdS K W c (.asg (.name i) e) De σ H) : rdE K W c e σ H fun v H1 => gName i v σ H1 De.nx := by
  obtain ⟨ι, ρ, hp, hs, hh, po⟩ := h
  exact ⟨ι, ρ, hp, hs, hh, (po_lift hs hh (fun _ _ _ _ => trivial) po).mono fun x ι1 H1 s1 p1 v h1 r1 => p1 ι1 H1 .refl h1 _ ((hh.srep s1 hs).set r1 i)⟩
theorem loc_of {w : Wh} {x : Str} (O : XOk G c w X) (h : locO w.sc x = true) : X.env.scope.names.lookup x = some .local := by
  rw [O.sc]
  unfold locO at h
  split at h
  · assumption
  · cases h
theorem mT_name {w : Wh} {i : Nat} {x : Str} {p : Pos} (h : mT G w (.name i) (.Name x p) = true) : w.N[i]? = some x := by
  simp only [mT] at h
  exact of_decide_eq_true (tt h).1
theorem par_rd {K : Frg} {es : CEs} {t : CT} {De : Ends} {ι : List Addr} {H : Hp} {σ : L2.St} {ρ : Env} {hp : Heap} (hs : SRep K H ι σ ρ) (hh : HpRep K H ι hp) (po : Po W0 ι H (exec c (.asg t (.tup es)) ρ hp) (SS K W De)) :
    Po (wr K W σ) ι H (evs c es ρ hp) fun z ι1 H1 => Po W0 ι1 H1 ((asg c t (.tup z.1) ρ z.2).nox.bind fun s => .ok (.nx, s.1, s.2)) (SS K W De) := by
  have q := po_lift (α := D × Heap) hs hh (fun _ _ _ _ => trivial) po
  refine (Po.bind q).mono fun z ι1 H1 s1 p1 => ?_
  obtain ⟨_, p1⟩ := Po.chk p1
  exact p1 ι1 H1 .refl
theorem s_par {w : Wh} {t : CT} {e : CE} {vs ts : List Expr} {k1 k2 : Nat} {p1 p2 sp : Pos} (O : XOk G c w X) (pe : PE X (.Tuple vs k2 p2) (rdE X.K W c e)) (h2 : mE G w e (.Tuple vs k2 p2) = true) (h1 : mT G w t (.Tuple ts k1 p1) = true) (hp : parB w ts vs t e = true)
    (sm : swappedStores [.Tuple ts k1 p1] (.Tuple vs k2 p2) X.env = pure (swMir w.sc ts vs)) (es : ∀ (es : CEs) (xs : List Expr), mEs G w es xs = true → PA X xs (rdA X.K W c es)) : PS X (.Assign [.Tuple ts k1 p1] (.Tuple vs k2 p2) sp) (rdS X.K W c (.asg t e)) := by
  unfold parB at hp
  split at hp
  · rename_i i j a b
    split at hp
    · rename_i x px y py
      obtain ⟨hp, q4⟩ := tt hp
      obtain ⟨hp, q3⟩ := tt hp
      obtain ⟨q1, q2⟩ := tt hp
      have q1 := of_decide_eq_true q1
      rw [of_decide_eq_true q4] at sm
      simp only [mT, mTs] at h1
      obtain ⟨m1, m2⟩ := tt h1
      obtain ⟨m1, _⟩ := tt m1
      obtain ⟨m2, _⟩ := tt m2
      obtain ⟨m2, _⟩ := tt m2
      have n1 := mT_name (G := G) (p := px) (by simpa only [mT] using m1)
      have n2 := mT_name (G := G) (p := py) (by simpa only [mT] using m2)
      simp only [mE] at h2
      have ea := es _ _ h2
      cases vs with
      | nil => simp [mEs] at h2
      | cons v1 vs =>
        cases vs with
        | nil => simp [mEs] at h2
        | cons v2 vs =>
          cases vs with
          | cons v3 vs => simp [mEs] at h2
          | nil =>
            refine (ps_par (i := i) (j := j) O.calm (by rw [O.N]; exact O.nd) (by rw [O.N]; exact n1) (by rw [O.N]; exact n2) q1 (loc_of O q2) (loc_of O q3) ea sm).imp fun De σ H ⟨ι, ρ, hp, hs, hh, po⟩ => ?_
            refine ⟨ι, ρ, hp, hs, hh, (par_rd hs hh po).mono fun z ι1 H1 s1 pz us h1 r1 => ?_⟩
            obtain ⟨st, est, pz⟩ := nox_ok pz
            obtain ⟨zs, zh⟩ := z
            match zs, est, r1 with
            | [], est, _ => cases est
            | [_], est, _ => simp only [asg, asgs, R.bind] at est; cases est
            | _ :: _ :: _ :: _, est, _ => simp only [asg, asgs, R.bind] at est; cases est
            | [d1, d2], est, r1 =>
              simp only [asg, asgs, R.bind] at est
              cases est
              obtain ⟨u, v, rfl, ru, rv⟩ := reps2 r1
              exact ⟨u, v, rfl, pz ι1 H1 .refl h1 _ (((hh.srep s1 hs).set ru i).set rv j)⟩
    · cases hp
  · rename_i i j l a b d
    split at hp
    · rename_i x px y py z pz
      obtain ⟨hp, q7⟩ := tt hp
      obtain ⟨hp, q6⟩ := tt hp
      obtain ⟨hp, q5⟩ := tt hp
      obtain ⟨hp, q4⟩ := tt hp
      obtain ⟨hp, q3⟩ := tt hp
      obtain ⟨q1, q2⟩ := tt hp
      have q1 := of_decide_eq_true q1
      have q2 := of_decide_eq_true q2
      have q3 := of_decide_eq_true q3
      rw [of_decide_eq_true q7] at sm
      simp only [mT, mTs] at h1
      obtain ⟨m1, m2⟩ := tt h1
      obtain ⟨m1, _⟩ := tt m1
      obtain ⟨m2, m3⟩ := tt m2
      obtain ⟨m2, _⟩ := tt m2
      obtain ⟨m3, _⟩ := tt m3
      obtain ⟨m3, _⟩ := tt m3
      have n1 := mT_name (G := G) (p := px) (by simpa only [mT] using m1)
      have n2 := mT_name (G := G) (p := py) (by simpa only [mT] using m2)
      have n3 := mT_name (G := G) (p := pz) (by simpa only [mT] using m3)
      simp only [mE] at h2
      have ea := es _ _ h2
      cases vs with
      | nil => simp [mEs] at h2
      | cons v1 vs =>
        cases vs with
        | nil => simp [mEs] at h2
        | cons v2 vs =>
          cases vs with
          | nil => simp [mEs] at h2
          | cons v3 vs =>
            cases vs with
            | cons v4 vs => simp [mEs] at h2
            | nil =>
              refine (ps_par3 (i := i) (j := j) (l := l) O.calm (by rw [O.N]; exact O.nd) (by rw [O.N]; exact n1) (by rw [O.N]; exact n2) (by rw [O.N]; exact n3) q1 q2 q3 (loc_of O q4) (loc_of O q5) (loc_of O q6) ea sm).imp fun De σ H ⟨ι, ρ, hp, hs, hh, po⟩ => ?_
              refine ⟨ι, ρ, hp, hs, hh, (par_rd hs hh po).mono fun z ι1 H1 s1 pz us h1 r1 => ?_⟩
              obtain ⟨st, est, pz⟩ := nox_ok pz
              obtain ⟨zs, zh⟩ := z
              match zs, est, r1 with
              | [], est, _ => cases est
              | [_], est, _ => simp only [asg, asgs, R.bind] at est; cases est
              | [_, _], est, _ => simp only [asg, asgs, R.bind] at est; cases est
              | _ :: _ :: _ :: _ :: _, est, _ => simp only [asg, asgs, R.bind] at est; cases est
              | [d1, d2, d3], est, r1 =>
                simp only [asg, asgs, R.bind] at est
                cases est
                obtain ⟨u, r', rfl, ru, r2⟩ := r1
                obtain ⟨v, t, rfl, rv, rt⟩ := reps2 r2
                exact ⟨u, v, t, rfl, pz ι1 H1 .refl h1 _ ((((hh.srep s1 hs).set ru i).set rv j).set rt l)⟩
    · cases hp
  · cases hp
mutual
theorem sS : ∀ (s : CS) (w : Wh) (x : Stmt) (X : Cx) (W : WS), XOk G c w X → TkOk G X W → PassesOwn (model X.prog X.w) X.A X.env X.xe → Fr X → mS G w s x = true → PS X x (rdS X.K W c s)
  | .asg t e, w, x, X, W, O, T, P, F, h => by
    simp only [mS] at h
    split at h
    · rename_i tg ex sp
      obtain ⟨h, h4⟩ := tt h
      obtain ⟨h, h3⟩ := tt h
      obtain ⟨h1, h2⟩ := tt h
      have gen : swapsWithSole [tg] ex sp.line X.env = pure false ∧ swappedStores [tg] ex X.env = pure none → PS X (.Assign [tg] ex sp) (rdS X.K W c (.asg t e)) := fun ⟨q1, q2⟩ => (ps_asg (sE e w _ X W O T h2) (sT t w _ X O h1) q1 q2 (by rw [asg_cons h3]; rfl)).imp fun De σ H ⟨ι, ρ, hp, hs, hh, po⟩ =>
        ⟨ι, ρ, hp, hs, hh, (po_lift hs hh (fun _ _ _ _ => trivial) po).mono fun x ι1 H1 s1 p1 v h1 r1 => by
          obtain ⟨st, est, p2⟩ := nox_ok p1
          exact ⟨ι1, ρ, x.2, x.1, st, hh.srep s1 hs, h1, r1, est, fun ι2 H2 s2 h2 σ2 _ hs2 => p2 ι2 H2 s2 h2 σ2 hs2⟩⟩
      rcases Bool.or_eq_true_iff.mp h4 with h4 | h4
      · obtain ⟨vs, k2, p2, rfl⟩ : ∃ vs k2 p2, ex = .Tuple vs k2 p2 := by cases ex <;> first | exact ⟨_, _, _, rfl⟩ | cases h4
        obtain ⟨ts, k1, p1, rfl⟩ : ∃ ts k1 p1, tg = .Tuple ts k1 p1 := by cases tg <;> first | exact ⟨_, _, _, rfl⟩ | cases h4
        obtain ⟨c1, c2⟩ := tt (show ((vs.all (foldedForSure 8) || !vs.all (constantsAlone 8)) && (decide (swMir w.sc ts vs = none) || parB w ts vs t e)) = true from h4)
        have sm := sw_mir (env := X.env) (ts := ts) (k1 := k1) (k2 := k2) (p1 := p1) (p2 := p2) O.knd c1
        rw [O.sc] at sm
        rcases Bool.or_eq_true_iff.mp c2 with c2 | c2
        · rw [of_decide_eq_true c2] at sm
          exact gen ⟨rfl, sm⟩
        · exact s_par O (sE e w _ X W O T h2) h2 h1 c2 sm (fun es xs hm => sEs es w xs X W O T hm)
      rcases Bool.or_eq_true_iff.mp h4 with h4 | h4
      · exact gen (sw_asg h4)
      · unfold swB at h4
        split at h4
        · skip
          split at h4
          · rename_i hy
            obtain ⟨l1, l2⟩ := tt h4
            cases t with
            | name i =>
              simp only [mT] at h1
              obtain ⟨h1, _⟩ := tt h1
              cases e with
              | new l =>
                cases l with
                | comp a t it cd =>
                  simp only [mE, mL] at h2
                  split at h2
                  · rename_i ee
                    cases ee
                    obtain ⟨h, h6⟩ := tt h2
                    obtain ⟨h, h5⟩ := tt h
                    obtain ⟨h, h4⟩ := tt h
                    obtain ⟨h, h3⟩ := tt h
                    obtain ⟨hb, h2⟩ := tt h
                    have q := fun spos => ps_setLc (i := i) (spos := spos) (own := ownOf w.N t.slots) (g := rdT X.K c t) (tt := rdF X.K c cd) (te := rdE X.K W00 c a) O.calm (by rw [O.N]; exact O.nd) (by rw [O.N]; exact of_decide_eq_true h1) (by rw [O.sc]; exact hy)
                      (sw_true O.knd (by rw [O.sc]; exact hy) l1 (by simpa using l2)) (sI it w _ _ X W O T h3) (by rw [O.N, O.sc]; exact blkOk_by hb) (fun s H C cl fp => sT t (inW w _) _ _ (inW_ok O _ (blk_kind hb) s H C cl fp) h4)
                      (fun s H C cl fp => sIf cd (inW w _) _ _ (inW_ok O _ (blk_kind hb) s H C cl fp) h5) (fun s H C cl fp => sE a (inW w _) _ _ W00 (inW_ok O _ (blk_kind hb) s H C cl fp) tk0 h6) (sISet h3)
                    simp only [own_ix] at q
                    exact (q _).imp fun De σ H h => lc_rd (new_rd (asg_name_rd h))
                  · cases h2
                | _ => simp only [mE, mL] at h2; cases h2
              | stuck => exact ⟨fun pins s σ H De I ⟨ι, ρ, hp, hs, hh, po⟩ => by
                  simp only [exec, ev, lift] at po
                  exact po.elim⟩
              | back e b => cases b <;> (simp only [mE] at h2; cases h2)
              | _ => simp only [mE] at h2; cases h2
            | _ => simp only [mT] at h1; cases h1
          · rename_i hy
            exact gen (sw_cell (by rw [O.sc]; exact hy))
          · cases h4
        · skip
          split at h4
          · rename_i hy
            obtain ⟨l1, l2⟩ := tt h4
            cases t with
            | name i =>
              simp only [mT] at h1
              obtain ⟨h1, _⟩ := tt h1
              cases e with
              | stuck => exact ⟨fun pins s σ H De I ⟨ι, ρ, hp, hs, hh, po⟩ => by
                  simp only [exec, ev, lift] at po
                  exact po.elim⟩
              | new l => cases l <;> (simp only [mE, mL] at h2; cases h2)
              | dcomp k v t it cd =>
                simp only [mE] at h2
                split at h2
                · rename_i ee
                  cases ee
                  obtain ⟨h, h7⟩ := tt h2
                  obtain ⟨h, h6⟩ := tt h
                  obtain ⟨h, h5⟩ := tt h
                  obtain ⟨h, h4⟩ := tt h
                  obtain ⟨h, h3⟩ := tt h
                  obtain ⟨hb, h2⟩ := tt h
                  have q := fun spos => ps_setDc (i := i) (spos := spos) (own := ownOf w.N t.slots) (g := rdT X.K c t) (tt := rdF X.K c cd) (tk := rdE X.K W00 c k) (tv := rdE X.K W00 c v) O.calm (by rw [O.N]; exact O.nd) (by rw [O.N]; exact of_decide_eq_true h1) (by rw [O.sc]; exact hy)
                    (sw_dict O.knd (by rw [O.sc]; exact hy) l1 (by simpa using l2)) (sI it w _ _ X W O T h3) (by rw [O.N, O.sc]; exact blkOk_by hb) (fun s H C cl fp => sT t (inW w _) _ _ (inW_ok O _ (blk_kind hb) s H C cl fp) h4)
                    (fun s H C cl fp => sIf cd (inW w _) _ _ (inW_ok O _ (blk_kind hb) s H C cl fp) h5) (fun s H C cl fp => sE k (inW w _) _ _ W00 (inW_ok O _ (blk_kind hb) s H C cl fp) tk0 h6) (fun s H C cl fp => sE v (inW w _) _ _ W00 (inW_ok O _ (blk_kind hb) s H C cl fp) tk0 h7) (sISet h3)
                  simp only [own_ix] at q
                  exact (q _).imp fun De σ H h => dc_rd (asg_name_rd h)
                · cases h2
              | back e b => cases b <;> (simp only [mE] at h2; cases h2)
              | _ => simp only [mE] at h2; cases h2
            | _ => simp only [mT] at h1; cases h1
          · rename_i hy
            exact gen (sw_cell (by rw [O.sc]; exact hy))
          · cases h4
        · cases h4
    · cases h
  | .aug i op e, w, x, X, W, O, T, P, F, h => by
    simp only [mS] at h
    split at h
    · obtain ⟨h, h6⟩ := tt h
      obtain ⟨h, h5⟩ := tt h
      obtain ⟨h, h4⟩ := tt h
      obtain ⟨h, h3⟩ := tt h
      obtain ⟨h1, h2⟩ := tt h
      rw [op_of h1]
      obtain ⟨q1, q2⟩ := O.fn _ h3
      exact (ps_aug (i := i) (by rw [O.N]; exact O.nd) (by rw [O.N]; exact of_decide_eq_true h2) (by rw [O.sc]; exact q1) (sE e w _ X W O T h6) (ip_B op) (by rw [O.sc]; exact q2)).imp fun De σ H ⟨ι, ρ, hp, hs, hh, po⟩ => by
        cases e1 : ρ[i]? with
        | none => simp only [exec, e1] at po; exact po.elim
        | some od =>
          cases od with
          | none => simp only [exec, e1] at po; exact po.elim
          | some d =>
            simp only [exec, e1] at po
            obtain ⟨v, hv, r⟩ := hs.2 i d e1
            refine ⟨v, hv, ι, ρ, hp, hs, hh, (po_lift hs hh (fun _ _ _ _ => trivial) po).mono fun x ι1 H1 s1 p1 u h1 r1 => ?_⟩
            refine ⟨W0, ι1, x.2, d, x.1, h1, hh.rep s1 _ _ r, r1, p1.bind.mono fun y ι2 H2 s2 p2 z h2 r2 => ?_⟩
            exact p2 ι2 H2 .refl h2 _ ((h1.srep s2 (hh.srep s1 hs)).set r2 i)
    · cases h
  | .ex e, w, x, X, W, O, T, P, F, h => by
    simp only [mS] at h
    split at h
    · obtain ⟨h1, h2⟩ := tt h
      exact (ps_expr (sE e w _ X W O T h1) (sw_none (by simpa using h2))).imp fun De σ H ⟨ι, ρ, hp, hs, hh, po⟩ =>
        ⟨ι, ρ, hp, hs, hh, (po_lift hs hh (fun _ _ _ _ => trivial) po).mono fun x ι1 H1 s1 p1 v h1 r1 => p1 ι1 H1 .refl h1 σ (hh.srep s1 hs)⟩
    · cases h
  | .ret e, w, x, X, W, O, T, P, F, h => by
    simp only [mS] at h
    split at h
    · exact (ps_ret (sE e w _ X W O T h)).imp fun De σ H ⟨ι, ρ, hp, hs, hh, po⟩ =>
        ⟨ι, ρ, hp, hs, hh, (po_lift hs hh (fun _ _ _ _ => trivial) po).mono fun x ι1 H1 s1 p1 v h1 r1 => p1 ι1 H1 .refl h1 σ (hh.srep s1 hs) v r1⟩
    · cases h
  | .retN, w, x, X, W, O, T, P, F, h => by
    simp only [mS] at h
    split at h
    · exact ps_retN.imp fun De σ H ⟨ι, ρ, hp, hs, hh, po⟩ => po ι H .refl hh σ hs _ rfl
    · cases h
  | .ite t a b, w, x, X, W, O, T, P, F, h => by
    simp only [mS] at h
    split at h
    · obtain ⟨h, h3⟩ := tt h
      obtain ⟨h1, h2⟩ := tt h
      exact (ps_if (sB t w _ X W O T h1) (sSs a w _ X W O T P F h2) (sSs b w _ X W O T P F h3)).imp fun De σ H h => ifS_rd h
    · cases h
  | .loop t s b, w, x, X, W, O, T, P, F, h => by
    simp only [mS] at h
    split at h
    · obtain ⟨h, h3⟩ := tt h
      obtain ⟨h1, h2⟩ := tt h
      exact (ps_for P O.calm (sI s w _ _ X W O T h2) (sT t w _ X O h1) (sSs b w _ X W O T P F h3) (sISet h2)).imp fun De σ H h => for_rd h
    · cases h
  | .wh t b, w, x, X, W, O, T, P, F, h => by
    simp only [mS] at h
    split at h
    · obtain ⟨h1, h2⟩ := tt h
      exact (ps_while P (sB t w _ X W O T h1) (sSs b w _ X W O T P F h2)).imp fun De σ H h => while_rd h
    · cases h
  | .brk, w, x, X, W, O, T, P, F, h => by
    simp only [mS] at h
    split at h
    · exact ps_break.imp fun De σ H ⟨ι, ρ, hp, hs, hh, po⟩ => po ι H .refl hh σ hs
    · cases h
  | .cnt, w, x, X, W, O, T, P, F, h => by
    simp only [mS] at h
    split at h
    · exact ps_continue.imp fun De σ H ⟨ι, ρ, hp, hs, hh, po⟩ => po ι H .refl hh σ hs
    · cases h
  | .pass, w, x, X, W, O, T, P, F, h => by
    simp only [mS] at h
    split at h
    · exact ps_pass.imp fun De σ H ⟨ι, ρ, hp, hs, hh, po⟩ => po ι H .refl hh σ hs
    · cases h
  | .stuck, w, x, X, W, O, T, P, F, h => ps_never.imp fun De σ H ⟨ι, ρ, hp, hs, hh, po⟩ => by
    unfold exec at po
    exact po.elim
  | .raise k es, w, x, X, W, O, T, P, F, h => by
    simp only [mS] at h
    split at h
    · split at h
      · rename_i p hp
        obtain ⟨h, h7⟩ := tt h
        obtain ⟨h, h6⟩ := tt h
        obtain ⟨h, h5⟩ := tt h
        obtain ⟨h, h4⟩ := tt h
        obtain ⟨h, h3⟩ := tt h
        obtain ⟨h1, h2⟩ := tt h
        have e := of_decide_eq_true h1
        subst e
        exact s_raise O T hp (gl_of O h2) h3 (sEs es w _ X W00 O tk0 h4) (mEs_plain h4) (fun e => by rw [e] at h5; cases h5) (of_decide_eq_true h6) (of_decide_eq_true h7) (fun ρ hp y e => evs_len h4 e)
      · cases h
    · cases h
  | .tr b hs, w, x, X, W, O, T, P, F, h => by
    simp only [mS] at h
    split at h
    · rename_i body hds pos
      obtain ⟨h, h3⟩ := tt h
      obtain ⟨h1, h2⟩ := tt h
      exact s_try O T F h2 (fun e => by rw [e] at h3; cases h3) fun pn xe V T2 P2 => sSs b w _ (X.tr pn xe) V (tr_ok O pn xe) T2 P2 F h1
    · cases h
theorem sSs : ∀ (s : CSs) (w : Wh) (x : List Stmt) (X : Cx) (W : WS), XOk G c w X → TkOk G X W → PassesOwn (model X.prog X.w) X.A X.env X.xe → Fr X → mSs G w s x = true → PSs X x (rdSs X.K W c s)
  | .nil, w, x, X, W, O, T, P, F, h => by
    simp only [mSs] at h
    split at h
    · exact pss_nil.imp fun De σ H ⟨ι, ρ, hp, hs, hh, po⟩ => po ι H .refl hh σ hs
    · cases h
  | .cons s r, w, x, X, W, O, T, P, F, h => by
    simp only [mSs] at h
    split at h
    · obtain ⟨h1, h2⟩ := tt h
      exact (pss_cons (sS s w _ X W O T P F h1) (sSs r w _ X W O T P F h2)).imp fun De σ H h => seq_rd h
    · cases h
end
end

/-! ### tables -/
/-- what a function's text must show -/
structure Txt where
  params : Arguments
  body : List Stmt
  scope : Scope
def plainArgs (a : Arguments) : Bool := match a with
  | { posonlyargs := [], args := as, vararg := none, kwonlyargs := [], kw_defaults := [], kwarg := none, defaults := [] } => decide (as.map (·.arg)).Nodup
  | _ => false
def namesOf (a : Arguments) : List Str := a.args.map fun x => x.arg
def scopeB (N ps : List Str) (sc : Scope) : Bool :=
  (match sc.kind with | .function => true | _ => false) && !sc.isCoroutine && !sc.isGenerator && decide N.Nodup && decide (N.take ps.length = ps) && (ps.all fun x => locB sc x) && (sc.names.all fun y => match y.2 with | .free => false | _ => true)
def mFn (G : GI) (fn : Fn) (t : Txt) : Bool := plainArgs t.params && decide (namesOf t.params = fn.ps) && scopeB fn.N fn.ps t.scope && mSs G ⟨fn.N, t.scope, t.scope⟩ fn.body t.body
theorem scope_ok {N ps : List Str} {sc : Scope} (h : scopeB N ps sc = true) : FnScope N ps sc := by
  unfold scopeB at h
  obtain ⟨h, h7⟩ := tt h
  obtain ⟨h, h6⟩ := tt h
  obtain ⟨h, h5⟩ := tt h
  obtain ⟨h, h4⟩ := tt h
  obtain ⟨h, h3⟩ := tt h
  obtain ⟨h1, h2⟩ := tt h
  refine ⟨?_, by simpa using h2, by simpa using h3, of_decide_eq_true h4, of_decide_eq_true h5, fun x hx => ?_, fun y hy e => ?_⟩
  · split at h1
    · assumption
    · cases h1
  · have q := List.all_eq_true.mp h6 x hx
    unfold locB at q
    split at q
    · exact .inl (by assumption)
    · exact .inr (by assumption)
    · cases q
  · have q := List.all_eq_true.mp h7 y hy
    rw [e] at q
    cases q
theorem zip_some : ∀ {ns : List Str} {us : List Value} {n : Str}, us.length = ns.length → n ∈ ns → ((ns.zip us).lookup n).isNone = false
  | [], _, _, _, h => nomatch h
  | a :: ns, [], _, e, _ => nomatch e
  | a :: ns, u :: us, n, e, h => by
    rw [List.zip_cons_cons, List.lookup_cons]
    by_cases q : n == a
    · simp [q]
    · simp only [q]
      have : n ∈ ns := by
        rcases List.mem_cons.mp h with z | z
        · exact absurd (beq_iff_eq.mpr z) q
        · exact z
      exact zip_some (by simpa using e) this
theorem zip_look : ∀ {ns : List Str} {us : List Value}, ns.Nodup → us.length = ns.length → ns.filterMap (fun n => Option.map (fun x => (n, x)) ((ns.zip us).lookup n)) = ns.zip us
  | [], _, _, _ => rfl
  | a :: ns, [], _, e => nomatch e
  | a :: ns, u :: us, nd, e => by
    obtain ⟨h1, h2⟩ := List.nodup_cons.mp nd
    rw [List.zip_cons_cons, List.filterMap_cons]
    simp only [List.lookup_cons, beq_self_eq_true, Option.map_some]
    congr 1
    rw [← zip_look (us := us) h2 (by simpa using e)]
    rw [zip_look (us := us) h2 (by simpa using e)]
    refine (filterMap_same fun n hn => ?_).trans (zip_look (us := us) h2 (by simpa using e))
    have : (n == a) = false := by
      apply Bool.eq_false_iff.mpr
      intro q
      exact h1 (beq_iff_eq.mp q ▸ hn)
    simp only [this]
theorem bind_all {x qual : Str} {as : List Arg} {body : List Stmt} {scope : Scope} (kV doc pm : Value) (an : Option Addr) (cdv ct : Value) (us : List Value) (nd : (as.map (·.arg)).Nodup) (hl : us.length = as.length) :
    bindArgs (PySem.W.fnOf x qual { posonlyargs := [], args := as, vararg := none, kwonlyargs := [], kw_defaults := [], kwarg := none, defaults := [] } body scope .none kV doc pm an cdv ct) ⟨us, []⟩ = pure ((as.map (·.arg)).zip us) := by
  have hm : ∀ k, (((as.map (·.arg)).take k).filter fun n => (((as.map (·.arg)).zip us).lookup n).isNone) = [] := fun k => by
    rw [List.filter_eq_nil_iff]
    intro n hn
    rw [zip_some (by simpa using hl) (List.mem_of_mem_take hn)]
    exact Bool.false_ne_true
  have hz : seqItems? Value.none = pure none := rfl
  unfold bindArgs PySem.W.fnOf
  simp only [List.map_nil, List.nil_append, hz, hl, List.length_map, List.forIn_nil, pure_bind, Option.getD_none, Nat.lt_irrefl, decide_false, Bool.false_and, if_false, Bool.false_eq_true, gt_iff_lt, List.drop_nil, List.length_nil, Nat.sub_zero, hm, List.isEmpty_nil, Bool.not_true, List.zip_nil_right, List.append_nil]
  rw [zip_look nd (by simpa using hl)]
theorem binds_ok {params : Arguments} (h : plainArgs params = true) {x qual : Str} {body : List Stmt} {scope : Scope} (kV doc pm : Value) (an : Option Addr) (cdv ct : Value) (us : List Value) (hl : us.length = (namesOf params).length) :
    bindArgs (PySem.W.fnOf x qual params body scope .none kV doc pm an cdv ct) ⟨us, []⟩ = pure ((namesOf params).zip us) := by
  unfold plainArgs at h
  split at h
  · exact bind_all kV doc pm an cdv ct us (of_decide_eq_true h) (by simpa [namesOf] using hl)
  · cases h
theorem start_rep {K : Frg} {H : Hp} {ι : List Addr} {ds : List D} {vs : List V} {N ps : List Str} (hl : ds.length = ps.length) (r : Reps K H ι ds vs) (hN : ps.length ≤ N.length) : SRep K H ι (L2.start N vs) (startE N.length ds) := by
  have e := r.length
  refine ⟨?_, fun i d h => ?_⟩
  · unfold L2.start startE
    rw [List.length_append, List.length_append, List.length_map, List.length_map, List.length_replicate, List.length_replicate]
    omega
  · unfold startE at h
    by_cases hi : i < ds.length
    · rw [List.getElem?_append_left (by simpa using hi), List.getElem?_map] at h
      cases q : ds[i]? with
      | none => rw [q] at h; cases h
      | some d' =>
        rw [q] at h
        cases h
        obtain ⟨v, hv, rv⟩ := r.get q
        refine ⟨v, ?_, rv⟩
        unfold L2.start
        rw [List.getElem?_append_left (by rw [List.length_map]; omega), List.getElem?_map, hv]
        rfl
    · rw [List.getElem?_append_right (by simpa using hi), List.getElem?_replicate] at h
      split at h <;> cases h

/-! ### a call's end -/
mutual
theorem low_rep {K : Frg} {H : Hp} {ι : List Addr} (n : Nat) : ∀ (d : D) (v : V), d.low n = true → Rep K H ι d v → Rep K H (ι.take n) d v
  | .non, v, _, r => r
  | .bl b, v, _, r => r
  | .int i, v, _, r => r
  | .str x, v, _, r => r
  | .tup ds, v, h, r => by
    obtain ⟨a, vs, e, q, r⟩ := r
    exact ⟨a, vs, e, q, low_reps n ds vs h r⟩
  | .seq ds, v, h, r => by
    obtain ⟨a, vs, e, q, r⟩ := r
    exact ⟨a, vs, e, q, low_reps n ds vs h r⟩
  | .ctp ds, v, h, r => by
    obtain ⟨a, vs, e, q, r⟩ := r
    exact ⟨a, vs, e, q, low_reps n ds vs h r⟩
  | .ref m, v, h, r => by
    obtain ⟨a, e, q⟩ := r
    exact ⟨a, e, by rw [List.getElem?_take_of_lt (of_decide_eq_true h)]; exact q⟩
theorem low_reps {K : Frg} {H : Hp} {ι : List Addr} (n : Nat) : ∀ (ds : List D) (vs : List V), D.lows n ds = true → Reps K H ι ds vs → Reps K H (ι.take n) ds vs
  | [], _, _, r => r
  | d :: ds, _, h, r => by
    obtain ⟨v, w, e, r1, r2⟩ := r
    simp only [D.lows] at h
    obtain ⟨h1, h2⟩ := tt h
    exact ⟨v, w, e, low_rep n d v h1 r1, low_reps n ds w h2 r2⟩
end
mutual
/-- what stands in a heap that is held has numbers of that heap -/
theorem rep_low {K : Frg} {H : Hp} {ι : List Addr} : ∀ (d : D) (v : V), Rep K H ι d v → d.low ι.length = true
  | .non, v, _ => rfl
  | .bl b, v, _ => rfl
  | .int i, v, _ => rfl
  | .str x, v, _ => rfl
  | .tup ds, v, r => by
    obtain ⟨a, vs, e, q, r⟩ := r
    exact reps_low ds vs r
  | .seq ds, v, r => by
    obtain ⟨a, vs, e, q, r⟩ := r
    exact reps_low ds vs r
  | .ctp ds, v, r => by
    obtain ⟨a, vs, e, q, r⟩ := r
    exact reps_low ds vs r
  | .ref m, v, r => by
    obtain ⟨a, e, q⟩ := r
    exact decide_eq_true (List.getElem?_eq_some_iff.mp q).1
theorem reps_low {K : Frg} {H : Hp} {ι : List Addr} : ∀ (ds : List D) (vs : List V), Reps K H ι ds vs → D.lows ι.length ds = true
  | [], _, _ => rfl
  | d :: ds, _, r => by
    obtain ⟨v, w, e, r1, r2⟩ := r
    simp only [D.lows, rep_low d v r1, reps_low ds w r2, Bool.and_self]
end
theorem ook_low {K : Frg} {H : Hp} {ι : List Addr} {a : Addr} {o : O} (x : OOk K H ι a o) : o.low ι.length = true := by
  cases o with
  | lst xs => obtain ⟨vs, _, r⟩ := x; exact reps_low _ _ r
  | dct kvs => obtain ⟨ws, _, _, r⟩ := x; exact reps_low _ _ r
  | dtt kvs => obtain ⟨ws, _, _, r⟩ := x; exact reps_low _ _ r
theorem ook_take {K : Frg} {H : Hp} {ι : List Addr} {a : Addr} {o : O} {n : Nat} (h : o.low n = true) (x : OOk K H ι a o) : OOk K H (ι.take n) a o := by
  cases o with
  | lst xs => obtain ⟨vs, q, r⟩ := x; exact ⟨vs, q, low_reps n _ _ h r⟩
  | dct kvs => obtain ⟨ws, q, r1, r2⟩ := x; exact ⟨ws, q, r1, low_reps n _ _ h r2⟩
  | dtt kvs => obtain ⟨ws, q, r1, r2⟩ := x; exact ⟨ws, q, r1, low_reps n _ _ h r2⟩
theorem tidy_ok {K : Frg} {H H' : Hp} {ι ι' : List Addr} {hp : Heap} {r : D × Heap} {v : V} {Q : VK} (hh : HpRep K H ι hp) (s : Step ι H ι' H') (h' : HpRep K H' ι' r.2) (q : Rep K H' ι' r.1 v) (p : SE K Q (tidy hp r) ι' H') (p2 : SE K Q (tidy hp r) ι H') : Q v H' := by
  unfold tidy at p p2
  split at p
  · rename_i hc
    rw [if_pos hc] at p2
    obtain ⟨c1, c2, c3⟩ := hc
    obtain ⟨κ, e⟩ := s.pre
    have et : ι'.take hp.length = ι := by rw [e, ← hh.len, List.take_left]
    have hh' : HpRep K H' ι (r.2.take hp.length) := by
      refine ⟨by rw [List.length_take, hh.len]; omega, hh.nd, fun n o a h1 h2 => ?_⟩
      have hn : n < hp.length := hh.len ▸ (List.getElem?_eq_some_iff.mp h2).1
      rw [List.getElem?_take_of_lt hn] at h1
      have h2' : ι'[n]? = some a := by
        rw [e, List.getElem?_append_left (by rw [hh.len]; exact hn)]
        exact h2
      have x := h'.ok n o a h1 h2'
      have lo : o.low hp.length = true := by
        rcases c3 n hn with z | ⟨o', z, l⟩
        · rw [z] at h1
          have := ook_low (hh.ok n o a h1 h2)
          rw [hh.len] at this
          exact this
        · rw [z] at h1
          cases h1
          exact l
      have y := ook_take lo x
      rw [et] at y
      exact y
    have y := low_rep hp.length _ _ c1 q
    rw [et] at y
    exact p2 v hh' y
  · rename_i hc
    exact p v h' q

/-- the step where the new numbers are forgotten -/
theorem Step.forget {ι ι' : List Addr} {H H' : Hp} (s : Step ι H ι' H') : Step ι H ι H' := ⟨⟨[], by simp⟩, fun a h => .inl h, s.kp⟩

/-! ### making an exception -/
def initS (sc : Scope) : List Str → List Stmt → Bool
  | [], ss => (match ss with
    | [] => true
    | _ => false)
  | f :: fl, ss => (match ss with
    | .Assign [.Attribute (.Name s _) g _] (.Name p _) _ :: r => decide (s = "self") && decide (g = f) && decide (p = f) && visB sc s && visB sc p && nmB s && nmB p && initS sc fl r
    | _ => false)
def initB (fl : List Str) (params : Arguments) (body : List Stmt) (sc : Scope) : Bool :=
  plainArgs params && decide (namesOf params = ("self" : Str) :: fl) && scopeB (("self" : Str) :: fl) (("self" : Str) :: fl) sc && initS sc fl body && decide (fl.length ≤ 15) && decide fl.Nodup
section
variable {X : Cx}
/-- behind some of the stores -/
def Made (fl : List Str) (xs : List V) (a C : Addr) (H : Hp) (j : Nat) (H' : Hp) : Prop := (j = 0 ∧ H' = H) ∨
  ∃ (d : Addr) (ws : List (Str × V)), H d = none ∧ d ≠ a ∧ H' a = some (exo a C (some d)) ∧ H' d = some (exd d ws) ∧ ws.length ≤ j ∧ (∀ b, b ≠ a → b ≠ d → H' b = H b) ∧
    ∀ (i : Nat) (f : Str) (v : V), i < j → fl[i]? = some f → xs[i]? = some v → ws.lookup f = some v
theorem init_seq {fl : List Str} (hN : X.N = ("self" : Str) :: fl) (nd : fl.Nodup) (h15 : fl.length ≤ 15) : ∀ (gl : List Str) (ss : List Stmt) (j : Nat), j ≤ fl.length → fl.drop j = gl → initS X.env.scope gl ss = true → ∃ t, PSs X ss t ∧
    ∀ (De : Ends) (σ : L2.St) (H H' : Hp) (a C : Addr) (xs : List V), xs.length = fl.length → σ[0]? = some (some (.ref a)) → (∀ (i : Nat) (v : V), xs[i]? = some v → σ[i + 1]? = some (some v)) → OexC X.K C → (∀ f ∈ fl, PySem.W.findIn X.K (.ref C) f = some none) → H a = some (exo a C none) →
      Made fl xs a C H j H' → (∀ H2, Made fl xs a C H fl.length H2 → De.nx σ H2) → t De σ H'
  | [], ss, j, hj0, hd, h => by
    simp only [initS] at h
    split at h
    · refine ⟨_, pss_nil, fun De σ H H' a C xs hx s0 sv T no ha m q => q H' ?_⟩
      have hj : fl.length ≤ j := by
        have := congrArg List.length hd
        rw [List.length_drop] at this
        simp at this
        omega
      rcases m with ⟨rfl, rfl⟩ | ⟨d, ws, m1, m2, m3, m4, m5, m6, m7⟩
      · exact .inl ⟨by omega, rfl⟩
      · refine .inr ⟨d, ws, m1, m2, m3, m4, ?_, m6, fun i f v hi e1 e2 => m7 i f v (by omega) e1 e2⟩
        omega
    · cases h
  | f :: gl, ss, j, hj0, hd, h => by
    simp only [initS] at h
    split at h
    · rename_i sn p1 g p2 pn p3 p4 r
      obtain ⟨h, h8⟩ := tt h
      obtain ⟨h, h7⟩ := tt h
      obtain ⟨h, h6⟩ := tt h
      obtain ⟨h, h5⟩ := tt h
      obtain ⟨h, h4⟩ := tt h
      obtain ⟨h, h3⟩ := tt h
      obtain ⟨h1, h2⟩ := tt h
      have h1 := of_decide_eq_true h1
      have h2 := of_decide_eq_true h2
      have h3 := of_decide_eq_true h3
      subst h1 h2 h3
      have hj : j < fl.length := by
        have := congrArg List.length hd
        rw [List.length_drop, List.length_cons] at this
        omega
      have hf : fl[j]? = some pn := by
        have := congrArg (fun l => l[0]?) hd
        simpa using this
      obtain ⟨n1, n2, _⟩ := nm_of h6
      obtain ⟨n3, n4, _⟩ := nm_of h7
      obtain ⟨t, ht, hq⟩ := init_seq hN nd h15 gl r (j + 1) hj (by rw [← List.drop_drop, hd]; rfl) h8
      have v0 := pe_var (X := X) (i := 0) (pos := p1) (x := "self") (by rw [hN]; rfl) (vis_of h4) n1 n2
      have v1 := pe_var (X := X) (i := j + 1) (pos := p3) (x := pn) (by rw [hN, List.getElem?_cons_succ]; exact hf) (vis_of h5) n3 n4
      refine ⟨_, pss_cons (ps_ost (f := pn) (p' := p2) (pos := p4) v0 v1) ht, fun De σ H H' a C xs hx s0 sv T no ha m q => ?_⟩
      obtain ⟨y, hy⟩ : ∃ y, xs[j]? = some y := ⟨xs[j], List.getElem?_eq_getElem (by omega)⟩
      refine ⟨y, sv j y hy, .ref a, s0, a, C, rfl, T, no pn (List.mem_of_getElem? hf), ?_⟩
      have at_ : ∀ {i : Nat} {g : Str}, i < j → fl[i]? = some g → g ≠ pn := fun {i g} hi hg e => by
        subst e
        obtain ⟨l1, e1⟩ := List.getElem?_eq_some_iff.mp hg
        obtain ⟨l2, e2⟩ := List.getElem?_eq_some_iff.mp hf
        have := (List.getElem_inj nd).mp (e1.trans e2.symm)
        omega
      rcases m with ⟨rfl, rfl⟩ | ⟨d, ws, m1, m2, m3, m4, m5, m6, m7⟩
      · refine .inl ⟨ha, fun dx hn dn => hq De σ H' _ a C xs hx s0 sv T no ha (.inr ⟨dx, [(pn, y)], hn, dn, upd_same, ?_, Nat.le_refl _, fun b b1 b2 => ?_, fun i f v hi e1 e2 => ?_⟩) q⟩
        · rw [upd_ne dn, upd_same]
        · rw [upd_ne b1, upd_ne b2]
        · have : i = 0 := by omega
          subst this
          cases hf.symm.trans e1
          cases hy.symm.trans e2
          rw [List.lookup_cons]
          simp
      · refine .inr ⟨d, ws, m3, m4, by omega, hq De σ H _ a C xs hx s0 sv T no ha (.inr ⟨d, (pn, y) :: ws, m1, m2, ?_, upd_same, by rw [List.length_cons]; omega, fun b b1 b2 => ?_, fun i f v hi e1 e2 => ?_⟩) q⟩
        · rw [upd_ne (Ne.symm m2)]
          exact m3
        · rw [upd_ne b2]
          exact m6 b b1 b2
        · rw [List.lookup_cons]
          by_cases hij : i = j
          · subst hij
            cases hf.symm.trans e1
            cases hy.symm.trans e2
            simp
          · have hi : i < j := by omega
            have : (f == pn) = false := beq_eq_false_iff_ne.mpr (at_ hi e1)
            rw [this]
            exact m7 i f v hi e1 e2
    · cases h
end
end Tw
end

section
set_option Elab.async false
set_option linter.all false
set_option maxRecDepth 100000
set_option maxHeartbeats 8000000
/-! Tables of functions. Own work. -/
namespace Tw
open PySem PySem.Spec PyProof.Rows L2 RZ
/-- what the module's heap shows of the table -/
structure TabOk (P : Pg) (G : GI) (txt : List Txt) (K : Frg) (mg : Str → Option Value) : Prop where
  len : txt.length = P.fns.length
  gfn : G.fns = P.fns.map fun f => (f.name, f.ps)
  at_ : ∀ (i : Nat) (fn : Fn) (t : Txt), P.fns[i]? = some fn → txt[i]? = some t → mFn G fn t = true ∧ ∃ (f : Addr) (fd : FuncData) (qual : Str), FunD K fn.name qual t.params t.body t.scope [] [] f fd ∧ mg fn.name = some (.ref f)
  bl : ∀ x ∈ G.bl, mg x = none
  cs : ∀ (i : Nat) (x : Str), G.cs[i]? = some x → ∃ d u v, P.cs[i]? = some d ∧ mg x = some u ∧ RelV v u ∧ ∀ H ι, Rep K H ι d v
  ex : ClsOk G P.cl K mg
  mkx : ∀ (k : Nat) (x : Str) (fl : List Str), G.cl[k]? = some (x, fl) → fl ≠ [] → ∃ (C fI : Addr) (fd : FuncData) (nm qual : Str) (params : Arguments) (body : List Stmt) (sc : Scope), mg x = some (.ref C) ∧ OexC K C ∧ PySem.W.findIn K (.ref C) "__init__" = some (some (.ref fI)) ∧
    PySem.W.typeIn K (.ref fI) = some (.type "function") ∧ FunD K nm qual params body sc [] [] fI fd ∧ initB fl params body sc = true

theorem init_fn {K : Frg} {mg : Str → Option Value} {prog : Program} {w : World} {base : PySem.Heap} {fl : List Str} {nm qual : Str} {params : Arguments} {body : List Stmt} {sc : Scope} {fI : Addr} {fd : FuncData} (F : FunD K nm qual params body sc [] [] fI fd) (h : initB fl params body sc = true) (hne : fl ≠ []) :
    FnOk prog w K mg base (L2.CX prog w) 1 fI fd ("self" :: fl) (spI K fl) ∧ Binds K fd ("self" :: fl) [] := by
  unfold initB at h
  obtain ⟨h, h6⟩ := tt h
  obtain ⟨h, h5⟩ := tt h
  obtain ⟨h, h4⟩ := tt h
  obtain ⟨h, h3⟩ := tt h
  obtain ⟨h1, h2⟩ := tt h
  have h2 := of_decide_eq_true h2
  have h5 := of_decide_eq_true h5
  have h6 := of_decide_eq_true h6
  have S := scope_ok h3
  refine ⟨F.ok (CX := L2.CX prog w) (k := 0) S (fun vs H Q E hsp => ?_) fun cdv A outer s H vs Q E hr hsp => ?_, ?_⟩
  · obtain ⟨a, C, xs, e, l, _⟩ := hsp
    rw [e, List.length_cons, List.length_cons, l]
  · obtain ⟨t, ht, hq⟩ := init_seq (X := cxOf (L2.CX prog w) prog w K mg base (("self" : Str) :: fl) qual sc fI cdv A outer s H E) rfl h6 h5 fl body 0 (Nat.zero_le _) (List.drop_zero) h4
    refine ⟨t, ht, ?_⟩
    obtain ⟨a, C, xs, rfl, l, T, no, ha, q⟩ := hsp
    have st : ∀ (i : Nat) (v : V), (V.ref a :: xs)[i]? = some v → (L2.start (("self" : Str) :: fl) (V.ref a :: xs))[i]? = some (some v) := fun i v hv => by
      unfold L2.start
      rw [List.getElem?_append_left (by rw [List.length_map]; exact (List.getElem?_eq_some_iff.mp hv).1), List.getElem?_map, hv]
      rfl
    refine hq _ _ H H a C xs l (st 0 _ rfl) (fun i v hv => st (i + 1) v (by rw [List.getElem?_cons_succ]; exact hv)) T no ha (.inl ⟨rfl, rfl⟩) fun H2 m => ?_
    rcases m with ⟨e, rfl⟩ | ⟨d, ws, m1, m2, m3, m4, m5, m6, m7⟩
    · exact absurd (List.eq_nil_of_length_eq_zero e) hne
    · refine q d ws m1 m2 (fun j f v e1 e2 => m7 j f v ?_ e1 e2) H2 m3 m4 m6
      exact (List.getElem?_eq_some_iff.mp e1).1
  · have := F.bindsN (ps := namesOf params) fun kV doc pm an cdv ct us hus => binds_ok h1 kV doc pm an cdv ct us hus
    rw [h2] at this
    exact this
/-! no statement lets an exception go -/
def NX {α : Type} (r : R α) : Prop := ∀ a b d, r ≠ .exc a b d
theorem NX.ok {α : Type} {a : α} : NX (R.ok a) := fun _ _ _ h => by cases h
theorem NX.no {α : Type} : NX (R.no : R α) := fun _ _ _ h => by cases h
theorem NX.nox {α : Type} {r : R α} : NX r.nox := fun _ _ _ h => by cases r <;> cases h
theorem NX.bind {α β : Type} {r : R α} {f : α → R β} (h : NX r) (k : ∀ a, NX (f a)) : NX (r.bind f) := by
  cases r with
  | ok a => exact k a
  | exc a b d => exact absurd rfl (h a b d)
  | no => exact NX.no
theorem NX.lift {α : Type} {ρ : Env} {r : R α} {f : α → R Tw.St} (k : ∀ a, NX (f a)) : NX (Tw.lift ρ r f) := by
  cases r with
  | ok a => exact k a
  | exc a b d => exact NX.ok
  | no => exact NX.no
theorem NX.ofO {α β : Type} {o : Option α} {f : α → R β} (k : ∀ a, NX (f a)) : NX (Tw.ofO o f) := by
  cases o with
  | none => exact NX.no
  | some a => exact k a
theorem NX.chk {β : Type} {b : Bool} {r : R β} (k : NX r) : NX (Tw.chk b r) := by
  cases b with
  | false => exact NX.no
  | true => exact k
theorem forL_nx {g : List (Nat × O)} {f : D → Env → Heap → R Tw.St} (hf : ∀ x ρ h, NX (f x ρ h)) : ∀ xs ρ h, NX (forL g f xs ρ h)
  | [], ρ, h => NX.chk NX.ok
  | x :: xs, ρ, h => NX.chk (NX.bind (hf x ρ h) fun s => by
      cases s.1 <;> first | exact NX.ok | exact forL_nx hf xs _ _)
theorem whL_nx {c : Env → Heap → R (Bool × Heap)} {f : Env → Heap → R Tw.St} (hf : ∀ ρ h, NX (f ρ h)) : ∀ n ρ h, NX (whL c f n ρ h)
  | 0, ρ, h => NX.no
  | n + 1, ρ, h => NX.lift fun p => by
      cases p.1
      · exact NX.ok
      · refine NX.bind (hf ρ _) fun s => ?_
        cases s.1 <;> first | exact NX.ok | exact whL_nx hf n _ _
theorem suV_nx {fl : List Str} {fs : List D} {ρ : Env} {h : Heap} {su : CSu} : NX (suV fl fs ρ h su) := by
  cases su <;> exact NX.ofO fun _ => NX.ok
theorem catchV_nx {cl : List (List Nat × List Str)} {k : Nat} {fs : List D} {ρ : Env} {h : Heap} : ∀ hs : List CH, NX (catchV cl k fs ρ h hs)
  | [] => NX.ok
  | x :: xs => NX.ofO fun l => by
      by_cases q : l.1.contains x.k = true
      · rw [if_pos q]; exact NX.chk suV_nx
      · rw [if_neg q]; exact catchV_nx xs
mutual
theorem exec_nx (c : Ctx) : ∀ (s : CS) (ρ : Env) (h : Heap), NX (exec c s ρ h)
  | .asg t e, ρ, h => by rw [exec]; exact NX.lift fun x => NX.bind NX.nox fun _ => NX.ok
  | .aug i op e, ρ, h => by
    rw [exec]
    split
    · refine NX.lift fun x => NX.bind ?_ fun _ => NX.ok
      unfold opI
      split <;> first | exact NX.ok | exact NX.no | exact NX.chk NX.ok
    · exact NX.no
  | .ex e, ρ, h => by rw [exec]; exact NX.lift fun x => NX.ok
  | .ret e, ρ, h => by rw [exec]; exact NX.lift fun x => NX.ok
  | .retN, ρ, h => by rw [exec]; exact NX.ok
  | .ite t a b, ρ, h => by
    rw [exec]
    refine NX.lift fun x => ?_
    cases x.1
    · exact execs_nx c b ρ x.2
    · exact execs_nx c a ρ x.2
  | .loop t s b, ρ, h => by
    rw [exec]
    refine NX.lift fun w => forL_nx (fun x ρ h => NX.bind NX.nox fun (s : Env × Heap) => ?_) _ _ _
    exact execs_nx c b s.1 s.2
  | .wh t b, ρ, h => by
    rw [exec]
    exact whL_nx (fun ρ h => execs_nx c b ρ h) _ _ _
  | .brk, ρ, h => by rw [exec]; exact NX.ok
  | .cnt, ρ, h => by rw [exec]; exact NX.ok
  | .pass, ρ, h => by rw [exec]; exact NX.ok
  | .raise k es, ρ, h => by rw [exec]; exact NX.bind NX.nox fun _ => NX.ok
  | .tr b hs, ρ, h => by
    rw [exec]
    refine NX.bind (execs_nx c b ρ h) fun s => ?_
    cases s.1 <;> first | exact NX.ok | exact catchV_nx hs
  | .stuck, ρ, h => by rw [exec]; exact NX.no
theorem execs_nx (c : Ctx) : ∀ (s : CSs) (ρ : Env) (h : Heap), NX (execs c s ρ h)
  | .nil, ρ, h => by rw [execs]; exact NX.ok
  | .cons s r, ρ, h => by
    rw [execs]
    refine NX.bind (exec_nx c s ρ h) fun x => ?_
    cases x.1 <;> first | exact NX.ok | exact execs_nx c r _ _
end
theorem kw_binds {K : Frg} {x qual : Str} {params : Arguments} {body : List Stmt} {scope : Scope} {f : Addr} {fd : FuncData} (F : FunD K x qual params body scope [] [] f fd) (h : plainArgs params = true) (us : List Value) (ks : List Str) (ws : List Value) (nk : ks.Nodup) (hl : us.length + ks.length = (namesOf params).length) (hw : ws.length = ks.length)
    (hk : ∀ k ∈ ks, k ∈ (namesOf params).drop us.length) (s : Shared) : BindsTo s fd ⟨us, ks.zip ws⟩ ((namesOf params).zip (us ++ ((namesOf params).drop us.length).filterMap fun q => (ks.zip ws).lookup q)) := by
  obtain ⟨oc, od, dV, kV, doc, pm, an, cdv, ct, osl, rfl, lk, hcd, hD, hK⟩ := F.ex
  rcases hD with ⟨_, rfl⟩ | ⟨e, _⟩
  · unfold plainArgs at h
    split at h
    · exact .of_eq (bind_kw kV doc pm an cdv ct us ks ws (of_decide_eq_true h) nk hl hw hk)
    · cases h
  · exact absurd rfl e
theorem tidy_ex {K : Frg} {H H' : Hp} {ι ι' : List Addr} {hp hp' : Heap} {fs : List D} {vs : List V} {P : Prop} (hh : HpRep K H ι hp) (s : Step ι H ι' H') (h' : HpRep K H' ι' hp') (q : Reps K H' ι' fs vs) (p : HpRep K H' ι' (tidy hp (.tup fs, hp')).2 → Reps K H' ι' fs vs → P)
    (p2 : HpRep K H' ι (tidy hp (.tup fs, hp')).2 → Reps K H' ι fs vs → P) : P := by
  unfold tidy at p p2
  split at p
  · rename_i hc
    rw [if_pos hc] at p2
    obtain ⟨c1, c2, c3⟩ := hc
    obtain ⟨κ, e⟩ := s.pre
    have et : ι'.take hp.length = ι := by rw [e, ← hh.len, List.take_left]
    have y := low_reps hp.length _ _ (show D.lows hp.length fs = true from c1) q
    rw [et] at y
    refine p2 ⟨by rw [List.length_take, hh.len]; omega, hh.nd, fun n o a h1 h2 => ?_⟩ y
    have hn : n < hp.length := hh.len ▸ (List.getElem?_eq_some_iff.mp h2).1
    rw [List.getElem?_take_of_lt hn] at h1
    have h2' : ι'[n]? = some a := by
      rw [e, List.getElem?_append_left (by rw [hh.len]; exact hn)]
      exact h2
    have lo : o.low hp.length = true := by
      rcases c3 n hn with z | ⟨o', z, l⟩
      · rw [z] at h1
        have := ook_low (hh.ok n o a h1 h2)
        rw [hh.len] at this
        exact this
      · rw [z] at h1
        cases h1
        exact l
    have z := ook_take lo (h'.ok n o a h1 h2')
    rw [et] at z
    exact z
  · exact p h' q
theorem table {P : Pg} {G : GI} {txt : List Txt} {K : Frg} {mg : Str → Option Value} (T : TabOk P G txt K mg) {prog : Program} {w : World} {base : PySem.Heap} : ∀ (k : Nat) (i : Nat) (fn : Fn) (t : Txt) (qual : Str) (f : Addr) (fd : FuncData), P.fns[i]? = some fn → txt[i]? = some t →
    FunD K fn.name qual t.params t.body t.scope [] [] f fd → FnOk prog w K mg base (L2.CX prog w) (k + 2) f fd fn.ps (spT K G mg (callI P k i) fn.ps.length)
  | 0, i, fn, t, qual, f, fd, hi, ht, F => ⟨fun vs H Q E h => h.1, fun A outer s H args us vs Q E hr he hb hv ⟨_, ι, hp, ds, hh, r, po⟩ => po.elim⟩
  | k + 1, i, fn, t, qual, f, fd, hi, ht, F => by
    obtain ⟨hm, _⟩ := T.at_ i fn t hi ht
    unfold mFn at hm
    obtain ⟨hm, m4⟩ := tt hm
    obtain ⟨hm, m3⟩ := tt hm
    obtain ⟨m1, m2⟩ := tt hm
    have S := scope_ok m3
    refine F.ok S (fun vs H Q E h => h.1) fun cdv A outer s H vs Q E hr ⟨hl, ι, hp, ds, hh, r, po⟩ =>
      ⟨rdSs K (fun σ k fs ι H => ∀ cls d, ExIs K G mg k fs ι H cls d → E cls d H) ⟨callI P k, P.cs, P.cl⟩ fn.body, sSs (G := G) (c := ⟨callI P k, P.cs, P.cl⟩) fn.body ⟨fn.N, t.scope, t.scope⟩ t.body _ _ ?_ ⟨fun cls d _ H => E cls d H, takes_of rfl rfl rfl (E₁ := fun e s2 => L2.CX prog w outer H s E e s2) rfl, fun σ k fs ι H cls d h e => h cls d e⟩ (passes_of (K := fun e s2 => L2.CX prog w outer H s E e s2) (E₁ := fun e s2 => L2.CX prog w outer H s E e s2) rfl) ⟨rfl, rfl⟩ m4, ?_⟩
    · refine ⟨rfl, S.nd, rfl, S.kind, rfl, fun x hx => ?_, ?_, T.bl, T.cs, fun j p hp' ds hp ne => ?_, fun j p hp' => ?_, T.ex, fun kx x fl hx hne => ?_⟩
      · unfold locB at hx
        split at hx
        · exact ⟨.inl (by assumption), .inl rfl⟩
        · exact ⟨.inr (by assumption), .inl rfl⟩
        · cases hx
      · have := hr.un
        show A.units + 3 + 70 < cLine
        have e : (A.deeper (envOfC qual t.scope s.heap.objs.size f cdv)).units = A.units + 3 := rfl
        omega
      · rw [T.gfn, List.getElem?_map] at hp'
        cases e : P.fns[j]? with
        | none => rw [e] at hp'; cases hp'
        | some g =>
          rw [e] at hp'
          cases hp'
          cases k with
          | zero => rfl
          | succ k =>
            show ofO P.fns[j]? _ = _
            rw [e]
            show chk (decide (ds.length = g.ps.length)) _ = _
            rw [decide_eq_false ne]
            rfl
      · rw [T.gfn, List.getElem?_map] at hp'
        cases e : P.fns[j]? with
        | none => rw [e] at hp'; cases hp'
        | some g =>
          rw [e] at hp'
          cases hp'
          have hj : j < txt.length := T.len ▸ (List.getElem?_eq_some_iff.mp e).1
          have et : txt[j]? = some txt[j] := List.getElem?_eq_getElem hj
          obtain ⟨gm, ga, gd, gq, GF, gmg⟩ := T.at_ j g txt[j] e et
          refine ⟨k + 2, ga, gd, table T k j g txt[j] gq ga gd e et GF, hr, gmg, GF.kp, ?_⟩
          unfold mFn at gm
          obtain ⟨gm, _⟩ := tt gm
          obtain ⟨gm, _⟩ := tt gm
          obtain ⟨g1, g2⟩ := tt gm
          have g2 := of_decide_eq_true g2
          show ∀ (us : List Value) (ks : List Str) (ws : List Value), _ → us.length + ks.length = g.ps.length → _ → (∀ k ∈ ks, k ∈ g.ps.drop us.length) → ∀ s : Shared, BindsTo s gd ⟨us, ks.zip ws⟩ (g.ps.zip (us ++ (g.ps.drop us.length).filterMap fun q => (ks.zip ws).lookup q))
          rw [← g2]
          exact kw_binds GF g1
      · obtain ⟨C, fI, fd, nm, qual, params, body, sc, q1, q2, q3, q4, q5, q6⟩ := T.mkx kx x fl hx hne
        obtain ⟨z1, z2⟩ := init_fn (mg := mg) (prog := prog) (w := w) (base := base) q5 q6 hne
        exact ⟨1, C, fI, fd, q1, q2, q3, q4, z1, hr.mono (by omega), z2⟩
    · have hN : fn.ps.length ≤ fn.N.length := by
        have := congrArg List.length S.pre
        rw [List.length_take] at this
        omega
      have po : PoE K (wrE K G mg E) ι H (ofO P.fns[i]? fun fn => chk (decide (ds.length = fn.ps.length)) ((execs ⟨callI P k, P.cs, P.cl⟩ fn.body (startE fn.N.length ds) hp).bind (fin hp))) Q := po
      rw [hi] at po
      obtain ⟨hlen, po⟩ := Po.chk po
      have hlen := of_decide_eq_true hlen
      refine ⟨ι, startE fn.N.length ds, hp, start_rep hlen r hN, hh, ?_⟩
      have q := po_fix po
      cases es : execs ⟨callI P k, P.cs, P.cl⟩ fn.body (startE fn.N.length ds) hp with
      | no => rw [es] at q; exact q.elim
      | exc a b d => exact absurd es (execs_nx _ _ _ _ _ _ _)
      | ok st =>
        rw [es] at q
        intro ι1 H1 s1 h1 σ1 hs1
        obtain ⟨fl, ρ1, hp1⟩ := st
        have p1 : Po (wrE K G mg E) ι H (fin hp (fl, ρ1, hp1)) (SE K Q) := q ι1 H1 s1
        cases fl with
        | rt d => exact fun v rv => tidy_ok (r := (d, hp1)) hh s1 h1 rv (p1 ι1 H1 s1) (p1 ι H1 s1.forget)
        | nx => exact tidy_ok (r := (.non, hp1)) hh s1 h1 rfl (p1 ι1 H1 s1) (p1 ι H1 s1.forget)
        | bk => exact p1.elim
        | ct => exact p1.elim
        | ex k fs =>
          intro cls d ex
          obtain ⟨x, fl, C, dd, ws, vs', e1, e2, e3, e4, e5, e6, e7, e8⟩ := ex
          exact tidy_ex hh s1 h1 e7 (fun h' r' => p1 ι1 H1 s1 h' cls d ⟨x, fl, C, dd, ws, vs', e1, e2, e3, e4, e5, e6, r', e8⟩) (fun h' r' => p1 ι H1 s1.forget h' cls d ⟨x, fl, C, dd, ws, vs', e1, e2, e3, e4, e5, e6, r', e8⟩)
end Tw
end

section
set_option Elab.async false
set_option linter.all false
set_option maxRecDepth 100000
set_option maxHeartbeats 4000000
/-! From what the top has left to a law's end. Own work. -/
namespace Tw
open PySem PySem.Spec PyProof.Rows L2 RZ
/-! ### constants of the module -/
mutual
def repB (K : Frg) : D → Value → Bool
  | .non, v => (match v with
    | .none => true
    | _ => false)
  | .bl b, v => (match v with
    | .bool c => decide (b = c)
    | _ => false)
  | .int i, v => (match v with
    | .int j _ => decide (i = j)
    | _ => false)
  | .str x, v => (match v with
    | .str y _ => decide (x = y)
    | _ => false)
  | .tup _, _ => false
  | .ctp ds, v => (match v with
    | .ref a => (match K.lookup a with
      | some ⟨.type c, _, .seq its _, _⟩ => decide (c = "tuple") && decide (its.size ≤ sizeLine) && repsB K ds its.toList
      | _ => false)
    | _ => false)
  | .seq ds, v => (match v with
    | .ref a => (match K.lookup a with
      | some ⟨.type c, none, .seq its _, _⟩ => decide (c = "list") && decide (its.size ≤ sizeLine) && repsB K ds its.toList
      | _ => false)
    | _ => false)
  | .ref _, _ => false
def repsB (K : Frg) : List D → List Value → Bool
  | [], vs => (match vs with
    | [] => true
    | _ => false)
  | d :: ds, vs => (match vs with
    | v :: vs => repB K d v && repsB K ds vs
    | _ => false)
end
mutual
theorem repB_ok {K : Frg} : ∀ (d : D) (u : Value), repB K d u = true → ∃ v, RelV v u ∧ ∀ H ι, Rep K H ι d v
  | .non, u, h => by
    simp only [repB] at h
    split at h
    · exact ⟨.non, rfl, fun _ _ => rfl⟩
    · cases h
  | .bl b, u, h => by
    simp only [repB] at h
    split at h
    · cases of_decide_eq_true h
      exact ⟨.bl b, rfl, fun _ _ => rfl⟩
    · cases h
  | .int b, u, h => by
    simp only [repB] at h
    split at h
    · cases of_decide_eq_true h
      exact ⟨.int b, ⟨_, rfl⟩, fun _ _ => rfl⟩
    · cases h
  | .str b, u, h => by
    simp only [repB] at h
    split at h
    · cases of_decide_eq_true h
      exact ⟨.str b, ⟨_, rfl⟩, fun _ _ => rfl⟩
    · cases h
  | .tup _, u, h => by simp [repB] at h
  | .ctp ds, u, h => by
    simp only [repB] at h
    split at h
    · split at h
      · rename_i q
        obtain ⟨h, h3⟩ := tt h
        obtain ⟨h1, h2⟩ := tt h
        obtain ⟨vs, r, z⟩ := repsB_ok ds _ h3
        exact ⟨.ref _, rfl, fun H ι => ⟨_, vs, rfl, .inr ⟨_, _, _, q, congrArg Value.type (of_decide_eq_true h1), rfl, of_decide_eq_true h2, r⟩, z H ι⟩⟩
      · cases h
    · cases h
  | .seq ds, u, h => by
    simp only [repB] at h
    split at h
    · split at h
      · rename_i q
        obtain ⟨h, h3⟩ := tt h
        obtain ⟨h1, h2⟩ := tt h
        obtain ⟨vs, r, z⟩ := repsB_ok ds _ h3
        exact ⟨.ref _, rfl, fun H ι => ⟨_, vs, rfl, .inr ⟨_, _, _, q, congrArg Value.type (of_decide_eq_true h1), rfl, rfl, of_decide_eq_true h2, r⟩, z H ι⟩⟩
      · cases h
    · cases h
  | .ref _, u, h => by simp [repB] at h
theorem repsB_ok {K : Frg} : ∀ (ds : List D) (us : List Value), repsB K ds us = true → ∃ vs, Vals vs us ∧ ∀ H ι, Reps K H ι ds vs
  | [], us, h => by
    simp only [repsB] at h
    split at h
    · exact ⟨[], .nil, fun _ _ => rfl⟩
    · cases h
  | d :: ds, us, h => by
    simp only [repsB] at h
    split at h
    · obtain ⟨h1, h2⟩ := tt h
      obtain ⟨v, r, z⟩ := repB_ok d _ h1
      obtain ⟨vs, rs, zs⟩ := repsB_ok ds _ h2
      exact ⟨v :: vs, .cons r rs, fun H ι => ⟨v, vs, rfl, z H ι, zs H ι⟩⟩
    · cases h
end
def cstB (K : Frg) (p : Str × D) : Bool := match PySem.W.nsIn K mainGlobals p.1 with
  | some (some v) => repB K p.2 v
  | _ => false
/-! ### classes of exceptions -/
def oexB (K : Frg) (C : Addr) : Bool := match K.lookup C with
  | some ⟨.type t, _, .cls cd, sl⟩ => (match cd.mro, sl.toList with
    | .ref C' :: bm, [_, _, _, _, some (.builtin n), _] => decide (t = "type") && decide (C' = C) && decide (n = "ValueError.__new__") && !cd.hasDel && cd.hasDict && PySem.HandSPX.refsVE bm &&
      (decide (PySem.W.findIn K (.ref C) "__setattr__" = some (some (.builtin "object.__setattr__"))) && (decide (PySem.W.subIn K (.ref C) (.type "BaseException") = some true) && (decide (PySem.W.typeIn K (.ref C) = some (.type "type")) && PySem.W.keepIn K (.ref C))))
    | _, _ => false)
  | _ => false
theorem oexB_ok {K : Frg} {C : Addr} (h : oexB K C = true) : OexC K C := by
  unfold oexB at h
  split at h
  · rename_i t dd cd sl ho
    split at h
    · rename_i C' bm k0 k1 k2 k3 n k5 hm hs
      obtain ⟨h, g⟩ := tt h
      obtain ⟨h, h6⟩ := tt h
      obtain ⟨h, h5⟩ := tt h
      obtain ⟨h, h4⟩ := tt h
      obtain ⟨h, h3⟩ := tt h
      obtain ⟨h1, h2⟩ := tt h
      have h1 := of_decide_eq_true h1
      have h2 := of_decide_eq_true h2
      have h3 := of_decide_eq_true h3
      subst h1 h2 h3
      obtain ⟨g1, g⟩ := tt g
      obtain ⟨g2, g⟩ := tt g
      obtain ⟨g3, g4⟩ := tt g
      refine ⟨?_, of_decide_eq_true g1, of_decide_eq_true g2, of_decide_eq_true g3, g4⟩
      obtain ⟨nm, bs, mro, ns, qn, hd, sn, sub, ab, col, del⟩ := cd
      dsimp only at hm h4 h5
      have h4 : del = false := by simpa using h4
      subst hm h4 h5
      obtain ⟨sl⟩ := sl
      simp only at hs
      subst hs
      exact ⟨nm, qn, ns, bs, bm, sn, sub, ab, col, dd, k0, k1, k2, k3, k5, ho, h6⟩
    · cases h
  · cases h
abbrev ClD : Type := (Str × List Str) × (List Nat × List Str)
def iniB (K : Frg) (C : Addr) : Bool := oexB K C && (decide (PySem.W.findIn K (.ref C) "__init__" = some (some (.ref (He.ma K C "__init__")))) && decide (PySem.W.typeIn K (.ref (He.ma K C "__init__")) = some (.type "function")))
def oneB (K : Frg) (p : ClD) : Bool := decide (p.1.2 = p.2.2) && (decide (PySem.W.nsIn K mainGlobals p.1.1 = some (some (.ref (He.ga K p.1.1)))) && (xfB K (He.ga K p.1.1) && ((p.1.2.all fun f => decide (PySem.W.findIn K (.ref (He.ga K p.1.1)) f = some none)) && (p.1.2.isEmpty || iniB K (He.ga K p.1.1)))))
def exmB (K : Frg) (ps : List ClD) : Bool := ps.all fun p => ps.zipIdx.all fun q => decide (PySem.W.exmOne K (.ref (He.ga K p.1.1)) (.ref (He.ga K q.1.1.1)) = some (p.2.1.contains q.2))
def clB (K : Frg) (ps : List ClD) : Bool := ps.all (oneB K) && exmB K ps
/-! ### the hook -/
abbrev AlT : Type := He.AlD × Bool × Bool
def obsT (fa : List He.Fa) (fn : List He.DefD) (ct : List (Str × D)) (ps : List ClD) (K : Frg) : AlT := (He.obsD fa fn K, ct.all (cstB K), clB K ps)
def valT (fn : List He.DefD) : AlT := (He.valD fn, true, true)
def SaysT (fa : List He.Fa) (fn : List He.DefD) (ct : List (Str × D)) (ps : List ClD) (K : Frg) : Prop := obsT fa fn ct ps K = valT fn
def obsTG (n : Nat) (fa : List He.Fa) (fn : List He.DefD) (ct : List (Str × D)) (ps : List ClD) (g : Addr → Option Obj) : AlT := obsT fa fn ct ps (He.frG g (He.asD g n))
def hookT (n : Nat) (fa : List He.Fa) (fn : List He.DefD) (ct : List (Str × D)) (ps : List ClD) : PySem.W.Hook where
  α := AlT
  obs := fun s => obsTG n fa fn ct ps s.heap.get?
  val := fun _ => valT fn
  says := fun _ h => ∃ K : Frg, K.In h ∧ SaysT fa fn ct ps K
  of := fun _ _ e => ⟨_, He.frG_in, e⟩
  keeps := fun _ _ _ ⟨K, hK, c⟩ k => ⟨K, PySem.W.Frag.In.keeps hK k, c⟩
theorem obsTG_eq {n : Nat} {fa : List He.Fa} {fn : List He.DefD} {ct : List (Str × D)} {ps : List ClD} {g : Addr → Option Obj} {s : Shared} (h : ∀ a, g a = s.heap.get? a) : obsTG n fa fn ct ps g = (hookT n fa fn ct ps).obs s := by
  have e : g = s.heap.get? := funext h
  rw [e] <;> rfl

/-- a class's __init__ in the text -/
def initIn (s : Stmt) : Txt := match s with
  | .ClassDef _ _ _ body _ _ _ _ _ _ _ => (match body.find? fun t => match t with
      | .FunctionDef x _ _ _ _ _ _ _ _ _ => decide (x = ("__init__" : Str))
      | _ => false with
    | some t => ⟨defArgs t, defBody t, defScope t⟩
    | none => ⟨defArgs (.Pass ⟨0, 0, 0, 0⟩), [], defScope (.Pass ⟨0, 0, 0, 0⟩)⟩)
  | _ => ⟨defArgs (.Pass ⟨0, 0, 0, 0⟩), [], defScope (.Pass ⟨0, 0, 0, 0⟩)⟩
def clDef (p : Str × Txt) : He.DefD := ⟨(p.1, some "__init__"), "__init__", p.1 ++ (".__init__" : Str), p.2.params, p.2.body, p.2.scope, [], []⟩
def fnD (P : Pg) (txt : List Txt) (ct : List (Str × Txt)) : List He.DefD := ((P.fns.zip txt).map fun p => ⟨(p.1.name, none), p.1.name, p.1.name, p.2.params, p.2.body, p.2.scope, [], []⟩) ++ ct.map clDef
def faD (P : Pg) (G : GI) : List He.Fa := P.fns.map (fun f => .glo f.name) ++ G.bl.map .free
def iniOk (G : GI) (ct : List (Str × Txt)) : Bool := G.cl.all fun p => p.2.isEmpty || ct.any fun q => decide (q.1 = p.1) && initB p.2 q.2.params q.2.body q.2.scope
theorem tab_of {P : Pg} {G : GI} {txt : List Txt} {ct : List (Str × Txt)} {K : Frg} {h : PySem.Heap} {mg : Str → Option Value} (X : K.In h) (N : h.Ns mainGlobals mg) (c : SaysT (faD P G) (fnD P txt ct) (G.cs.zip P.cs) (G.cl.zip P.cl) K)
    (len : txt.length = P.fns.length) (gfn : G.fns = P.fns.map fun f => (f.name, f.ps)) (hm : (P.fns.zip txt).all (fun p => mFn G p.1 p.2) = true) (hcs : G.cs.length = P.cs.length) (hcl : G.cl.length = P.cl.length) (hini : iniOk G ct = true) : TabOk P G txt K mg := by
  have c1 : He.SaysD (faD P G) (fnD P txt ct) K := congrArg (fun z : AlT => z.1) c
  have c2 : (G.cs.zip P.cs).all (cstB K) = true := congrArg (fun z : AlT => z.2.1) c
  have c3 : clB K (G.cl.zip P.cl) = true := congrArg (fun z : AlT => z.2.2) c
  obtain ⟨c4, c5⟩ := tt c3
  have zl : (P.fns.zip txt).length = P.fns.length := by rw [List.length_zip, len, Nat.min_self]
  have hz : ∀ (k : Nat) (p : Str × List Str), G.cl[k]? = some p → ∃ l, P.cl[k]? = some l ∧ (G.cl.zip P.cl)[k]? = some (p, l) := fun k p hk => by
    have hl : k < P.cl.length := hcl ▸ (List.getElem?_eq_some_iff.mp hk).1
    exact ⟨P.cl[k], List.getElem?_eq_getElem hl, List.getElem?_zip_eq_some.mpr ⟨hk, List.getElem?_eq_getElem hl⟩⟩
  have one : ∀ (k : Nat) (p : Str × List Str) (l : List Nat × List Str), (G.cl.zip P.cl)[k]? = some (p, l) → p.2 = l.2 ∧ mg p.1 = some (.ref (He.ga K p.1)) ∧ XfC K (He.ga K p.1) ∧ (∀ f ∈ p.2, PySem.W.findIn K (.ref (He.ga K p.1)) f = some none) ∧ (p.2.isEmpty || iniB K (He.ga K p.1)) = true := fun k p l hk => by
    have q := List.all_eq_true.mp c4 _ (List.mem_of_getElem? hk)
    unfold oneB at q
    obtain ⟨q1, q⟩ := tt q
    obtain ⟨q2, q⟩ := tt q
    obtain ⟨q3, q⟩ := tt q
    obtain ⟨q4, q5⟩ := tt q
    exact ⟨of_decide_eq_true q1, PySem.W.mg_of X N (of_decide_eq_true q2), xfB_ok q3, fun f hf => of_decide_eq_true (List.all_eq_true.mp q4 f hf), q5⟩
  refine ⟨len, gfn, fun i fn t hi ht => ?_, fun x hx => ?_, fun i x hx => ?_, ⟨fun k x fl hk => ?_, fun i j x y fl gl C C' hi hj e1 e2 => ?_⟩, fun k x fl hk hne => ?_⟩
  · have hz : (P.fns.zip txt)[i]? = some (fn, t) := by
      rw [List.getElem?_zip_eq_some]
      exact ⟨hi, ht⟩
    refine ⟨List.all_eq_true.mp hm _ (List.mem_of_getElem? hz), ?_⟩
    have hd : (fnD P txt ct)[i]? = some ⟨(fn.name, none), fn.name, fn.name, t.params, t.body, t.scope, [], []⟩ := by
      unfold fnD
      rw [List.getElem?_append_left (by rw [List.length_map]; exact (List.getElem?_eq_some_iff.mp hz).1), List.getElem?_map, hz]
      rfl
    obtain ⟨fd, F⟩ := He.SaysD.def_ c1 i hd
    refine ⟨_, fd, fn.name, F, ?_⟩
    have hf : (faD P G)[i]? = some (.glo fn.name) := by
      unfold faD
      rw [List.getElem?_append_left (by rw [List.length_map]; exact (List.getElem?_eq_some_iff.mp hi).1), List.getElem?_map, hi]
      rfl
    exact He.glo_ok X N (He.SaysD.fact c1 i hf)
  · obtain ⟨i, hi, e⟩ := List.getElem_of_mem hx
    have hf : (faD P G)[P.fns.length + i]? = some (.free x) := by
      unfold faD
      rw [List.getElem?_append_right (by rw [List.length_map]; omega), List.length_map, Nat.add_sub_cancel_left, List.getElem?_map, List.getElem?_eq_getElem hi, e]
      rfl
    exact He.free_ok X N (He.SaysD.fact c1 _ hf)
  · have hl : i < P.cs.length := hcs ▸ (List.getElem?_eq_some_iff.mp hx).1
    have hz : (G.cs.zip P.cs)[i]? = some (x, P.cs[i]) := by
      rw [List.getElem?_zip_eq_some]
      exact ⟨hx, List.getElem?_eq_getElem hl⟩
    have q := List.all_eq_true.mp c2 _ (List.mem_of_getElem? hz)
    unfold cstB at q
    split at q
    · rename_i v e
      obtain ⟨w, r, z⟩ := repB_ok _ _ q
      exact ⟨P.cs[i], v, w, List.getElem?_eq_getElem hl, PySem.W.mg_of X N e, r, z⟩
    · cases q
  · obtain ⟨l, h1, h2⟩ := hz k _ hk
    obtain ⟨q1, q2, q3, q4, q5⟩ := one k _ _ h2
    obtain ⟨l1, l2⟩ := l
    exact ⟨⟨l1, by rw [h1]; exact congrArg (fun z => some (l1, z)) q1.symm⟩, _, q2, q3, q4⟩
  · obtain ⟨l, h1, h2⟩ := hz i _ hi
    obtain ⟨l', h3, h4⟩ := hz j _ hj
    obtain ⟨_, q2, _⟩ := one i _ _ h2
    obtain ⟨_, q3, _⟩ := one j _ _ h4
    cases e1.symm.trans q2
    cases e2.symm.trans q3
    refine ⟨l, h1, ?_⟩
    have z := List.all_eq_true.mp (List.all_eq_true.mp c5 _ (List.mem_of_getElem? h2)) (((y, gl), l'), j) (by
      rw [List.mk_mem_zipIdx_iff_getElem?]
      exact h4)
    exact of_decide_eq_true z
  · obtain ⟨l, h1, h2⟩ := hz k _ hk
    obtain ⟨q1, q2, q3, q4, q5⟩ := one k _ _ h2
    have hem : fl.isEmpty = false := by cases fl with
      | nil => exact absurd rfl hne
      | cons _ _ => rfl
    have q5 : (fl.isEmpty || iniB K (He.ga K x)) = true := q5
    rw [hem, Bool.false_or] at q5
    obtain ⟨r1, r⟩ := tt q5
    obtain ⟨r2, r3⟩ := tt r
    have z := List.all_eq_true.mp hini _ (List.mem_of_getElem? hk)
    have z : (fl.isEmpty || ct.any fun q => decide (q.1 = x) && initB fl q.2.params q.2.body q.2.scope) = true := z
    rw [hem, Bool.false_or] at z
    obtain ⟨q, hq, z⟩ := List.any_eq_true.mp z
    obtain ⟨z1, z2⟩ := tt z
    have z1 := of_decide_eq_true z1
    obtain ⟨i, hi, e⟩ := List.getElem_of_mem hq
    have hd : (fnD P txt ct)[P.fns.length + i]? = some (clDef q) := by
      unfold fnD
      rw [List.getElem?_append_right (by rw [List.length_map, zl]; omega), List.length_map, zl, Nat.add_sub_cancel_left, List.getElem?_map, List.getElem?_eq_getElem hi, e]
      rfl
    obtain ⟨fd, F⟩ := He.SaysD.def_ c1 _ hd
    subst z1
    exact ⟨_, _, fd, _, _, _, _, _, q2, oexB_ok r1, of_decide_eq_true r2, of_decide_eq_true r3, F, z2⟩

/-- the script as data -/
theorem script_rep {K : Frg} {H : Hp} {a : Addr} {ns : List Int} (hO : Only H) (hS : SqL K H a (ns.map V.int)) : Reps K H [] [.seq (ns.map D.int)] [.ref a] := by
  refine Reps.one ⟨a, ns.map V.int, rfl, ?_, ?_⟩
  · rcases hS with (h | ⟨o, h⟩) | h
    · rcases hO a with z | ⟨o, xs, z⟩ <;> (rw [h] at z; cases z)
    · exact .inl ⟨o, h⟩
    · exact .inr h
  · clear hS
    induction ns with
    | nil => exact rfl
    | cons n ns ih => exact ⟨.int n, _, rfl, rfl, ih⟩
/-- the law's end: what the core language says of it -/
theorem law_end {P : Pg} {G : GI} {txt : List Txt} {K : Frg} {mg : Str → Option Value} {fa : Addr} {prog : Program} {w : World} {n k i : Nat} {fn : Fn} {t : Txt} {x : Str} (T : TabOk P G txt K mg) (hi : P.fns[i]? = some fn) (ht : txt[i]? = some t) (hn : mg fn.name = some (.ref fa)) (hps : fn.ps = [x])
    (law : ∀ ns : List Int, ns.length ≤ n → ∃ h, callI P k i [.seq (ns.map D.int)] [] = .ok (.bl true, h)) :
    ∃ (fd : FuncData) (sp : Sp), (∀ (s : Shared) (u : Value), BindsTo s fd ⟨[u], []⟩ [(x, u)]) ∧
        (∀ (H : Hp) (a : Addr) (ns : List Int), ns.length ≤ n → Only H → SqL K H a (ns.map V.int) → sp [.ref a] H (fun v _ => v = .bl true) fun _ _ _ => False) ∧
        ∀ base : PySem.Heap, FnOk prog w K mg base CX0 (k + 2) fa fd [x] sp := by
  obtain ⟨hm, f, fd, qual, F, hg⟩ := T.at_ i fn t hi ht
  cases hn.symm.trans hg
  refine ⟨fd, fun vs H Q _ => spT K G mg (callI P k i) 1 vs H Q fun _ _ _ => False, fun s u => ?_, fun H a ns hl hO hS => ⟨rfl, [], [], [.seq (ns.map D.int)], ⟨rfl, List.nodup_nil, fun n o a h _ => by simp at h⟩, script_rep hO hS, ?_⟩, fun base => ?_⟩
  · unfold mFn at hm
    obtain ⟨hm, _⟩ := tt hm
    obtain ⟨hm, _⟩ := tt hm
    obtain ⟨g1, g2⟩ := tt hm
    have g2 := of_decide_eq_true g2
    have b := FunD.bindsA (ps := [x]) F (fun kV doc pm an cdv ct us hus => by
      have := binds_ok g1 (x := fn.name) (qual := qual) (body := t.body) (scope := t.scope) kV doc pm an cdv ct us (by rw [g2, hps]; exact hus)
      rw [g2, hps] at this
      exact this)
    exact b s [u] rfl
  · obtain ⟨h, e⟩ := law ns hl
    rw [e]
    exact fun ι' H' s v h' r => r
  · have q := table T (prog := prog) (w := w) (base := base) k i fn t qual _ fd hi ht F
    rw [hps] at q
    refine ⟨fun vs H Q E h => q.len vs H Q _ h, fun A outer s H args us vs Q E hr he hb hv h => codeAny_mono (q.run A outer s H args us vs Q _ hr he hb hv h) fun r s2 z => ?_⟩
    cases r with
    | error e =>
      obtain ⟨_, _, _, _, _, _, _, _, _, _, _, _, z⟩ := z
      exact z.elim
    | ok fl => cases fl <;> exact z
end Tw
end

section
set_option Elab.async false
set_option linter.all false
set_option maxRecDepth 100000
set_option maxHeartbeats 4000000
namespace K86
open Tw
open PySem (Str)
def N : Nat := 48
abbrev f_power_of : Nat := 0
abbrev f_inverse_of : Nat := 1
abbrev f_root_row : Nat := 2
abbrev f_added : Nat := 3
abbrev f_lessened : Nat := 4
abbrev f_scaled : Nat := 5
abbrev f_multiplied : Nat := 6
abbrev f_shifted : Nat := 7
abbrev f_mirrored : Nat := 8
abbrev f_stretched : Nat := 9
abbrev f_kept : Nat := 10
abbrev f_sloped : Nat := 11
abbrev f_done : Nat := 12
abbrev f_is_form : Nat := 13
abbrev f_values_of : Nat := 14
abbrev f_coefficients_of : Nat := 15
abbrev f_turned_over : Nat := 16
abbrev f_in_form : Nat := 17
abbrev f_turned_row : Nat := 18
abbrev f_all_turns : Nat := 19
abbrev f_row_period : Nat := 20
abbrev f_least_turn : Nat := 21
abbrev f_are_turns : Nat := 22
abbrev f_likeness_row : Nat := 23
abbrev f_likeness_by_product : Nat := 24
abbrev f_empty_values : Nat := 25
abbrev f_step_places : Nat := 26
abbrev f_comb_row : Nat := 27
abbrev f_circle_number : Nat := 28
abbrev f_twin_places : Nat := 29
abbrev f_named_deeds : Nat := 30
abbrev f_extra_of : Nat := 31
abbrev f_coefficients_along : Nat := 32
abbrev f_answers_of : Nat := 33
abbrev f_law_cup : Nat := 34
abbrev f_law_draw : Nat := 35
abbrev f_law_equal : Nat := 36
abbrev f_law_one : Nat := 37
abbrev f_law_ground : Nat := 38
abbrev f_law_round : Nat := 39
abbrev f_law_turns : Nat := 40
abbrev f_law_period : Nat := 41
abbrev f_law_circled : Nat := 42
abbrev f_law_likeness : Nat := 43
abbrev f_law_values : Nat := 44
abbrev f_law_count : Nat := 45
abbrev f_law_sure : Nat := 46
abbrev f_law : Nat := 47
def b_power_of : CSs := (.cons (.asg (.name 3) (.bin .mod (.bi .int (.cons (.int 1) .nil)) (.var 0))) (.cons (.asg (.name 4) (.bin .mod (.bi .int (.cons (.var 1) .nil)) (.var 0))) (.cons (.asg (.name 5) (.var 2)) (.cons (.wh (.val (.cmp .gt (.var 5) (.int 0))) (.cons (.ite (.val (.cmp .eq (.bin .mod (.bi .int (.cons (.var 5) .nil)) (.int 2)) (.int 1))) (.cons (.asg (.name 3) (.bin .mod (.bi .int (.cons (.bin .mul (.var 3) (.var 4)) .nil)) (.var 0))) .nil) .nil) (.cons (.asg (.name 4) (.bin .mod (.bi .int (.cons (.bin .mul (.var 4) (.var 4)) .nil)) (.var 0))) (.cons (.asg (.name 5) (.bin .fdiv (.var 5) (.int 2))) .nil)))) (.cons (.ret (.var 3)) .nil)))))
def c_power_of : Fn := ⟨"power_of", ["p", "residue", "times"], ["p", "residue", "times", "told", "square", "left"], b_power_of⟩
def b_inverse_of : CSs := (.cons (.ite (.val (.cmp .eq (.bin .mod (.bi .int (.cons (.var 1) .nil)) (.var 0)) (.int 0))) (.cons (.raise 4 (.cons (.str "nought") .nil)) .nil) .nil) (.cons (.ret (.call f_power_of (.cons (.var 0) (.cons (.var 1) (.cons (.bin .sub (.var 0) (.int 2)) .nil))))) .nil))
def c_inverse_of : Fn := ⟨"inverse_of", ["p", "residue"], ["p", "residue"], b_inverse_of⟩
def b_root_row : CSs := (.cons (.asg (.tup (.cons (.name 2) (.cons (.name 3) (.cons (.name 4) .nil)))) (.var 0)) (.cons (.asg (.name 1) (.new (.disp (.cons (.bin .mod (.bi .int (.cons (.int 1) .nil)) (.var 2)) .nil)))) (.cons (.wh (.val (.cmp .lt (.sq .len (.val (.var 1))) (.var 3))) (.cons (.ex (.app (.var 1) (.bin .mod (.bi .int (.cons (.bin .mul (.idx (.var 1) (.neg (.int 1))) (.var 4)) .nil)) (.var 2)))) .nil)) (.cons (.ret (.sq .tuple (.val (.var 1)))) .nil))))
def c_root_row : Fn := ⟨"root_row", ["field"], ["field", "told", "p", "n", "w"], b_root_row⟩
def b_added : CSs := (.cons (.ret (.sq .tuple (.tmp (.comp (.bin .mod (.bi .int (.cons (.bin .add (.var 3) (.var 4)) .nil)) (.idx (.var 0) (.int 0))) (.tup (.cons (.name 3) (.cons (.name 4) .nil))) (.zip (.var 1) (.var 2)) .none)))) .nil)
def c_added : Fn := ⟨"added", ["field", "one", "other"], ["field", "one", "other", "first", "second"], b_added⟩
def b_lessened : CSs := (.cons (.ret (.sq .tuple (.tmp (.comp (.bin .mod (.bi .int (.cons (.bin .sub (.var 3) (.var 4)) .nil)) (.idx (.var 0) (.int 0))) (.tup (.cons (.name 3) (.cons (.name 4) .nil))) (.zip (.var 1) (.var 2)) .none)))) .nil)
def c_lessened : Fn := ⟨"lessened", ["field", "one", "other"], ["field", "one", "other", "first", "second"], b_lessened⟩
def b_scaled : CSs := (.cons (.ret (.sq .tuple (.tmp (.comp (.bin .mod (.bi .int (.cons (.bin .mul (.var 3) (.var 2)) .nil)) (.idx (.var 0) (.int 0))) (.name 3) (.val (.var 1)) .none)))) .nil)
def c_scaled : Fn := ⟨"scaled", ["field", "row", "residue"], ["field", "row", "residue", "part"], b_scaled⟩
def b_multiplied : CSs := (.cons (.asg (.tup (.cons (.name 5) (.cons (.name 6) (.cons (.name 7) .nil)))) (.var 0)) (.cons (.ite (.val (.cmp .eq (.var 1) (.str "V"))) (.cons (.ret (.sq .tuple (.tmp (.comp (.bin .mod (.bi .int (.cons (.bin .mul (.var 9) (.var 11)) .nil)) (.var 5)) (.tup (.cons (.name 9) (.cons (.name 11) .nil))) (.zip (.var 2) (.var 3)) .none)))) .nil) .nil) (.cons (.asg (.name 4) (.new (.rep (.cons (.int 0) .nil) (.var 6)))) (.cons (.loop (.tup (.cons (.name 8) (.cons (.name 9) .nil))) (.enum (.var 2)) (.cons (.loop (.tup (.cons (.name 10) (.cons (.name 11) .nil))) (.enum (.var 3)) (.cons (.asg (.name 12) (.bin .mod (.bi .int (.cons (.bin .add (.var 8) (.var 10)) .nil)) (.var 6))) (.cons (.asg (.sub (.var 4) (.var 12)) (.bin .mod (.bi .int (.cons (.bin .add (.idx (.var 4) (.var 12)) (.bin .mul (.var 9) (.var 11))) .nil)) (.var 5))) .nil))) .nil)) (.cons (.ret (.sq .tuple (.val (.var 4)))) .nil)))))
def c_multiplied : Fn := ⟨"multiplied", ["field", "form", "one", "other"], ["field", "form", "one", "other", "told", "p", "n", "_", "i", "first", "j", "second", "at"], b_multiplied⟩
def b_shifted : CSs := (.cons (.asg (.tup (.cons (.name 5) (.cons (.name 6) (.cons (.name 7) .nil)))) (.var 0)) (.cons (.ite (.val (.cmp .eq (.var 1) (.str "C"))) (.cons (.ret (.sq .tuple (.tmp (.comp (.idx (.var 2) (.bin .mod (.bi .int (.cons (.bin .sub (.var 9) (.var 3)) .nil)) (.var 6))) (.name 9) (.rng1 (.var 6)) .none)))) .nil) .nil) (.cons (.asg (.name 4) (.call f_root_row (.cons (.var 0) .nil))) (.cons (.ret (.sq .tuple (.tmp (.comp (.bin .mod (.bi .int (.cons (.bin .mul (.idx (.var 2) (.var 8)) (.idx (.var 4) (.bin .mod (.bi .int (.cons (.bin .mul (.var 8) (.var 3)) .nil)) (.var 6)))) .nil)) (.var 5)) (.name 8) (.rng1 (.var 6)) .none)))) .nil))))
def c_shifted : Fn := ⟨"shifted", ["field", "form", "row", "k"], ["field", "form", "row", "k", "roots", "p", "n", "_", "j", "at"], b_shifted⟩
def b_mirrored : CSs := (.cons (.asg (.name 2) (.idx (.var 0) (.int 1))) (.cons (.ret (.sq .tuple (.tmp (.comp (.idx (.var 1) (.bin .mod (.bi .int (.cons (.bin .sub (.int 0) (.var 3)) .nil)) (.var 2))) (.name 3) (.rng1 (.var 2)) .none)))) .nil))
def c_mirrored : Fn := ⟨"mirrored", ["field", "row"], ["field", "row", "n", "at"], b_mirrored⟩
def b_stretched : CSs := (.cons (.asg (.name 4) (.idx (.var 0) (.int 1))) (.cons (.asg (.name 5) (.new (.rep (.cons (.int 0) .nil) (.var 4)))) (.cons (.loop (.name 6) (.rng1 (.var 4)) (.cons (.ite (.val (.cmp .eq (.var 1) (.str "C"))) (.cons (.asg (.sub (.var 5) (.bin .mod (.bi .int (.cons (.bin .mul (.var 6) (.var 3)) .nil)) (.var 4))) (.idx (.var 2) (.var 6))) .nil) (.cons (.asg (.sub (.var 5) (.var 6)) (.idx (.var 2) (.bin .mod (.bi .int (.cons (.bin .mul (.var 6) (.var 3)) .nil)) (.var 4)))) .nil)) .nil)) (.cons (.ret (.sq .tuple (.val (.var 5)))) .nil))))
def c_stretched : Fn := ⟨"stretched", ["field", "form", "row", "k"], ["field", "form", "row", "k", "n", "told", "at"], b_stretched⟩
def b_kept : CSs := (.cons (.ret (.sq .tuple (.tmp (.comp (.ite (.val (.cmp .isin (.var 3) (.var 2))) (.idx (.var 1) (.var 3)) (.int 0)) (.name 3) (.rng1 (.idx (.var 0) (.int 1))) .none)))) .nil)
def c_kept : Fn := ⟨"kept", ["field", "row", "places"], ["field", "row", "places", "at"], b_kept⟩
def b_sloped : CSs := (.cons (.ret (.sq .tuple (.tmp (.comp (.bin .mod (.bi .int (.cons (.bin .mul (.var 2) (.var 3)) .nil)) (.idx (.var 0) (.int 0))) (.tup (.cons (.name 2) (.cons (.name 3) .nil))) (.enum (.var 1)) .none)))) .nil)
def c_sloped : Fn := ⟨"sloped", ["field", "row"], ["field", "row", "at", "part"], b_sloped⟩
def b_done : CSs := (.cons (.ite (.val (.cmp .eq (.var 2) (.str "add"))) (.cons (.ret (.call f_added (.cons (.var 0) (.cons (.idx (.var 3) (.int 0)) (.cons (.idx (.var 3) (.int 1)) .nil))))) .nil) .nil) (.cons (.ite (.val (.cmp .eq (.var 2) (.str "less"))) (.cons (.ret (.call f_lessened (.cons (.var 0) (.cons (.idx (.var 3) (.int 0)) (.cons (.idx (.var 3) (.int 1)) .nil))))) .nil) .nil) (.cons (.ite (.val (.cmp .eq (.var 2) (.str "times"))) (.cons (.ret (.call f_multiplied (.cons (.var 0) (.cons (.var 1) (.cons (.idx (.var 3) (.int 0)) (.cons (.idx (.var 3) (.int 1)) .nil)))))) .nil) .nil) (.cons (.ite (.val (.cmp .eq (.var 2) (.str "scale"))) (.cons (.ret (.call f_scaled (.cons (.var 0) (.cons (.idx (.var 3) (.int 0)) (.cons (.var 4) .nil))))) .nil) .nil) (.cons (.ite (.val (.cmp .eq (.var 2) (.str "shift"))) (.cons (.ret (.call f_shifted (.cons (.var 0) (.cons (.var 1) (.cons (.idx (.var 3) (.int 0)) (.cons (.var 4) .nil)))))) .nil) .nil) (.cons (.ite (.val (.cmp .eq (.var 2) (.str "mirror"))) (.cons (.ret (.call f_mirrored (.cons (.var 0) (.cons (.idx (.var 3) (.int 0)) .nil)))) .nil) .nil) (.cons (.ite (.val (.cmp .eq (.var 2) (.str "stretch"))) (.cons (.ret (.call f_stretched (.cons (.var 0) (.cons (.var 1) (.cons (.idx (.var 3) (.int 0)) (.cons (.var 4) .nil)))))) .nil) .nil) (.cons (.ite (.or (.and (.val (.cmp .eq (.var 2) (.str "keep"))) (.val (.cmp .eq (.var 1) (.str "C")))) (.and (.val (.cmp .eq (.var 2) (.str "hold"))) (.val (.cmp .eq (.var 1) (.str "V"))))) (.cons (.ret (.call f_kept (.cons (.var 0) (.cons (.idx (.var 3) (.int 0)) (.cons (.var 4) .nil))))) .nil) .nil) (.cons (.ite (.and (.val (.cmp .eq (.var 2) (.str "slope"))) (.val (.cmp .eq (.var 1) (.str "C")))) (.cons (.ret (.call f_sloped (.cons (.var 0) (.cons (.idx (.var 3) (.int 0)) .nil)))) .nil) .nil) (.cons (.raise 4 (.cons (.str "form") .nil)) .nil))))))))))
def c_done : Fn := ⟨"done", ["field", "form", "word", "rows", "extra"], ["field", "form", "word", "rows", "extra"], b_done⟩
def b_is_form : CSs := (.cons (.ret (.and (.isin (.var 0) .str) (.cmp .isin (.var 0) (.cst 0)))) .nil)
def c_is_form : Fn := ⟨"is_form", ["thing"], ["thing"], b_is_form⟩
def b_values_of : CSs := (.cons (.asg (.tup (.cons (.name 5) (.cons (.name 6) (.cons (.name 7) .nil)))) (.var 0)) (.cons (.asg (.name 2) (.call f_root_row (.cons (.var 0) .nil))) (.cons (.asg (.name 3) (.new (.disp .nil))) (.cons (.loop (.name 4) (.rng1 (.var 6)) (.cons (.ex (.app (.var 3) (.bin .mod (.bi .int (.cons (.sq .sum (.tmp (.comp (.bin .mul (.idx (.var 1) (.var 8)) (.idx (.var 2) (.bin .mod (.bi .int (.cons (.bin .mul (.var 8) (.var 4)) .nil)) (.var 6)))) (.name 8) (.rng1 (.var 6)) .none))) .nil)) (.var 5)))) .nil)) (.cons (.ret (.sq .tuple (.val (.var 3)))) .nil)))))
def c_values_of : Fn := ⟨"values_of", ["field", "row"], ["field", "row", "roots", "told", "j", "p", "n", "_", "i"], b_values_of⟩
def b_coefficients_of : CSs := (.cons (.asg (.tup (.cons (.name 6) (.cons (.name 7) (.cons (.name 8) .nil)))) (.var 0)) (.cons (.asg (.name 2) (.call f_root_row (.cons (.var 0) .nil))) (.cons (.asg (.name 3) (.call f_inverse_of (.cons (.var 6) (.cons (.var 7) .nil)))) (.cons (.asg (.name 4) (.new (.disp .nil))) (.cons (.loop (.name 5) (.rng1 (.var 7)) (.cons (.asg (.name 9) (.sq .sum (.tmp (.comp (.bin .mul (.idx (.var 1) (.var 10)) (.idx (.var 2) (.bin .mod (.bi .int (.cons (.bin .sub (.int 0) (.bin .mul (.var 5) (.var 10))) .nil)) (.var 7)))) (.name 10) (.rng1 (.var 7)) .none)))) (.cons (.ex (.app (.var 4) (.bin .mod (.bi .int (.cons (.bin .mul (.var 9) (.var 3)) .nil)) (.var 6)))) .nil))) (.cons (.ret (.sq .tuple (.val (.var 4)))) .nil))))))
def c_coefficients_of : Fn := ⟨"coefficients_of", ["field", "row"], ["field", "row", "roots", "part", "told", "i", "p", "n", "_", "total", "j"], b_coefficients_of⟩
def b_turned_over : CSs := (.cons (.ite (.not (.val (.call f_is_form (.cons (.var 2) .nil)))) (.cons (.raise 3 (.cons (.str "form") (.cons (.var 2) .nil))) .nil) .nil) (.cons (.ret (.ite (.val (.cmp .eq (.var 2) (.str "C"))) (.call f_values_of (.cons (.var 0) (.cons (.var 1) .nil))) (.call f_coefficients_of (.cons (.var 0) (.cons (.var 1) .nil))))) .nil))
def c_turned_over : Fn := ⟨"turned_over", ["field", "row", "form"], ["field", "row", "form"], b_turned_over⟩
def b_in_form : CSs := (.cons (.loop (.name 4) (.val (.tup (.cons (.var 2) (.cons (.var 3) .nil)))) (.cons (.ite (.not (.val (.call f_is_form (.cons (.var 4) .nil)))) (.cons (.raise 3 (.cons (.str "form") (.cons (.var 4) .nil))) .nil) .nil) .nil)) (.cons (.ret (.ite (.val (.cmp .eq (.var 2) (.var 3))) (.var 1) (.call f_turned_over (.cons (.var 0) (.cons (.var 1) (.cons (.var 2) .nil)))))) .nil))
def c_in_form : Fn := ⟨"in_form", ["field", "row", "form", "wanted"], ["field", "row", "form", "wanted", "one"], b_in_form⟩
def b_turned_row : CSs := (.cons (.asg (.name 2) (.sq .len (.val (.var 0)))) (.cons (.ret (.sq .tuple (.tmp (.comp (.idx (.var 0) (.bin .mod (.bi .int (.cons (.bin .add (.var 3) (.var 1)) .nil)) (.var 2))) (.name 3) (.rng1 (.var 2)) .none)))) .nil))
def c_turned_row : Fn := ⟨"turned_row", ["row", "k"], ["row", "k", "size", "at"], b_turned_row⟩
def b_all_turns : CSs := (.cons (.ret (.sq .tuple (.tmp (.srtC (.call f_turned_row (.cons (.var 0) (.cons (.var 1) .nil))) (.name 1) (.rng1 (.sq .len (.val (.var 0)))) .none)))) .nil)
def c_all_turns : Fn := ⟨"all_turns", ["row"], ["row", "k"], b_all_turns⟩
def b_row_period : CSs := (.cons (.asg (.name 1) (.int 1)) (.cons (.wh (.val (.cmp .ne (.call f_turned_row (.cons (.var 0) (.cons (.var 1) .nil))) (.var 0))) (.cons (.asg (.name 1) (.bin .add (.var 1) (.int 1))) .nil)) (.cons (.ret (.var 1)) .nil)))
def c_row_period : Fn := ⟨"row_period", ["row"], ["row", "k"], b_row_period⟩
def b_least_turn : CSs := (.cons (.ret (.idx (.call f_all_turns (.cons (.var 0) .nil)) (.int 0))) .nil)
def c_least_turn : Fn := ⟨"least_turn", ["row"], ["row"], b_least_turn⟩
def b_are_turns : CSs := (.cons (.ret (.cmp .isin (.var 0) (.call f_all_turns (.cons (.var 1) .nil)))) .nil)
def c_are_turns : Fn := ⟨"are_turns", ["one", "other"], ["one", "other"], b_are_turns⟩
def b_likeness_row : CSs := (.cons (.asg (.tup (.cons (.name 5) (.cons (.name 6) (.cons (.name 7) .nil)))) (.var 0)) (.cons (.asg (.name 3) (.new (.disp .nil))) (.cons (.loop (.name 4) (.rng1 (.var 6)) (.cons (.ex (.app (.var 3) (.bin .mod (.bi .int (.cons (.sq .sum (.tmp (.comp (.bin .mul (.idx (.var 1) (.var 8)) (.idx (.var 2) (.bin .mod (.bi .int (.cons (.bin .add (.var 8) (.var 4)) .nil)) (.var 6)))) (.name 8) (.rng1 (.var 6)) .none))) .nil)) (.var 5)))) .nil)) (.cons (.ret (.sq .tuple (.val (.var 3)))) .nil))))
def c_likeness_row : Fn := ⟨"likeness_row", ["field", "one", "other"], ["field", "one", "other", "told", "k", "p", "n", "_", "at"], b_likeness_row⟩
def b_likeness_by_product : CSs := (.cons (.ret (.call f_multiplied (.cons (.var 0) (.cons (.str "C") (.cons (.call f_mirrored (.cons (.var 0) (.cons (.var 1) .nil))) (.cons (.var 2) .nil)))))) .nil)
def c_likeness_by_product : Fn := ⟨"likeness_by_product", ["field", "one", "other"], ["field", "one", "other"], b_likeness_by_product⟩
def b_empty_values : CSs := (.cons (.ret (.sq .tuple (.tmp (.comp (.var 2) (.tup (.cons (.name 2) (.cons (.name 3) .nil))) (.enum (.call f_values_of (.cons (.var 0) (.cons (.var 1) .nil)))) (.some (.val (.cmp .eq (.var 3) (.int 0)))))))) .nil)
def c_empty_values : Fn := ⟨"empty_values", ["field", "row"], ["field", "row", "place", "value"], b_empty_values⟩
def b_step_places : CSs := (.cons (.asg (.name 2) (.idx (.var 0) (.int 1))) (.cons (.asg (.name 3) (.new (.disp (.cons (.int 0) .nil)))) (.cons (.asg (.name 4) (.bin .mod (.bi .int (.cons (.var 1) .nil)) (.var 2))) (.cons (.wh (.val (.cmp .ne (.var 4) (.int 0))) (.cons (.ex (.app (.var 3) (.var 4))) (.cons (.asg (.name 4) (.bin .mod (.bi .int (.cons (.bin .add (.var 4) (.var 1)) .nil)) (.var 2))) .nil))) (.cons (.ret (.sq .tuple (.tmp (.srtE (.var 3))))) .nil)))))
def c_step_places : Fn := ⟨"step_places", ["field", "step"], ["field", "step", "n", "told", "here"], b_step_places⟩
def b_comb_row : CSs := (.cons (.asg (.name 2) (.call f_step_places (.cons (.var 0) (.cons (.var 1) .nil)))) (.cons (.ret (.sq .tuple (.tmp (.comp (.ite (.val (.cmp .isin (.var 3) (.var 2))) (.bin .mod (.bi .int (.cons (.int 1) .nil)) (.idx (.var 0) (.int 0))) (.int 0)) (.name 3) (.rng1 (.idx (.var 0) (.int 1))) .none)))) .nil))
def c_comb_row : Fn := ⟨"comb_row", ["field", "step"], ["field", "step", "places", "at"], b_comb_row⟩
def b_circle_number : CSs := (.cons (.asg (.name 2) (.idx (.var 0) (.int 1))) (.cons (.asg (.name 3) (.int 0)) (.cons (.loop (.name 4) (.rng1 (.var 2)) (.cons (.asg (.tup (.cons (.name 7) (.cons (.name 8) .nil))) (.tup (.cons (.var 2) (.cons (.var 4) .nil)))) (.cons (.wh (.val (.cmp .gt (.var 8) (.int 0))) (.cons (.asg (.tup (.cons (.name 7) (.cons (.name 8) .nil))) (.tup (.cons (.var 8) (.cons (.bin .mod (.bi .int (.cons (.var 7) .nil)) (.var 8)) .nil)))) .nil)) (.cons (.asg (.name 5) (.int 1)) (.cons (.loop (.name 6) (.rng1 (.var 7)) (.cons (.asg (.name 5) (.bin .mul (.var 5) (.var 1))) .nil)) (.cons (.asg (.name 3) (.bin .add (.var 3) (.var 5))) .nil)))))) (.cons (.ret (.bin .fdiv (.var 3) (.var 2))) .nil))))
def c_circle_number : Fn := ⟨"circle_number", ["field", "values"], ["field", "values", "n", "total", "k", "many", "_", "one", "other"], b_circle_number⟩
def b_twin_places : CSs := (.cons (.asg (.name 2) (.new (.disp .nil))) (.cons (.loop (.name 3) (.rng1 (.idx (.var 0) (.int 1))) (.cons (.ex (.ext (.var 2) (.comp (.tup (.cons (.var 3) (.cons (.var 4) .nil))) (.name 4) (.rng2 (.bin .add (.var 3) (.int 1)) (.idx (.var 0) (.int 1))) (.some (.val (.cmp .eq (.idx (.var 1) (.var 3)) (.idx (.var 1) (.var 4)))))))) .nil)) (.cons (.ret (.sq .tuple (.val (.var 2)))) .nil)))
def c_twin_places : Fn := ⟨"twin_places", ["field", "row"], ["field", "row", "told", "one", "other"], b_twin_places⟩
def b_named_deeds : CSs := (.cons (.ite (.val (.cmp .eq (.idx (.var 0) (.int 0)) (.str "take"))) (.cons (.ret (.tup .nil)) .nil) .nil) (.cons (.ret (.ite (.val (.cmp .isin (.idx (.var 0) (.int 0)) (.cst 1))) (.slc (.var 0) (.some (.int 1)) (.some (.int 3))) (.slc (.var 0) (.some (.int 1)) (.some (.int 2))))) .nil))
def c_named_deeds : Fn := ⟨"named_deeds", ["deed"], ["deed"], b_named_deeds⟩
def b_extra_of : CSs := (.cons (.ite (.or (.val (.cmp .eq (.idx (.var 0) (.int 0)) (.str "take"))) (.or (.val (.cmp .isin (.idx (.var 0) (.int 0)) (.cst 1))) (.val (.cmp .eq (.sq .len (.val (.var 0))) (.int 2))))) (.cons (.ret .non) .nil) .nil) (.cons (.ret (.idx (.var 0) (.int 2))) .nil))
def c_extra_of : Fn := ⟨"extra_of", ["deed"], ["deed"], b_extra_of⟩
def b_coefficients_along : CSs := (.cons (.asg (.name 3) (.dcomp (.var 6) (.var 7) (.tup (.cons (.name 6) (.cons (.name 7) .nil))) (.val (.var 2)) .none)) (.cons (.asg (.name 4) (.new (.disp .nil))) (.cons (.loop (.name 5) (.val (.idx (.var 1) (.int 0))) (.cons (.ite (.val (.cmp .eq (.idx (.var 5) (.int 0)) (.str "take"))) (.cons (.ex (.app (.var 4) (.call f_in_form (.cons (.var 0) (.cons (.idx (.var 3) (.idx (.var 5) (.int 1))) (.cons (.idx (.var 5) (.int 2)) (.cons (.str "C") .nil))))))) .nil) (.cons (.ite (.val (.cmp .eq (.idx (.var 5) (.int 0)) (.str "hold"))) (.cons (.asg (.name 8) (.call f_done (.cons (.var 0) (.cons (.str "V") (.cons (.str "hold") (.cons (.new (.disp (.cons (.call f_in_form (.cons (.var 0) (.cons (.idx (.var 4) (.idx (.var 5) (.int 1))) (.cons (.str "C") (.cons (.str "V") .nil))))) .nil))) (.cons (.idx (.var 5) (.int 2)) .nil))))))) (.cons (.ex (.app (.var 4) (.call f_in_form (.cons (.var 0) (.cons (.var 8) (.cons (.str "V") (.cons (.str "C") .nil))))))) .nil)) (.cons (.ex (.app (.var 4) (.call f_done (.cons (.var 0) (.cons (.str "C") (.cons (.idx (.var 5) (.int 0)) (.cons (.new (.comp (.idx (.var 4) (.var 9)) (.name 9) (.val (.call f_named_deeds (.cons (.var 5) .nil))) .none)) (.cons (.call f_extra_of (.cons (.var 5) .nil)) .nil)))))))) .nil)) .nil)) .nil)) (.cons (.ret (.sq .tuple (.val (.var 4)))) .nil))))
def c_coefficients_along : Fn := ⟨"coefficients_along", ["field", "program", "inputs"], ["field", "program", "inputs", "rows", "told", "deed", "name", "row", "held", "one"], b_coefficients_along⟩
def b_answers_of : CSs := (.cons (.asg (.name 3) (.call f_coefficients_along (.cons (.var 0) (.cons (.var 1) (.cons (.var 2) .nil))))) (.cons (.asg (.name 4) (.new (.disp .nil))) (.cons (.loop (.tup (.cons (.name 5) (.cons (.name 6) (.cons (.name 7) .nil)))) (.val (.idx (.var 1) (.int 1))) (.cons (.ex (.app (.var 4) (.idx (.call f_in_form (.cons (.var 0) (.cons (.idx (.var 3) (.var 5)) (.cons (.str "C") (.cons (.var 6) .nil))))) (.var 7)))) .nil)) (.cons (.ret (.sq .tuple (.val (.var 4)))) .nil))))
def c_answers_of : Fn := ⟨"answers_of", ["field", "program", "inputs"], ["field", "program", "inputs", "rows", "told", "number", "form", "place"], b_answers_of⟩
def b_law_cup : CSs := (.cons (.asg (.name 1) (.dct (.cons (.str "stir") (.int 86027) (.cons (.str "laps") (.int 0) (.cons (.str "deep") (.new (.disp .nil)) .nil))))) (.cons (.loop (.name 2) (.val (.slc (.var 0) .none (.some (.int 60)))) (.cons (.asg (.name 3) (.bin .mod (.bi .abs (.cons (.bi .int (.cons (.var 2) .nil)) .nil)) (.bin .shl (.int 1) (.int 1300)))) (.cons (.asg (.sub (.var 1) (.str "stir")) (.bin .mod (.bi .int (.cons (.bin .add (.bin .add (.bin .mul (.idx (.var 1) (.str "stir")) (.int 16807)) (.bin .mod (.var 3) (.int 999931))) (.int 5)) .nil)) (.int 2147483549))) (.cons (.ite (.val (.cmp .ge (.var 3) (.bin .pow (.int 10) (.int 18)))) (.cons (.ex (.app (.idx (.var 1) (.str "deep")) (.var 3))) .nil) .nil) .nil)))) (.cons (.ret (.var 1)) .nil)))
def c_law_cup : Fn := ⟨"_law_cup", ["script"], ["script", "cup", "cell", "size"], b_law_cup⟩
def b_law_draw : CSs := (.cons (.ite (.val (.cmp .lt (.var 1) (.int 2))) (.cons (.ret (.int 0)) .nil) .nil) (.cons (.asg (.sub (.var 0) (.str "laps")) (.bin .add (.idx (.var 0) (.str "laps")) (.int 1))) (.cons (.ite (.val (.cmp .gt (.sq .len (.val (.idx (.var 0) (.str "deep")))) (.int 0))) (.cons (.asg (.name 2) (.pop (.idx (.var 0) (.str "deep")))) (.cons (.ite (.val (.cmp .ge (.var 2) (.var 1))) (.cons (.ex (.app (.idx (.var 0) (.str "deep")) (.bin .fdiv (.var 2) (.var 1)))) .nil) .nil) (.cons (.ret (.bin .mod (.bi .int (.cons (.var 2) .nil)) (.var 1))) .nil))) .nil) (.cons (.asg (.sub (.var 0) (.str "stir")) (.bin .mod (.bi .int (.cons (.bin .add (.bin .add (.bin .mul (.idx (.var 0) (.str "stir")) (.int 62089)) (.bin .mul (.int 17) (.idx (.var 0) (.str "laps")))) (.int 1)) .nil)) (.int 2147483549))) (.cons (.ret (.bin .mod (.bi .int (.cons (.bin .fdiv (.idx (.var 0) (.str "stir")) (.int 37)) .nil)) (.var 1))) .nil)))))
def c_law_draw : Fn := ⟨"_law_draw", ["cup", "many"], ["cup", "many", "size"], b_law_draw⟩
def b_law_equal : CSs := (.cons (.ite (.val (.isin (.var 1) .tuple)) (.cons (.ite (.or (.not (.val (.isin (.var 0) .tuple))) (.val (.cmp .ne (.sq .len (.val (.var 0))) (.sq .len (.val (.var 1)))))) (.cons (.ret (.bl false)) .nil) .nil) (.cons (.loop (.name 2) (.rng1 (.sq .len (.val (.var 1)))) (.cons (.ite (.val (.cmp .ne (.isin (.idx (.var 1) (.var 2)) .tuple) (.isin (.idx (.var 0) (.var 2)) .tuple))) (.cons (.ret (.bl false)) .nil) .nil) (.cons (.ite (.val (.isin (.idx (.var 1) (.var 2)) .tuple)) (.cons (.ite (.val (.cmp .ne (.sq .len (.val (.idx (.var 0) (.var 2)))) (.sq .len (.val (.idx (.var 1) (.var 2)))))) (.cons (.ret (.bl false)) .nil) .nil) (.cons (.loop (.name 3) (.rng1 (.sq .len (.val (.idx (.var 1) (.var 2))))) (.cons (.ite (.val (.isin (.idx (.idx (.var 1) (.var 2)) (.var 3)) .tuple)) (.cons (.ite (.or (.not (.val (.isin (.idx (.idx (.var 0) (.var 2)) (.var 3)) .tuple))) (.or (.val (.cmp .ne (.idx (.idx (.var 0) (.var 2)) (.var 3)) (.idx (.idx (.var 1) (.var 2)) (.var 3)))) (.val (.cmp .gt (.sq .len (.tmp (.comp (.var 4) (.name 4) (.val (.idx (.idx (.var 0) (.var 2)) (.var 3))) (.some (.val (.isin (.var 4) .bool)))))) (.int 0))))) (.cons (.ret (.bl false)) .nil) .nil) .nil) (.cons (.ite (.not (.val (.call f_law_one (.cons (.idx (.idx (.var 0) (.var 2)) (.var 3)) (.cons (.idx (.idx (.var 1) (.var 2)) (.var 3)) .nil))))) (.cons (.ret (.bl false)) .nil) .nil) .nil)) .nil)) .nil)) (.cons (.ite (.not (.val (.call f_law_one (.cons (.idx (.var 0) (.var 2)) (.cons (.idx (.var 1) (.var 2)) .nil))))) (.cons (.ret (.bl false)) .nil) .nil) .nil)) .nil))) (.cons (.ret (.bl true)) .nil))) .nil) (.cons (.ret (.call f_law_one (.cons (.var 0) (.cons (.var 1) .nil)))) .nil))
def c_law_equal : Fn := ⟨"_law_equal", ["told", "due"], ["told", "due", "k", "j", "one"], b_law_equal⟩
def b_law_one : CSs := (.cons (.ret (.and (.isin (.var 0) .int) (.and (.cmp .eq (.isin (.var 0) .bool) (.isin (.var 1) .bool)) (.cmp .eq (.var 0) (.var 1))))) .nil)
def c_law_one : Fn := ⟨"_law_one", ["told", "due"], ["told", "due"], b_law_one⟩
def b_law_ground : CSs := (.cons (.asg (.tup (.cons (.name 4) (.cons (.name 5) .nil))) (.ite (.val (.var 1)) (.tup (.cons (.int 13) (.cons (.int 12) .nil))) (.idx (.tup (.cons (.tup (.cons (.int 2) (.cons (.int 1) .nil))) (.cons (.tup (.cons (.int 3) (.cons (.int 2) .nil))) (.cons (.tup (.cons (.int 5) (.cons (.int 4) .nil))) (.cons (.tup (.cons (.int 7) (.cons (.int 6) .nil))) (.cons (.tup (.cons (.int 7) (.cons (.int 3) .nil))) (.cons (.tup (.cons (.int 5) (.cons (.int 2) .nil))) (.cons (.tup (.cons (.int 13) (.cons (.int 6) .nil))) (.cons (.tup (.cons (.int 11) (.cons (.int 5) .nil))) (.cons (.tup (.cons (.int 17) (.cons (.int 4) .nil))) (.cons (.tup (.cons (.int 3) (.cons (.int 1) .nil))) .nil))))))))))) (.call f_law_draw (.cons (.var 0) (.cons (.int 10) .nil)))))) (.cons (.asg (.name 2) (.new (.disp .nil))) (.cons (.loop (.name 3) (.rng2 (.int 1) (.var 4)) (.cons (.asg (.tup (.cons (.name 6) (.cons (.name 7) .nil))) (.tup (.cons (.int 1) (.cons (.int 0) .nil)))) (.cons (.wh (.val (.cmp .lt (.var 7) (.var 5))) (.cons (.asg (.name 6) (.bin .mod (.bi .int (.cons (.bin .mul (.var 6) (.var 3)) .nil)) (.var 4))) (.cons (.asg (.name 7) (.bin .add (.var 7) (.int 1))) (.cons (.ite (.val (.cmp .eq (.var 6) (.int 1))) (.cons .brk .nil) .nil) .nil)))) (.cons (.ite (.and (.val (.cmp .eq (.var 6) (.int 1))) (.val (.cmp .eq (.var 7) (.var 5)))) (.cons (.ex (.app (.var 2) (.var 3))) .nil) .nil) .nil)))) (.cons (.ret (.tup (.cons (.var 4) (.cons (.var 5) (.cons (.idx (.var 2) (.call f_law_draw (.cons (.var 0) (.cons (.sq .len (.val (.var 2))) .nil)))) .nil))))) .nil))))
def c_law_ground : Fn := ⟨"_law_ground", ["cup", "wide"], ["cup", "wide", "roots", "w", "p", "n", "power", "laps"], b_law_ground⟩
def b_law_round : CSs := (.cons (.ret (.sq .tuple (.tmp (.comp (.idx (.var 0) (.bin .mod (.bi .int (.cons (.bin .add (.var 2) (.var 1)) .nil)) (.sq .len (.val (.var 0))))) (.name 2) (.rng1 (.sq .len (.val (.var 0)))) .none)))) .nil)
def c_law_round : Fn := ⟨"_law_round", ["row", "k"], ["row", "k", "i"], b_law_round⟩
def b_law_turns : CSs := (.cons (.ret (.sq .tuple (.tmp (.srtS (.comp (.call f_law_round (.cons (.var 0) (.cons (.var 1) .nil))) (.name 1) (.rng1 (.sq .len (.val (.var 0)))) .none))))) .nil)
def c_law_turns : Fn := ⟨"_law_turns", ["row"], ["row", "k"], b_law_turns⟩
def b_law_period : CSs := (.cons (.loop (.name 1) (.rng2 (.int 1) (.bin .add (.sq .len (.val (.var 0))) (.int 1))) (.cons (.ite (.val (.cmp .eq (.call f_law_round (.cons (.var 0) (.cons (.var 1) .nil))) (.var 0))) (.cons (.ret (.var 1)) .nil) .nil) .nil)) (.cons (.ret (.sq .len (.val (.var 0)))) .nil))
def c_law_period : Fn := ⟨"_law_period", ["row"], ["row", "k"], b_law_period⟩
def b_law_circled : CSs := (.cons (.asg (.name 2) (.call f_law_draw (.cons (.var 0) (.cons (.sq .len (.val (.var 1))) .nil)))) (.cons (.asg (.name 3) (.bin .add (.var 2) (.bin .mul (.sq .len (.val (.var 1))) (.call f_law_draw (.cons (.var 0) (.cons (.int 3) .nil)))))) (.cons (.asg (.name 4) (.call f_law_round (.cons (.var 1) (.cons (.var 2) .nil)))) (.cons (.ite (.val (.cmp .eq (.call f_law_draw (.cons (.var 0) (.cons (.int 2) .nil))) (.int 0))) (.cons (.asg (.name 9) (.call f_law_draw (.cons (.var 0) (.cons (.sq .len (.val (.var 1))) .nil)))) (.cons (.asg (.name 4) (.bin .add (.bin .add (.slc (.var 4) .none (.some (.var 9))) (.tup (.cons (.idx (.var 1) (.int 0)) .nil))) (.slc (.var 4) (.some (.bin .add (.var 9) (.int 1))) .none))) .nil)) .nil) (.cons (.asg (.name 5) (.tup (.cons (.call f_turned_row (.cons (.var 1) (.cons (.var 3) .nil))) (.cons (.call f_all_turns (.cons (.var 1) .nil)) (.cons (.call f_row_period (.cons (.var 1) .nil)) (.cons (.call f_least_turn (.cons (.var 1) .nil)) (.cons (.call f_are_turns (.cons (.var 1) (.cons (.var 4) .nil))) (.cons (.callK f_are_turns [1, 0] .nil (.cons (.call f_law_round (.cons (.var 1) (.cons (.var 2) .nil))) (.cons (.var 1) .nil))) .nil)))))))) (.cons (.asg (.name 6) (.tup (.cons (.call f_law_round (.cons (.var 1) (.cons (.var 2) .nil))) (.cons (.call f_law_turns (.cons (.var 1) .nil)) (.cons (.call f_law_period (.cons (.var 1) .nil)) (.cons (.sqE .min (.call f_law_turns (.cons (.var 1) .nil))) (.cons (.cmp .isin (.var 4) (.call f_law_turns (.cons (.var 1) .nil))) (.cons (.bl true) .nil)))))))) (.cons (.ite (.not (.val (.call f_law_equal (.cons (.var 5) (.cons (.var 6) .nil))))) (.cons (.ret (.bl false)) .nil) .nil) (.cons (.asg (.name 7) (.new (.disp .nil))) (.cons (.loop (.name 8) (.rng1 (.sq .len (.val (.var 1)))) (.cons (.ex (.ext (.var 7) (.comp (.tup (.cons (.var 8) (.cons (.var 12) .nil))) (.name 12) (.rng2 (.bin .add (.var 8) (.int 1)) (.sq .len (.val (.var 1)))) (.some (.val (.cmp .eq (.idx (.var 1) (.var 8)) (.idx (.var 1) (.var 12)))))))) .nil)) (.cons (.asg (.tup (.cons (.name 10) (.cons (.name 11) .nil))) (.idx (.tup (.cons (.tup (.cons (.int 17) (.cons (.int 1) .nil))) (.cons (.tup (.cons (.int 17) (.cons (.int 16) .nil))) (.cons (.tup (.cons (.int 19) (.cons (.int 7) .nil))) (.cons (.tup (.cons (.int 17) (.cons (.int 4) .nil))) (.cons (.tup (.cons (.int 31) (.cons (.int 2) .nil))) (.cons (.tup (.cons (.int 19) (.cons (.int 8) .nil))) (.cons (.tup (.cons (.int 29) (.cons (.int 7) .nil))) (.cons (.tup (.cons (.int 17) (.cons (.int 2) .nil))) .nil))))))))) (.bin .sub (.sq .len (.val (.var 1))) (.int 1)))) (.cons (.ret (.call f_law_equal (.cons (.call f_twin_places (.cons (.tup (.cons (.var 10) (.cons (.sq .len (.val (.var 1))) (.cons (.var 11) .nil)))) (.cons (.var 1) .nil))) (.cons (.sq .tuple (.val (.var 7))) .nil)))) .nil)))))))))))
def c_law_circled : Fn := ⟨"_law_circled", ["cup", "row"], ["cup", "row", "k", "far", "other", "told", "due", "pairs", "i", "at", "p", "w", "j"], b_law_circled⟩
def b_law_likeness : CSs := (.cons (.asg (.tup (.cons (.name 10) (.cons (.name 11) (.cons (.name 12) .nil)))) (.var 1)) (.cons (.asg (.name 2) (.sq .tuple (.tmp (.comp (.idx (.tup (.cons (.int 0) (.cons (.int 1) (.cons (.call f_law_draw (.cons (.var 0) (.cons (.var 10) .nil))) .nil)))) (.call f_law_draw (.cons (.var 0) (.cons (.int 3) .nil)))) (.name 14) (.rng1 (.var 11)) .none)))) (.cons (.asg (.name 3) (.sq .tuple (.tmp (.comp (.idx (.tup (.cons (.int 0) (.cons (.int 1) (.cons (.call f_law_draw (.cons (.var 0) (.cons (.var 10) .nil))) .nil)))) (.call f_law_draw (.cons (.var 0) (.cons (.int 3) .nil)))) (.name 14) (.rng1 (.var 11)) .none)))) (.cons (.asg (.name 4) (.sq .tuple (.tmp (.comp (.bin .mod (.bi .int (.cons (.sq .sum (.tmp (.comp (.bin .mul (.idx (.var 2) (.var 14)) (.idx (.var 3) (.bin .mod (.bi .int (.cons (.bin .add (.var 14) (.var 9)) .nil)) (.var 11)))) (.name 14) (.rng1 (.var 11)) .none))) .nil)) (.var 10)) (.name 9) (.rng1 (.var 11)) .none)))) (.cons (.asg (.name 5) (.new (.comp (.call f_law_draw (.cons (.var 0) (.cons (.var 11) .nil))) (.name 13) (.rng1 (.bi .min2 (.cons (.var 11) (.cons (.int 4) .nil)))) .none))) (.cons (.asg (.name 6) (.tup (.cons (.tup (.cons (.tup (.cons (.str "take") (.cons (.str "a") (.cons (.str "C") .nil)))) (.cons (.tup (.cons (.str "take") (.cons (.str "b") (.cons (.str "C") .nil)))) (.cons (.tup (.cons (.str "mirror") (.cons (.int 0) .nil))) (.cons (.tup (.cons (.str "times") (.cons (.int 2) (.cons (.int 1) .nil)))) .nil))))) (.cons (.sq .tuple (.tmp (.comp (.tup (.cons (.int 3) (.cons (.str "C") (.cons (.var 9) .nil)))) (.name 9) (.val (.var 5)) .none))) .nil)))) (.cons (.asg (.name 7) (.tup (.cons (.call f_likeness_row (.cons (.var 1) (.cons (.var 2) (.cons (.var 3) .nil)))) (.cons (.call f_likeness_by_product (.cons (.var 1) (.cons (.var 2) (.cons (.var 3) .nil)))) (.cons (.call f_answers_of (.cons (.var 1) (.cons (.var 6) (.cons (.tup (.cons (.tup (.cons (.str "a") (.cons (.var 2) .nil))) (.cons (.tup (.cons (.str "b") (.cons (.var 3) .nil))) .nil))) .nil)))) .nil))))) (.cons (.ite (.not (.val (.call f_law_equal (.cons (.var 7) (.cons (.tup (.cons (.var 4) (.cons (.var 4) (.cons (.sq .tuple (.tmp (.comp (.idx (.var 4) (.var 9)) (.name 9) (.val (.var 5)) .none))) .nil)))) .nil))))) (.cons (.ret (.bl false)) .nil) .nil) (.cons (.asg (.name 8) (.bin .add (.tup (.cons (.idx (.var 2) (.int 0)) .nil)) (.back (.var 2) true))) (.cons (.asg (.name 9) (.call f_law_draw (.cons (.var 0) (.cons (.var 11) .nil)))) (.cons (.asg (.name 7) (.tup (.cons (.call f_multiplied (.cons (.var 1) (.cons (.str "C") (.cons (.var 8) (.cons (.var 3) .nil))))) (.cons (.call f_shifted (.cons (.var 1) (.cons (.str "C") (.cons (.var 2) (.cons (.var 9) .nil))))) (.cons (.call f_shifted (.cons (.var 1) (.cons (.str "C") (.cons (.var 2) (.cons (.int 0) .nil))))) (.cons (.call f_turned_row (.cons (.var 2) (.cons (.int 0) .nil))) .nil)))))) (.cons (.ret (.call f_law_equal (.cons (.var 7) (.cons (.tup (.cons (.var 4) (.cons (.call f_law_round (.cons (.var 2) (.cons (.bin .sub (.var 11) (.var 9)) .nil))) (.cons (.var 2) (.cons (.var 2) .nil))))) .nil)))) .nil))))))))))))
def c_law_likeness : Fn := ⟨"_law_likeness", ["cup", "field"], ["cup", "field", "one", "other", "due", "some", "program", "told", "mirrored_v", "k", "p", "n", "w", "lap", "i"], b_law_likeness⟩
def b_law_values : CSs := (.cons (.asg (.tup (.cons (.name 8) (.cons (.name 9) (.cons (.name 10) .nil)))) (.var 1)) (.cons (.asg (.name 2) (.new (.disp (.cons (.int 1) .nil)))) (.cons (.loop (.name 3) (.rng2 (.int 1) (.var 9)) (.cons (.ex (.app (.var 2) (.bin .mod (.bi .int (.cons (.bin .mul (.idx (.var 2) (.bin .sub (.var 3) (.int 1))) (.var 10)) .nil)) (.var 8)))) .nil)) (.cons (.asg (.name 4) (.sq .tuple (.tmp (.comp (.idx (.tup (.cons (.int 0) (.cons (.int 1) (.cons (.bin .sub (.var 8) (.int 1)) (.cons (.call f_law_draw (.cons (.var 0) (.cons (.var 8) .nil))) .nil))))) (.call f_law_draw (.cons (.var 0) (.cons (.int 4) .nil)))) (.name 14) (.rng1 (.var 9)) .none)))) (.cons (.asg (.name 5) (.idx (.tup (.cons (.int 0) (.cons (.int 1) (.cons (.var 9) (.cons (.call f_law_draw (.cons (.var 0) (.cons (.bin .add (.var 9) (.int 1)) .nil))) (.cons (.bin .add (.bin .mul (.int 3) (.var 9)) (.int 2)) .nil)))))) (.call f_law_draw (.cons (.var 0) (.cons (.int 5) .nil))))) (.cons (.asg (.tup (.cons (.name 11) (.cons (.name 12) .nil))) (.tup (.cons (.new (.disp (.cons (.int 0) .nil))) (.cons (.bin .mod (.bi .int (.cons (.var 5) .nil)) (.var 9)) .nil)))) (.cons (.wh (.val (.cmp .ne (.var 12) (.int 0))) (.cons (.ex (.app (.var 11) (.var 12))) (.cons (.asg (.name 12) (.bin .mod (.bi .int (.cons (.bin .add (.var 12) (.var 5)) .nil)) (.var 9))) .nil))) (.cons (.asg (.name 6) (.sq .tuple (.tmp (.comp (.bi .int (.cons (.cmp .isin (.var 14) (.var 11)) .nil)) (.name 14) (.rng1 (.var 9)) .none)))) (.cons (.loop (.name 7) (.val (.tup (.cons (.var 4) (.cons (.var 6) .nil)))) (.cons (.asg (.name 13) (.sq .tuple (.tmp (.comp (.bin .mod (.bi .int (.cons (.sq .sum (.tmp (.comp (.bin .mul (.idx (.var 7) (.var 14)) (.idx (.var 2) (.bin .mod (.bi .int (.cons (.bin .mul (.var 14) (.var 15)) .nil)) (.var 9)))) (.name 14) (.rng1 (.var 9)) .none))) .nil)) (.var 8)) (.name 15) (.rng1 (.var 9)) .none)))) (.cons (.ite (.not (.val (.call f_law_equal (.cons (.tup (.cons (.call f_empty_values (.cons (.var 1) (.cons (.var 7) .nil))) (.cons (.call f_values_of (.cons (.var 1) (.cons (.var 7) .nil))) .nil))) (.cons (.tup (.cons (.sq .tuple (.tmp (.comp (.var 15) (.name 15) (.rng1 (.var 9)) (.some (.val (.cmp .eq (.idx (.var 13) (.var 15)) (.int 0))))))) (.cons (.var 13) .nil))) .nil))))) (.cons (.ret (.bl false)) .nil) .nil) .nil))) (.cons (.ret (.call f_law_equal (.cons (.tup (.cons (.call f_step_places (.cons (.var 1) (.cons (.var 5) .nil))) (.cons (.call f_comb_row (.cons (.var 1) (.cons (.var 5) .nil))) .nil))) (.cons (.tup (.cons (.sq .tuple (.tmp (.srtE (.var 11)))) (.cons (.var 6) .nil))) .nil)))) .nil))))))))))
def c_law_values : Fn := ⟨"_law_values", ["cup", "field"], ["cup", "field", "steps", "k", "row", "step", "comb", "one", "p", "n", "w", "reached", "here", "values", "i", "j"], b_law_values⟩
def b_law_count : CSs := (.cons (.asg (.tup (.cons (.name 5) (.cons (.name 6) (.cons (.name 7) .nil)))) (.idx (.tup (.cons (.tup (.cons (.int 2) (.cons (.int 1) (.cons (.int 1) .nil)))) (.cons (.tup (.cons (.int 3) (.cons (.int 2) (.cons (.int 2) .nil)))) (.cons (.tup (.cons (.int 5) (.cons (.int 4) (.cons (.int 2) .nil)))) (.cons (.tup (.cons (.int 7) (.cons (.int 3) (.cons (.int 2) .nil)))) (.cons (.tup (.cons (.int 7) (.cons (.int 6) (.cons (.int 3) .nil)))) (.cons (.tup (.cons (.int 5) (.cons (.int 2) (.cons (.int 4) .nil)))) (.cons (.tup (.cons (.int 11) (.cons (.int 5) (.cons (.int 3) .nil)))) .nil)))))))) (.call f_law_draw (.cons (.var 0) (.cons (.int 7) .nil))))) (.cons (.asg (.name 1) (.bin .add (.int 1) (.call f_law_draw (.cons (.var 0) (.cons (.bi .min2 (.cons (.var 5) (.cons (.ite (.val (.cmp .lt (.var 6) (.int 4))) (.int 7) (.ite (.val (.cmp .eq (.var 6) (.int 4))) (.int 4) (.ite (.val (.cmp .eq (.var 6) (.int 5))) (.int 3) (.int 2)))) .nil))) .nil))))) (.cons (.asg (.name 2) (.new (.disp (.cons (.tup .nil) .nil)))) (.cons (.loop (.name 3) (.rng1 (.var 6)) (.cons (.asg (.name 8) (.new (.disp .nil))) (.cons (.loop (.name 9) (.val (.var 2)) (.cons (.ex (.ext (.var 8) (.comp (.bin .add (.var 9) (.tup (.cons (.var 10) .nil))) (.name 10) (.rng1 (.var 1)) .none))) .nil)) (.cons (.asg (.name 2) (.var 8)) .nil)))) (.cons (.asg (.name 4) (.new (.comp (.var 9) (.name 9) (.val (.var 2)) (.some (.val (.cmp .eq (.var 9) (.sqL .min (.comp (.call f_law_round (.cons (.var 9) (.cons (.var 11) .nil))) (.name 11) (.rng1 (.var 6)) .none)))))))) (.cons (.ret (.call f_law_equal (.cons (.call f_circle_number (.cons (.tup (.cons (.var 5) (.cons (.var 6) (.cons (.var 7) .nil)))) (.cons (.var 1) .nil))) (.cons (.sq .len (.val (.var 4))) .nil)))) .nil))))))
def c_law_count : Fn := ⟨"_law_count", ["cup"], ["cup", "values", "rows", "i", "lone", "p", "n", "w", "longer", "row", "one", "k"], b_law_count⟩
def b_law_sure : CSs := (.cons (.asg (.name 0) (.tup (.cons (.int 5) (.cons (.int 4) (.cons (.int 2) .nil))))) (.cons (.asg (.name 1) (.tup (.cons (.call f_turned_row (.cons (.tup (.cons (.int 1) (.cons (.int 2) (.cons (.int 3) (.cons (.int 4) .nil))))) (.cons (.int 1) .nil))) (.cons (.call f_all_turns (.cons (.tup (.cons (.int 1) (.cons (.int 0) (.cons (.int 1) (.cons (.int 0) .nil))))) .nil)) (.cons (.call f_row_period (.cons (.tup (.cons (.int 1) (.cons (.int 0) (.cons (.int 1) (.cons (.int 0) .nil))))) .nil)) (.cons (.call f_likeness_row (.cons (.var 0) (.cons (.tup (.cons (.int 1) (.cons (.int 2) (.cons (.int 0) (.cons (.int 0) .nil))))) (.cons (.tup (.cons (.int 3) (.cons (.int 0) (.cons (.int 0) (.cons (.int 1) .nil))))) .nil)))) (.cons (.call f_step_places (.cons (.var 0) (.cons (.int 2) .nil))) .nil))))))) (.cons (.ite (.not (.val (.call f_law_equal (.cons (.var 1) (.cons (.tup (.cons (.tup (.cons (.int 2) (.cons (.int 3) (.cons (.int 4) (.cons (.int 1) .nil))))) (.cons (.tup (.cons (.tup (.cons (.int 0) (.cons (.int 1) (.cons (.int 0) (.cons (.int 1) .nil))))) (.cons (.tup (.cons (.int 1) (.cons (.int 0) (.cons (.int 1) (.cons (.int 0) .nil))))) .nil))) (.cons (.int 2) (.cons (.tup (.cons (.int 3) (.cons (.int 0) (.cons (.int 2) (.cons (.int 2) .nil))))) (.cons (.tup (.cons (.int 0) (.cons (.int 2) .nil))) .nil)))))) .nil))))) (.cons (.ret (.bl false)) .nil) .nil) (.cons (.asg (.name 1) (.tup (.cons (.callK f_comb_row [1, 0] .nil (.cons (.int 3) (.cons (.var 0) .nil))) (.cons (.callK f_circle_number [1, 0] .nil (.cons (.int 2) (.cons (.var 0) .nil))) (.cons (.call f_twin_places (.cons (.var 0) (.cons (.tup (.cons (.int 1) (.cons (.int 0) (.cons (.int 1) (.cons (.int 2) .nil))))) .nil))) (.cons (.call f_row_period (.cons (.tup (.cons (.int 3) .nil)) .nil)) (.cons (.callK f_least_turn [0] .nil (.cons (.tup (.cons (.int 2) (.cons (.int 1) (.cons (.int 0) .nil)))) .nil)) (.cons (.call f_are_turns (.cons (.tup (.cons (.int 1) (.cons (.int 2) (.cons (.int 0) .nil)))) (.cons (.tup (.cons (.int 2) (.cons (.int 1) (.cons (.int 0) .nil)))) .nil))) .nil)))))))) (.cons (.ret (.and (.call f_law_equal (.cons (.var 1) (.cons (.tup (.cons (.tup (.cons (.int 1) (.cons (.int 1) (.cons (.int 1) (.cons (.int 1) .nil))))) (.cons (.int 6) (.cons (.tup (.cons (.tup (.cons (.int 0) (.cons (.int 2) .nil))) .nil)) (.cons (.int 1) (.cons (.tup (.cons (.int 0) (.cons (.int 2) (.cons (.int 1) .nil)))) (.cons (.bl false) .nil))))))) .nil))) (.call f_law_equal (.cons (.call f_circle_number (.cons (.tup (.cons (.int 13) (.cons (.int 12) (.cons (.int 2) .nil)))) (.cons (.int 2) .nil))) (.cons (.int 352) .nil))))) .nil)))))
def c_law_sure : Fn := ⟨"_law_sure", [], ["field", "told"], b_law_sure⟩
def b_law : CSs := (.cons (.asg (.name 1) (.call f_law_cup (.cons (.var 0) .nil))) (.cons (.loop (.name 2) (.rng1 (.int 2)) (.cons (.asg (.tup (.cons (.name 5) (.cons (.name 6) .nil))) (.tup (.cons (.bin .add (.int 1) (.call f_law_draw (.cons (.var 1) (.cons (.int 8) .nil)))) (.cons (.idx (.tup (.cons (.int 2) (.cons (.int 3) (.cons (.int 17) .nil)))) (.call f_law_draw (.cons (.var 1) (.cons (.int 3) .nil)))) .nil)))) (.cons (.ite (.not (.val (.call f_law_circled (.cons (.var 1) (.cons (.sq .tuple (.tmp (.comp (.call f_law_draw (.cons (.var 1) (.cons (.var 6) .nil))) (.name 7) (.rng1 (.var 5)) .none))) .nil))))) (.cons (.ret (.bl false)) .nil) .nil) (.cons (.asg (.name 4) (.call f_law_ground (.cons (.var 1) (.cons (.bl false) .nil)))) (.cons (.ite (.or (.not (.val (.call f_law_likeness (.cons (.var 1) (.cons (.var 4) .nil))))) (.not (.val (.call f_law_values (.cons (.var 1) (.cons (.var 4) .nil)))))) (.cons (.ret (.bl false)) .nil) .nil) .nil))))) (.cons (.asg (.name 3) (.sq .tuple (.tmp (.comp (.call f_law_draw (.cons (.var 1) (.cons (.int 3) .nil))) (.name 7) (.rng1 (.bin .add (.int 1) (.call f_law_draw (.cons (.var 1) (.cons (.int 4) .nil))))) .none)))) (.cons (.ite (.or (.not (.val (.call f_law_circled (.cons (.var 1) (.cons (.bin .add (.var 3) (.var 3)) .nil))))) (.or (.not (.val (.call f_law_count (.cons (.var 1) .nil)))) (.not (.val (.call f_law_sure .nil))))) (.cons (.ret (.bl false)) .nil) .nil) (.cons (.ite (.val (.cmp .ne (.call f_law_draw (.cons (.var 1) (.cons (.int 13) .nil))) (.int 6))) (.cons (.ret (.bl true)) .nil) .nil) (.cons (.asg (.name 4) (.call f_law_ground (.cons (.var 1) (.cons (.bl true) .nil)))) (.cons (.ret (.and (.call f_law_likeness (.cons (.var 1) (.cons (.var 4) .nil))) (.call f_law_values (.cons (.var 1) (.cons (.var 4) .nil))))) .nil)))))))
def c_law : Fn := ⟨"law", ["script"], ["script", "cup", "lap", "half", "field", "size", "kinds", "i"], b_law⟩
def pg : Pg := ⟨[c_power_of, c_inverse_of, c_root_row, c_added, c_lessened, c_scaled, c_multiplied, c_shifted, c_mirrored, c_stretched, c_kept, c_sloped, c_done, c_is_form, c_values_of, c_coefficients_of, c_turned_over, c_in_form, c_turned_row, c_all_turns, c_row_period, c_least_turn, c_are_turns, c_likeness_row, c_likeness_by_product, c_empty_values, c_step_places, c_comb_row, c_circle_number, c_twin_places, c_named_deeds, c_extra_of, c_coefficients_along, c_answers_of, c_law_cup, c_law_draw, c_law_equal, c_law_one, c_law_ground, c_law_round, c_law_turns, c_law_period, c_law_circled, c_law_likeness, c_law_values, c_law_count, c_law_sure, c_law], [(.ctp [(.str "C"), (.str "V")]), (.ctp [(.str "add"), (.str "less"), (.str "times")])], [([0], ([] : List Str)), ([1, 0], ([] : List Str)), ([2, 0], ([] : List Str)), ([3, 1, 0], ([Str.ofString "word", Str.ofString "name"] : List Str)), ([4, 2, 0], ([Str.ofString "word"] : List Str))]⟩
def gi : GI := ⟨[(Str.ofString "power_of", ([Str.ofString "p", Str.ofString "residue", Str.ofString "times"] : List Str)), (Str.ofString "inverse_of", ([Str.ofString "p", Str.ofString "residue"] : List Str)), (Str.ofString "root_row", ([Str.ofString "field"] : List Str)), (Str.ofString "added", ([Str.ofString "field", Str.ofString "one", Str.ofString "other"] : List Str)), (Str.ofString "lessened", ([Str.ofString "field", Str.ofString "one", Str.ofString "other"] : List Str)), (Str.ofString "scaled", ([Str.ofString "field", Str.ofString "row", Str.ofString "residue"] : List Str)), (Str.ofString "multiplied", ([Str.ofString "field", Str.ofString "form", Str.ofString "one", Str.ofString "other"] : List Str)), (Str.ofString "shifted", ([Str.ofString "field", Str.ofString "form", Str.ofString "row", Str.ofString "k"] : List Str)), (Str.ofString "mirrored", ([Str.ofString "field", Str.ofString "row"] : List Str)), (Str.ofString "stretched", ([Str.ofString "field", Str.ofString "form", Str.ofString "row", Str.ofString "k"] : List Str)), (Str.ofString "kept", ([Str.ofString "field", Str.ofString "row", Str.ofString "places"] : List Str)), (Str.ofString "sloped", ([Str.ofString "field", Str.ofString "row"] : List Str)), (Str.ofString "done", ([Str.ofString "field", Str.ofString "form", Str.ofString "word", Str.ofString "rows", Str.ofString "extra"] : List Str)), (Str.ofString "is_form", ([Str.ofString "thing"] : List Str)), (Str.ofString "values_of", ([Str.ofString "field", Str.ofString "row"] : List Str)), (Str.ofString "coefficients_of", ([Str.ofString "field", Str.ofString "row"] : List Str)), (Str.ofString "turned_over", ([Str.ofString "field", Str.ofString "row", Str.ofString "form"] : List Str)), (Str.ofString "in_form", ([Str.ofString "field", Str.ofString "row", Str.ofString "form", Str.ofString "wanted"] : List Str)), (Str.ofString "turned_row", ([Str.ofString "row", Str.ofString "k"] : List Str)), (Str.ofString "all_turns", ([Str.ofString "row"] : List Str)), (Str.ofString "row_period", ([Str.ofString "row"] : List Str)), (Str.ofString "least_turn", ([Str.ofString "row"] : List Str)), (Str.ofString "are_turns", ([Str.ofString "one", Str.ofString "other"] : List Str)), (Str.ofString "likeness_row", ([Str.ofString "field", Str.ofString "one", Str.ofString "other"] : List Str)), (Str.ofString "likeness_by_product", ([Str.ofString "field", Str.ofString "one", Str.ofString "other"] : List Str)), (Str.ofString "empty_values", ([Str.ofString "field", Str.ofString "row"] : List Str)), (Str.ofString "step_places", ([Str.ofString "field", Str.ofString "step"] : List Str)), (Str.ofString "comb_row", ([Str.ofString "field", Str.ofString "step"] : List Str)), (Str.ofString "circle_number", ([Str.ofString "field", Str.ofString "values"] : List Str)), (Str.ofString "twin_places", ([Str.ofString "field", Str.ofString "row"] : List Str)), (Str.ofString "named_deeds", ([Str.ofString "deed"] : List Str)), (Str.ofString "extra_of", ([Str.ofString "deed"] : List Str)), (Str.ofString "coefficients_along", ([Str.ofString "field", Str.ofString "program", Str.ofString "inputs"] : List Str)), (Str.ofString "answers_of", ([Str.ofString "field", Str.ofString "program", Str.ofString "inputs"] : List Str)), (Str.ofString "_law_cup", ([Str.ofString "script"] : List Str)), (Str.ofString "_law_draw", ([Str.ofString "cup", Str.ofString "many"] : List Str)), (Str.ofString "_law_equal", ([Str.ofString "told", Str.ofString "due"] : List Str)), (Str.ofString "_law_one", ([Str.ofString "told", Str.ofString "due"] : List Str)), (Str.ofString "_law_ground", ([Str.ofString "cup", Str.ofString "wide"] : List Str)), (Str.ofString "_law_round", ([Str.ofString "row", Str.ofString "k"] : List Str)), (Str.ofString "_law_turns", ([Str.ofString "row"] : List Str)), (Str.ofString "_law_period", ([Str.ofString "row"] : List Str)), (Str.ofString "_law_circled", ([Str.ofString "cup", Str.ofString "row"] : List Str)), (Str.ofString "_law_likeness", ([Str.ofString "cup", Str.ofString "field"] : List Str)), (Str.ofString "_law_values", ([Str.ofString "cup", Str.ofString "field"] : List Str)), (Str.ofString "_law_count", ([Str.ofString "cup"] : List Str)), (Str.ofString "_law_sure", ([] : List Str)), (Str.ofString "law", ([Str.ofString "script"] : List Str))], [Str.ofString "FORMS", Str.ofString "PAIRED"], [Str.ofString "abs", Str.ofString "bool", Str.ofString "enumerate", Str.ofString "int", Str.ofString "isinstance", Str.ofString "len", Str.ofString "min", Str.ofString "range", Str.ofString "set", Str.ofString "sorted", Str.ofString "str", Str.ofString "sum", Str.ofString "tuple", Str.ofString "zip"], [(Str.ofString "FormError", ([] : List Str)), (Str.ofString "AskError", ([] : List Str)), (Str.ofString "CallError", ([] : List Str)), (Str.ofString "NoSuch", ([Str.ofString "word", Str.ofString "name"] : List Str)), (Str.ofString "BadCall", ([Str.ofString "word"] : List Str))]⟩
theorem u_power_of (k : Nat) (x0 x1 x2 : D) (h : Heap) : callI pg (k + 1) f_power_of [x0, x1, x2] h = (execs ⟨callI pg k, pg.cs, pg.cl⟩ b_power_of [some x0, some x1, some x2, none, none, none] h).bind (fin h) := callI_eq (fn := c_power_of) rfl rfl
theorem u_inverse_of (k : Nat) (x0 x1 : D) (h : Heap) : callI pg (k + 1) f_inverse_of [x0, x1] h = (execs ⟨callI pg k, pg.cs, pg.cl⟩ b_inverse_of [some x0, some x1] h).bind (fin h) := callI_eq (fn := c_inverse_of) rfl rfl
theorem u_root_row (k : Nat) (x0 : D) (h : Heap) : callI pg (k + 1) f_root_row [x0] h = (execs ⟨callI pg k, pg.cs, pg.cl⟩ b_root_row [some x0, none, none, none, none] h).bind (fin h) := callI_eq (fn := c_root_row) rfl rfl
theorem u_added (k : Nat) (x0 x1 x2 : D) (h : Heap) : callI pg (k + 1) f_added [x0, x1, x2] h = (execs ⟨callI pg k, pg.cs, pg.cl⟩ b_added [some x0, some x1, some x2, none, none] h).bind (fin h) := callI_eq (fn := c_added) rfl rfl
theorem u_lessened (k : Nat) (x0 x1 x2 : D) (h : Heap) : callI pg (k + 1) f_lessened [x0, x1, x2] h = (execs ⟨callI pg k, pg.cs, pg.cl⟩ b_lessened [some x0, some x1, some x2, none, none] h).bind (fin h) := callI_eq (fn := c_lessened) rfl rfl
theorem u_scaled (k : Nat) (x0 x1 x2 : D) (h : Heap) : callI pg (k + 1) f_scaled [x0, x1, x2] h = (execs ⟨callI pg k, pg.cs, pg.cl⟩ b_scaled [some x0, some x1, some x2, none] h).bind (fin h) := callI_eq (fn := c_scaled) rfl rfl
theorem u_multiplied (k : Nat) (x0 x1 x2 x3 : D) (h : Heap) : callI pg (k + 1) f_multiplied [x0, x1, x2, x3] h = (execs ⟨callI pg k, pg.cs, pg.cl⟩ b_multiplied [some x0, some x1, some x2, some x3, none, none, none, none, none, none, none, none, none] h).bind (fin h) := callI_eq (fn := c_multiplied) rfl rfl
theorem u_shifted (k : Nat) (x0 x1 x2 x3 : D) (h : Heap) : callI pg (k + 1) f_shifted [x0, x1, x2, x3] h = (execs ⟨callI pg k, pg.cs, pg.cl⟩ b_shifted [some x0, some x1, some x2, some x3, none, none, none, none, none, none] h).bind (fin h) := callI_eq (fn := c_shifted) rfl rfl
theorem u_mirrored (k : Nat) (x0 x1 : D) (h : Heap) : callI pg (k + 1) f_mirrored [x0, x1] h = (execs ⟨callI pg k, pg.cs, pg.cl⟩ b_mirrored [some x0, some x1, none, none] h).bind (fin h) := callI_eq (fn := c_mirrored) rfl rfl
theorem u_stretched (k : Nat) (x0 x1 x2 x3 : D) (h : Heap) : callI pg (k + 1) f_stretched [x0, x1, x2, x3] h = (execs ⟨callI pg k, pg.cs, pg.cl⟩ b_stretched [some x0, some x1, some x2, some x3, none, none, none] h).bind (fin h) := callI_eq (fn := c_stretched) rfl rfl
theorem u_kept (k : Nat) (x0 x1 x2 : D) (h : Heap) : callI pg (k + 1) f_kept [x0, x1, x2] h = (execs ⟨callI pg k, pg.cs, pg.cl⟩ b_kept [some x0, some x1, some x2, none] h).bind (fin h) := callI_eq (fn := c_kept) rfl rfl
theorem u_sloped (k : Nat) (x0 x1 : D) (h : Heap) : callI pg (k + 1) f_sloped [x0, x1] h = (execs ⟨callI pg k, pg.cs, pg.cl⟩ b_sloped [some x0, some x1, none, none] h).bind (fin h) := callI_eq (fn := c_sloped) rfl rfl
theorem u_done (k : Nat) (x0 x1 x2 x3 x4 : D) (h : Heap) : callI pg (k + 1) f_done [x0, x1, x2, x3, x4] h = (execs ⟨callI pg k, pg.cs, pg.cl⟩ b_done [some x0, some x1, some x2, some x3, some x4] h).bind (fin h) := callI_eq (fn := c_done) rfl rfl
theorem u_is_form (k : Nat) (x0 : D) (h : Heap) : callI pg (k + 1) f_is_form [x0] h = (execs ⟨callI pg k, pg.cs, pg.cl⟩ b_is_form [some x0] h).bind (fin h) := callI_eq (fn := c_is_form) rfl rfl
theorem u_values_of (k : Nat) (x0 x1 : D) (h : Heap) : callI pg (k + 1) f_values_of [x0, x1] h = (execs ⟨callI pg k, pg.cs, pg.cl⟩ b_values_of [some x0, some x1, none, none, none, none, none, none, none] h).bind (fin h) := callI_eq (fn := c_values_of) rfl rfl
theorem u_coefficients_of (k : Nat) (x0 x1 : D) (h : Heap) : callI pg (k + 1) f_coefficients_of [x0, x1] h = (execs ⟨callI pg k, pg.cs, pg.cl⟩ b_coefficients_of [some x0, some x1, none, none, none, none, none, none, none, none, none] h).bind (fin h) := callI_eq (fn := c_coefficients_of) rfl rfl
theorem u_turned_over (k : Nat) (x0 x1 x2 : D) (h : Heap) : callI pg (k + 1) f_turned_over [x0, x1, x2] h = (execs ⟨callI pg k, pg.cs, pg.cl⟩ b_turned_over [some x0, some x1, some x2] h).bind (fin h) := callI_eq (fn := c_turned_over) rfl rfl
theorem u_in_form (k : Nat) (x0 x1 x2 x3 : D) (h : Heap) : callI pg (k + 1) f_in_form [x0, x1, x2, x3] h = (execs ⟨callI pg k, pg.cs, pg.cl⟩ b_in_form [some x0, some x1, some x2, some x3, none] h).bind (fin h) := callI_eq (fn := c_in_form) rfl rfl
theorem u_turned_row (k : Nat) (x0 x1 : D) (h : Heap) : callI pg (k + 1) f_turned_row [x0, x1] h = (execs ⟨callI pg k, pg.cs, pg.cl⟩ b_turned_row [some x0, some x1, none, none] h).bind (fin h) := callI_eq (fn := c_turned_row) rfl rfl
theorem u_all_turns (k : Nat) (x0 : D) (h : Heap) : callI pg (k + 1) f_all_turns [x0] h = (execs ⟨callI pg k, pg.cs, pg.cl⟩ b_all_turns [some x0, none] h).bind (fin h) := callI_eq (fn := c_all_turns) rfl rfl
theorem u_row_period (k : Nat) (x0 : D) (h : Heap) : callI pg (k + 1) f_row_period [x0] h = (execs ⟨callI pg k, pg.cs, pg.cl⟩ b_row_period [some x0, none] h).bind (fin h) := callI_eq (fn := c_row_period) rfl rfl
theorem u_least_turn (k : Nat) (x0 : D) (h : Heap) : callI pg (k + 1) f_least_turn [x0] h = (execs ⟨callI pg k, pg.cs, pg.cl⟩ b_least_turn [some x0] h).bind (fin h) := callI_eq (fn := c_least_turn) rfl rfl
theorem u_are_turns (k : Nat) (x0 x1 : D) (h : Heap) : callI pg (k + 1) f_are_turns [x0, x1] h = (execs ⟨callI pg k, pg.cs, pg.cl⟩ b_are_turns [some x0, some x1] h).bind (fin h) := callI_eq (fn := c_are_turns) rfl rfl
theorem u_likeness_row (k : Nat) (x0 x1 x2 : D) (h : Heap) : callI pg (k + 1) f_likeness_row [x0, x1, x2] h = (execs ⟨callI pg k, pg.cs, pg.cl⟩ b_likeness_row [some x0, some x1, some x2, none, none, none, none, none, none] h).bind (fin h) := callI_eq (fn := c_likeness_row) rfl rfl
theorem u_likeness_by_product (k : Nat) (x0 x1 x2 : D) (h : Heap) : callI pg (k + 1) f_likeness_by_product [x0, x1, x2] h = (execs ⟨callI pg k, pg.cs, pg.cl⟩ b_likeness_by_product [some x0, some x1, some x2] h).bind (fin h) := callI_eq (fn := c_likeness_by_product) rfl rfl
theorem u_empty_values (k : Nat) (x0 x1 : D) (h : Heap) : callI pg (k + 1) f_empty_values [x0, x1] h = (execs ⟨callI pg k, pg.cs, pg.cl⟩ b_empty_values [some x0, some x1, none, none] h).bind (fin h) := callI_eq (fn := c_empty_values) rfl rfl
theorem u_step_places (k : Nat) (x0 x1 : D) (h : Heap) : callI pg (k + 1) f_step_places [x0, x1] h = (execs ⟨callI pg k, pg.cs, pg.cl⟩ b_step_places [some x0, some x1, none, none, none] h).bind (fin h) := callI_eq (fn := c_step_places) rfl rfl
theorem u_comb_row (k : Nat) (x0 x1 : D) (h : Heap) : callI pg (k + 1) f_comb_row [x0, x1] h = (execs ⟨callI pg k, pg.cs, pg.cl⟩ b_comb_row [some x0, some x1, none, none] h).bind (fin h) := callI_eq (fn := c_comb_row) rfl rfl
theorem u_circle_number (k : Nat) (x0 x1 : D) (h : Heap) : callI pg (k + 1) f_circle_number [x0, x1] h = (execs ⟨callI pg k, pg.cs, pg.cl⟩ b_circle_number [some x0, some x1, none, none, none, none, none, none, none] h).bind (fin h) := callI_eq (fn := c_circle_number) rfl rfl
theorem u_twin_places (k : Nat) (x0 x1 : D) (h : Heap) : callI pg (k + 1) f_twin_places [x0, x1] h = (execs ⟨callI pg k, pg.cs, pg.cl⟩ b_twin_places [some x0, some x1, none, none, none] h).bind (fin h) := callI_eq (fn := c_twin_places) rfl rfl
theorem u_named_deeds (k : Nat) (x0 : D) (h : Heap) : callI pg (k + 1) f_named_deeds [x0] h = (execs ⟨callI pg k, pg.cs, pg.cl⟩ b_named_deeds [some x0] h).bind (fin h) := callI_eq (fn := c_named_deeds) rfl rfl
theorem u_extra_of (k : Nat) (x0 : D) (h : Heap) : callI pg (k + 1) f_extra_of [x0] h = (execs ⟨callI pg k, pg.cs, pg.cl⟩ b_extra_of [some x0] h).bind (fin h) := callI_eq (fn := c_extra_of) rfl rfl
theorem u_coefficients_along (k : Nat) (x0 x1 x2 : D) (h : Heap) : callI pg (k + 1) f_coefficients_along [x0, x1, x2] h = (execs ⟨callI pg k, pg.cs, pg.cl⟩ b_coefficients_along [some x0, some x1, some x2, none, none, none, none, none, none, none] h).bind (fin h) := callI_eq (fn := c_coefficients_along) rfl rfl
theorem u_answers_of (k : Nat) (x0 x1 x2 : D) (h : Heap) : callI pg (k + 1) f_answers_of [x0, x1, x2] h = (execs ⟨callI pg k, pg.cs, pg.cl⟩ b_answers_of [some x0, some x1, some x2, none, none, none, none, none] h).bind (fin h) := callI_eq (fn := c_answers_of) rfl rfl
theorem u_law_cup (k : Nat) (x0 : D) (h : Heap) : callI pg (k + 1) f_law_cup [x0] h = (execs ⟨callI pg k, pg.cs, pg.cl⟩ b_law_cup [some x0, none, none, none] h).bind (fin h) := callI_eq (fn := c_law_cup) rfl rfl
theorem u_law_draw (k : Nat) (x0 x1 : D) (h : Heap) : callI pg (k + 1) f_law_draw [x0, x1] h = (execs ⟨callI pg k, pg.cs, pg.cl⟩ b_law_draw [some x0, some x1, none] h).bind (fin h) := callI_eq (fn := c_law_draw) rfl rfl
theorem u_law_equal (k : Nat) (x0 x1 : D) (h : Heap) : callI pg (k + 1) f_law_equal [x0, x1] h = (execs ⟨callI pg k, pg.cs, pg.cl⟩ b_law_equal [some x0, some x1, none, none, none] h).bind (fin h) := callI_eq (fn := c_law_equal) rfl rfl
theorem u_law_one (k : Nat) (x0 x1 : D) (h : Heap) : callI pg (k + 1) f_law_one [x0, x1] h = (execs ⟨callI pg k, pg.cs, pg.cl⟩ b_law_one [some x0, some x1] h).bind (fin h) := callI_eq (fn := c_law_one) rfl rfl
theorem u_law_ground (k : Nat) (x0 x1 : D) (h : Heap) : callI pg (k + 1) f_law_ground [x0, x1] h = (execs ⟨callI pg k, pg.cs, pg.cl⟩ b_law_ground [some x0, some x1, none, none, none, none, none, none] h).bind (fin h) := callI_eq (fn := c_law_ground) rfl rfl
theorem u_law_round (k : Nat) (x0 x1 : D) (h : Heap) : callI pg (k + 1) f_law_round [x0, x1] h = (execs ⟨callI pg k, pg.cs, pg.cl⟩ b_law_round [some x0, some x1, none] h).bind (fin h) := callI_eq (fn := c_law_round) rfl rfl
theorem u_law_turns (k : Nat) (x0 : D) (h : Heap) : callI pg (k + 1) f_law_turns [x0] h = (execs ⟨callI pg k, pg.cs, pg.cl⟩ b_law_turns [some x0, none] h).bind (fin h) := callI_eq (fn := c_law_turns) rfl rfl
theorem u_law_period (k : Nat) (x0 : D) (h : Heap) : callI pg (k + 1) f_law_period [x0] h = (execs ⟨callI pg k, pg.cs, pg.cl⟩ b_law_period [some x0, none] h).bind (fin h) := callI_eq (fn := c_law_period) rfl rfl
theorem u_law_circled (k : Nat) (x0 x1 : D) (h : Heap) : callI pg (k + 1) f_law_circled [x0, x1] h = (execs ⟨callI pg k, pg.cs, pg.cl⟩ b_law_circled [some x0, some x1, none, none, none, none, none, none, none, none, none, none, none] h).bind (fin h) := callI_eq (fn := c_law_circled) rfl rfl
theorem u_law_likeness (k : Nat) (x0 x1 : D) (h : Heap) : callI pg (k + 1) f_law_likeness [x0, x1] h = (execs ⟨callI pg k, pg.cs, pg.cl⟩ b_law_likeness [some x0, some x1, none, none, none, none, none, none, none, none, none, none, none, none, none] h).bind (fin h) := callI_eq (fn := c_law_likeness) rfl rfl
theorem u_law_values (k : Nat) (x0 x1 : D) (h : Heap) : callI pg (k + 1) f_law_values [x0, x1] h = (execs ⟨callI pg k, pg.cs, pg.cl⟩ b_law_values [some x0, some x1, none, none, none, none, none, none, none, none, none, none, none, none, none, none] h).bind (fin h) := callI_eq (fn := c_law_values) rfl rfl
theorem u_law_count (k : Nat) (x0 : D) (h : Heap) : callI pg (k + 1) f_law_count [x0] h = (execs ⟨callI pg k, pg.cs, pg.cl⟩ b_law_count [some x0, none, none, none, none, none, none, none, none, none, none, none] h).bind (fin h) := callI_eq (fn := c_law_count) rfl rfl
theorem u_law_sure (k : Nat) (h : Heap) : callI pg (k + 1) f_law_sure [] h = (execs ⟨callI pg k, pg.cs, pg.cl⟩ b_law_sure [none, none] h).bind (fin h) := callI_eq (fn := c_law_sure) rfl rfl
theorem u_law (k : Nat) (x0 : D) (h : Heap) : callI pg (k + 1) f_law [x0] h = (execs ⟨callI pg k, pg.cs, pg.cl⟩ b_law [some x0, none, none, none, none, none, none, none] h).bind (fin h) := callI_eq (fn := c_law) rfl rfl
def tops : List Nat := [7, 8, 10, 12, 13, 14, 15, 16, 17, 18, 19, 20, 21, 24, 25, 26, 27, 28, 30, 31, 32, 33, 34, 35, 36, 37, 38, 39, 40, 41, 44, 45, 47, 48, 50, 51, 52, 53, 54, 55, 56, 57, 58, 59, 60, 61, 62, 63]
def ctops : List (Str × Nat) := [(Str.ofString "NoSuch", 4), (Str.ofString "BadCall", 5)]
def loose0 : List Str := ["FormError", "AskError", "CallError", "NoSuch", "BadCall", "power_of", "inverse_of", "root_row", "added", "lessened", "scaled", "multiplied", "shifted", "mirrored", "stretched", "kept", "sloped", "done", "FORMS", "is_form", "values_of", "coefficients_of", "turned_over", "in_form", "turned_row", "all_turns", "row_period", "least_turn", "are_turns", "likeness_row"]
def loose1 : List Str := ["likeness_by_product", "empty_values", "step_places", "comb_row", "circle_number", "twin_places", "PAIRED", "named_deeds", "extra_of", "coefficients_along", "answers_of", "_law_cup", "_law_draw", "_law_equal", "_law_one", "_law_ground", "_law_round", "_law_turns", "_law_period", "_law_circled", "_law_likeness", "_law_values", "_law_count", "_law_sure"]
def loose : List Str := loose0 ++ loose1
def lawAt : Nat := 63
end K86
end

section
set_option Elab.async false
set_option linter.all false
set_option maxRecDepth 100000
set_option maxHeartbeats 0
namespace K86R
open Tw PySem PySem.Spec PyProof.Rows L2 K86
def top (i : Nat) : Stmt := PySem.Challenge.pw_twoforms_k86_whole_circles.main.body.getD i (.Pass ⟨0, 0, 0, 0⟩)
def txt : List Txt := tops.map fun i => ⟨defArgs (top i), defBody (top i), defScope (top i)⟩
def cts : List (Str × Txt) := ctops.map fun p => (p.1, initIn (top p.2))
theorem match_ok : (pg.fns.zip txt).all (fun p => mFn gi p.1 p.2) = true := by decide +kernel
abbrev R : PySem.W.OpenRow := PySem.W.OpenLaw.row PySem.Challenge.rw_twoforms_k86_whole_circles
abbrev hk : PySem.W.Hook := hookT 4 (faD pg gi) (fnD pg txt cts) (gi.cs.zip pg.cs) (gi.cl.zip pg.cl)
def ob (s : PySem.W.SharedT) : AlT := obsTG 4 (faD pg gi) (fnD pg txt cts) (gi.cs.zip pg.cs) (gi.cl.zip pg.cl) (HandSHeadRun.getT s)
theorem ob_eq (s : PySem.W.SharedT) : ob s = hk.obs s.abs := obsTG_eq (HandSHeadRun.getT_eq s)
theorem join3 {α β γ δ : Type} {o : Option α} {f : α → β} {g : α → γ} {h : α → δ} {a : β} {b : γ} {c : δ} (h1 : o.map f = some a) (h2 : o.map g = some b) (h3 : o.map h = some c) : o.map (fun s => (f s, g s, h s)) = some (a, b, c) := by
  cases o with
  | none => cases h1
  | some s =>
    injection h1 with h1
    injection h2 with h2
    injection h3 with h3
    rw [← h1, ← h2, ← h3]
    rfl
section
open PySem PySem.W PySem.Calls PyProof.Rows HandSHeadRun
abbrev seen (s : Shared) : Bool := xlAt (PySem.W.view R.prog [lawAt]) [] s && recOk R.toRowW.records s
theorem run1 (w : World) (os : OsState) : (endF (stepQ (denQ tabQ) R.prog w) 8000 R.prog w os).map (fun s => looksF R.prog (boot_heap w.params) s.abs) = some true := by
  kernel_rfl
theorem run2 (w : World) (os : OsState) : (endF (stepQ (denQ tabQ) R.prog w) 8000 R.prog w os).map (fun s => seenQ (PySem.W.view R.prog [lawAt]) loose (importedModules R.prog.main.body) (fun s => xlAt (PySem.W.view R.prog [lawAt]) [] s && recOk R.toRowW.records s) s.abs) = some (openGood (PySem.W.view R.prog [lawAt]) loose) := by
  kernel_rfl
theorem run3 (w : World) (os : OsState) : (endF (stepQ (denQ tabQ) R.prog w) 8000 R.prog w os).map (fun s => ob s) = some (hk.val w) := by
  kernel_rfl
end
theorem run (w : World) : HandSHeadRun.RunEq R (PySem.W.view R.prog [lawAt]) hk ob 8000 loose w := fun os => join3 (run1 w os) (run2 w os) (run3 w os)
end K86R
end

section
set_option Elab.async false
set_option linter.all false
set_option maxRecDepth 100000
set_option maxHeartbeats 1000000
/-! The core language's evaluation as simp lemmas; statement by statement. Own work. -/
namespace Tw
open PySem (Str)
section
variable {α β : Type} {c : Ctx} {ρ : Env} {h : Heap}
theorem c_bind {x y : R α} {f : α → R β} (e : x = y) : x.bind f = y.bind f := by rw [e]
theorem c_ofO {x y : Option α} {f : α → R β} (e : x = y) : ofO x f = ofO y f := by rw [e]
theorem c_chk {x y : Bool} {r : R β} (e : x = y) : chk x r = chk y r := by rw [e]
@[simp] theorem z_bind (a : α) (f : α → R β) : (R.ok a).bind f = f a := (rfl)
@[simp] theorem z_assoc {γ : Type} (x : R α) (f : α → R β) (g : β → R γ) : (x.bind f).bind g = x.bind fun a => (f a).bind g := by cases x <;> rfl
@[simp] theorem z_nox (a : α) : (R.ok a).nox = .ok a := (rfl)
@[simp] theorem z_ofO (a : α) (f : α → R β) : ofO (some a) f = f a := (rfl)
@[simp] theorem z_chk (r : R β) : chk true r = r := (rfl)
def getV : Option (Option D) → Heap → R (D × Heap)
  | some (some d), h => .ok (d, h)
  | _, _ => .no
@[simp] theorem z_getV (d : D) : getV (some (some d)) h = .ok (d, h) := (rfl)
@[simp] theorem z_var (i : Nat) : ev c (.var i) ρ h = getV ρ[i]? h := by
  rw [ev]
  unfold getV
  split <;> simp_all
@[simp] theorem z_int (i : Int) : ev c (.int i) ρ h = .ok (.int i, h) := by rw [ev]
@[simp] theorem z_bl (i : Bool) : ev c (.bl i) ρ h = .ok (.bl i, h) := by rw [ev]
@[simp] theorem z_non : ev c .non ρ h = .ok (.non, h) := by rw [ev]
@[simp] theorem z_str (i : Str) : ev c (.str i) ρ h = .ok (.str i, h) := by rw [ev]
@[simp] theorem z_cst (i : Nat) : ev c (.cst i) ρ h = ofO c.cs[i]? fun d => .ok (d, h) := by rw [ev]
@[simp] theorem z_bin (op : BOp) (a b : CE) : ev c (.bin op a b) ρ h = (ev c a ρ h).bind fun x => (ev c b ρ x.2).bind fun y => opB op x.1 y.1 y.2 := by rw [ev]
@[simp] theorem z_cmp (op : COp) (a b : CE) : ev c (.cmp op a b) ρ h = (ev c a ρ h).bind fun x => (ev c b ρ x.2).bind fun y => opC op x.1 y.1 y.2 := by rw [ev]
def andV (b : Bool) (x : D × Heap) (r : R (D × Heap)) : R (D × Heap) := if b = true then r else .ok x
def iteV {γ : Type} (b : Bool) (r s : R γ) : R γ := if b = true then r else s
theorem c_andV {x y : Bool} {d : D × Heap} {r : R (D × Heap)} (e : x = y) : andV x d r = andV y d r := by rw [e]
theorem c_iteV {γ : Type} {x y : Bool} {r s : R γ} (e : x = y) : iteV x r s = iteV y r s := by rw [e]
@[simp] theorem z_andT (x : D × Heap) (r : R (D × Heap)) : andV true x r = r := (rfl)
@[simp] theorem z_andF (x : D × Heap) (r : R (D × Heap)) : andV false x r = .ok x := (rfl)
@[simp] theorem z_iteT {γ : Type} (r s : R γ) : iteV true r s = r := (rfl)
@[simp] theorem z_iteF {γ : Type} (r s : R γ) : iteV false r s = s := (rfl)
@[simp] theorem z_and (a b : CE) : ev c (.and a b) ρ h = (ev c a ρ h).bind fun x => ofO (truth x.1 x.2) fun t => andV t x (ev c b ρ x.2) := by
  rw [ev]
  congr 1; funext x; congr 1; funext t; cases t <;> rfl
@[simp] theorem z_not (a : CB) : ev c (.not a) ρ h = (tv c a ρ h).bind fun x => .ok (.bl (!x.1), x.2) := by rw [ev]
def negV : D × Heap → R (D × Heap)
  | (.int i, h) => .ok (.int (-i), h)
  | _ => .no
@[simp] theorem z_negV (i : Int) : negV (.int i, h) = .ok (.int (-i), h) := (rfl)
@[simp] theorem z_neg (a : CE) : ev c (.neg a) ρ h = (ev c a ρ h).bind negV := by
  rw [ev]
  congr 1; funext x; rcases x with ⟨x, h⟩; cases x <;> rfl
@[simp] theorem z_itE (t : CB) (a b : CE) : ev c (.ite t a b) ρ h = (tv c t ρ h).bind fun x => iteV x.1 (ev c a ρ x.2) (ev c b ρ x.2) := by
  rw [ev]
  congr 1; funext x; rcases x with ⟨x, h⟩; cases x <;> rfl
@[simp] theorem z_idx (a i : CE) : ev c (.idx a i) ρ h = (ev c a ρ h).bind fun x => (ev c i ρ x.2).bind fun y => idxV x.1 y.1 y.2 := by rw [ev]
@[simp] theorem z_slc (a : CE) (lo hi : CO) : ev c (.slc a lo hi) ρ h = (ev c a ρ h).bind fun x => (evO c lo ρ x.2).bind fun l => (evO c hi ρ l.2).bind fun u => slcV x.1 l.1 u.1 u.2 := by rw [ev]
@[simp] theorem z_tup (es : CEs) : ev c (.tup es) ρ h = (evs c es ρ h).bind fun x => chk (decide (x.1.length ≤ LIM)) (.ok (.tup x.1, x.2)) := by rw [ev]
@[simp] theorem z_new (l : CL) : ev c (.new l) ρ h = (evL c l ρ h).bind fun x => .ok (.ref x.2.length, x.2 ++ [.lst x.1]) := by rw [ev]
@[simp] theorem z_dct (ps : CPs) : ev c (.dct ps) ρ h = (evP c ps ρ h).bind fun x => (dbuildO x.1).bind fun o => .ok (.ref x.2.length, x.2 ++ [o]) := by rw [ev]
@[simp] theorem z_dbK (k v : D) (ps : List (D × D)) (hk : isKT ((k, v) :: ps) = false) : dbuildO ((k, v) :: ps) = (dbuild ((k, v) :: ps) []).bind fun kvs => .ok (.dct kvs) := by
  unfold dbuildO
  rw [hk]
@[simp] theorem z_dbT (ks : List D) (v : D) (ps : List (D × D)) : dbuildO ((.tup ks, v) :: ps) = (dbuildT ((.tup ks, v) :: ps) []).bind fun kvs => .ok (.dtt kvs) := (rfl)
@[simp] theorem z_kS (s : Str) (v : D) (ps : List (D × D)) : isKT ((.str s, v) :: ps) = false := (rfl)
@[simp] theorem z_kI (s : Int) (v : D) (ps : List (D × D)) : isKT ((.int s, v) :: ps) = false := (rfl)
@[simp] theorem z_call (f : Nat) (as : CEs) : ev c (.call f as) ρ h = (evs c as ρ h).bind fun x => c.T f x.1 x.2 := by rw [ev]
@[simp] theorem z_bi (b : Bi) (as : CEs) : ev c (.bi b as) ρ h = (evs c as ρ h).bind fun x => biV b x.1 x.2 := by rw [ev]
@[simp] theorem z_sq (b : Sq) (s : CI) : ev c (.sq b s) ρ h = (evQ c s ρ h).bind fun x => sqV b x.1 x.2 := by rw [ev]
@[simp] theorem z_isin (e : CE) (t : Ty) : ev c (.isin e t) ρ h = (ev c e ρ h).bind fun x => ofO (isTy t x.1 x.2) fun b => .ok (.bl b, x.2) := by rw [ev]
@[simp] theorem z_app (l e : CE) : ev c (.app l e) ρ h = (ev c l ρ h).bind fun x => chk (isLst x.1 x.2) ((ev c e ρ x.2).bind fun y => appV x.1 y.1 y.2) := by rw [ev]
@[simp] theorem z_ext (l : CE) (s : CL) : ev c (.ext l s) ρ h = (ev c l ρ h).bind fun x => chk (isLst x.1 x.2) ((evL c s ρ x.2).bind fun y => extV x.1 y.1 y.2) := by rw [ev]
@[simp] theorem z_callK (f : Nat) (ix : List Nat) (as bs : CEs) : ev c (.callK f ix as bs) ρ h = (evs c as ρ h).bind fun x => (evs c bs ρ x.2).bind fun y => c.T f (x.1 ++ selD ix y.1) y.2 := by rw [ev]
@[simp] theorem z_selD0 {α : Type} (ds : List α) : selD [] ds = [] := (rfl)
@[simp] theorem z_selD1 {α : Type} (i : Nat) (ix : List Nat) (ds : List α) : selD (i :: ix) ds = match ds[i]? with
    | some d => d :: selD ix ds
    | none => selD ix ds := by
  unfold selD
  rw [List.filterMap_cons]
  cases ds[i]? <;> rfl
@[simp] theorem z_sqL (b : Sq) (l : CL) : ev c (.sqL b l) ρ h = (evL c l ρ h).bind fun x => sqLV b x.1 x.2 := by rw [ev]
@[simp] theorem z_sqE (b : Sq) (e : CE) : ev c (.sqE b e) ρ h = (ev c e ρ h).bind fun x => sqEV b x.1 x.2 := by rw [ev]
@[simp] theorem z_sqEr (b : Sq) (n : Nat) : sqEV b (.ref n) h = ofO (lstOf (.ref n) h) fun ds => sqLV b ds h := (rfl)
@[simp] theorem z_sqEs (b : Sq) (ds : List D) : sqEV b (.seq ds) h = sqLV b ds h := (rfl)
@[simp] theorem z_sqEt (ds : List D) : sqEV .min (.tup ds) h = ofO (minRw ds) fun m => .ok (m, h) := (rfl)
@[simp] theorem z_back (b : Bool) (e : CE) : ev c (.back e b) ρ h = (ev c e ρ h).bind fun x => backV b x.1 x.2 := by rw [ev]
@[simp] theorem z_backt (ds : List D) : backV true (.tup ds) h = .ok (.tup (ds.drop 1).reverse, h) := (rfl)
@[simp] theorem z_backf (ds : List D) : backV false (.tup ds) h = .ok (.tup ds.reverse, h) := (rfl)
@[simp] theorem z_trev (e : CE) : ev c (.trev e) ρ h = (ev c e ρ h).bind fun x => ofO (lstOf x.1 x.2) fun ds => .ok (.tup ds.reverse, x.2) := by rw [ev]
@[simp] theorem z_get2 (d k x : CE) : ev c (.get2 d k x) ρ h = (ev c d ρ h).bind fun a => chk (isDct a.1 a.2) ((ev c k ρ a.2).bind fun b => (ev c x ρ b.2).bind fun z => getV2 a.1 b.1 z.1 z.2) := by rw [ev]
@[simp] theorem z_smax (ds : List D) : sqLV .max ds h = ofO (intsOf ds) fun is => ofO (maxL is) fun m => .ok (.int m, h) := (rfl)
@[simp] theorem z_smin (ds : List D) : sqLV .min ds h = ofO (minV ds) fun m => .ok (m, h) := (rfl)
@[simp] theorem z_sall (ds : List D) : sqLV .all ds h = ofO (boolsOf ds) fun is => .ok (.bl (is.all id), h) := (rfl)
@[simp] theorem z_sany (ds : List D) : sqLV .any ds h = ofO (boolsOf ds) fun is => .ok (.bl (is.any id), h) := (rfl)
def idV : Option O → Bool
  | some (.dct _) => true
  | some (.dtt _) => true
  | _ => false
@[simp] theorem z_idV (kvs : List (Key × D)) : idV (some (.dct kvs)) = true := (rfl)
@[simp] theorem z_idV2 (kvs : List (List Key × D)) : idV (some (.dtt kvs)) = true := (rfl)
@[simp] theorem z_isDct (n : Nat) : isDct (.ref n) h = idV h[n]? := (rfl)
def gtV (h : Heap) (k x : D) : Option O → R (D × Heap)
  | some (.dct kvs) => ofO (keyOf k) fun k => .ok ((findV kvs k).getD x, h)
  | some (.dtt kvs) => ofO (keyT k) fun k => .ok ((findV kvs k).getD x, h)
  | _ => .no
@[simp] theorem z_gtV (k x : D) (kvs : List (Key × D)) : gtV h k x (some (.dct kvs)) = ofO (keyOf k) fun k => .ok ((findV kvs k).getD x, h) := (rfl)
@[simp] theorem z_gtV2 (k x : D) (kvs : List (List Key × D)) : gtV h k x (some (.dtt kvs)) = ofO (keyT k) fun k => .ok ((findV kvs k).getD x, h) := (rfl)
@[simp] theorem z_getV2 (n : Nat) (k x : D) : getV2 (.ref n) k x h = gtV h k x h[n]? := (rfl)
@[simp] theorem z_pop (l : CE) : ev c (.pop l) ρ h = (ev c l ρ h).bind fun x => popV x.1 x.2 := by rw [ev]
@[simp] theorem z_popi (l i : CE) : ev c (.popi l i) ρ h = (ev c l ρ h).bind fun x => chk (isLst x.1 x.2) ((ev c i ρ x.2).bind fun y => popiV x.1 y.1 y.2) := by rw [ev]
def poV (h : Heap) (n : Nat) : Option O → R (D × Heap)
  | some (.lst xs) => ofO xs.getLast? fun d => .ok (d, h.set n (.lst xs.dropLast))
  | _ => .no
@[simp] theorem z_poV (n : Nat) (xs : List D) : poV h n (some (.lst xs)) = ofO xs.getLast? fun d => .ok (d, h.set n (.lst xs.dropLast)) := (rfl)
@[simp] theorem z_popV (n : Nat) : popV (.ref n) h = poV h n h[n]? := (rfl)
def poiV (h : Heap) (n : Nat) (i : Int) : Option O → R (D × Heap)
  | some (.lst xs) => chk (decide (-1000000 ≤ i) && decide (i ≤ 1000000)) (ofO (nix xs.length i) fun j => ofO xs[j]? fun d => .ok (d, h.set n (.lst (xs.eraseIdx j))))
  | _ => .no
@[simp] theorem z_poiV (n : Nat) (i : Int) (xs : List D) : poiV h n i (some (.lst xs)) = chk (decide (-1000000 ≤ i) && decide (i ≤ 1000000)) (ofO (nix xs.length i) fun j => ofO xs[j]? fun d => .ok (d, h.set n (.lst (xs.eraseIdx j)))) := (rfl)
@[simp] theorem z_popiV (n : Nat) (i : Int) : popiV (.ref n) (.int i) h = poiV h n i h[n]? := (rfl)
def indV (h : Heap) (x : D) : Option O → R (D × Heap)
  | some (.lst xs) => chk (D.deeps DEEP xs && x.deep DEEP) (ofO (xs.findIdx? fun z => eqd z x) fun j => .ok (.int (j : Nat), h))
  | _ => .no
@[simp] theorem z_indV (x : D) (xs : List D) : indV h x (some (.lst xs)) = chk (D.deeps DEEP xs && x.deep DEEP) (ofO (xs.findIdx? fun z => eqd z x) fun j => .ok (.int (j : Nat), h)) := (rfl)
@[simp] theorem z_indexV (n : Nat) (x : D) : indexV (.ref n) x h = indV h x h[n]? := (rfl)
@[simp] theorem z_index (l e : CE) : ev c (.index l e) ρ h = (ev c l ρ h).bind fun x => chk (isLst x.1 x.2) ((ev c e ρ x.2).bind fun y => indexV x.1 y.1 y.2) := by rw [ev]
def loV : Option O → Option (List D)
  | some (.lst xs) => some xs
  | _ => none
@[simp] theorem z_loV (xs : List D) : loV (some (.lst xs)) = some xs := (rfl)
@[simp] theorem z_lstR (n : Nat) : lstOf (.ref n) h = loV h[n]? := (rfl)
@[simp] theorem z_lstS (ds : List D) : lstOf (.seq ds) h = some ds := (rfl)
@[simp] theorem z_srt (l : CL) : evL c (.srt l) ρ h = (evL c l ρ h).bind fun x => ofO (srtV x.1) fun ds => .ok (ds, x.2) := by rw [evL]
@[simp] theorem z_srtC (e : CE) (t : CT) (it : CI) (cd : CBO) : evL c (.srtC e t it cd) ρ h = (evL c (.comp e t it cd) ρ h).bind fun x => ofO (srtU x.1) fun ds => .ok (ds, x.2) := by rw [evL, evL]
@[simp] theorem z_srtS (l : CL) : evL c (.srtS l) ρ h = (evL c l ρ h).bind fun x => ofO (srtU x.1) fun ds => .ok (ds, x.2) := by rw [evL]
@[simp] theorem z_srtE (e : CE) : evL c (.srtE e) ρ h = (ev c e ρ h).bind fun x => ofO (lstOf x.1 x.2) fun xs => ofO (srtV xs) fun ds => .ok (ds, x.2) := by rw [evL]
@[simp] theorem z_rev (e : CE) : evI c (.rev e) ρ h = (ev c e ρ h).bind fun x => ofO (seqOf x.1 x.2) fun w => .ok ((w.1.reverse, w.2), x.2) := by rw [evI]
def rngV3 : D → D → D × Heap → R (Walk × Heap)
  | .int i, .int j, (.int k, h) => chk (r3Ok i && r3Ok j && r3Ok k && decide (k ≠ 0)) (.ok ((rngS i k (cntR i j k), []), h))
  | _, _, _ => .no
@[simp] theorem z_rngV3 (i j k : Int) : rngV3 (.int i) (.int j) (.int k, h) = chk (r3Ok i && r3Ok j && r3Ok k && decide (k ≠ 0)) (.ok ((rngS i k (cntR i j k), []), h)) := (rfl)
@[simp] theorem z_rng3 (a b d : CE) : evI c (.rng3 a b d) ρ h = (ev c a ρ h).bind fun x => (ev c b ρ x.2).bind fun y => (ev c d ρ y.2).bind (rngV3 x.1 y.1) := by
  rw [evI]
  congr 1; funext x; congr 1; funext y; congr 1; funext z
  rcases x with ⟨x, h1⟩; rcases y with ⟨y, h2⟩; rcases z with ⟨z, h3⟩
  cases x <;> cases y <;> cases z <;> rfl
@[simp] theorem z_lof (s : CI) : evL c (.of s) ρ h = evQ c s ρ h := by rw [evL]
@[simp] theorem z_tval (e : CE) : tv c (.val e) ρ h = (ev c e ρ h).bind fun x => ofO (truth x.1 x.2) fun b => .ok (b, x.2) := by rw [tv]
@[simp] theorem z_tand (a b : CB) : tv c (.and a b) ρ h = (tv c a ρ h).bind fun x => iteV x.1 (tv c b ρ x.2) (.ok (false, x.2)) := by
  rw [tv]
  congr 1; funext x; rcases x with ⟨x, h⟩; cases x <;> rfl
@[simp] theorem z_tor (a b : CB) : tv c (.or a b) ρ h = (tv c a ρ h).bind fun x => iteV x.1 (.ok (true, x.2)) (tv c b ρ x.2) := by
  rw [tv]
  congr 1; funext x; rcases x with ⟨x, h⟩; cases x <;> rfl
@[simp] theorem z_tnot (a : CB) : tv c (.not a) ρ h = (tv c a ρ h).bind fun x => .ok (!x.1, x.2) := by rw [tv]
@[simp] theorem z_evO0 : evO c .none ρ h = .ok (none, h) := by rw [evO]
def evOV : D × Heap → R (Option Int × Heap)
  | (.int i, h) => .ok (some i, h)
  | _ => .no
@[simp] theorem z_evOV (i : Int) : evOV (.int i, h) = .ok (some i, h) := (rfl)
@[simp] theorem z_evO1 (e : CE) : evO c (.some e) ρ h = (ev c e ρ h).bind evOV := by
  rw [evO]
  congr 1; funext x; rcases x with ⟨x, h⟩; cases x <;> rfl
@[simp] theorem z_evs0 : evs c .nil ρ h = .ok ([], h) := by rw [evs]
@[simp] theorem z_evs1 (e : CE) (es : CEs) : evs c (.cons e es) ρ h = (ev c e ρ h).bind fun x => (evs c es ρ x.2).bind fun y => .ok (x.1 :: y.1, y.2) := by rw [evs]
@[simp] theorem z_evP0 : evP c .nil ρ h = .ok ([], h) := by rw [evP]
@[simp] theorem z_evP1 (k v : CE) (es : CPs) : evP c (.cons k v es) ρ h = (ev c k ρ h).bind fun x => (ev c v ρ x.2).bind fun y => (evP c es ρ y.2).bind fun z => .ok ((x.1, y.1) :: z.1, z.2) := by rw [evP]
@[simp] theorem z_disp (es : CEs) : evL c (.disp es) ρ h = (evs c es ρ h).bind fun x => chk (decide (x.1.length ≤ LIM)) (.ok x) := by rw [evL]
def repV (xs : List D) : D × Heap → R (List D × Heap)
  | (.int k, h) => chk (rngOk k && decide (xs.length * k.toNat ≤ LIM)) (.ok ((List.replicate k.toNat xs).flatten, h))
  | _ => .no
@[simp] theorem z_repV (xs : List D) (k : Int) : repV xs (.int k, h) = chk (rngOk k && decide (xs.length * k.toNat ≤ LIM)) (.ok ((List.replicate k.toNat xs).flatten, h)) := (rfl)
@[simp] theorem z_rep (es : CEs) (n : CE) : evL c (.rep es n) ρ h = (evs c es ρ h).bind fun x => chk (decide (x.1.length ≤ LIM)) ((ev c n ρ x.2).bind (repV x.1)) := by
  rw [evL]
  congr 1; funext x; congr 2; funext y; rcases y with ⟨y, h⟩; cases y <;> rfl
@[simp] theorem z_ival (e : CE) : evI c (.val e) ρ h = (ev c e ρ h).bind fun x => ofO (seqOf x.1 x.2) fun w => .ok (w, x.2) := by rw [evI]
@[simp] theorem z_itmp (e : CL) : evI c (.tmp e) ρ h = (evL c e ρ h).bind fun x => .ok ((x.1, []), x.2) := by rw [evI]
def rngV : D × Heap → R (Walk × Heap)
  | (.int j, h) => chk (rngOk j) (.ok ((rngD 0 j.toNat, []), h))
  | _ => .no
@[simp] theorem z_rngV (j : Int) : rngV (.int j, h) = chk (rngOk j) (.ok ((rngD 0 j.toNat, []), h)) := (rfl)
@[simp] theorem z_rng1 (a : CE) : evI c (.rng1 a) ρ h = (ev c a ρ h).bind rngV := by
  rw [evI]
  congr 1; funext x; rcases x with ⟨x, h⟩; cases x <;> rfl
def rngV2 : D → D × Heap → R (Walk × Heap)
  | .int i, (.int j, h) => chk (rngOk i && rngOk j) (.ok ((rngD i (j - i).toNat, []), h))
  | _, _ => .no
@[simp] theorem z_rngV2 (i j : Int) : rngV2 (.int i) (.int j, h) = chk (rngOk i && rngOk j) (.ok ((rngD i (j - i).toNat, []), h)) := (rfl)
@[simp] theorem z_rng2 (a b : CE) : evI c (.rng2 a b) ρ h = (ev c a ρ h).bind fun x => (ev c b ρ x.2).bind (rngV2 x.1) := by
  rw [evI]
  congr 1; funext x; congr 1; funext y; rcases x with ⟨x, h⟩; rcases y with ⟨y, h'⟩; cases x <;> cases y <;> rfl
@[simp] theorem z_enum (e : CE) : evI c (.enum e) ρ h = (ev c e ρ h).bind fun x => ofO (seqOf x.1 x.2) fun w => .ok ((enumD 0 w.1, w.2), x.2) := by rw [evI]
@[simp] theorem z_zip (a b : CE) : evI c (.zip a b) ρ h = (ev c a ρ h).bind fun x => (ev c b ρ x.2).bind fun y => ofO (seqOf x.1 y.2) fun w => ofO (seqOf y.1 y.2) fun w' => chk (decide (isTup x.1 = isTup y.1)) (.ok ((zipD w.1 w'.1, w.2 ++ w'.2), y.2)) := by rw [evI]
@[simp] theorem z_qval (e : CE) : evQ c (.val e) ρ h = (ev c e ρ h).bind fun x => ofO (seqH x.1 x.2) fun w => .ok (w.1, x.2) := by rw [evQ]
@[simp] theorem z_qtmp (l : CL) : evQ c (.tmp l) ρ h = evL c l ρ h := by rw [evQ]
@[simp] theorem z_name (i : Nat) (d : D) : asg c (.name i) d ρ h = .ok (ρ.set i (some d), h) := by rw [asg]
@[simp] theorem z_ttup (ts : CTs) (ds : List D) : asg c (.tup ts) (.tup ds) ρ h = asgs c ts ds ρ h := by rw [asg]
@[simp] theorem z_tsub (o i : CE) (d : D) : asg c (.sub o i) d ρ h = (ev c o ρ h).bind fun x => (ev c i ρ x.2).bind fun y => (storeV x.1 y.1 d y.2).bind fun h => .ok (ρ, h) := by rw [asg]
@[simp] theorem z_asg0 : asgs c .nil [] ρ h = .ok (ρ, h) := by rw [asgs]
@[simp] theorem z_asg1 (t : CT) (ts : CTs) (d : D) (ds : List D) : asgs c (.cons t ts) (d :: ds) ρ h = (asg c t d ρ h).bind fun s => asgs c ts ds s.1 s.2 := by rw [asgs]
@[simp] theorem z_lift {α : Type} (a : α) (k : α → R St) : lift ρ (.ok a) k = k a := (rfl)
@[simp] theorem z_liftx {α : Type} (n : Nat) (fs : List D) (k : α → R St) : lift ρ (.exc n fs h) k = .ok (.ex n fs, ρ, h) := (rfl)
@[simp] theorem z_bindx {α β : Type} (n : Nat) (fs : List D) (k : α → R β) : (R.exc n fs h).bind k = .exc n fs h := (rfl)
theorem c_lift {α : Type} {x y : R α} {k : α → R St} (e : x = y) : lift ρ x k = lift ρ y k := by rw [e]
@[simp] theorem z_xasg (t : CT) (e : CE) : exec c (.asg t e) ρ h = lift ρ (ev c e ρ h) fun x => (asg c t x.1 ρ x.2).nox.bind fun s => .ok (.nx, s.1, s.2) := by rw [exec]
def augV (c : Ctx) (i : Nat) (op : BOp) (e : CE) (ρ : Env) (h : Heap) : Option (Option D) → R St
  | some (some d) => lift ρ (ev c e ρ h) fun x => (opI op d x.1 x.2).bind fun y => .ok (.nx, ρ.set i (some y.1), y.2)
  | _ => .no
@[simp] theorem z_augV (i : Nat) (op : BOp) (e : CE) (d : D) : augV c i op e ρ h (some (some d)) = lift ρ (ev c e ρ h) fun x => (opI op d x.1 x.2).bind fun y => .ok (.nx, ρ.set i (some y.1), y.2) := (rfl)
@[simp] theorem z_aug (i : Nat) (op : BOp) (e : CE) : exec c (.aug i op e) ρ h = augV c i op e ρ h ρ[i]? := by
  rw [exec]
  rfl
@[simp] theorem z_ex (e : CE) : exec c (.ex e) ρ h = lift ρ (ev c e ρ h) fun x => .ok (.nx, ρ, x.2) := by rw [exec]
@[simp] theorem z_ret (e : CE) : exec c (.ret e) ρ h = lift ρ (ev c e ρ h) fun x => .ok (.rt x.1, ρ, x.2) := by rw [exec]
@[simp] theorem z_raise (k : Nat) (es : CEs) : exec c (.raise k es) ρ h = (evs c es ρ h).nox.bind fun x => .ok (.ex k x.1, ρ, x.2) := by rw [exec]
def trV (cl : List (List Nat × List Str)) (hs : List CH) : St → R St
  | (.ex k fs, ρ, h) => catchV cl k fs ρ h hs
  | s => .ok s
@[simp] theorem z_trx (cl : List (List Nat × List Str)) (hs : List CH) (k : Nat) (fs : List D) : trV cl hs (.ex k fs, ρ, h) = catchV cl k fs ρ h hs := (rfl)
@[simp] theorem z_trn (cl : List (List Nat × List Str)) (hs : List CH) : trV cl hs (.nx, ρ, h) = .ok (.nx, ρ, h) := (rfl)
@[simp] theorem z_trr (cl : List (List Nat × List Str)) (hs : List CH) (d : D) : trV cl hs (.rt d, ρ, h) = .ok (.rt d, ρ, h) := (rfl)
@[simp] theorem z_tr (b : CSs) (hs : List CH) : exec c (.tr b hs) ρ h = (execs c b ρ h).bind (trV c.cl hs) := by
  rw [exec]
  congr 1; funext x; rcases x with ⟨x, ρ, h⟩; cases x <;> rfl
@[simp] theorem z_catch0 (cl : List (List Nat × List Str)) (k : Nat) (fs : List D) : catchV cl k fs ρ h [] = .ok (.ex k fs, ρ, h) := (rfl)
@[simp] theorem z_catch1 (cl : List (List Nat × List Str)) (k : Nat) (fs : List D) (x : CH) (xs : List CH) : catchV cl k fs ρ h (x :: xs) = ofO cl[k]? fun l => if l.1.contains x.k = true then chk (wipeB ρ x.nm) (suV l.2 fs (wipeO ρ x.nm) h x.su) else catchV cl k fs ρ h xs := (rfl)
@[simp] theorem z_wB (i : Nat) : wipeB ρ (some i) = decide (i < ρ.length) := (rfl)
@[simp] theorem z_wB0 : wipeB ρ none = true := (rfl)
@[simp] theorem z_wO (i : Nat) : wipeO ρ (some i) = ρ.set i none := (rfl)
@[simp] theorem z_wO0 : wipeO ρ none = ρ := (rfl)
@[simp] theorem z_suR (fl : List Str) (fs : List D) (e : CX) : suV fl fs ρ h (.ret e) = ofO (cxV fl fs e) fun d => .ok (.rt d, ρ, h) := (rfl)
@[simp] theorem z_suA (fl : List Str) (fs : List D) (i : Nat) (e : CX) : suV fl fs ρ h (.asg i e) = ofO (cxV fl fs e) fun d => .ok (.nx, ρ.set i (some d), h) := (rfl)
@[simp] theorem z_cxa (fl : List Str) (fs : List D) (a : CAt) : cxV fl fs (.at a) = atV fl fs a := (rfl)
@[simp] theorem z_cxt (fl : List Str) (fs : List D) (as : List CAt) : cxV fl fs (.tup as) = (atsV fl fs as).map D.tup := (rfl)
@[simp] theorem z_ats0 (fl : List Str) (fs : List D) : atsV fl fs [] = some [] := (rfl)
@[simp] theorem z_ats1 (fl : List Str) (fs : List D) (a : CAt) (as : List CAt) : atsV fl fs (a :: as) = (atV fl fs a).bind fun d => (atsV fl fs as).map (d :: ·) := (rfl)
@[simp] theorem z_atS (fl : List Str) (fs : List D) (s : Str) : atV fl fs (.str s) = some (.str s) := (rfl)
@[simp] theorem z_atI (fl : List Str) (fs : List D) (s : Int) : atV fl fs (.int s) = some (.int s) := (rfl)
@[simp] theorem z_atB (fl : List Str) (fs : List D) (s : Bool) : atV fl fs (.bl s) = some (.bl s) := (rfl)
@[simp] theorem z_atN (fl : List Str) (fs : List D) : atV fl fs .non = some .non := (rfl)
@[simp] theorem z_atF (fl : List Str) (fs : List D) (f : Str) : atV fl fs (.fld f) = fldV fl fs f := (rfl)
@[simp] theorem z_fld (g : Str) (gs : List Str) (d : D) (ds : List D) (f : Str) : fldV (g :: gs) (d :: ds) f = if g = f then some d else fldV gs ds f := (rfl)
@[simp] theorem z_retN : exec c .retN ρ h = .ok (.rt .non, ρ, h) := by rw [exec]
@[simp] theorem z_xite (t : CB) (a b : CSs) : exec c (.ite t a b) ρ h = lift ρ (tv c t ρ h) fun x => iteV x.1 (execs c a ρ x.2) (execs c b ρ x.2) := by
  rw [exec]
  congr 1; funext x; rcases x with ⟨x, h⟩; cases x <;> rfl
@[simp] theorem z_xs0 : execs c .nil ρ h = .ok (.nx, ρ, h) := by rw [execs]
def nxV (c : Ctx) (r : CSs) : St → R St
  | (.nx, ρ, h) => execs c r ρ h
  | s => .ok s
@[simp] theorem z_nx (r : CSs) : nxV c r (.nx, ρ, h) = execs c r ρ h := (rfl)
@[simp] theorem z_nrt (r : CSs) (d : D) : nxV c r (.rt d, ρ, h) = .ok (.rt d, ρ, h) := (rfl)
@[simp] theorem z_nbk (r : CSs) : nxV c r (.bk, ρ, h) = .ok (.bk, ρ, h) := (rfl)
@[simp] theorem z_nex (r : CSs) (k : Nat) (fs : List D) : nxV c r (.ex k fs, ρ, h) = .ok (.ex k fs, ρ, h) := (rfl)
@[simp] theorem z_nct (r : CSs) : nxV c r (.ct, ρ, h) = .ok (.ct, ρ, h) := (rfl)
@[simp] theorem z_xs1 (s : CS) (r : CSs) : execs c (.cons s r) ρ h = (exec c s ρ h).bind (nxV c r) := by
  rw [execs]
  congr 1; funext x; rcases x with ⟨x, ρ, h⟩; cases x <;> rfl
@[simp] theorem z_finR (h0 : Heap) (d : D) : fin h0 (.rt d, ρ, h) = .ok (tidy h0 (d, h)) := (rfl)
theorem tidy_fst (h : Heap) (r : D × Heap) : (tidy h r).1 = r.1 := by
  unfold tidy
  split <;> rfl
@[simp] theorem z_finX (h0 : Heap) (k : Nat) (fs : List D) : fin h0 (.ex k fs, ρ, h) = .exc k fs (tidy h0 (.tup fs, h)).2 := (rfl)
@[simp] theorem z_finN (h0 : Heap) : fin h0 (.nx, ρ, h) = .ok (tidy h0 (.non, h)) := (rfl)
@[simp] theorem z_tidy (h : Heap) (d : D) : tidy h (d, h) = (d, h) := tidy_id h d
/-! ### operations -/
@[simp] theorem z_add (i j : Int) : opB .add (.int i) (.int j) h = .ok (.int (i + j), h) := (rfl)
@[simp] theorem z_sub (i j : Int) : opB .sub (.int i) (.int j) h = .ok (.int (i - j), h) := (rfl)
@[simp] theorem z_mul (i j : Int) : opB .mul (.int i) (.int j) h = chk (small i || small j) (.ok (.int (i * j), h)) := (rfl)
@[simp] theorem z_mod (i j : Int) : opB .mod (.int i) (.int j) h = chk (decide (0 < j)) (.ok (.int (i % j), h)) := (rfl)
@[simp] theorem z_fdiv (i j : Int) : opB .fdiv (.int i) (.int j) h = chk (decide (0 < j) && decide (j < 1073741824)) (.ok (.int (i / j), h)) := (rfl)
@[simp] theorem z_tmul (a : List D) (k : Int) : opB .mul (.tup a) (.int k) h = chk (decide (0 ≤ k) && decide (k ≤ 1000) && decide (0 < a.length) && decide (a.length ≤ 1000)) (.ok (.tup (List.replicate k.toNat a).flatten, h)) := (rfl)
@[simp] theorem z_catL (xs ys : List D) : catL h (some (.lst xs)) (some (.lst ys)) = chk (decide (xs.length + ys.length ≤ LIM)) (.ok (.ref h.length, h ++ [.lst (xs ++ ys)])) := (rfl)
@[simp] theorem z_ladd (m k : Nat) : opB .add (.ref m) (.ref k) h = catL h h[m]? h[k]? := (rfl)
@[simp] theorem z_tadd (a b : List D) : opB .add (.tup a) (.tup b) h = chk (decide (a.length + b.length ≤ LIM)) (.ok (.tup (a ++ b), h)) := (rfl)
@[simp] theorem z_pow (i j : Int) : opB .pow (.int i) (.int j) h = chk (decide (-1000 ≤ i) && decide (i ≤ 1000) && decide (0 ≤ j) && decide (j ≤ 1000)) (.ok (.int (i ^ j.toNat), h)) := (rfl)
@[simp] theorem z_shl (i j : Int) : opB .shl (.int i) (.int j) h = chk (decide (i = 1) && decide (0 ≤ j) && decide (j ≤ 100000)) (.ok (.int (2 ^ j.toNat), h)) := (rfl)
@[simp] theorem z_iadd (i j : Int) : opI .add (.int i) (.int j) h = .ok (.int (i + j), h) := (rfl)
@[simp] theorem z_isub (i j : Int) : opI .sub (.int i) (.int j) h = .ok (.int (i - j), h) := (rfl)
@[simp] theorem z_imul (i j : Int) : opI .mul (.int i) (.int j) h = chk (small i || small j) (.ok (.int (i * j), h)) := (rfl)
@[simp] theorem z_ceq (x y : D) : opC .eq x y h = ofO (eqs x y) fun b => .ok (.bl b, h) := (rfl)
@[simp] theorem z_cne (x y : D) : opC .ne x y h = ofO (eqs x y) fun b => .ok (.bl (!b), h) := (rfl)
@[simp] theorem z_clt (i j : Int) : opC .lt (.int i) (.int j) h = .ok (.bl (decide (i < j)), h) := (rfl)
@[simp] theorem z_cle (i j : Int) : opC .le (.int i) (.int j) h = .ok (.bl (decide (i ≤ j)), h) := (rfl)
@[simp] theorem z_cgt (i j : Int) : opC .gt (.int i) (.int j) h = .ok (.bl (decide (j < i)), h) := (rfl)
@[simp] theorem z_cge (i j : Int) : opC .ge (.int i) (.int j) h = .ok (.bl (decide (j ≤ i)), h) := (rfl)
@[simp] theorem z_cin (x y : D) : opC .isin x y h = inB false x y h := (rfl)
@[simp] theorem z_cnin (x y : D) : opC .notin x y h = inB true x y h := (rfl)
@[simp] theorem z_eqi (i j : Int) : eqs (.int i) (.int j) = some (decide (i = j)) := (rfl)
@[simp] theorem z_eqb (i j : Bool) : eqs (.bl i) (.bl j) = some (decide (i = j)) := (rfl)
@[simp] theorem z_eqs (i j : Str) : eqs (.str i) (.str j) = some (decide (i = j)) := (rfl)
/-- == of tuples: as deep data -/
theorem z_eqt (a b : List D) : eqs (.tup a) (.tup b) = if (D.deep DEEP (.tup a) && D.deep DEEP (.tup b)) = true then some (eqds a b) else none := (rfl)
@[simp] theorem z_tb (b : Bool) : truth (.bl b) h = some b := (rfl)
@[simp] theorem z_ti (i : Int) : truth (.int i) h = some (decide (i ≠ 0)) := (rfl)
@[simp] theorem z_ixstr (s : Str) (i : Int) : idxV (.str s) (.int i) h = chk (decide (s.length ≤ LIM)) (ofO (nth s.cps.toList i) fun k => .ok (.str ⟨#[k]⟩, h)) := (rfl)
@[simp] theorem z_ix (ds : List D) (i : Int) : idxV (.tup ds) (.int i) h = ofO (nth ds i) fun d => .ok (d, h) := (rfl)
@[simp] theorem z_ixs (ds : List D) (i : Int) : idxV (.seq ds) (.int i) h = ofO (nth ds i) fun d => .ok (d, h) := (rfl)
def ixV (h : Heap) : Option O → D → R (D × Heap)
  | some (.lst xs), .int i => ofO (nth xs i) fun d => .ok (d, h)
  | some (.dct kvs), i => ofO (keyOf i) fun k => ofO (findV kvs k) fun d => .ok (d, h)
  | some (.dtt kvs), i => ofO (keyT i) fun k => ofO (findV kvs k) fun d => .ok (d, h)
  | _, _ => .no
@[simp] theorem z_ixV3 (kvs : List (List Key × D)) (i : D) : ixV h (some (.dtt kvs)) i = ofO (keyT i) fun k => ofO (findV kvs k) fun d => .ok (d, h) := by cases i <;> rfl
@[simp] theorem z_ixV1 (xs : List D) (i : Int) : ixV h (some (.lst xs)) (.int i) = ofO (nth xs i) fun d => .ok (d, h) := (rfl)
@[simp] theorem z_ixV2 (kvs : List (Key × D)) (i : D) : ixV h (some (.dct kvs)) i = ofO (keyOf i) fun k => ofO (findV kvs k) fun d => .ok (d, h) := by cases i <;> rfl
@[simp] theorem z_ixr (n : Nat) (i : D) : idxV (.ref n) i h = ixV h h[n]? i := by
  cases e : h[n]? with
  | none => simp [idxV, ixV, e]
  | some o => cases o <;> cases i <;> simp [idxV, ixV, e]
def stV (h : Heap) (n : Nat) (v : D) : Option O → D → R Heap
  | some (.lst xs), .int i => ofO (nix xs.length i) fun j => .ok (h.set n (.lst (xs.set j v)))
  | some (.dct kvs), i => ofO (keyOf i) fun k => chk (decide (kvs.length < LIM)) (.ok (h.set n (.dct (putV kvs k v))))
  | some (.dtt kvs), i => ofO (keyT i) fun k => chk (decide (kvs.length < LIM)) (.ok (h.set n (.dtt (putV kvs k v))))
  | _, _ => .no
@[simp] theorem z_stV3 (n : Nat) (v : D) (kvs : List (List Key × D)) (i : D) : stV h n v (some (.dtt kvs)) i = ofO (keyT i) fun k => chk (decide (kvs.length < LIM)) (.ok (h.set n (.dtt (putV kvs k v)))) := by cases i <;> rfl
@[simp] theorem z_stV1 (n : Nat) (v : D) (xs : List D) (i : Int) : stV h n v (some (.lst xs)) (.int i) = ofO (nix xs.length i) fun j => .ok (h.set n (.lst (xs.set j v))) := (rfl)
@[simp] theorem z_stV2 (n : Nat) (v : D) (kvs : List (Key × D)) (i : D) : stV h n v (some (.dct kvs)) i = ofO (keyOf i) fun k => chk (decide (kvs.length < LIM)) (.ok (h.set n (.dct (putV kvs k v)))) := by cases i <;> rfl
@[simp] theorem z_st (n : Nat) (i v : D) : storeV (.ref n) i v h = stV h n v h[n]? i := by
  cases e : h[n]? with
  | none => simp [storeV, stV, e]
  | some o => cases o <;> cases i <;> simp [storeV, stV, e]
@[simp] theorem z_biint (i : Int) : biV .int [.int i] h = .ok (.int i, h) := (rfl)
@[simp] theorem z_bibl (b : Bool) : biV .int [.bl b] h = .ok (.int (if b then 1 else 0), h) := (rfl)
@[simp] theorem z_bimin (i j : Int) : biV .min2 [.int i, .int j] h = .ok (.int (if j < i then j else i), h) := (rfl)
@[simp] theorem z_len (ds : List D) : sqV .len ds h = .ok (.int ds.length, h) := (rfl)
@[simp] theorem z_tuple (ds : List D) : sqV .tuple ds h = .ok (.tup ds, h) := (rfl)
@[simp] theorem z_sum (n : Nat) (f : Nat → Int) : sqV .sum (intz n f) h = .ok (.int (sm n f), h) := sum_ints n f h
@[simp] theorem z_sqHt (ds : List D) : seqH (.tup ds) h = some (ds, []) := (rfl)
@[simp] theorem z_sqHs (ds : List D) : seqH (.seq ds) h = some (ds, []) := (rfl)
@[simp] theorem z_seqt (ds : List D) : seqOf (.tup ds) h = some (ds, []) := (rfl)
@[simp] theorem z_seqs (ds : List D) : seqOf (.seq ds) h = some (ds, []) := (rfl)
def seV (n : Nat) : Option O → Option Walk
  | some (.lst xs) => some (xs, [(n, .lst xs)])
  | _ => none
@[simp] theorem z_seV (n : Nat) (xs : List D) : seV n (some (.lst xs)) = some (xs, [(n, .lst xs)]) := (rfl)
@[simp] theorem z_seqr (n : Nat) : seqOf (.ref n) h = seV n h[n]? := by
  unfold seqOf seV
  rfl
@[simp] theorem z_sqHr (n : Nat) : seqH (.ref n) h = seV n h[n]? := by
  unfold seqH seV
  rfl
def ilV : Option O → Bool
  | some (.lst _) => true
  | _ => false
@[simp] theorem z_ilV (xs : List D) : ilV (some (.lst xs)) = true := (rfl)
@[simp] theorem z_isl (n : Nat) : isLst (.ref n) h = ilV h[n]? := (rfl)
def apV (h : Heap) (n : Nat) (v : D) : Option O → R (D × Heap)
  | some (.lst xs) => chk (decide (xs.length < LIM)) (.ok (.non, h.set n (.lst (xs ++ [v]))))
  | _ => .no
@[simp] theorem z_apV (n : Nat) (v : D) (xs : List D) : apV h n v (some (.lst xs)) = chk (decide (xs.length < LIM)) (.ok (.non, h.set n (.lst (xs ++ [v])))) := (rfl)
@[simp] theorem z_appV (n : Nat) (v : D) : appV (.ref n) v h = apV h n v h[n]? := (rfl)
def exV (h : Heap) (n : Nat) (vs : List D) : Option O → R (D × Heap)
  | some (.lst xs) => chk (decide (xs.length + vs.length ≤ LIM)) (.ok (.non, h.set n (.lst (xs ++ vs))))
  | _ => .no
@[simp] theorem z_exV (n : Nat) (vs : List D) (xs : List D) : exV h n vs (some (.lst xs)) = chk (decide (xs.length + vs.length ≤ LIM)) (.ok (.non, h.set n (.lst (xs ++ vs)))) := (rfl)
@[simp] theorem z_extV (n : Nat) (vs : List D) : extV (.ref n) vs h = exV h n vs h[n]? := (rfl)
@[simp] theorem z_wipe0 : wipeE ρ [] = ρ := (rfl)
@[simp] theorem z_wipe1 (v : Nat) (vs : List Nat) : wipeE ρ (v :: vs) = (wipeE ρ vs).set v none := (rfl)
@[simp] theorem z_sl1 (i : Nat) : CT.slots (.name i) = [i] := by rw [CT.slots]
@[simp] theorem z_sl2 (ts : CTs) : CT.slots (.tup ts) = ts.slots := by rw [CT.slots]
@[simp] theorem z_sl3 : CTs.slots .nil = [] := by rw [CTs.slots]
@[simp] theorem z_sl4 (t : CT) (ts : CTs) : CTs.slots (.cons t ts) = t.slots ++ ts.slots := by rw [CTs.slots]
@[simp] theorem z_hap (l : Heap) (k : Nat) : (h ++ l)[h.length + k]? = l[k]? := get_app h l k
@[simp] theorem z_hap0 (l : Heap) : (h ++ l)[h.length]? = l[0]? := get_app0 h l
@[simp] theorem z_hst (l : Heap) (k : Nat) (o : O) : (h ++ l).set (h.length + k) o = h ++ l.set k o := set_app h l k o
@[simp] theorem z_hst0 (l : Heap) (o : O) : (h ++ l).set h.length o = h ++ l.set 0 o := set_app0 h l o
@[simp] theorem z_nlen (n : Nat) (f : Nat → Int) : (intz n f).length = n := ints_len n f
@[simp] theorem z_trow (g : Heap) (n : Nat) (f : Nat → Int) : tidy h (.tup (intz n f), h ++ g) = (.tup (intz n f), h) := tidy_app h g _ (low_row _ n f)
@[simp] theorem z_tint (g : Heap) (i : Int) : tidy h (.int i, h ++ g) = (.int i, h) := tidy_app h g _ rfl
@[simp] theorem z_tbool (g : Heap) (i : Bool) : tidy h (.bl i, h ++ g) = (.bl i, h) := tidy_app h g _ rfl
end
/-- a row's item at x, counted around -/
def cy (n : Nat) (f : Nat → Int) (x : Int) : Int := f (x % n).toNat
theorem z_cy {n : Nat} (hn : 0 < n) (f : Nat → Int) (x : Int) : nth (intz n f) (x % (n : Int)) = some (.int (cy n f x)) := by
  have h0 : 0 ≤ x % (n : Int) := Int.emod_nonneg _ (by omega)
  have h1 : x % (n : Int) < n := Int.emod_lt_of_pos _ (by omega)
  exact ints_nth h0 h1
theorem rok {n : Nat} (h : n < 1000000) : rngOk (n : Int) = true := by
  unfold rngOk
  rw [decide_eq_true (by omega), decide_eq_true (by omega)]
  rfl
/-! ### comprehensions -/
theorem comp_rng {c : Ctx} {ρ : Env} {h : Heap} {e : CE} {i : Nat} {it : CI} (n : Nat) (G : Nat → D) (hit : evI c it ρ h = .ok ((rngD 0 n, []), h)) (hn : n < LIM)
    (hf : ∀ j, j < n → ev c e ((ρ.set i none).set i (some (.int (j : Nat)))) h = .ok (G j, h)) :
    evL c (.comp e (.name i) it .none) ρ h = .ok ((List.range n).map G, h) := by
  rw [evL, hit]
  show chk (decide ((rngD 0 n).length < LIM)) _ = _
  rw [rngD_len, decide_eq_true hn]
  refine lc_rng n G (fun j hj => ?_)
  simp only [asg, CT.slots, wipeE, R.bind, tvO, hf j hj]
theorem comp_items {c : Ctx} {ρ : Env} {h : Heap} {e : CE} {i : Nat} {it : CI} (xs : List D) (G : Nat → D) (hit : evI c it ρ h = .ok ((xs, []), h)) (hn : xs.length < LIM)
    (hf : ∀ j x, xs[j]? = some x → ev c e ((ρ.set i none).set i (some x)) h = .ok (G j, h)) :
    evL c (.comp e (.name i) it .none) ρ h = .ok ((List.range xs.length).map G, h) := by
  rw [evL, hit]
  show chk (decide (xs.length < LIM)) _ = _
  rw [decide_eq_true hn]
  refine lc_items xs G (fun j x hj => ?_)
  simp only [asg, CT.slots, wipeE, R.bind, tvO, hf j x hj]
theorem zipI_get : ∀ {n : Nat} {f g : Nat → Int} {j : Nat} {x : D}, (zipD (intz n f) (intz n g))[j]? = some x → j < n ∧ x = .tup [.int (f j), .int (g j)] := by
  have key : ∀ (l : List Nat) (f g : Nat → Int), zipD (l.map fun i => D.int (f i)) (l.map fun i => D.int (g i)) = l.map fun i => D.tup [.int (f i), .int (g i)] := by
    intro l f g
    induction l with
    | nil => rfl
    | cons a l ih => simp only [List.map_cons, zipD, ih]
  intro n f g j x h
  unfold intz at h
  rw [key, List.getElem?_map] at h
  by_cases hi : j < n
  · simp [hi] at h
    exact ⟨hi, h.symm⟩
  · simp [hi] at h
theorem zipI_len (n : Nat) (f g : Nat → Int) : (zipD (intz n f) (intz n g)).length = n := by
  have key : ∀ (l : List Nat) (f g : Nat → Int), zipD (l.map fun i => D.int (f i)) (l.map fun i => D.int (g i)) = l.map fun i => D.tup [.int (f i), .int (g i)] := by
    intro l f g
    induction l with
    | nil => rfl
    | cons a l ih => simp only [List.map_cons, zipD, ih]
  unfold intz
  rw [key]
  simp
theorem enumI_get {n : Nat} {f : Nat → Int} {j : Nat} {x : D} (h : (enumD 0 (intz n f))[j]? = some x) : j < n ∧ x = .tup [.int (j : Nat), .int (f j)] := by
  have key : ∀ (l : List D) (k j : Nat), (enumD k l)[j]? = (l[j]?).map fun d => D.tup [.int ((k + j : Nat) : Int), d] := by
    intro l
    induction l with
    | nil => intro k j; simp [enumD]
    | cons a l ih =>
      intro k j
      cases j with
      | zero => simp [enumD]
      | succ j =>
        simp only [enumD, List.getElem?_cons_succ, ih]
        rw [show k + 1 + j = k + (j + 1) by omega]
  rw [key] at h
  by_cases hi : j < n
  · rw [ints_get hi] at h
    simp at h
    exact ⟨hi, by rw [← h]⟩
  · have : (intz n f)[j]? = none := by simp [intz]; omega
    rw [this] at h
    simp at h
theorem enumD_len (l : List D) (k : Nat) : (enumD k l).length = l.length := by
  induction l generalizing k with
  | nil => rfl
  | cons a l ih => simp [enumD, ih]
theorem comp_ints {c : Ctx} {ρ : Env} {h : Heap} {e : CE} {i : Nat} {it : CI} (n : Nat) (g : Nat → Int) (hit : evI c it ρ h = .ok ((rngD 0 n, []), h)) (hn : n < LIM)
    (hf : ∀ j, j < n → ev c e ((ρ.set i none).set i (some (.int (j : Nat)))) h = .ok (.int (g j), h)) :
    evL c (.comp e (.name i) it .none) ρ h = .ok (intz n g, h) := comp_rng n (fun j => .int (g j)) hit hn hf
theorem comp_row {c : Ctx} {ρ : Env} {h : Heap} {e : CE} {i : Nat} {it : CI} (n : Nat) (f g : Nat → Int) (hit : evI c it ρ h = .ok ((intz n f, []), h)) (hn : n < LIM)
    (hf : ∀ j, j < n → ev c e ((ρ.set i none).set i (some (.int (f j)))) h = .ok (.int (g j), h)) :
    evL c (.comp e (.name i) it .none) ρ h = .ok (intz n g, h) := by
  rw [comp_items (intz n f) (fun j => .int (g j)) hit (by rwa [ints_len]) (fun j x hx => by
    obtain ⟨h1, rfl⟩ := ints_some hx
    exact hf j h1), ints_len]
  rfl
theorem comp_pair {c : Ctx} {ρ : Env} {h : Heap} {e : CE} {t : CT} {it : CI} (xs : List D) (G : Nat → D) (hit : evI c it ρ h = .ok ((xs, []), h)) (hn : xs.length < LIM)
    (hf : ∀ j x, xs[j]? = some x → ((asg c t x (wipeE ρ t.slots) h).bind fun s => (ev c e s.1 s.2).bind fun y => .ok (some y.1, y.2)) = .ok (some (G j), h)) :
    evL c (.comp e t it .none) ρ h = .ok ((List.range xs.length).map G, h) := by
  rw [evL, hit]
  show chk (decide (xs.length < LIM)) _ = _
  rw [decide_eq_true hn]
  refine lc_items xs G (fun j x hj => ?_)
  rw [← hf j x hj]
  simp only [tvO, R.bind]
theorem comp_zip {c : Ctx} {ρ : Env} {h : Heap} {e : CE} {t : CT} {it : CI} (n : Nat) (f f' g : Nat → Int) (hit : evI c it ρ h = .ok ((zipD (intz n f) (intz n f'), []), h)) (hn : n < LIM)
    (hf : ∀ j, j < n → ((asg c t (.tup [.int (f j), .int (f' j)]) (wipeE ρ t.slots) h).bind fun s => (ev c e s.1 s.2).bind fun y => .ok (some y.1, y.2)) = .ok (some (.int (g j)), h)) :
    evL c (.comp e t it .none) ρ h = .ok (intz n g, h) := by
  rw [comp_pair (zipD (intz n f) (intz n f')) (fun j => .int (g j)) hit (by rwa [zipI_len]) (fun j x hx => by
    obtain ⟨h1, rfl⟩ := zipI_get hx
    exact hf j h1), zipI_len]
  rfl
theorem comp_enum {c : Ctx} {ρ : Env} {h : Heap} {e : CE} {t : CT} {it : CI} (n : Nat) (f g : Nat → Int) (hit : evI c it ρ h = .ok ((enumD 0 (intz n f), []), h)) (hn : n < LIM)
    (hf : ∀ j : Nat, j < n → ((asg c t (.tup [.int j, .int (f j)]) (wipeE ρ t.slots) h).bind fun s => (ev c e s.1 s.2).bind fun y => .ok (some y.1, y.2)) = .ok (some (.int (g j)), h)) :
    evL c (.comp e t it .none) ρ h = .ok (intz n g, h) := by
  rw [comp_pair (enumD 0 (intz n f)) (fun j => .int (g j)) hit (by rwa [enumD_len, ints_len]) (fun j x hx => by
    obtain ⟨h1, rfl⟩ := enumI_get hx
    exact hf j h1), enumD_len, ints_len]
  rfl
/-! ### statements -/
theorem loop_rng {c : Ctx} {ρ : Env} {h h1 : Heap} {t : CT} {it : CI} {b : CSs} (n : Nat) (hit : evI c it ρ h = .ok ((rngD 0 n, []), h1)) (Inv : Nat → Env → Heap → Prop) (h0 : Inv 0 ρ h1)
    (hf : ∀ (i : Nat) ρ h, i < n → Inv i ρ h → ∃ ρ' h', ((asg c t (.int i) ρ h).nox.bind fun s => execs c b s.1 s.2) = .ok (.nx, ρ', h') ∧ Inv (i + 1) ρ' h') :
    ∃ ρ' h', exec c (.loop t it b) ρ h = .ok (.nx, ρ', h') ∧ Inv n ρ' h' := by
  rw [exec, hit]
  exact for_rng n Inv h0 hf
theorem loop_items {c : Ctx} {ρ : Env} {h h1 : Heap} {t : CT} {it : CI} {b : CSs} (xs : List D) (hit : evI c it ρ h = .ok ((xs, []), h1)) (Inv : Nat → Env → Heap → Prop) (h0 : Inv 0 ρ h1)
    (hf : ∀ (i : Nat) (x : D) ρ h, xs[i]? = some x → Inv i ρ h → ∃ ρ' h', ((asg c t x ρ h).nox.bind fun s => execs c b s.1 s.2) = .ok (.nx, ρ', h') ∧ Inv (i + 1) ρ' h') :
    ∃ ρ' h', exec c (.loop t it b) ρ h = .ok (.nx, ρ', h') ∧ Inv xs.length ρ' h' := by
  rw [exec, hit]
  exact for_items xs Inv h0 hf
theorem while_run {c : Ctx} {ρ : Env} {h : Heap} {t : CB} {b : CSs} (Inv : Nat → Env → Heap → Prop) (Q : Env → Heap → Prop) (m : Nat) (hm : m < FUEL) (h0 : Inv m ρ h)
    (step : ∀ m ρ h, Inv m ρ h → (tv c t ρ h = .ok (false, h) ∧ Q ρ h) ∨ (tv c t ρ h = .ok (true, h) ∧ ∃ m' ρ' h', m' < m ∧ execs c b ρ h = .ok (.nx, ρ', h') ∧ Inv m' ρ' h')) :
    ∃ ρ' h', exec c (.wh t b) ρ h = .ok (.nx, ρ', h') ∧ Q ρ' h' := by
  rw [exec]
  exact whL_run Inv Q step FUEL m ρ h h0 hm
theorem go_rng {β : Type} {P : R β → Prop} {F : St → R β} {c : Ctx} {ρ : Env} {h h1 : Heap} {t : CT} {it : CI} {b : CSs} (n : Nat) (Inv : Nat → Env → Heap → Prop) (hit : evI c it ρ h = .ok ((rngD 0 n, []), h1)) (h0 : Inv 0 ρ h1)
    (hf : ∀ (i : Nat) ρ h, i < n → Inv i ρ h → ∃ ρ' h', ((asg c t (.int i) ρ h).nox.bind fun s => execs c b s.1 s.2) = .ok (.nx, ρ', h') ∧ Inv (i + 1) ρ' h')
    (next : ∀ ρ' h', Inv n ρ' h' → P (F (.nx, ρ', h'))) : P ((exec c (.loop t it b) ρ h).bind F) := by
  obtain ⟨ρ', h', e, q⟩ := loop_rng (b := b) (t := t) n hit Inv h0 hf
  rw [e]
  exact next ρ' h' q
theorem go_items {β : Type} {P : R β → Prop} {F : St → R β} {c : Ctx} {ρ : Env} {h h1 : Heap} {t : CT} {it : CI} {b : CSs} (xs : List D) (Inv : Nat → Env → Heap → Prop) (hit : evI c it ρ h = .ok ((xs, []), h1)) (h0 : Inv 0 ρ h1)
    (hf : ∀ (i : Nat) (x : D) ρ h, xs[i]? = some x → Inv i ρ h → ∃ ρ' h', ((asg c t x ρ h).nox.bind fun s => execs c b s.1 s.2) = .ok (.nx, ρ', h') ∧ Inv (i + 1) ρ' h')
    (next : ∀ ρ' h', Inv xs.length ρ' h' → P (F (.nx, ρ', h'))) : P ((exec c (.loop t it b) ρ h).bind F) := by
  obtain ⟨ρ', h', e, q⟩ := loop_items (b := b) (t := t) xs hit Inv h0 hf
  rw [e]
  exact next ρ' h' q
theorem go_while {β : Type} {P : R β → Prop} {F : St → R β} {c : Ctx} {ρ : Env} {h : Heap} {t : CB} {b : CSs} (m : Nat) (Inv : Nat → Env → Heap → Prop) (Q : Env → Heap → Prop) (hm : m < FUEL) (h0 : Inv m ρ h)
    (step : ∀ m ρ h, Inv m ρ h → (tv c t ρ h = .ok (false, h) ∧ Q ρ h) ∨ (tv c t ρ h = .ok (true, h) ∧ ∃ m' ρ' h', m' < m ∧ execs c b ρ h = .ok (.nx, ρ', h') ∧ Inv m' ρ' h'))
    (next : ∀ ρ' h', Q ρ' h' → P (F (.nx, ρ', h'))) : P ((exec c (.wh t b) ρ h).bind F) := by
  obtain ⟨ρ', h', e, q⟩ := while_run (t := t) (b := b) Inv Q m hm h0 step
  rw [e]
  exact next ρ' h' q
theorem go_rngE {β : Type} {X : R β} {F : St → R β} {c : Ctx} {ρ : Env} {h h1 : Heap} {t : CT} {it : CI} {b : CSs} (n : Nat) (Inv : Nat → Env → Heap → Prop) (hit : evI c it ρ h = .ok ((rngD 0 n, []), h1)) (h0 : Inv 0 ρ h1)
    (hf : ∀ (i : Nat) ρ h, i < n → Inv i ρ h → ∃ ρ' h', ((asg c t (.int i) ρ h).nox.bind fun s => execs c b s.1 s.2) = .ok (.nx, ρ', h') ∧ Inv (i + 1) ρ' h')
    (next : ∀ ρ' h', Inv n ρ' h' → F (.nx, ρ', h') = X) : (exec c (.loop t it b) ρ h).bind F = X := go_rng (P := fun r => r = X) n Inv hit h0 hf next
theorem go_itemsE {β : Type} {X : R β} {F : St → R β} {c : Ctx} {ρ : Env} {h h1 : Heap} {t : CT} {it : CI} {b : CSs} (xs : List D) (Inv : Nat → Env → Heap → Prop) (hit : evI c it ρ h = .ok ((xs, []), h1)) (h0 : Inv 0 ρ h1)
    (hf : ∀ (i : Nat) (x : D) ρ h, xs[i]? = some x → Inv i ρ h → ∃ ρ' h', ((asg c t x ρ h).nox.bind fun s => execs c b s.1 s.2) = .ok (.nx, ρ', h') ∧ Inv (i + 1) ρ' h')
    (next : ∀ ρ' h', Inv xs.length ρ' h' → F (.nx, ρ', h') = X) : (exec c (.loop t it b) ρ h).bind F = X := go_items (P := fun r => r = X) xs Inv hit h0 hf next
theorem go_whileE {β : Type} {X : R β} {F : St → R β} {c : Ctx} {ρ : Env} {h : Heap} {t : CB} {b : CSs} (m : Nat) (Inv : Nat → Env → Heap → Prop) (Q : Env → Heap → Prop) (hm : m < FUEL) (h0 : Inv m ρ h)
    (step : ∀ m ρ h, Inv m ρ h → (tv c t ρ h = .ok (false, h) ∧ Q ρ h) ∨ (tv c t ρ h = .ok (true, h) ∧ ∃ m' ρ' h', m' < m ∧ execs c b ρ h = .ok (.nx, ρ', h') ∧ Inv m' ρ' h'))
    (next : ∀ ρ' h', Q ρ' h' → F (.nx, ρ', h') = X) : (exec c (.wh t b) ρ h).bind F = X := go_while (P := fun r => r = X) m Inv Q hm h0 step next
/-- loops within loops -/
theorem in_rng {F : St → R St} {J : Env → Heap → Prop} {c : Ctx} {ρ : Env} {h h1 : Heap} {t : CT} {it : CI} {b : CSs} (n : Nat) (Inv : Nat → Env → Heap → Prop) (hit : evI c it ρ h = .ok ((rngD 0 n, []), h1)) (h0 : Inv 0 ρ h1)
    (hf : ∀ (i : Nat) ρ h, i < n → Inv i ρ h → ∃ ρ' h', ((asg c t (.int i) ρ h).nox.bind fun s => execs c b s.1 s.2) = .ok (.nx, ρ', h') ∧ Inv (i + 1) ρ' h')
    (next : ∀ ρ' h', Inv n ρ' h' → ∃ ρ2 h2, F (.nx, ρ', h') = .ok (.nx, ρ2, h2) ∧ J ρ2 h2) : ∃ ρ2 h2, (exec c (.loop t it b) ρ h).bind F = .ok (.nx, ρ2, h2) ∧ J ρ2 h2 := go_rng (P := fun r : R St => ∃ (ρ2 : Env) (h2 : Heap), r = R.ok (Fl.nx, ρ2, h2) ∧ J ρ2 h2) n Inv hit h0 hf next
theorem in_items {F : St → R St} {J : Env → Heap → Prop} {c : Ctx} {ρ : Env} {h h1 : Heap} {t : CT} {it : CI} {b : CSs} (xs : List D) (Inv : Nat → Env → Heap → Prop) (hit : evI c it ρ h = .ok ((xs, []), h1)) (h0 : Inv 0 ρ h1)
    (hf : ∀ (i : Nat) (x : D) ρ h, xs[i]? = some x → Inv i ρ h → ∃ ρ' h', ((asg c t x ρ h).nox.bind fun s => execs c b s.1 s.2) = .ok (.nx, ρ', h') ∧ Inv (i + 1) ρ' h')
    (next : ∀ ρ' h', Inv xs.length ρ' h' → ∃ ρ2 h2, F (.nx, ρ', h') = .ok (.nx, ρ2, h2) ∧ J ρ2 h2) : ∃ ρ2 h2, (exec c (.loop t it b) ρ h).bind F = .ok (.nx, ρ2, h2) ∧ J ρ2 h2 := go_items (P := fun r : R St => ∃ (ρ2 : Env) (h2 : Heap), r = R.ok (Fl.nx, ρ2, h2) ∧ J ρ2 h2) xs Inv hit h0 hf next
theorem in_while {F : St → R St} {J : Env → Heap → Prop} {c : Ctx} {ρ : Env} {h : Heap} {t : CB} {b : CSs} (m : Nat) (Inv : Nat → Env → Heap → Prop) (Q : Env → Heap → Prop) (hm : m < FUEL) (h0 : Inv m ρ h)
    (step : ∀ m ρ h, Inv m ρ h → (tv c t ρ h = .ok (false, h) ∧ Q ρ h) ∨ (tv c t ρ h = .ok (true, h) ∧ ∃ m' ρ' h', m' < m ∧ execs c b ρ h = .ok (.nx, ρ', h') ∧ Inv m' ρ' h'))
    (next : ∀ ρ' h', Q ρ' h' → ∃ ρ2 h2, F (.nx, ρ', h') = .ok (.nx, ρ2, h2) ∧ J ρ2 h2) : ∃ ρ2 h2, (exec c (.wh t b) ρ h).bind F = .ok (.nx, ρ2, h2) ∧ J ρ2 h2 := go_while (P := fun r : R St => ∃ (ρ2 : Env) (h2 : Heap), r = R.ok (Fl.nx, ρ2, h2) ∧ J ρ2 h2) m Inv Q hm h0 step next
/-- a loop that may end early: next (nx, ct), left by break, left by return -/
theorem forL_run2 {g : List (Nat × O)} {f : D → Env → Heap → R St} (Inv : Nat → Env → Heap → Prop) (P : St → Prop) : ∀ (xs : List D) (k : Nat) (ρ : Env) (h : Heap),
    (∀ i ρ h, k ≤ i → i ≤ k + xs.length → Inv i ρ h → guards g h = true) →
    (∀ (i : Nat) (x : D) ρ h, xs[i]? = some x → Inv (k + i) ρ h → ∃ fl ρ' h', f x ρ h = .ok (fl, ρ', h') ∧ match fl with
      | .nx => Inv (k + i + 1) ρ' h'
      | .ct => Inv (k + i + 1) ρ' h'
      | .bk => P (.nx, ρ', h')
      | .rt d => P (.rt d, ρ', h')
      | .ex e fs => P (.ex e fs, ρ', h')) →
    (∀ ρ h, Inv (k + xs.length) ρ h → P (.nx, ρ, h)) → Inv k ρ h → ∃ s, forL g f xs ρ h = .ok s ∧ P s
  | [], k, ρ, h, hg, _, hn, hi => ⟨_, by simp only [forL, hg k ρ h (Nat.le_refl _) (Nat.le_refl _) hi, chk], hn ρ h hi⟩
  | x :: xs, k, ρ, h, hg, hf, hn, hi => by
    obtain ⟨fl, ρ1, h1, e1, i1⟩ := hf 0 x ρ h rfl hi
    have go : Inv (k + 1) ρ1 h1 → ∃ s, forL g f xs ρ1 h1 = .ok s ∧ P s := fun i1 => forL_run2 Inv P xs (k + 1) ρ1 h1 (fun i ρ h a b => hg i ρ h (by omega) (by simp only [List.length_cons]; omega)) (fun i y ρ h e q => by
      have z := hf (i + 1) y ρ h (by simpa using e) (by rw [show k + (i + 1) = k + 1 + i by omega]; exact q)
      rw [show k + (i + 1) + 1 = k + 1 + i + 1 by omega] at z
      exact z) (fun ρ h q => hn ρ h (by rw [List.length_cons, show k + (xs.length + 1) = k + 1 + xs.length by omega]; exact q)) i1
    have g0 := hg k ρ h (Nat.le_refl _) (Nat.le_add_right _ _) hi
    cases fl with
    | nx =>
      obtain ⟨s, e2, q⟩ := go i1
      exact ⟨s, by simp only [forL, g0, chk, e1, R.bind, e2], q⟩
    | ct =>
      obtain ⟨s, e2, q⟩ := go i1
      exact ⟨s, by simp only [forL, g0, chk, e1, R.bind, e2], q⟩
    | bk => exact ⟨_, by simp only [forL, g0, chk, e1, R.bind], i1⟩
    | rt d => exact ⟨_, by simp only [forL, g0, chk, e1, R.bind], i1⟩
    | ex a b => exact ⟨_, by simp only [forL, g0, chk, e1, R.bind], i1⟩
/-- for x in items, any end -/
theorem go_for {β : Type} {P : R β → Prop} {F : St → R β} {c : Ctx} {ρ : Env} {h h1 : Heap} {t : CT} {it : CI} {b : CSs} (xs : List D) (Inv : Nat → Env → Heap → Prop) (hit : evI c it ρ h = .ok ((xs, []), h1)) (h0 : Inv 0 ρ h1)
    (hf : ∀ (i : Nat) (x : D) ρ h, xs[i]? = some x → Inv i ρ h → ∃ fl ρ' h', ((asg c t x ρ h).nox.bind fun s => execs c b s.1 s.2) = .ok (fl, ρ', h') ∧ match fl with
      | .nx => Inv (i + 1) ρ' h'
      | .ct => Inv (i + 1) ρ' h'
      | .bk => P (F (.nx, ρ', h'))
      | .rt d => P (F (.rt d, ρ', h'))
      | .ex e fs => P (F (.ex e fs, ρ', h')))
    (next : ∀ ρ' h', Inv xs.length ρ' h' → P (F (.nx, ρ', h'))) : P ((exec c (.loop t it b) ρ h).bind F) := by
  obtain ⟨s, e, q⟩ := forL_run2 (g := []) (f := fun x ρ h => (asg c t x ρ h).nox.bind fun s => execs c b s.1 s.2) Inv (fun s => P (F s)) xs 0 ρ h1 (fun _ _ _ _ _ _ => rfl) (fun i x ρ h e q => by
    rw [Nat.zero_add] at q ⊢
    exact hf i x ρ h e q) (fun ρ h q => by
    rw [Nat.zero_add] at q
    exact next ρ h q) h0
  rw [exec, hit]
  show P ((forL [] _ xs ρ h1).bind F)
  rw [e]
  exact q
theorem xs_nx {c : Ctx} {s : CS} {r : CSs} {ρ ρ' : Env} {h h' : Heap} (e : exec c s ρ h = .ok (.nx, ρ', h')) : execs c (.cons s r) ρ h = execs c r ρ' h' := by
  rw [z_xs1, e]
  rfl
end Tw
end

section
set_option Elab.async false
set_option linter.all false
set_option maxRecDepth 100000
set_option maxHeartbeats 400000
/-! Fields, sums, the transform: no program in sight. Own work. -/
namespace Tw
open PySem (Str)
theorem sm1 {i : Int} {p : Int} (h0 : 0 ≤ i) (h1 : i < p) (hp : p < 100000) : small i = true := small_of (by omega) (by omega)
theorem pw_even (b : Int) (m : Nat) : (b * b) ^ m = b ^ (2 * m) := by
  rw [Int.pow_mul]
  congr 1
  grind
theorem mod_pow (a p : Int) (n : Nat) : (a % p) ^ n % p = a ^ n % p := by
  induction n with
  | zero => simp
  | succ n ih =>
    rw [Int.pow_succ, Int.pow_succ, Int.mul_emod, ih, Int.emod_emod, ← Int.mul_emod]
theorem mod_mul_l (a b p : Int) : (a % p * b) % p = (a * b) % p := by rw [Int.mul_emod, Int.emod_emod, ← Int.mul_emod]
theorem mod_mul_r (a b p : Int) : (a * (b % p)) % p = (a * b) % p := by rw [Int.mul_emod, Int.emod_emod, ← Int.mul_emod]
/-- a field: a prime p, n, a root w of order n -/
structure Fld (p : Int) (n : Nat) (w : Int) : Prop where
  p2 : 2 ≤ p
  pU : p < 1000
  n1 : 1 ≤ n
  nU : n < 13
  w0 : 0 ≤ w
  wU : w < p
  wn : w ^ n % p = 1
  orth : ∀ i, i < n → 0 < i → sm n (fun j => w ^ (i * j % n)) % p = 0
  inv : ((n : Int) * (n : Int) ^ (p - 2).toNat) % p = 1
  np : (n : Int) % p ≠ 0
  fer : ∀ a : Nat, 0 < a → (a : Int) < p → ((a : Int) ^ (p - 2).toNat * a) % p = 1
abbrev fl (p : Int) (n : Nat) (w : Int) : D := .tup [.int p, .int (n : Int), .int w]
/-- the roots -/
def rr (p w : Int) (i : Nat) : Int := w ^ i % p
theorem rr_small {p w : Int} {n : Nat} (F : Fld p n w) (x : Int) : small (cy n (rr p w) x) = true := by
  have h1 : 0 ≤ cy n (rr p w) x := Int.emod_nonneg _ (by have := F.p2; omega)
  have h2 : cy n (rr p w) x < p := Int.emod_lt_of_pos _ (by have := F.p2; omega)
  have := F.pU
  exact small_of (by omega) (by omega)
theorem ints_last (n : Nat) (f : Nat → Int) (hn : 0 < n) : nth (intz n f) (-1) = some (.int (f (n - 1))) := by
  rw [ints_neg (by omega) (by omega), show ((-1 : Int) + n).toNat = n - 1 by omega]
/-- the values of a row -/
def vs (p w : Int) (n : Nat) (a : Nat → Int) (j : Nat) : Int := sm n (fun i => a i * cy n (rr p w) (i * j)) % p
/-- the row of values -/
def cs (p w : Int) (n : Nat) (a : Nat → Int) (i : Nat) : Int := (sm n (fun j => a j * cy n (rr p w) (-(i * j))) * ((n : Int) ^ (p - 2).toNat % p)) % p
theorem ints_set {n : Nat} {f : Nat → Int} {i : Nat} (v : Int) : (intz n f).set i (.int v) = intz n (fun t => if t = i then v else f t) := by
  apply List.ext_getElem?
  intro t
  rw [List.getElem?_set]
  by_cases h : t < n
  · rw [ints_get h, ints_get h, ints_len]
    by_cases e : i = t
    · subst e
      simp [h]
    · rw [if_neg e, if_neg (fun q => e q.symm)]
  · have h1 : (intz n f)[t]? = none := by simp [intz]; omega
    have h2 : (intz n fun t => if t = i then v else f t)[t]? = none := by simp [intz]; omega
    rw [h1, h2, ints_len]
    by_cases e : i = t
    · subst e
      simp [h]
    · rw [if_neg e]
theorem nix_cy {n : Nat} (hn : 0 < n) (x : Int) : nix n (x % (n : Int)) = some (x % (n : Int)).toNat := by
  have h0 : 0 ≤ x % (n : Int) := Int.emod_nonneg _ (by omega)
  have h1 : x % (n : Int) < n := Int.emod_lt_of_pos _ (by omega)
  unfold nix
  rw [if_pos h0, if_pos h1]
theorem sm_congr {n : Nat} {f g : Nat → Int} (h : ∀ i, i < n → f i = g i) : sm n f = sm n g := by
  induction n with
  | zero => rfl
  | succ n ih =>
    show sm n f + f n = sm n g + g n
    rw [ih (fun i hi => h i (by omega)), h n (by omega)]
theorem sm_zero (n : Nat) : sm n (fun _ => 0) = 0 := by
  induction n with
  | zero => rfl
  | succ n ih =>
    show sm n (fun _ => 0) + 0 = 0
    rw [ih]
    rfl
theorem sm_delta {n : Nat} (x : Nat → Int) (t : Nat) (ht : t < n) : sm n (fun j => if j = t then x j else 0) = x t := by
  induction n with
  | zero => omega
  | succ n ih =>
    show sm n (fun j => if j = t then x j else 0) + (if n = t then x n else 0) = x t
    by_cases e : n = t
    · subst e
      rw [if_pos rfl, sm_congr (g := fun _ => 0) (fun i hi => if_neg (by omega)), sm_zero]
      simp
    · rw [if_neg e, ih (by omega)]
      simp
/-- around: the product of two rows of coefficients -/
def cv (p : Int) (n : Nat) (a b : Nat → Int) (t : Nat) : Int := sm n (fun i => a i * cy n b (t - i)) % p
def mxS (n : Nat) (a b : Nat → Int) (i j t : Nat) : Int := sm i (fun i' => sm n (fun j' => if (i' + j') % n = t then a i' * b j' else 0)) + sm j (fun j' => if (i + j') % n = t then a i * b j' else 0)
theorem add_iff {n i j t : Nat} (ht : t < n) (hj : j < n) : (i + j) % n = t ↔ j = ((t - i : Int) % n).toNat := by
  have h0 : 0 ≤ (t - i : Int) % n := Int.emod_nonneg _ (by omega)
  have h1 : (t - i : Int) % n < n := Int.emod_lt_of_pos _ (by omega)
  have hc : (((i + j) % n : Nat) : Int) = ((i : Int) + j) % n := by simp
  constructor
  · intro e
    have e1 : (t : Int) = ((i : Int) + j) % n := by omega
    have : (t - i : Int) % n = j := by
      rw [e1, Int.emod_sub_emod, show (i : Int) + j - i = j by omega]
      exact Int.emod_eq_of_lt (by omega) (by omega)
    omega
  · intro e
    have e1 : (j : Int) = (t - i : Int) % n := by omega
    have : ((i : Int) + j) % n = t := by
      rw [e1, Int.add_emod_emod, show (i : Int) + (t - i) = t by omega]
      exact Int.emod_eq_of_lt (by omega) (by omega)
    omega
theorem mS_end {n : Nat} (a b : Nat → Int) (t : Nat) (ht : t < n) (p : Int) : mxS n a b n 0 t % p = cv p n a b t := by
  unfold mxS cv
  show (sm n _ + 0) % p = _
  rw [Int.add_zero]
  congr 1
  apply sm_congr
  intro i hi
  rw [sm_congr (g := fun j => if j = ((t - i : Int) % n).toNat then a i * b j else 0) (fun j hj => by
    by_cases e : (i + j) % n = t
    · rw [if_pos e, if_pos ((add_iff ht hj).mp e)]
    · rw [if_neg e, if_neg (fun q => e ((add_iff ht hj).mpr q))])]
  have h1 : (t - i : Int) % n < n := Int.emod_lt_of_pos _ (by omega)
  have h0 : 0 ≤ (t - i : Int) % n := Int.emod_nonneg _ (by omega)
  exact sm_delta (fun j => a i * b j) _ (by omega)
theorem mS_next (n : Nat) (a b : Nat → Int) (i t : Nat) : mxS n a b i n t = mxS n a b (i + 1) 0 t := by
  unfold mxS
  show _ = (sm i _ + sm n _) + 0
  rw [Int.add_zero]
theorem mS_step (n : Nat) (a b : Nat → Int) (i j t : Nat) : mxS n a b i (j + 1) t = mxS n a b i j t + if (i + j) % n = t then a i * b j else 0 := by
  unfold mxS
  show _ + (_ + _) = _
  rw [Int.add_assoc]
theorem rep_zero (n : Nat) (f : Nat → Int) (hf : ∀ t, f t = 0) : List.replicate n (D.int 0) = intz n f := by
  apply List.ext_getElem?
  intro t
  by_cases ht : t < n
  · rw [ints_get ht]
    simp [ht, hf]
  · simp [ht, intz]
theorem rr_in {p w : Int} (hp : 0 < p) (i : Nat) : 0 ≤ rr p w i ∧ rr p w i < p := ⟨Int.emod_nonneg _ (by omega), Int.emod_lt_of_pos _ hp⟩
theorem vs_in {p w : Int} (hp : 0 < p) (n : Nat) (a : Nat → Int) (j : Nat) : 0 ≤ vs p w n a j ∧ vs p w n a j < p := ⟨Int.emod_nonneg _ (by omega), Int.emod_lt_of_pos _ hp⟩
theorem vs_small {p w : Int} (hp : 0 < p) (hU : p < 1000) (n : Nat) (a : Nat → Int) (j : Nat) : small (vs p w n a j) = true := by
  have := vs_in (w := w) hp n a j
  exact small_of (by omega) (by omega)
theorem md_mul {p x y x' y' : Int} (h1 : x % p = x' % p) (h2 : y % p = y' % p) : (x * y) % p = (x' * y') % p := by rw [Int.mul_emod, h1, h2, ← Int.mul_emod]
theorem md_add {p x y x' y' : Int} (h1 : x % p = x' % p) (h2 : y % p = y' % p) : (x + y) % p = (x' + y') % p := by rw [Int.add_emod, h1, h2, ← Int.add_emod]
theorem sm_mod {p : Int} {n : Nat} {f g : Nat → Int} (h : ∀ i, i < n → f i % p = g i % p) : sm n f % p = sm n g % p := by
  induction n with
  | zero => rfl
  | succ n ih => exact md_add (ih fun i hi => h i (by omega)) (h n (by omega))
theorem sm_add (n : Nat) (f g : Nat → Int) : sm n (fun i => f i + g i) = sm n f + sm n g := by
  induction n with
  | zero => rfl
  | succ n ih =>
    show sm n (fun i => f i + g i) + (f n + g n) = sm n f + f n + (sm n g + g n)
    rw [ih]
    omega
theorem sm_mul (n : Nat) (c : Int) (f : Nat → Int) : c * sm n f = sm n (fun i => c * f i) := by
  induction n with
  | zero => exact Int.mul_zero c
  | succ n ih =>
    show c * (sm n f + f n) = sm n (fun i => c * f i) + c * f n
    rw [Int.mul_add, ih]
theorem sm_mul' (n : Nat) (c : Int) (f : Nat → Int) : sm n f * c = sm n (fun i => f i * c) := by
  rw [Int.mul_comm, sm_mul]
  exact sm_congr fun i _ => Int.mul_comm _ _
theorem sm_comm (m n : Nat) (f : Nat → Nat → Int) : sm m (fun i => sm n (fun j => f i j)) = sm n (fun j => sm m (fun i => f i j)) := by
  induction m with
  | zero => exact (sm_zero n).symm
  | succ m ih =>
    show sm m (fun i => sm n (fun j => f i j)) + sm n (fun j => f m j) = _
    rw [ih, ← sm_add]
    rfl
theorem sm_slide (n : Nat) (g : Int → Int) : sm n (fun t => g ((t : Int) + 1)) + g 0 = sm n (fun t => g t) + g n := by
  induction n with
  | zero => rfl
  | succ n ih =>
    show sm n (fun t => g ((t : Int) + 1)) + g ((n : Int) + 1) + g 0 = sm n (fun t => g t) + g n + g ((n + 1 : Nat) : Int)
    rw [show ((n + 1 : Nat) : Int) = (n : Int) + 1 by omega]
    omega
theorem sm_turn {n : Nat} (g : Int → Int) (hg : ∀ x, g (x + n) = g x) (i : Nat) : sm n (fun t => g ((t : Int) - i)) = sm n (fun t => g t) := by
  induction i with
  | zero => exact sm_congr fun t _ => congrArg g (by omega)
  | succ i ih =>
    have e := sm_slide n (fun x => g (x - ((i + 1 : Nat) : Int)))
    have e1 : g ((n : Int) - ((i + 1 : Nat) : Int)) = g (0 - ((i + 1 : Nat) : Int)) := by
      rw [← hg (0 - ((i + 1 : Nat) : Int))]
      exact congrArg g (by omega)
    rw [sm_congr (f := fun t => g ((t : Int) + 1 - ((i + 1 : Nat) : Int))) (g := fun t => g ((t : Int) - i)) (fun t _ => congrArg g (by omega)), ih] at e
    simp only [e1] at e
    omega
theorem cy_nat {n : Nat} (f : Nat → Int) {i : Nat} (h : i < n) : cy n f i = f i := by
  unfold cy
  rw [Int.emod_eq_of_lt (by omega) (by omega)]
  rfl
theorem cy_per (n : Nat) (f : Nat → Int) (x : Int) : cy n f (x + n) = cy n f x := by
  unfold cy
  rw [Int.add_emod_right]
theorem cy_mod {n : Nat} (f : Nat → Int) {x y : Int} (h : x % n = y % n) : cy n f x = cy n f y := by
  unfold cy
  rw [h]
section
variable {p w : Int} {n : Nat} (F : Fld p n w)
include F
theorem pw_red (m : Nat) : w ^ (m % n) % p = w ^ m % p := by
  have e : w ^ m = (w ^ n) ^ (m / n) * w ^ (m % n) := by
    rw [← Int.pow_mul, ← Int.pow_add, Nat.div_add_mod]
  have e1 : (w ^ n) ^ (m / n) % p = 1 % p := by
    rw [← mod_pow, F.wn, Int.one_pow]
  have e2 := md_mul (x := (w ^ n) ^ (m / n)) (y := w ^ (m % n)) (x' := 1) (y' := w ^ (m % n)) e1 rfl
  rw [← e, Int.one_mul] at e2
  exact e2.symm
theorem W_nat (m : Nat) : cy n (rr p w) (m : Int) = w ^ m % p := by
  unfold cy rr
  rw [show ((m : Int) % (n : Int)).toNat = m % n by omega]
  exact pw_red F m
theorem W_add (x y : Int) : cy n (rr p w) (x + y) % p = (cy n (rr p w) x * cy n (rr p w) y) % p := by
  have hn := F.n1
  have hx0 : 0 ≤ x % (n : Int) := Int.emod_nonneg _ (by omega)
  have hy0 : 0 ≤ y % (n : Int) := Int.emod_nonneg _ (by omega)
  have ex : cy n (rr p w) x = w ^ (x % n).toNat % p := rfl
  have ey : cy n (rr p w) y = w ^ (y % n).toNat % p := rfl
  have exy : cy n (rr p w) (x + y) = cy n (rr p w) (((x % n).toNat + (y % n).toNat : Nat) : Int) := by
    apply cy_mod
    rw [show (((x % n).toNat + (y % n).toNat : Nat) : Int) = x % n + y % n by omega]
    exact Int.add_emod x y n
  rw [exy, W_nat F, ex, ey, Int.emod_emod, Int.pow_add, ← Int.mul_emod]
theorem W_zero : cy n (rr p w) 0 = 1 := by
  have := W_nat F 0
  rw [Int.pow_zero] at this
  rw [show (0 : Int) = ((0 : Nat) : Int) from rfl, this]
  exact Int.emod_eq_of_lt (by decide) (by have := F.p2; omega)
theorem W_orth (k : Int) : sm n (fun j => cy n (rr p w) (k * j)) % p = (if k % n = 0 then (n : Int) else 0) % p := by
  have hn := F.n1
  have hk0 : 0 ≤ k % (n : Int) := Int.emod_nonneg _ (by omega)
  have hk1 : k % (n : Int) < n := Int.emod_lt_of_pos _ (by omega)
  by_cases h : k % n = 0
  · rw [if_pos h]
    have : ∀ m : Nat, sm m (fun j => cy n (rr p w) (k * j)) = m := by
      intro m
      induction m with
      | zero => rfl
      | succ m ih =>
        show sm m (fun j => cy n (rr p w) (k * j)) + cy n (rr p w) (k * m) = _
        rw [ih, cy_mod (y := 0) (rr p w) (by rw [Int.mul_emod, h]; simp), W_zero F]
        omega
    rw [this]
  · rw [if_neg h]
    have e := F.orth (k % n).toNat (by omega) (by omega)
    rw [sm_mod (g := fun j => w ^ ((k % n).toNat * j % n)) (fun j hj => ?_), e]
    · rfl
    · have : cy n (rr p w) (k * j) = cy n (rr p w) (((k % n).toNat * j : Nat) : Int) := by
        apply cy_mod
        rw [show (((k % n).toNat * j : Nat) : Int) = (k % n) * j by
          rw [Int.natCast_mul, show ((k % n).toNat : Int) = k % n by omega]]
        exact (mod_mul_l _ _ _).symm
      rw [this, W_nat F, Int.emod_emod, pw_red F]

theorem cy_mul_per (x j : Int) : cy n (rr p w) ((x + n) * j) = cy n (rr p w) (x * j) := by
  apply cy_mod
  rw [Int.add_mul, Int.add_mul_emod_self_left]
/-- the product of coefficients is the product of values -/
theorem conv_thm (a b : Nat → Int) (j : Nat) : vs p w n (cv p n a b) j = (vs p w n a j * vs p w n b j) % p := by
  have e1 : vs p w n (cv p n a b) j = sm n (fun t => sm n (fun i => a i * cy n b (t - i)) * cy n (rr p w) (t * j)) % p := by
    unfold vs
    exact sm_mod fun t ht => by
      unfold cv
      exact mod_mul_l _ _ _
  rw [e1]
  have e2 : sm n (fun t => sm n (fun i => a i * cy n b (t - i)) * cy n (rr p w) (t * j)) = sm n (fun i => sm n (fun t => a i * cy n b (t - i) * cy n (rr p w) (t * j))) := by
    rw [sm_comm]
    exact sm_congr fun t _ => sm_mul' _ _ _
  rw [e2]
  have e3 : ∀ i, i < n → sm n (fun t => a i * cy n b (t - i) * cy n (rr p w) (t * j)) % p = (a i * cy n (rr p w) (i * j) * sm n (fun u => b u * cy n (rr p w) (u * j))) % p := by
    intro i hi
    have e4 : sm n (fun u => b u * cy n (rr p w) (u * j)) = sm n (fun t => cy n b ((t : Int) - i) * cy n (rr p w) (((t : Int) - i) * j)) := by
      rw [sm_turn (fun x => cy n b x * cy n (rr p w) (x * j)) (fun x => by
        rw [cy_per, cy_mul_per F]) i]
      exact sm_congr fun u hu => by rw [cy_nat b hu]
    rw [e4, sm_mul]
    apply sm_mod
    intro t ht
    have h1 := W_add F (i * j) (((t : Int) - i) * j)
    rw [show (i : Int) * j + ((t : Int) - i) * j = t * j by rw [← Int.add_mul]; congr 1; omega] at h1
    have h2 := md_mul (x := a i * cy n b (t - i)) (x' := a i * cy n b (t - i)) rfl h1
    rw [h2]
    congr 1
    grind
  rw [sm_mod e3, ← sm_mul']
  unfold vs
  rw [← Int.mul_emod]
/-- Parseval's law, and more -/
theorem pars (a b : Nat → Int) : sm n (fun j => vs p w n a j * vs p w n b j) % p = ((n : Int) * sm n (fun i => a i * cy n b (-i))) % p := by
  have hn := F.n1
  have e1 : sm n (fun j => vs p w n a j * vs p w n b j) % p = sm n (fun j => sm n (fun i => sm n (fun k => a i * b k * cy n (rr p w) ((i + k) * j)))) % p := by
    apply sm_mod
    intro j hj
    unfold vs
    rw [← Int.mul_emod, sm_mul']
    apply sm_mod
    intro i hi
    rw [sm_mul]
    apply sm_mod
    intro k hk
    have h1 := W_add F (i * j) (k * j)
    rw [← Int.add_mul] at h1
    rw [md_mul (x := a i * b k) (x' := a i * b k) rfl h1]
    congr 1
    grind
  rw [e1, sm_comm]
  have e2 : ∀ i, i < n → sm n (fun j => sm n (fun k => a i * b k * cy n (rr p w) ((i + k) * j))) % p = ((n : Int) * (a i * cy n b (-i))) % p := by
    intro i hi
    rw [sm_comm]
    have h0 : 0 ≤ (((0 : Nat) : Int) - i) % n := Int.emod_nonneg _ (by omega)
    have h1 : (((0 : Nat) : Int) - i) % n < n := Int.emod_lt_of_pos _ (by omega)
    have e3 : ∀ k, k < n → sm n (fun j => a i * b k * cy n (rr p w) ((i + k) * j)) % p = (if k = ((((0 : Nat) : Int) - i) % n).toNat then (n : Int) * (a i * b k) else 0) % p := by
      intro k hk
      rw [← sm_mul, md_mul (x := a i * b k) (x' := a i * b k) rfl (W_orth F (i + k))]
      have hc : ((i : Int) + k) % n = 0 ↔ k = ((((0 : Nat) : Int) - i) % n).toNat := by
        rw [← add_iff (by omega) hk]
        have : (((i + k) % n : Nat) : Int) = ((i : Int) + k) % n := by simp
        omega
      by_cases h : ((i : Int) + k) % n = 0
      · rw [if_pos h, if_pos (hc.mp h)]
        congr 1
        grind
      · rw [if_neg h, if_neg (fun q => h (hc.mpr q)), Int.mul_zero]
    rw [sm_mod e3, sm_delta (fun k => (n : Int) * (a i * b k)) _ (by omega)]
    unfold cy
    rw [show (((0 : Nat) : Int) - i) = -(i : Int) by omega]
  rw [sm_mod e2, sm_mul]
/-- from values back to coefficients -/
theorem inv_thm (a : Nat → Int) (i : Nat) (hi : i < n) : cs p w n (vs p w n a) i = a i % p := by
  have hn := F.n1
  unfold cs
  rw [mod_mul_r]
  have e1 : sm n (fun j => vs p w n a j * cy n (rr p w) (-(i * j))) % p = sm n (fun j => sm n (fun k => a k * cy n (rr p w) ((k - i) * j))) % p := by
    apply sm_mod
    intro j hj
    unfold vs
    rw [mod_mul_l, sm_mul']
    apply sm_mod
    intro k hk
    have h1 := W_add F (k * j) (-(i * j))
    rw [show (k : Int) * j + -(i * j) = (k - i) * j by rw [Int.sub_mul]; omega] at h1
    rw [md_mul (x := a k) (x' := a k) rfl h1]
    congr 1
    grind
  have e2 : ∀ k, k < n → sm n (fun j => a k * cy n (rr p w) ((k - i) * j)) % p = (if k = i then (n : Int) * a k else 0) % p := by
    intro k hk
    rw [← sm_mul, md_mul (x := a k) (x' := a k) rfl (W_orth F (k - i))]
    by_cases h : k = i
    · subst h
      rw [if_pos (by simp), if_pos rfl, Int.mul_comm]
    · rw [if_neg h, if_neg, Int.mul_zero]
      intro q
      have : (k : Int) % n = (i : Int) % n := by
        exact Int.emod_eq_emod_iff_emod_sub_eq_zero.mpr q
      rw [Int.emod_eq_of_lt (by omega) (by omega), Int.emod_eq_of_lt (by omega) (by omega)] at this
      omega
  rw [sm_comm, sm_mod e2, sm_delta (fun k => (n : Int) * a k) i hi] at e1
  rw [md_mul e1 rfl]
  have h := md_mul (x := a i) (x' := a i) rfl (F.inv.trans (Int.emod_eq_of_lt (show (0 : Int) ≤ 1 by decide) (by have := F.p2; omega)).symm)
  rw [Int.mul_one] at h
  rw [← h]
  congr 1
  grind
end
theorem nth_mem {ds : List D} {v : Int} (h0 : 0 ≤ v) (h1 : v < ds.length) : ∃ d, d ∈ ds ∧ nth ds v = some d := by
  unfold nth
  rw [if_pos h0]
  exact ⟨ds[v.toNat]'(by omega), List.getElem_mem _, List.getElem?_eq_getElem (by omega)⟩
def fldB (p : Int) (n : Nat) (w : Int) : Bool :=
  decide (2 ≤ p) && decide (p < 1000) && decide (1 ≤ n) && decide (n < 13) && decide (0 ≤ w) && decide (w < p) && decide (w ^ n % p = 1) && ((List.range n).all fun i => !decide (0 < i) || decide (sm n (fun j => w ^ (i * j % n)) % p = 0)) && decide (((n : Int) * (n : Int) ^ (p - 2).toNat) % p = 1) && decide ((n : Int) % p ≠ 0) &&
    (List.range p.toNat).all fun a => !decide (0 < a) || decide (((a : Int) ^ (p - 2).toNat * a) % p = 1)
theorem fld_of {p w : Int} {n : Nat} (h : fldB p n w = true) : Fld p n w := by
  unfold fldB at h
  simp only [Bool.and_eq_true, decide_eq_true_eq, List.all_eq_true, List.mem_range, Bool.or_eq_true, Bool.not_eq_true', decide_eq_false_iff_not] at h
  obtain ⟨⟨⟨⟨⟨⟨⟨⟨⟨⟨a1, a2⟩, a3⟩, a4⟩, a5⟩, a6⟩, a7⟩, a8⟩, a9⟩, a10⟩, a11⟩ := h
  exact ⟨a1, a2, a3, a4, a5, a6, a7, fun i hi h0 => (a8 i hi).resolve_left (fun q => q h0), a9, a10, fun a h0 hp => (a11 a (by omega)).resolve_left (fun q => q h0)⟩
end Tw
end

section
set_option Elab.async false
set_option linter.all false
set_option maxRecDepth 100000
set_option maxHeartbeats 400000
/-! Comprehensions with conditions, walks over kept lists, membership. Own work. -/
namespace Tw
open PySem (Str)
def cstep (c : Ctx) (e : CE) (t : CT) (cd : CBO) (ρ : Env) (x : D) (h : Heap) : R (Option D × Heap) :=
  (asg c t x (wipeE ρ t.slots) h).bind fun s => (tvO c cd s.1 s.2).bind fun b => match b.1 with
    | true => (ev c e s.1 b.2).bind fun y => .ok (some y.1, y.2)
    | false => .ok (none, b.2)
theorem comp_gen {c : Ctx} {ρ : Env} {h h1 : Heap} {e : CE} {t : CT} {it : CI} {cd : CBO} {g : List (Nat × O)} (xs : List D) (G : D → Option D) (hit : evI c it ρ h = .ok ((xs, g), h1)) (hg : guards g h1 = true) (hn : xs.length < LIM)
    (hf : ∀ x, x ∈ xs → cstep c e t cd ρ x h1 = .ok (G x, h1)) :
    evL c (.comp e t it cd) ρ h = .ok (xs.filterMap G, h1) := by
  rw [evL, hit]
  show chk (decide (xs.length < LIM)) _ = _
  rw [decide_eq_true hn]
  show mapL g (fun x h => cstep c e t cd ρ x h) xs h1 = _
  clear hit hn
  induction xs with
  | nil => simp only [mapL, hg, chk, List.filterMap_nil]
  | cons x xs ih =>
    rw [mapL, hg, hf x (List.mem_cons_self ..)]
    simp only [chk, R.nox, R.bind]
    rw [ih (fun y hy => hf y (List.mem_cons_of_mem _ hy)), List.filterMap_cons]
    cases G x <;> rfl
theorem mem_intz {n : Nat} {f : Nat → Int} {x : D} (h : x ∈ intz n f) : ∃ j, j < n ∧ x = .int (f j) := by
  obtain ⟨j, hj⟩ := List.getElem?_of_mem h
  obtain ⟨h1, rfl⟩ := ints_some hj
  exact ⟨j, h1, rfl⟩
theorem mem_rng {n : Nat} {x : D} (h : x ∈ rngD 0 n) : ∃ j, j < n ∧ x = .int (j : Nat) := by
  obtain ⟨j, hj⟩ := List.getElem?_of_mem h
  obtain ⟨h1, rfl⟩ := rngD_get hj
  exact ⟨j, h1, by rw [Int.zero_add]⟩
theorem fm_all {α : Type} (xs : List α) (G : α → Option D) (g : α → D) (h : ∀ x, x ∈ xs → G x = some (g x)) : xs.filterMap G = xs.map g := by
  induction xs with
  | nil => rfl
  | cons x xs ih => rw [List.filterMap_cons, h x (List.mem_cons_self ..), List.map_cons, ih fun y hy => h y (List.mem_cons_of_mem _ hy)]
theorem rngD_intz (n : Nat) : rngD 0 n = intz n fun i => (i : Int) := by
  apply List.ext_getElem?
  intro i
  by_cases hi : i < n
  · rw [ints_get hi]
    cases e : (rngD 0 n)[i]? with
    | none =>
      have := List.getElem?_eq_none_iff.mp e
      rw [rngD_len] at this
      omega
    | some d =>
      obtain ⟨_, rfl⟩ := rngD_get e
      rw [Int.zero_add]
  · have h1 : (intz n fun i => (i : Int))[i]? = none := by simp [intz]; omega
    rw [h1, List.getElem?_eq_none]
    rw [rngD_len]
    omega
/-- [e for x in row], the row a list that is kept -/
theorem comp_kept {c : Ctx} {ρ : Env} {h : Heap} {e : CE} {i m : Nat} {it : CI} (n : Nat) (f g : Nat → Int) (hit : evI c it ρ h = .ok ((intz n f, [(m, .lst (intz n f))]), h)) (hm : h[m]? = some (.lst (intz n f))) (hn : n < LIM)
    (hf : ∀ j, j < n → ev c e ((ρ.set i none).set i (some (.int (f j)))) h = .ok (.int (g j), h)) :
    evL c (.comp e (.name i) it .none) ρ h = .ok (intz n g, h) := by
  rw [evL, hit]
  show chk (decide ((intz n f).length < LIM)) _ = _
  rw [ints_len, decide_eq_true hn]
  have key : ∀ (F : D → Heap → R (Option D × Heap)) (l : List Nat), (∀ j, j ∈ l → F (.int (f j)) h = .ok (some (.int (g j)), h)) → mapL [(m, .lst (intz n f))] F (l.map fun j => D.int (f j)) h = .ok (l.map fun j => D.int (g j), h) := by
    intro F l
    induction l with
    | nil => intro _; simp [mapL, guards, hm]
    | cons x l ih =>
      intro q
      rw [List.map_cons, mapL, q x (List.mem_cons_self ..)]
      have := ih fun j hj => q j (List.mem_cons_of_mem _ hj)
      simp [guards, hm, this]
  refine key _ (List.range n) (fun j hj => ?_)
  have := hf j (List.mem_range.mp hj)
  simp only [asg, CT.slots, wipeE, R.bind, tvO, this]
/-- [x for x in row if ..], of a list that is kept: the filter -/
theorem in_row (neg : Bool) (x : Int) (n : Nat) (f : Nat → Int) (h : Heap) : inB neg (.int x) (.tup (intz n f)) h = .ok (.bl (neg != decide (∃ j, j < n ∧ f j = x)), h) := by
  have hs : (intz n f).all scal = true := by
    rw [List.all_eq_true]
    intro d hd
    obtain ⟨j, _, rfl⟩ := mem_intz hd
    rfl
  have ha : ((intz n f).any fun z => eqf z (.int x)) = decide (∃ j, j < n ∧ f j = x) := by
    rw [Bool.eq_iff_iff, List.any_eq_true, decide_eq_true_eq]
    constructor
    · rintro ⟨d, hd, e⟩
      obtain ⟨j, hj, rfl⟩ := mem_intz hd
      exact ⟨j, hj, of_decide_eq_true e⟩
    · rintro ⟨j, hj, e⟩
      exact ⟨.int (f j), List.mem_of_getElem? (ints_get hj), decide_eq_true e⟩
  show inL neg (.int x) (intz n f) h = _
  unfold inL
  rw [hs, ha]
  rfl
theorem in_kept (neg : Bool) (x : Int) (n m : Nat) (f : Nat → Int) (h : Heap) (hm : h[m]? = some (.lst (intz n f))) : inB neg (.int x) (.ref m) h = .ok (.bl (neg != decide (∃ j, j < n ∧ f j = x)), h) := by
  have hs : (intz n f).all scal = true := by
    rw [List.all_eq_true]
    intro d hd
    obtain ⟨j, _, rfl⟩ := mem_intz hd
    rfl
  have e := in_row neg x n f h
  have e2 : inB neg (.int x) (.tup (intz n f)) h = R.ok (D.bl (neg != (intz n f).any fun z => eqf z (.int x)), h) := by
    show inL neg (.int x) (intz n f) h = _
    unfold inL
    rw [hs]
    rfl
  rw [e2] at e
  unfold inB
  simp only [hm, inL]
  rw [if_pos (by rw [hs]; rfl)]
  exact e
theorem rep_const (n : Nat) (x : Int) : List.replicate n (D.int x) = intz n fun _ => x := by
  apply List.ext_getElem?
  intro t
  by_cases ht : t < n
  · rw [ints_get ht]
    simp [ht]
  · simp [ht, intz]
theorem flat1 (n : Nat) (x : D) : (List.replicate n [x]).flatten = List.replicate n x := by
  induction n with
  | zero => rfl
  | succ n ih => rw [List.replicate_succ, List.flatten_cons, ih]; rfl
theorem one_first (n : Nat) (hn : 0 < n) (x : Int) : D.int x :: List.replicate (n - 1) (D.int 0) = intz n fun i => if i = 0 then x else 0 := by
  obtain ⟨m, rfl⟩ : ∃ m, n = m + 1 := ⟨n - 1, by omega⟩
  apply List.ext_getElem?
  intro t
  cases t with
  | zero => rw [ints_get (by omega)]; rfl
  | succ t =>
    by_cases ht : t < m
    · rw [ints_get (by omega)]
      simp [ht]
    · simp [ht, intz]
/-- what is forgotten at a call's end, behind two things that were changed -/
theorem tidy_two (a b a' b' : O) (t g : Heap) (d : D) (hd : d.low (t.length + 2) = true) (ha : a'.low (t.length + 2) = true) (hb : b'.low (t.length + 2) = true) : tidy (a :: b :: t) (d, a' :: b' :: (t ++ g)) = (d, a' :: b' :: t) := by
  unfold tidy
  rw [if_pos]
  · simp
  refine ⟨by simpa using hd, by simp, fun i hi => ?_⟩
  match i, hi with
  | 0, _ => exact .inr ⟨a', rfl, by simpa using ha⟩
  | 1, _ => exact .inr ⟨b', rfl, by simpa using hb⟩
  | i + 2, hi =>
    left
    have : i < t.length := by simpa using hi
    simp [List.getElem?_append_left this]
theorem lows_map (k : Nat) (g : List Int) : D.lows k (g.map D.int) = true := by
  induction g with
  | nil => rfl
  | cons x l ih => rw [List.map_cons, D.lows, ih]; rfl
/-- values of the coefficients of values -/
theorem vs_cs {p w : Int} {n : Nat} (F : Fld p n w) (v : Nat → Int) (j : Nat) (hj : j < n) : vs p w n (cs p w n v) j = v j % p := by
  have hn := F.n1
  have e0 : vs p w n (cs p w n v) j = sm n (fun i => (sm n (fun k => v k * cy n (rr p w) (-(i * k))) * ((n : Int) ^ (p - 2).toNat)) * cy n (rr p w) (i * j)) % p := by
    unfold vs
    apply sm_mod
    intro i hi
    unfold cs
    rw [mod_mul_l]
    exact md_mul (mod_mul_r _ _ _) rfl
  have e1 : ∀ i, i < n → ((sm n (fun k => v k * cy n (rr p w) (-(i * k))) * ((n : Int) ^ (p - 2).toNat)) * cy n (rr p w) (i * j)) % p = sm n (fun k => (n : Int) ^ (p - 2).toNat * v k * cy n (rr p w) (((j : Int) - k) * i)) % p := by
    intro i hi
    rw [sm_mul', sm_mul']
    apply sm_mod
    intro k hk
    have h1 := W_add F (i * j) (-(i * k))
    rw [show (i : Int) * j + -(i * k) = ((j : Int) - k) * i by rw [Int.sub_mul, Int.mul_comm (j : Int), Int.mul_comm (k : Int)]; omega] at h1
    rw [md_mul (x := (n : Int) ^ (p - 2).toNat * v k) (x' := (n : Int) ^ (p - 2).toNat * v k) rfl h1]
    congr 1
    grind
  rw [e0, sm_mod e1, sm_comm]
  have e2 : ∀ k, k < n → sm n (fun i => (n : Int) ^ (p - 2).toNat * v k * cy n (rr p w) (((j : Int) - k) * i)) % p = (if k = j then (n : Int) ^ (p - 2).toNat * v k * n else 0) % p := by
    intro k hk
    rw [← sm_mul, md_mul (x := (n : Int) ^ (p - 2).toNat * v k) (x' := (n : Int) ^ (p - 2).toNat * v k) rfl (W_orth F ((j : Int) - k))]
    by_cases h : k = j
    · subst h
      rw [if_pos (by simp), if_pos rfl]
    · rw [if_neg h, if_neg, Int.mul_zero]
      intro q
      have : (j : Int) % n = (k : Int) % n := Int.emod_eq_emod_iff_emod_sub_eq_zero.mpr q
      rw [Int.emod_eq_of_lt (by omega) (by omega), Int.emod_eq_of_lt (by omega) (by omega)] at this
      omega
  rw [sm_mod e2, sm_delta (fun k => (n : Int) ^ (p - 2).toNat * v k * n) j hj]
  have h := md_mul (x := v j) (x' := v j) rfl (F.inv.trans (Int.emod_eq_of_lt (show (0 : Int) ≤ 1 by decide) (by have := F.p2; omega)).symm)
  rw [Int.mul_one] at h
  rw [← h]
  congr 1
  grind
theorem cs_congr {p w : Int} {n : Nat} {a b : Nat → Int} (h : ∀ j, j < n → a j = b j) (i : Nat) : cs p w n a i = cs p w n b i := by
  unfold cs
  rw [sm_congr (fun j hj => by rw [h j hj])]
theorem vs_congr {p w : Int} {n : Nat} {a b : Nat → Int} (h : ∀ j, j < n → a j = b j) (i : Nat) : vs p w n a i = vs p w n b i := by
  unfold vs
  rw [sm_congr (fun j hj => by rw [h j hj])]
theorem cs_in {p w : Int} (hp : 0 < p) (n : Nat) (a : Nat → Int) (j : Nat) : 0 ≤ cs p w n a j ∧ cs p w n a j < p := ⟨Int.emod_nonneg _ (by omega), Int.emod_lt_of_pos _ hp⟩
/-- what lies in a field -/
def rg (p : Int) (v : Nat → Int) : Prop := ∀ i, 0 ≤ v i ∧ v i < p
theorem rg_mod {p : Int} (hp : 0 < p) (f : Nat → Int) : rg p fun i => f i % p := fun i => ⟨Int.emod_nonneg _ (by omega), Int.emod_lt_of_pos _ hp⟩
theorem rg_small {p : Int} (hU : p < 1000) {v : Nat → Int} (h : rg p v) (i : Nat) : small (v i) = true := small_of (by have := h i; omega) (by have := h i; omega)
/-- values kept in a form -/
def kf (p w : Int) (n : Nat) (s : Str) (v : Nat → Int) : Nat → Int := if s = "C" then cs p w n v else v
theorem kf_in {p w : Int} (hp : 0 < p) (n : Nat) (s : Str) {v : Nat → Int} (h : rg p v) : rg p (kf p w n s v) := by
  unfold kf
  split
  · exact fun i => cs_in hp n v i
  · exact h
theorem cv_cs {p w : Int} {n : Nat} (F : Fld p n w) {a b : Nat → Int} (ha : rg p a) (hb : rg p b) (t : Nat) (ht : t < n) : cv p n (cs p w n a) (cs p w n b) t = cs p w n (fun j => a j * b j % p) t := by
  have hp : 0 < p := by have := F.p2; omega
  have e := inv_thm F (cv p n (cs p w n a) (cs p w n b)) t ht
  have h1 : cv p n (cs p w n a) (cs p w n b) t % p = cv p n (cs p w n a) (cs p w n b) t := by
    unfold cv
    rw [Int.emod_emod]
  rw [h1] at e
  rw [← e]
  apply cs_congr
  intro j hj
  rw [conv_thm F, vs_cs F a j hj, vs_cs F b j hj, ← Int.mul_emod]
theorem vs_csI {p w : Int} {n : Nat} (F : Fld p n w) {v : Nat → Int} (hv : rg p v) : intz n (vs p w n (cs p w n v)) = intz n v := ints_congr fun j hj => (vs_cs F v j hj).trans (Int.emod_eq_of_lt (hv j).1 (hv j).2)
/-- the inverse of a value, 0 for 0 -/
def iv (p v : Int) : Int := if v = 0 then 0 else v ^ (p - 2).toNat % p
theorem iv_in {p : Int} (hp : 0 < p) (v : Int) : 0 ≤ iv p v ∧ iv p v < p := by
  unfold iv
  split
  · exact ⟨Int.le_refl _, hp⟩
  · exact ⟨Int.emod_nonneg _ (by omega), Int.emod_lt_of_pos _ hp⟩
theorem iv_mul {p w : Int} {n : Nat} (F : Fld p n w) {v : Int} (h0 : 0 < v) (h1 : v < p) : v * iv p v % p = 1 := by
  unfold iv
  rw [if_neg (by omega), mod_mul_r, Int.mul_comm]
  have := F.fer v.toNat (by omega) (by omega)
  rwa [show ((v.toNat : Nat) : Int) = v by omega] at this
theorem comp_two {c : Ctx} {ρ : Env} {h : Heap} {e : CE} {i : Nat} {it : CI} {x1 x2 y1 y2 : D} (hit : evI c it ρ h = .ok (([x1, x2], []), h))
    (h1 : ev c e ((ρ.set i none).set i (some x1)) h = .ok (y1, h)) (h2 : ev c e ((ρ.set i none).set i (some x2)) h = .ok (y2, h)) :
    evL c (.comp e (.name i) it .none) ρ h = .ok ([y1, y2], h) := by
  rw [evL, hit]
  simp only [asg, CT.slots, wipeE, R.bind, R.nox, tvO, LIM, List.length_cons, List.length_nil, mapL, guards, List.all_nil, chk, h1, h2]
  rfl
theorem comp_one {c : Ctx} {ρ : Env} {h : Heap} {e : CE} {i : Nat} {it : CI} {x1 y1 : D} (hit : evI c it ρ h = .ok (([x1], []), h))
    (h1 : ev c e ((ρ.set i none).set i (some x1)) h = .ok (y1, h)) :
    evL c (.comp e (.name i) it .none) ρ h = .ok ([y1], h) := by
  rw [evL, hit]
  simp only [asg, CT.slots, wipeE, R.bind, R.nox, tvO, LIM, List.length_cons, List.length_nil, mapL, guards, List.all_nil, chk, h1]
  rfl
theorem loop_eq (c : Ctx) (t : CT) (it : CI) (b : CSs) (ρ : Env) (h : Heap) : exec c (.loop t it b) ρ h = lift ρ (evI c it ρ h) fun w => forL w.1.2 (fun x ρ h => (asg c t x ρ h).nox.bind fun s => execs c b s.1 s.2) w.1.1 ρ w.2 := by
  rw [exec]
def forV (g : List (Nat × O)) (f : D → Env → Heap → R St) (xs : List D) : St → R St
  | (.nx, ρ, h) => forL g f xs ρ h
  | (.ct, ρ, h) => forL g f xs ρ h
  | (.bk, ρ, h) => .ok (.nx, ρ, h)
  | s => .ok s
theorem forL_cons (f : D → Env → Heap → R St) (x : D) (xs : List D) (ρ : Env) (h : Heap) : forL [] f (x :: xs) ρ h = (f x ρ h).bind (forV [] f xs) := by
  rw [forL]
  simp only [guards, List.all_nil, chk]
  congr 1
  funext s
  rcases s with ⟨fl, ρ, h⟩
  cases fl <;> rfl
theorem forL_nil (f : D → Env → Heap → R St) (ρ : Env) (h : Heap) : forL [] f [] ρ h = .ok (.nx, ρ, h) := by
  rw [forL]
  rfl
theorem z_forV (g : List (Nat × O)) (f : D → Env → Heap → R St) (xs : List D) (ρ : Env) (h : Heap) : forV g f xs (.nx, ρ, h) = forL g f xs ρ h := rfl
def scV (h : Heap) (lo hi : Option Int) : Option O → R (D × Heap)
  | some (.lst xs) => .ok (.ref h.length, h ++ [.lst (cut xs lo hi)])
  | _ => .no
@[simp] theorem z_scV (h : Heap) (lo hi : Option Int) (xs : List D) : scV h lo hi (some (.lst xs)) = .ok (.ref h.length, h ++ [.lst (cut xs lo hi)]) := (rfl)
@[simp] theorem z_slcr (n : Nat) (lo hi : Option Int) (h : Heap) : slcV (.ref n) lo hi h = scV h lo hi h[n]? := by
  cases e : h[n]? with
  | none => simp [slcV, scV, e]
  | some o => cases o <;> simp [slcV, scV, e]
@[simp] theorem z_slcs (ds : List D) (lo hi : Option Int) (h : Heap) : slcV (.seq ds) lo hi h = .ok (.ref h.length, h ++ [.lst (cut ds lo hi)]) := (rfl)
@[simp] theorem z_slct (ds : List D) (lo hi : Option Int) (h : Heap) : slcV (.tup ds) lo hi h = .ok (.tup (cut ds lo hi), h) := (rfl)
/-- for x in a list that is kept -/
theorem go_kept {β : Type} {P : R β → Prop} {F : St → R β} {c : Ctx} {ρ : Env} {h h1 : Heap} {t : CT} {it : CI} {b : CSs} {g : List (Nat × O)} (xs : List D) (Inv : Nat → Env → Heap → Prop) (hit : evI c it ρ h = .ok ((xs, g), h1)) (hg : ∀ i ρ h, Inv i ρ h → guards g h = true) (h0 : Inv 0 ρ h1)
    (hf : ∀ (i : Nat) (x : D) ρ h, xs[i]? = some x → Inv i ρ h → ∃ ρ' h', ((asg c t x ρ h).nox.bind fun s => execs c b s.1 s.2) = .ok (.nx, ρ', h') ∧ Inv (i + 1) ρ' h')
    (next : ∀ ρ' h', Inv xs.length ρ' h' → P (F (.nx, ρ', h'))) : P ((exec c (.loop t it b) ρ h).bind F) := by
  obtain ⟨s, e, q⟩ := forL_run2 (g := g) (f := fun x ρ h => (asg c t x ρ h).nox.bind fun s => execs c b s.1 s.2) Inv (fun s => ∃ ρ' h', s = (.nx, ρ', h') ∧ Inv xs.length ρ' h') xs 0 ρ h1 (fun i ρ h _ _ q => hg i ρ h q) (fun i x ρ h e q => by
    rw [Nat.zero_add] at q ⊢
    obtain ⟨ρ', h', e1, q1⟩ := hf i x ρ h e q
    exact ⟨.nx, ρ', h', e1, q1⟩) (fun ρ h q => by
    rw [Nat.zero_add] at q
    exact ⟨ρ, h, rfl, q⟩) h0
  obtain ⟨ρ', h', rfl, q⟩ := q
  rw [exec, hit]
  show P ((forL g _ xs ρ h1).bind F)
  rw [e]
  exact next ρ' h' q
theorem sIx_nat (n d k : Nat) : sIx n d (some (k : Int)) = min k n := by
  simp only [sIx]
  rw [if_neg (by omega)]
  rfl
theorem cut_take (ns : List Int) (k : Nat) : cut (ns.map D.int) none (some (k : Int)) = (ns.take k).map D.int := by
  have e : cut (ns.map D.int) none (some (k : Int)) = (ns.map D.int).take k := by
    unfold cut
    rw [sIx_nat, show sIx (ns.map D.int).length 0 none = 0 from rfl, List.drop_zero, Nat.sub_zero, List.take_eq_take_iff]
    omega
  rw [e, List.map_take]
@[simp] theorem z_brk (c : Ctx) (ρ : Env) (h : Heap) : exec c .brk ρ h = .ok (.bk, ρ, h) := by rw [exec]
@[simp] theorem z_cnt (c : Ctx) (ρ : Env) (h : Heap) : exec c .cnt ρ h = .ok (.ct, ρ, h) := by rw [exec]
@[simp] theorem z_isN (x : D) (h : Heap) : opC .is x .non h = .ok (.bl (decide (x = .non)), h) := (rfl)
@[simp] theorem z_isnotN (x : D) (h : Heap) : opC .isnot x .non h = .ok (.bl (!decide (x = .non)), h) := (rfl)
end Tw
end

section
set_option Elab.async false
set_option linter.all false
set_option maxRecDepth 100000
set_option maxHeartbeats 400000
/-! More simp lemmas: items of written tuples, cuts, rows of rows, maps. Own work. -/
namespace Tw
open PySem (Str)
section
variable {α : Type} (a b c d e : α) (l : List α)
@[simp] theorem nth0 : nth (a :: l) 0 = some a := (rfl)
@[simp] theorem nth1 : nth (a :: b :: l) 1 = some b := (rfl)
@[simp] theorem nth2 : nth (a :: b :: c :: l) 2 = some c := (rfl)
@[simp] theorem nth3 : nth (a :: b :: c :: d :: l) 3 = some d := (rfl)
@[simp] theorem nth4 : nth (a :: b :: c :: d :: e :: l) 4 = some e := (rfl)
@[simp] theorem cut13_3 : cut [a, b, c] (some 1) (some 3) = [b, c] := (rfl)
@[simp] theorem cut13_2 : cut [a, b] (some 1) (some 3) = [b] := (rfl)
@[simp] theorem cut12_3 : cut [a, b, c] (some 1) (some 2) = [b] := (rfl)
@[simp] theorem cut12_2 : cut [a, b] (some 1) (some 2) = [b] := (rfl)
theorem nth_get {ds : List α} {j : Nat} (hj : j < ds.length) : nth ds (j : Int) = some ds[j] := by
  unfold nth
  rw [if_pos (by omega)]
  simp [hj]
theorem nth_nat {ds : List α} {j : Nat} {d : α} (e : ds[j]? = some d) : nth ds (j : Int) = some d := by
  unfold nth
  rw [if_pos (by omega)]
  exact e
theorem nth_last (ds : List α) (d : α) : nth (ds ++ [d]) (-1) = some d := by
  unfold nth
  rw [if_neg (by decide), if_pos (by simp; omega)]
  simp
  rw [show (-1 + ((ds.length : Int) + 1)).toNat = ds.length by omega]
  simp
theorem nix_nat {n j : Nat} (h : j < n) : nix n (j : Int) = some j := by
  unfold nix
  rw [if_pos (by omega), if_pos (by omega)]
  rfl
theorem get_lt {xs : List α} {i : Nat} {x : α} (h : xs[i]? = some x) : i < xs.length := (List.getElem?_eq_some_iff.mp h).1
end
theorem get_more {t g : Heap} {i : Nat} {o : O} (h : t[i]? = some o) : (t ++ g)[i]? = some o := by
  rw [List.getElem?_append_left (get_lt h), h]
/-- items of a mapped list -/
theorem map_get {α : Type} {f : α → D} {xs : List α} {i : Nat} {x : D} (h : (xs.map f)[i]? = some x) : ∃ a, xs[i]? = some a ∧ x = f a := by
  rw [List.getElem?_map] at h
  cases e : xs[i]? with
  | none => rw [e] at h; cases h
  | some d => rw [e] at h; exact ⟨d, rfl, by simpa using h.symm⟩
theorem nth_map {α : Type} (f : α → D) (xs : List α) (i : Int) : nth (xs.map f) i = (nth xs i).map f := by
  unfold nth
  split
  · rw [List.getElem?_map]
  · rw [List.length_map]
    split
    · rw [List.getElem?_map]
    · rfl
/-- rows of rows -/
def rws (n : Nat) (R : Nat → Nat → Int) (i : Nat) : List D := (List.range i).map fun j => row n (R j)
theorem rws_at {n : Nat} {R : Nat → Nat → Int} {i a : Nat} (h : a < i) : nth (rws n R i) (a : Int) = some (row n (R a)) := by
  unfold nth
  rw [if_pos (by omega)]
  simp [rws, h]
@[simp] theorem rws_len (n : Nat) (R : Nat → Nat → Int) (i : Nat) : (rws n R i).length = i := by simp [rws]
theorem rws_succ (n : Nat) (R : Nat → Nat → Int) (i : Nat) : rws n R (i + 1) = rws n R i ++ [row n (R i)] := by simp [rws, List.range_succ]
@[simp] theorem rws_zero (n : Nat) (R : Nat → Nat → Int) : rws n R 0 = [] := (rfl)
theorem lows_map' {α : Type} (k : Nat) (f : α → D) (hf : ∀ a, (f a).low k = true) : ∀ l : List α, D.lows k (l.map f) = true
  | [] => rfl
  | a :: l => by rw [List.map_cons, D.lows, hf a, lows_map' k f hf l]; rfl
theorem lows_mem (k : Nat) : ∀ l : List D, (∀ d ∈ l, d.low k = true) → D.lows k l = true
  | [], _ => rfl
  | a :: l, h => by rw [D.lows, h a (List.mem_cons_self ..), lows_mem k l fun d hd => h d (List.mem_cons_of_mem _ hd)]; rfl
@[simp] theorem low_rws (k n : Nat) (R : Nat → Nat → Int) (i : Nat) : D.lows k (rws n R i) = true := lows_map' k _ (fun a => low_row k n _) _
@[simp] theorem z_trws (h g : Heap) (n : Nat) (R : Nat → Nat → Int) (i : Nat) : tidy h (.tup (rws n R i), h ++ g) = (.tup (rws n R i), h) := tidy_app h g _ (low_rws _ n R i)
theorem tidy_tup (h g : Heap) (ds : List D) (hd : D.lows h.length ds = true) : tidy h (.tup ds, h ++ g) = (.tup ds, h) := tidy_app h g _ hd
@[simp] theorem z_tnon (h g : Heap) : tidy h (.non, h ++ g) = (.non, h) := tidy_app h g _ rfl
@[simp] theorem z_tstr (h g : Heap) (s : Str) : tidy h (.str s, h ++ g) = (.str s, h) := tidy_app h g _ rfl
theorem strc (a b : String) : decide (Str.ofString a = Str.ofString b) = decide (a = b) := decide_eq_decide.mpr (str_eq a b)
/-- in a written tuple of texts -/
def strB (s : Str) : List D → Bool
  | .str t :: ds => decide (t = s) || strB s ds
  | _ => false
theorem cut_drop {α : Type} (xs : List α) (k : Nat) : cut xs (some (k : Int)) none = xs.drop k := by
  unfold cut
  rw [sIx_nat, show sIx xs.length xs.length none = xs.length from rfl]
  rcases Nat.le_total k xs.length with h | h
  · rw [Nat.min_eq_left h, List.take_of_length_le (by simp)]
  · rw [Nat.min_eq_right h, List.drop_of_length_le (Nat.le_refl _), List.drop_of_length_le h, List.take_nil]
/-! ### rows as data -/
theorem eqds_ints (n : Nat) (f g : Nat → Int) : eqds (intz n f) (intz n g) = decide (∀ j, j < n → f j = g j) := by
  have key : ∀ l : List Nat, eqds (l.map fun i => D.int (f i)) (l.map fun i => D.int (g i)) = decide (∀ j, j ∈ l → f j = g j) := by
    intro l
    induction l with
    | nil => simp [eqds]
    | cons x l ih =>
      rw [List.map_cons, List.map_cons, eqds, ih, show eqd (.int (f x)) (.int (g x)) = decide (f x = g x) from rfl]
      simp
  unfold intz
  rw [key]
  simp
theorem eqd_row (n : Nat) (f g : Nat → Int) : eqd (row n f) (row n g) = decide (∀ j, j < n → f j = g j) := eqds_ints n f g
theorem deep_row (k n : Nat) (f : Nat → Int) : D.deep (k + 1) (row n f) = true := by
  have key : ∀ l : List Nat, D.deeps k (l.map fun i => D.int (f i)) = true := by
    intro l
    induction l with
    | nil => rfl
    | cons x l ih =>
      rw [List.map_cons, D.deeps, ih]
      cases k <;> rfl
  rw [D.deep]
  exact key _
theorem deeps_rws (k n : Nat) (R : Nat → Nat → Int) (m : Nat) : D.deeps (k + 1) (rws n R m) = true := by
  have key : ∀ l : List Nat, D.deeps (k + 1) (l.map fun i => row n (R i)) = true := by
    intro l
    induction l with
    | nil => rfl
    | cons x l ih => rw [List.map_cons, D.deeps, ih, deep_row]; rfl
  exact key _
@[simp] theorem deeps_rwsD (n : Nat) (R : Nat → Nat → Int) (m : Nat) : D.deeps DEEP (rws n R m) = true := deeps_rws 7 n R m
@[simp] theorem deep_rowD (n : Nat) (f : Nat → Int) : D.deep DEEP (row n f) = true := deep_row 7 n f
/-- row in list of rows -/
theorem in_rows (neg : Bool) (n m i : Nat) (R : Nat → Nat → Int) (a : Nat → Int) (h : Heap) (hi : h[i]? = some (.lst (rws n R m))) : inB neg (row n a) (.ref i) h = .ok (.bl (neg != decide (∃ j, j < m ∧ ∀ x, x < n → R j x = a x)), h) := by
  have e1 : (rws n R m).any (fun z => eqd z (row n a)) = decide (∃ j, j < m ∧ ∀ x, x < n → R j x = a x) := by
    rw [Bool.eq_iff_iff, List.any_eq_true, decide_eq_true_eq]
    constructor
    · rintro ⟨d, hd, e⟩
      obtain ⟨j, hj, rfl⟩ := List.mem_map.mp hd
      rw [eqd_row] at e
      exact ⟨j, List.mem_range.mp hj, of_decide_eq_true e⟩
    · rintro ⟨j, hj, e⟩
      exact ⟨row n (R j), List.mem_map.mpr ⟨j, List.mem_range.mpr hj, rfl⟩, by rw [eqd_row]; exact decide_eq_true e⟩
  have e2 : D.deeps DEEP (rws n R m) = true := deeps_rws 7 n R m
  have e3 : (row n a).deep DEEP = true := deep_row 7 n a
  unfold inB
  simp only [hi, inL]
  rw [if_neg (show ¬ (scal (row n a) && (rws n R m).all scal) = true from Bool.false_ne_true), e1, e2, e3]
  rfl
theorem find_rows (n m s : Nat) (R : Nat → Nat → Int) (a : Nat → Int) (hs : s < m) (he : ∀ x, x < n → R s x = a x) (hno : ∀ j, j < s → ¬ ∀ x, x < n → R j x = a x) : (rws n R m).findIdx? (fun z => eqd z (row n a)) = some s := by
  have hl : (rws n R m)[s]? = some (row n (R s)) := by
    unfold rws
    rw [List.getElem?_map, List.getElem?_range hs]
    rfl
  rw [List.findIdx?_eq_some_iff_getElem]
  refine ⟨by simpa using hs, ?_, fun j hj => ?_⟩
  · simp only [rws, List.getElem_map, List.getElem_range]
    rw [eqd_row]
    exact decide_eq_true he
  · simp only [rws, List.getElem_map, List.getElem_range]
    rw [eqd_row]
    simpa using hno j hj
theorem index_rows {n m s i : Nat} {R : Nat → Nat → Int} {a : Nat → Int} {h : Heap} (hi : h[i]? = some (.lst (rws n R m))) (hs : s < m) (he : ∀ x, x < n → R s x = a x) (hno : ∀ j, j < s → ¬ ∀ x, x < n → R j x = a x) : indexV (.ref i) (row n a) h = .ok (.int (s : Nat), h) := by
  have e2 : D.deeps DEEP (rws n R m) = true := deeps_rws 7 n R m
  have e3 : (row n a).deep DEEP = true := deep_row 7 n a
  rw [z_indexV, hi, z_indV, e2, e3, find_rows n m s R a hs he hno]
  rfl
/-- a row as a key -/
def keyI (n : Nat) (f : Nat → Int) : List Key := (List.range n).map fun i => .inl (f i)
theorem keysOf_ints (n : Nat) (f : Nat → Int) : keysOf (intz n f) = some (keyI n f) := by
  have key : ∀ l : List Nat, keysOf (l.map fun i => D.int (f i)) = some (l.map fun i => (.inl (f i) : Key)) := by
    intro l
    induction l with
    | nil => rfl
    | cons x l ih => rw [List.map_cons, keysOf, ih]; rfl
  exact key _
@[simp] theorem keyT_row (n : Nat) (f : Nat → Int) : keyT (row n f) = some (keyI n f) := keysOf_ints n f
theorem keyI_inj {n : Nat} {f g : Nat → Int} : keyI n f = keyI n g ↔ ∀ x, x < n → f x = g x := by
  unfold keyI
  rw [List.map_inj_left]
  constructor
  · intro q x hx
    have e := q x (List.mem_range.mpr hx)
    injection e
  · intro q x hx
    rw [q x (List.mem_range.mp hx)]
/-- rows seen, numbered -/
def kvsT (n : Nat) (R : Nat → Nat → Int) (m : Nat) : List (List Key × D) := (List.range m).map fun i => (keyI n (R i), .int (i : Nat))
@[simp] theorem kvsT_len (n : Nat) (R : Nat → Nat → Int) (m : Nat) : (kvsT n R m).length = m := by simp [kvsT]
theorem findT_none {n m : Nat} {R : Nat → Nat → Int} {a : Nat → Int} (h : ∀ i, i < m → ¬ ∀ x, x < n → R i x = a x) : findV (kvsT n R m) (keyI n a) = none := by
  unfold findV
  rw [Option.map_eq_none_iff, List.find?_eq_none]
  intro q hq
  obtain ⟨i, hi, rfl⟩ := List.mem_map.mp hq
  intro z
  exact h i (List.mem_range.mp hi) (keyI_inj.mp (of_decide_eq_true z))
theorem findT_some {n : Nat} {R : Nat → Nat → Int} {a : Nat → Int} {s : Nat} (he : ∀ x, x < n → R s x = a x) (hno : ∀ j, j < s → ¬ ∀ x, x < n → R j x = a x) : ∀ m, s < m → findV (kvsT n R m) (keyI n a) = some (.int (s : Nat))
  | 0, h => by omega
  | m + 1, h => by
    unfold findV kvsT
    rw [List.range_succ, List.map_append, List.find?_append]
    rcases Nat.lt_or_ge s m with z | z
    · have ih := findT_some he hno m z
      unfold findV kvsT at ih
      obtain ⟨q, h1, h2⟩ := Option.map_eq_some_iff.mp ih
      rw [h1]
      simp [h2]
    · have : s = m := by omega
      subst this
      have ih := findT_none (m := s) (R := R) (a := a) (n := n) hno
      unfold findV kvsT at ih
      rw [Option.map_eq_none_iff.mp ih]
      have e : keyI n (R s) = keyI n a := keyI_inj.mpr he
      simp [e]
theorem putT_new {n m : Nat} {R : Nat → Nat → Int} (h : ∀ i, i < m → ¬ ∀ x, x < n → R i x = R m x) : putV (kvsT n R m) (keyI n (R m)) (.int (m : Nat)) = kvsT n R (m + 1) := by
  have e : (kvsT n R m).any (fun kv => decide (kv.1 = keyI n (R m))) = false := by
    rw [Bool.eq_false_iff]
    intro z
    obtain ⟨q, hq, z⟩ := List.any_eq_true.mp z
    obtain ⟨i, hi, rfl⟩ := List.mem_map.mp hq
    exact h i (List.mem_range.mp hi) (keyI_inj.mp (of_decide_eq_true z))
  unfold putV
  rw [e, if_neg Bool.false_ne_true]
  unfold kvsT
  rw [List.range_succ, List.map_append]
  rfl
/-- a walk that comes again -/
structure cyc (n : Nat) (G : Nat → Nat → Int) (M s : Nat) : Prop where
  s_lt : s < M
  eq : ∀ x, x < n → G s x = G M x
  ne : ∀ i j, i < j → j < M → ¬ ∀ x, x < n → G i x = G j x
theorem php : ∀ (q : Nat) (f : Nat → Nat), (∀ i, i ≤ q → f i < q) → ∃ i j, i < j ∧ j ≤ q ∧ f i = f j
  | 0, f, h => by have := h 0 (Nat.le_refl _); omega
  | q + 1, f, h => by
    by_cases z : ∃ i, i ≤ q ∧ f i = f (q + 1)
    · obtain ⟨i, hi, e⟩ := z
      exact ⟨i, q + 1, by omega, Nat.le_refl _, e⟩
    · have hne : ∀ i, i ≤ q → f i ≠ f (q + 1) := fun i hi e => z ⟨i, hi, e⟩
      obtain ⟨i, j, h1, h2, h3⟩ := php q (fun i => if f i < f (q + 1) then f i else f i - 1) (fun i hi => by
        have h4 := h i (by omega)
        have h5 := h (q + 1) (Nat.le_refl _)
        have h6 := hne i hi
        split <;> omega)
      refine ⟨i, j, h1, by omega, ?_⟩
      have h6 := hne i (by omega)
      have h7 := hne j h2
      split at h3 <;> split at h3 <;> omega
theorem cyc_of {n : Nat} {G : Nat → Nat → Int} {i j : Nat} (hij : i < j) (he : ∀ x, x < n → G i x = G j x) : ∃ M s, cyc n G M s ∧ M ≤ j := by
  have main : ∀ m, (∃ M s, cyc n G M s ∧ M ≤ m) ∨ ∀ a b, a < b → b ≤ m → ¬ ∀ x, x < n → G a x = G b x := by
    intro m
    induction m with
    | zero => exact .inr fun a b h1 h2 => by omega
    | succ m ih =>
      rcases ih with ⟨M, s, h1, h2⟩ | ih
      · exact .inl ⟨M, s, h1, by omega⟩
      · by_cases z : ∃ a, a ≤ m ∧ ∀ x, x < n → G a x = G (m + 1) x
        · obtain ⟨a, h1, h2⟩ := z
          exact .inl ⟨m + 1, a, ⟨by omega, h2, fun i j h3 h4 => ih i j h3 (by omega)⟩, Nat.le_refl _⟩
        · refine .inr fun a b h1 h2 h3 => ?_
          rcases Nat.lt_or_ge m b with y | y
          · have : b = m + 1 := by omega
            subst this
            exact z ⟨a, by omega, h3⟩
          · exact ih a b h1 y h3
  rcases main j with h | h
  · exact h
  · exact (h i j hij (Nat.le_refl _) he).elim
def chV (c : Ctx) (o : COp) (d : CE) (ρ : Env) (y : D) : D × Heap → R (D × Heap)
  | (.bl false, h) => .ok (.bl false, h)
  | (.bl true, h) => (ev c d ρ h).bind fun w => opC o y w.1 w.2
  | _ => .no
@[simp] theorem z_chV (c : Ctx) (o : COp) (d : CE) (ρ : Env) (y : D) (b : Bool) (h : Heap) : chV c o d ρ y (.bl b, h) = iteV b ((ev c d ρ h).bind fun w => opC o y w.1 w.2) (.ok (.bl false, h)) := by cases b <;> rfl
@[simp] theorem z_chain (c : Ctx) (o1 o2 : COp) (a b d : CE) (ρ : Env) (h : Heap) : ev c (.chain o1 o2 a b d) ρ h = (ev c a ρ h).bind fun x => (ev c b ρ x.2).bind fun y => (opC o1 x.1 y.1 y.2).bind (chV c o2 d ρ y.1) := by
  rw [ev]
  congr 1; funext x; congr 1; funext y; congr 1; funext z
  rcases z with ⟨z, h'⟩
  cases z with
  | bl b => cases b <;> rfl
  | _ => rfl
def orV (b : Bool) (x : D × Heap) (r : R (D × Heap)) : R (D × Heap) := if b = true then .ok x else r
@[simp] theorem z_orT (x : D × Heap) (r : R (D × Heap)) : orV true x r = .ok x := (rfl)
@[simp] theorem z_orF (x : D × Heap) (r : R (D × Heap)) : orV false x r = r := (rfl)
@[simp] theorem z_or (c : Ctx) (a b : CE) (ρ : Env) (h : Heap) : ev c (.or a b) ρ h = (ev c a ρ h).bind fun x => ofO (truth x.1 x.2) fun t => orV t x (ev c b ρ x.2) := by
  rw [ev]
  congr 1; funext x; congr 1; funext t; cases t <;> rfl
theorem fm_congr {α β : Type} {f g : α → Option β} : ∀ {l : List α}, (∀ a ∈ l, f a = g a) → l.filterMap f = l.filterMap g
  | [], _ => rfl
  | a :: l, h => by rw [List.filterMap_cons, List.filterMap_cons, h a (List.mem_cons_self ..), fm_congr fun b hb => h b (List.mem_cons_of_mem _ hb)]
/-- a comprehension over a list, kept or not, without a test -/
theorem comp_map {c : Ctx} {ρ : Env} {h : Heap} {e : CE} {i : Nat} {it : CI} {g : List (Nat × O)} (M : Nat) (G G' : Nat → D) (hit : evI c it ρ h = .ok (((List.range M).map G, g), h)) (hg : guards g h = true) (hM : M < LIM)
    (hf : ∀ j, j < M → ev c e ((ρ.set i none).set i (some (G j))) h = .ok (G' j, h)) :
    evL c (.comp e (.name i) it .none) ρ h = .ok ((List.range M).map G', h) := by
  rw [evL, hit, z_bind]
  have hl : decide (((List.range M).map G).length < LIM) = true := decide_eq_true (by simpa using hM)
  simp only [hl, z_chk]
  have key : ∀ (F : D → Heap → R (Option D × Heap)) (l : List Nat), (∀ j, j ∈ l → F (G j) h = .ok (some (G' j), h)) → mapL g F (l.map G) h = .ok (l.map G', h) := by
    intro F l
    induction l with
    | nil => intro _; simp [mapL, hg]
    | cons x l ih =>
      intro q
      rw [List.map_cons, mapL, hg, q x (List.mem_cons_self ..)]
      have := ih fun j hj => q j (List.mem_cons_of_mem _ hj)
      simp [this]
  refine key _ (List.range M) (fun j hj => ?_)
  have := hf j (List.mem_range.mp hj)
  simp only [asg, CT.slots, wipeE, R.bind, tvO, this]
/-- .. of rows into rows -/
theorem comp_rws {c : Ctx} {ρ : Env} {h : Heap} {e : CE} {i : Nat} {it : CI} {g : List (Nat × O)} (n M : Nat) (R S : Nat → Nat → Int) (hit : evI c it ρ h = .ok ((rws n R M, g), h)) (hg : guards g h = true) (hM : M < LIM)
    (hf : ∀ j, j < M → ev c e ((ρ.set i none).set i (some (row n (R j)))) h = .ok (row n (S j), h)) :
    evL c (.comp e (.name i) it .none) ρ h = .ok (rws n S M, h) := comp_map M (fun j => row n (R j)) (fun j => row n (S j)) hit hg hM hf
section
variable (t : Ty) (h : Heap)
@[simp] theorem ty_tup (ds : List D) : isTy t (.tup ds) h = some (decide (t = .tuple)) := (rfl)
@[simp] theorem ty_ctp (ds : List D) : isTy t (.ctp ds) h = some (decide (t = .tuple)) := (rfl)
@[simp] theorem ty_seq (ds : List D) : isTy t (.seq ds) h = some (decide (t = .list)) := (rfl)
@[simp] theorem ty_int (i : Int) : isTy t (.int i) h = some (decide (t = .int)) := (rfl)
@[simp] theorem ty_str (i : Str) : isTy t (.str i) h = some (decide (t = .str)) := (rfl)
@[simp] theorem ty_bl (i : Bool) : isTy t (.bl i) h = some (decide (t = .int) || decide (t = .bool)) := (rfl)
@[simp] theorem ty_non : isTy t .non h = some false := (rfl)
def tyV (t : Ty) : Option O → Option Bool
  | some (.lst _) => some (decide (t = .list))
  | _ => none
@[simp] theorem tyV_lst (xs : List D) : tyV t (some (.lst xs)) = some (decide (t = .list)) := (rfl)
@[simp] theorem ty_ref (n : Nat) : isTy t (.ref n) h = tyV t h[n]? := by
  unfold isTy tyV
  rfl
end
/-- a comprehension whose items change the state (draws) -/
theorem mapL_st {σ : Type} (Hs : σ → Heap) (ok : σ → Prop) (Pv : Nat → D → Prop) (F : D → Heap → R (Option D × Heap)) : ∀ (xs : List D) (k : Nat) (s : σ), ok s →
    (∀ j d s, xs[j]? = some d → ok s → ∃ v s', Pv (k + j) v ∧ ok s' ∧ F d (Hs s) = .ok (some v, Hs s')) →
    ∃ vs s', vs.length = xs.length ∧ (∀ j v, vs[j]? = some v → Pv (k + j) v) ∧ ok s' ∧ mapL [] F xs (Hs s) = .ok (vs, Hs s')
  | [], k, s, hs, _ => ⟨[], s, rfl, fun j v h => by simp at h, hs, by simp [mapL, guards]⟩
  | x :: xs, k, s, hs, hf => by
    obtain ⟨v, s1, h1, h2, h3⟩ := hf 0 x s rfl hs
    obtain ⟨vs, s2, e1, e2, e3, e4⟩ := mapL_st Hs ok Pv F xs (k + 1) s1 h2 (fun j d s hj hs => by
      have := hf (j + 1) d s (by simpa using hj) hs
      rwa [show k + (j + 1) = k + 1 + j by omega] at this)
    refine ⟨v :: vs, s2, by simp [e1], fun j u hj => ?_, e3, ?_⟩
    · cases j with
      | zero => simp at hj; subst hj; exact h1
      | succ j =>
        have := e2 j u (by simpa using hj)
        rwa [show k + (j + 1) = k + 1 + j by omega]
    · rw [mapL, h3]
      simp [guards, e4]
theorem comp_st {σ : Type} {c : Ctx} {ρ : Env} {h0 : Heap} {e : CE} {t : CT} {it : CI} (Hs : σ → Heap) (ok : σ → Prop) (Pv : Nat → D → Prop) (xs : List D) (s : σ) (hs : ok s) (hit : evI c it ρ h0 = .ok ((xs, []), Hs s)) (hn : xs.length < LIM)
    (hf : ∀ j d s, xs[j]? = some d → ok s → ∃ v s', Pv j v ∧ ok s' ∧ cstep c e t .none ρ d (Hs s) = .ok (some v, Hs s')) :
    ∃ vs s', vs.length = xs.length ∧ (∀ j v, vs[j]? = some v → Pv j v) ∧ ok s' ∧ evL c (.comp e t it .none) ρ h0 = .ok (vs, Hs s') := by
  obtain ⟨vs, s', e1, e2, e3, e4⟩ := mapL_st Hs ok Pv (fun x h => cstep c e t .none ρ x h) xs 0 s hs (fun j d s hj hs => by
    rw [Nat.zero_add]
    exact hf j d s hj hs)
  refine ⟨vs, s', e1, fun j v hj => by simpa using e2 j v hj, e3, ?_⟩
  rw [evL, hit, z_bind]
  simp only [decide_eq_true hn, z_chk]
  exact e4
def intAt : Option D → Int
  | some (.int i) => i
  | _ => 0
theorem ints_of {p : Int} (hp : 0 < p) {vs : List D} (h : ∀ (j : Nat) v, vs[j]? = some v → ∃ i, v = .int i ∧ 0 ≤ i ∧ i < p) : ∃ a, rg p a ∧ vs = intz vs.length a := by
  refine ⟨fun j => intAt vs[j]?, fun j => ?_, ?_⟩
  · show 0 ≤ intAt vs[j]? ∧ intAt vs[j]? < p
    cases e : vs[j]? with
    | none => exact ⟨Int.le_refl _, hp⟩
    | some v =>
      obtain ⟨i, rfl, h0, h1⟩ := h j v e
      exact ⟨h0, h1⟩
  · apply List.ext_getElem?
    intro j
    by_cases hj : j < vs.length
    · rw [ints_get hj]
      obtain ⟨i, e, _⟩ := h j vs[j] (List.getElem?_eq_getElem hj)
      rw [List.getElem?_eq_getElem hj, e]
      rfl
    · rw [List.getElem?_eq_none (by omega), List.getElem?_eq_none (by rw [ints_len]; omega)]
/-! ### deeds of programs (no program in sight) -/
def plc (ps : List Nat) : D := .tup (ps.map fun j => .int (j : Nat))
theorem in_plc (neg : Bool) (x : Nat) (ps : List Nat) (h : Heap) : inB neg (.int (x : Nat)) (plc ps) h = .ok (.bl (neg != decide (x ∈ ps)), h) := by
  have h1 : (ps.map fun j => D.int (j : Nat)).all scal = true := by
    rw [List.all_map]
    exact List.all_eq_true.mpr fun _ _ => rfl
  have h2 : (ps.map fun j => D.int (j : Nat)).any (fun z => eqf z (.int (x : Nat))) = decide (x ∈ ps) := by
    rw [List.any_map, Bool.eq_iff_iff, List.any_eq_true, decide_eq_true_eq]
    constructor
    · rintro ⟨j, hj, e⟩
      have : ((j : Nat) : Int) = x := of_decide_eq_true e
      rwa [show x = j by omega]
    · exact fun q => ⟨x, q, decide_eq_true rfl⟩
  show inL neg (.int (x : Nat)) (ps.map fun j => D.int (j : Nat)) h = _
  unfold inL
  rw [h1, h2]
  rfl
/-- x -> x ** m, the coefficients -/
def stR (n m : Nat) (a : Nat → Int) : Nat → Nat → Int
  | 0, _ => 0
  | i + 1, t => if t = (i * m) % n then a i else stR n m a i t
inductive Deed where
  | take (x f : Str) | add (a b : Nat) | less (a b : Nat) | times (a b : Nat) | scale (a : Nat) (r : Int) | shift (a : Nat) (s : Int)
  | mirror (a : Nat) | stretch (a m : Nat) | keep (a : Nat) (ps : List Nat) | hold (a : Nat) (ps : List Nat) | slope (a : Nat)
def encD : Deed → D
  | .take x f => .tup [.str "take", .str x, .str f]
  | .add a b => .tup [.str "add", .int (a : Nat), .int (b : Nat)]
  | .less a b => .tup [.str "less", .int (a : Nat), .int (b : Nat)]
  | .times a b => .tup [.str "times", .int (a : Nat), .int (b : Nat)]
  | .scale a r => .tup [.str "scale", .int (a : Nat), .int r]
  | .shift a s => .tup [.str "shift", .int (a : Nat), .int s]
  | .mirror a => .tup [.str "mirror", .int (a : Nat)]
  | .stretch a m => .tup [.str "stretch", .int (a : Nat), .int (m : Nat)]
  | .keep a ps => .tup [.str "keep", .int (a : Nat), plc ps]
  | .hold a ps => .tup [.str "hold", .int (a : Nat), plc ps]
  | .slope a => .tup [.str "slope", .int (a : Nat)]
/-- what a deed makes, in coefficients: X the inputs' coefficients, R the rows of the deeds ahead -/
def semD (p w : Int) (n : Nat) (X : Str → Nat → Int) (R : Nat → Nat → Int) : Deed → Nat → Int
  | .take x _ => X x
  | .add a b => fun i => (R a i + R b i) % p
  | .less a b => fun i => (R a i - R b i) % p
  | .times a b => cv p n (R a) (R b)
  | .scale a r => fun i => (R a i * r) % p
  | .shift a s => fun i => cy n (R a) (i - s)
  | .mirror a => fun i => cy n (R a) (-i)
  | .stretch a m => stR n m (R a) n
  | .keep a ps => fun i => if i ∈ ps then R a i else 0
  | .hold a ps => cs p w n fun j => if j ∈ ps then vs p w n (R a) j else 0
  | .slope a => fun i => (i * R a i) % p
/-- the deeds that it names stand ahead -/
def okD (i : Nat) : Deed → Prop
  | .take _ _ => True
  | .add a b => a < i ∧ b < i
  | .less a b => a < i ∧ b < i
  | .times a b => a < i ∧ b < i
  | .scale a r => a < i ∧ small r = true
  | .shift a s => a < i ∧ small s = true
  | .mirror a => a < i
  | .stretch a m => a < i ∧ m < 1000
  | .keep a _ => a < i
  | .hold a _ => a < i
  | .slope a => a < i
/-- a program, its tells -/
structure Tell where
  d : Nat
  f : Str
  j : Nat
def encT (t : Tell) : D := .tup [.int (t.d : Nat), .str t.f, .int (t.j : Nat)]
def encP (ds : List Deed) (ts : List Tell) : D := .tup [.tup (ds.map encD), .tup (ts.map encT)]
section
variable (ds : List Deed) (ts : List Tell) (h : Heap)
@[simp] theorem encP_ty (t : Ty) : isTy t (encP ds ts) h = some (decide (t = .tuple)) := (rfl)
@[simp] theorem encP_sq : seqH (encP ds ts) h = some ([.tup (ds.map encD), .tup (ts.map encT)], []) := (rfl)
@[simp] theorem encP_ix0 : idxV (encP ds ts) (.int 0) h = .ok (.tup (ds.map encD), h) := (rfl)
@[simp] theorem encP_ix1 : idxV (encP ds ts) (.int 1) h = .ok (.tup (ts.map encT), h) := (rfl)
@[simp] theorem low_encD (k : Nat) (d : Deed) : (encD d).low k = true := by
  cases d <;> simp only [encD, D.low, D.lows, Bool.and_true] <;> exact lows_map' _ _ (fun _ => rfl) _
@[simp] theorem low_encP (k : Nat) : (encP ds ts).low k = true := by
  unfold encP
  simp only [D.low, D.lows, Bool.and_true, Bool.and_eq_true]
  exact ⟨lows_map' _ _ (fun d => low_encD k d) _, lows_map' _ _ (fun _ => rfl) _⟩
end
/-- the inputs: names, rows -/
def encIn (n : Nat) (ins : List (Str × (Nat → Int))) : List D := ins.map fun q => D.tup [.str q.1, row n q.2]
def kvIn (n : Nat) (ins : List (Str × (Nat → Int))) : List (Key × D) := ins.map fun q => (.inr q.1, row n q.2)
/-- a dict of names and rows -/
theorem dcomp_in {c : Ctx} {h : Heap} {i j : Nat} {ρ : Env} {it : CI} (n : Nat) (ins : List (Str × (Nat → Int))) (hnd : (ins.map (·.1)).Nodup) (hl : ins.length < 1000) (hi : i < ρ.length) (hj : j < ρ.length) (hij : i ≠ j) (hit : evI c it ρ h = .ok ((encIn n ins, []), h)) :
    ev c (.dcomp (.var i) (.var j) (.tup (.cons (.name i) (.cons (.name j) .nil))) it .none) ρ h = .ok (.ref h.length, h ++ [.dct (kvIn n ins)]) := by
  rw [ev, hit, z_bind]
  have key : ∀ (l pre : List (Str × (Nat → Int))), ((pre ++ l).map (·.1)).Nodup → (pre ++ l).length < 1000 → mapD [] (fun x h => (asg c (.tup (.cons (.name i) (.cons (.name j) .nil))) x (wipeE ρ (CT.slots (.tup (.cons (.name i) (.cons (.name j) .nil))))) h).bind fun s => (tvO c .none s.1 s.2).bind fun b => match b.1 with
      | true => (ev c (.var i) s.1 b.2).bind fun y => (ev c (.var j) s.1 y.2).bind fun z => .ok (some (y.1, z.1), z.2)
      | false => .ok (none, b.2)) (encIn n l) (kvIn n pre) h = .ok (kvIn n (pre ++ l), h) := by
    intro l
    induction l with
    | nil => intro pre _ _; simp [encIn, mapD, guards]
    | cons q l ih =>
      intro pre hd hl
      have e1 : (kvIn n pre).any (fun kv => decide (kv.1 = (Sum.inr q.1 : Key))) = false := by
        rw [Bool.eq_false_iff]
        intro z
        obtain ⟨kv, hk, e⟩ := List.any_eq_true.mp z
        obtain ⟨q', hq', rfl⟩ := List.mem_map.mp hk
        have e' : (Sum.inr q'.1 : Key) = Sum.inr q.1 := of_decide_eq_true e
        have e2 : q'.1 = q.1 := by injection e'
        rw [List.map_append, List.nodup_append] at hd
        exact hd.2.2 q'.1 (List.mem_map.mpr ⟨q', hq', rfl⟩) q.1 (by simp) e2
      have e2 : putV (kvIn n pre) (.inr q.1) (row n q.2) = kvIn n (pre ++ [q]) := by
        unfold putV
        rw [if_neg (by rw [e1]; exact Bool.false_ne_true)]
        simp [kvIn]
      have hlen : (kvIn n pre).length < LIM := by
        simp only [kvIn, List.length_map]
        simp only [List.length_append] at hl
        unfold LIM
        omega
      have ih' := ih (pre ++ [q]) (by rw [List.append_assoc]; exact hd) (by rw [List.append_assoc]; exact hl)
      rw [List.append_assoc] at ih'
      have step : mapD [] (fun x h => (asg c (.tup (.cons (.name i) (.cons (.name j) .nil))) x (wipeE ρ (CT.slots (.tup (.cons (.name i) (.cons (.name j) .nil))))) h).bind fun s => (tvO c .none s.1 s.2).bind fun b => match b.1 with
        | true => (ev c (.var i) s.1 b.2).bind fun y => (ev c (.var j) s.1 y.2).bind fun z => .ok (some (y.1, z.1), z.2)
        | false => .ok (none, b.2)) (encIn n (q :: l)) (kvIn n pre) h = mapD [] (fun x h => (asg c (.tup (.cons (.name i) (.cons (.name j) .nil))) x (wipeE ρ (CT.slots (.tup (.cons (.name i) (.cons (.name j) .nil))))) h).bind fun s => (tvO c .none s.1 s.2).bind fun b => match b.1 with
        | true => (ev c (.var i) s.1 b.2).bind fun y => (ev c (.var j) s.1 y.2).bind fun z => .ok (some (y.1, z.1), z.2)
        | false => .ok (none, b.2)) (encIn n l) (putV (kvIn n pre) (.inr q.1) (row n q.2)) h := by
        rw [show encIn n (q :: l) = D.tup [.str q.1, row n q.2] :: encIn n l from rfl, mapD]
        simp [guards, tvO, hi, hj, hij, Ne.symm hij, dputM, keyOf, hlen]
      rw [step, e2]
      exact ih'
  have := key ins [] (by simpa using hnd) (by simpa using hl)
  rw [show kvIn n ([] : List (Str × (Nat → Int))) = [] from rfl] at this
  refine Eq.trans (c_bind this) ?_
  rw [z_bind, List.nil_append]
end Tw
end

section
set_option Elab.async false
set_option linter.all false
set_option maxRecDepth 100000
set_option maxHeartbeats 400000
namespace K86
open Tw
open PySem (Str)
@[simp] theorem pgcs : pg.cs = [.ctp [(.str "C"), (.str "V")], .ctp [(.str "add"), (.str "less"), (.str "times")]] := rfl
@[simp] theorem pgcl : pg.cl = [([0], []), ([1, 0], []), ([2, 0], []), ([3, 1, 0], [Str.ofString "word", Str.ofString "name"]), ([4, 2, 0], [Str.ofString "word"])] := rfl
theorem ne_VC : ¬ Str.ofString "V" = Str.ofString "C" := by simp [str_eq]
theorem s_power_of {p r : Int} {t : Nat} (hp : 0 < p) (hp2 : p < 100000) (ht : t < 1000) (k : Nat) (h : Heap) :
    callI pg (k + 1) f_power_of [.int p, .int r, .int t] h = .ok (.int (r ^ t % p), h) := by
  rw [u_power_of, b_power_of]
  simp [hp]
  refine go_whileE t (fun m ρ h1 => h1 = h ∧ ∃ a b : Int, ρ = [some (.int p), some (.int r), some (.int t), some (.int a), some (.int b), some (.int m)] ∧ 0 ≤ a ∧ a < p ∧ 0 ≤ b ∧ b < p ∧ (a * b ^ m) % p = r ^ t % p)
    (fun ρ h1 => h1 = h ∧ ∃ b l : Int, ρ = [some (.int p), some (.int r), some (.int t), some (.int (r ^ t % p)), some (.int b), some (.int l)])
    (by unfold FUEL; omega) ⟨rfl, 1 % p, r % p, rfl, Int.emod_nonneg _ (by omega), Int.emod_lt_of_pos _ hp, Int.emod_nonneg _ (by omega), Int.emod_lt_of_pos _ hp, by rw [mod_mul_l, Int.one_mul, mod_pow]⟩ ?_ ?_
  · rintro m ρ h1 ⟨rfl, a, b, rfl, ha, ha', hb, hb', e⟩
    by_cases hm : m = 0
    · subst hm
      left
      refine ⟨by simp, rfl, b, 0, ?_⟩
      rw [Int.pow_zero, Int.mul_one, Int.emod_eq_of_lt ha ha'] at e
      simp [e]
    · right
      have hb2 : (b * b) % p < p := Int.emod_lt_of_pos _ hp
      have hb3 : 0 ≤ (b * b) % p := Int.emod_nonneg _ (by omega)
      have hab2 : (a * b) % p < p := Int.emod_lt_of_pos _ hp
      have hab3 : 0 ≤ (a * b) % p := Int.emod_nonneg _ (by omega)
      refine ⟨by simp; omega, m / 2, ?_⟩
      have hd : ((m : Int) / 2) = ((m / 2 : Nat) : Int) := by omega
      by_cases ho : m % 2 = 1
      · refine ⟨[some (.int p), some (.int r), some (.int t), some (.int ((a * b) % p)), some (.int ((b * b) % p)), some (.int (m / 2 : Nat))], h1, by omega, ?_, rfl, (a * b) % p, (b * b) % p, rfl, hab3, hab2, hb3, hb2, ?_⟩
        · have : ((m : Int) % 2 = 1) := by omega
          simp [this, hp, sm1 ha ha' hp2, sm1 hb hb' hp2]
        · rw [mod_mul_l, ← e, Int.mul_emod, mod_pow, ← Int.mul_emod, pw_even, Int.mul_assoc, ← Int.pow_succ', show 2 * (m / 2) + 1 = m by omega]
      · refine ⟨[some (.int p), some (.int r), some (.int t), some (.int a), some (.int ((b * b) % p)), some (.int (m / 2 : Nat))], h1, by omega, ?_, rfl, a, (b * b) % p, rfl, ha, ha', hb3, hb2, ?_⟩
        · have : ¬ ((m : Int) % 2 = 1) := by omega
          simp [this, hp, sm1 ha ha' hp2, sm1 hb hb' hp2]
        · rw [← e, Int.mul_emod, mod_pow, ← Int.mul_emod, pw_even, show 2 * (m / 2) = m by omega]
  · rintro ρ' h' ⟨rfl, b, l, rfl⟩
    simp
theorem s_root_row {p w : Int} {n : Nat} (F : Fld p n w) (k : Nat) (h : Heap) : callI pg (k + 1) f_root_row [fl p n w] h = .ok (row n (rr p w), h) := by
  obtain ⟨p2, pU, n1, nU, w0, wU⟩ := F
  have hp : 0 < p := by omega
  rw [u_root_row, b_root_row]
  simp [hp, LIM]
  refine go_whileE (n - 1) (fun m ρ h1 => ∃ l, 1 ≤ l ∧ m + l = n ∧ h1 = h ++ [.lst (intz l (rr p w))] ∧ ρ = [some (fl p n w), some (.ref h.length), some (.int p), some (.int n), some (.int w)])
    (fun ρ h1 => h1 = h ++ [.lst (intz n (rr p w))] ∧ ρ = [some (fl p n w), some (.ref h.length), some (.int p), some (.int n), some (.int w)]) (by unfold FUEL; omega) ⟨1, by omega, by omega, by simp [intz, rr], rfl⟩ ?_ ?_
  · rintro m ρ h1 ⟨l, l1, ml, rfl, rfl⟩
    by_cases hm : m = 0
    · left
      have : l = n := by omega
      subst this
      simp
    · right
      have h0 := sm1 w0 wU (by omega)
      have : l < 16777216 := by omega
      refine ⟨by simp; omega, m - 1, _, _, by omega, ?_, l + 1, by omega, by omega, rfl, rfl⟩
      simp [ints_last _ _ (show 0 < l by omega), h0, hp, LIM, this]
      rw [ints_succ]
      simp [rr]
      rw [mod_mul_l, ← Int.pow_succ, show (l - 1).succ = l by omega]
  · rintro ρ' h' ⟨rfl, rfl⟩
    simp

theorem s_values_of {p w : Int} {n : Nat} (F : Fld p n w) (a : Nat → Int) (k : Nat) (h : Heap) : callI pg (k + 2) f_values_of [fl p n w, row n a] h = .ok (row n (vs p w n a), h) := by
  have hr := rr_small F
  have e := s_root_row F k h
  obtain ⟨p2, pU, n1, nU, w0, wU⟩ := F
  have hn : 0 < n := by omega
  have hp : 0 < p := by omega
  rw [u_values_of, b_values_of]
  simp [LIM, e]
  refine go_rngE (h1 := h ++ [.lst []]) n (fun i ρ h1 => h1 = h ++ [.lst (intz i (vs p w n a))] ∧ ∃ x y, ρ = [some (fl p n w), some (row n a), some (row n (rr p w)), some (.ref h.length), x, some (.int p), some (.int n), some (.int w), y]) (by simp [rok (show n < 1000000 by omega)]) ⟨by simp [intz], _, _, rfl⟩ ?_ ?_
  · rintro i ρ h1 hi ⟨rfl, x, y, rfl⟩
    have hl : i < LIM := by unfold LIM; omega
    refine ⟨_, _, ?_, rfl, some (.int i), y, rfl⟩
    simp
    rw [comp_ints n (fun j => a j * cy n (rr p w) (j * i)) (by simp [rok (show n < 1000000 by omega)]) (by unfold LIM; omega) (by
      intro j hj
      have : small (j : Int) = true := small_of (by omega) (by omega)
      simp [z_cy, hn, ints_at hj, hr, this])]
    simp [hp, hl, ints_succ, vs]
  · rintro ρ' h' ⟨rfl, x, y, rfl⟩
    simp
theorem s_coefficients_of {p w : Int} {n : Nat} (F : Fld p n w) (a : Nat → Int) (k : Nat) (h : Heap) : callI pg (k + 3) f_coefficients_of [fl p n w, row n a] h = .ok (row n (cs p w n a), h) := by
  have hr := rr_small F
  have e := s_root_row F (k + 1) h
  obtain ⟨p2, pU, n1, nU, w0, wU, _, _, _, np⟩ := F
  have hn : 0 < n := by omega
  have hp : 0 < p := by omega
  have e2 := s_power_of (p := p) (r := n) (t := (p - 2).toNat) hp (by omega) (by omega) k h
  rw [show (((p - 2).toNat : Nat) : Int) = p - 2 by omega] at e2
  have e3 : callI pg (k + 2) f_inverse_of [.int p, .int n] h = .ok (.int ((n : Int) ^ (p - 2).toNat % p), h) := by
    rw [u_inverse_of, b_inverse_of]
    simp [hp, np, e2]
  rw [u_coefficients_of, b_coefficients_of]
  simp [LIM, e, e3]
  have hq : small ((n : Int) ^ (p - 2).toNat % p) = true := sm1 (Int.emod_nonneg _ (by omega)) (Int.emod_lt_of_pos _ hp) (by omega)
  refine go_rngE (h1 := h ++ [.lst []]) n (fun i ρ h1 => h1 = h ++ [.lst (intz i (cs p w n a))] ∧ ∃ x y z, ρ = [some (fl p n w), some (row n a), some (row n (rr p w)), some (.int ((n : Int) ^ (p - 2).toNat % p)), some (.ref h.length), x, some (.int p), some (.int n), some (.int w), y, z]) (by simp [rok (show n < 1000000 by omega)]) ⟨by simp [intz], _, _, _, rfl⟩ ?_ ?_
  · rintro i ρ h1 hi ⟨rfl, x, y, z, rfl⟩
    have hl : i < LIM := by unfold LIM; omega
    refine ⟨_, _, ?_, rfl, some (.int i), some (.int (sm n (fun j => a j * cy n (rr p w) (-(i * j))))), z, rfl⟩
    simp
    rw [comp_ints n (fun j => a j * cy n (rr p w) (-(i * j))) (by simp [rok (show n < 1000000 by omega)]) (by unfold LIM; omega) (by
      intro j hj
      have : small (j : Int) = true := small_of (by omega) (by omega)
      simp [z_cy, hn, ints_at hj, hr, this])]
    simp [hp, hl, ints_succ, cs, hq]
  · rintro ρ' h' ⟨rfl, x, y, z, rfl⟩
    simp
theorem s_is_form_C (k : Nat) (h : Heap) : callI pg (k + 1) f_is_form [.str "C"] h = .ok (.bl true, h) := by
  rw [u_is_form, b_is_form]
  simp [isTy, inB, scal, eqf, str_eq]
theorem s_is_form_V (k : Nat) (h : Heap) : callI pg (k + 1) f_is_form [.str "V"] h = .ok (.bl true, h) := by
  rw [u_is_form, b_is_form]
  simp [isTy, inB, scal, eqf, str_eq]
theorem s_turned_C {p w : Int} {n : Nat} (F : Fld p n w) (a : Nat → Int) (k : Nat) (h : Heap) : callI pg (k + 3) f_turned_over [fl p n w, row n a, .str "C"] h = .ok (row n (vs p w n a), h) := by
  rw [u_turned_over, b_turned_over]
  simp [s_is_form_C, s_values_of F]
theorem s_turned_V {p w : Int} {n : Nat} (F : Fld p n w) (a : Nat → Int) (k : Nat) (h : Heap) : callI pg (k + 4) f_turned_over [fl p n w, row n a, .str "V"] h = .ok (row n (cs p w n a), h) := by
  rw [u_turned_over, b_turned_over]
  simp [s_is_form_V, s_coefficients_of F, str_eq]
end K86
end

section
set_option Elab.async false
set_option linter.all false
set_option maxRecDepth 100000
set_option maxHeartbeats 400000
namespace K86
open Tw
open PySem (Str)
theorem s_multV {p w : Int} {n : Nat} (F : Fld p n w) (a b : Nat → Int) (ha : ∀ i, small (a i) = true) (k : Nat) (h : Heap) : callI pg (k + 1) f_multiplied [fl p n w, .str "V", row n a, row n b] h = .ok (row n (fun i => (a i * b i) % p), h) := by
  obtain ⟨p2, pU, n1, nU, w0, wU⟩ := F
  have hp : 0 < p := by omega
  rw [u_multiplied, b_multiplied]
  simp
  rw [comp_zip n a b (fun i => (a i * b i) % p) (by simp [isTup]) (by unfold LIM; omega) (by intro j hj; simp [nth, hp, ha])]
  simp
theorem s_multC {p w : Int} {n : Nat} (F : Fld p n w) (a b : Nat → Int) (ha : ∀ i, small (a i) = true) (k : Nat) (h : Heap) : callI pg (k + 1) f_multiplied [fl p n w, .str "C", row n a, row n b] h = .ok (row n (cv p n a b), h) := by
  obtain ⟨p2, pU, n1, nU, w0, wU, _, _, _, np⟩ := F
  have hn : 0 < n := by omega
  have hp : 0 < p := by omega
  have hr : List.replicate n (D.int 0) = intz n (fun t => mxS n a b 0 0 t % p) := rep_zero n _ fun t => by simp [mxS, sm]
  rw [u_multiplied, b_multiplied]
  simp [str_eq, rok (show n < 1000000 by omega), LIM, show n ≤ 16777216 by omega, hr]
  refine go_itemsE (h1 := h ++ [.lst (intz n fun t => mxS n a b 0 0 t % p)]) (enumD 0 (intz n a)) (fun i ρ h1 => h1 = h ++ [.lst (intz n fun t => mxS n a b i 0 t % p)] ∧ ∃ x1 x2 x3 x4 x5, ρ = [some (fl p n w), some (.str "C"), some (row n a), some (row n b), some (.ref h.length), some (.int p), some (.int n), some (.int w), x1, x2, x3, x4, x5]) (by simp) ⟨rfl, _, _, _, _, _, rfl⟩ ?_ ?_
  · rintro i x ρ h1 hx ⟨rfl, x1, x2, x3, x4, x5, rfl⟩
    obtain ⟨hi, rfl⟩ := enumI_get hx
    simp
    refine in_items (h1 := h ++ [.lst (intz n fun t => mxS n a b i 0 t % p)])
      (enumD 0 (intz n b)) (fun j ρ h1 => h1 = h ++ [.lst (intz n fun t => mxS n a b i j t % p)] ∧ ∃ x3 x4 x5, ρ = [some (fl p n w), some (.str "C"), some (row n a), some (row n b), some (.ref h.length), some (.int p), some (.int n), some (.int w), some (.int i), some (.int (a i)), x3, x4, x5]) (by simp) ⟨rfl, _, _, _, rfl⟩ ?_ ?_
    · rintro j x ρ h1 hx ⟨rfl, x3, x4, x5, rfl⟩
      obtain ⟨hj, rfl⟩ := enumI_get hx
      refine ⟨_, _, ?_, rfl, some (.int j), some (.int (b j)), some (.int (((i : Int) + j) % n)), rfl⟩
      simp [hn, z_cy hn, nix_cy hn, hp, ha, ints_set]
      apply ints_congr
      intro t ht
      rw [mS_step]
      have hd : (((i + j) % n : Nat) : Int) = ((i : Int) + j) % n := by simp
      have hc : t = (((i : Int) + j) % n).toNat ↔ (i + j) % n = t := by omega
      by_cases e : (i + j) % n = t
      · rw [if_pos (hc.mpr e), if_pos e]
        unfold cy
        rw [show (((i : Int) + j) % n).toNat = t by omega]
        rw [Int.emod_add_emod]
      · rw [if_neg (fun q => e (hc.mp q)), if_neg e, Int.add_zero]
    · rintro ρ' h' ⟨rfl, x3, x4, x5, rfl⟩
      refine ⟨_, _, rfl, ?_, _, _, _, _, _, rfl⟩
      rw [enumD_len, ints_len]
      congr 3
      apply ints_congr
      intro t ht
      rw [mS_next]
  · rintro ρ' h' ⟨rfl, x1, x2, x3, x4, x5, rfl⟩
    rw [enumD_len, ints_len]
    rw [ints_congr (fun t ht => mS_end a b t ht p)]
    simp
def isF (s : Str) : Prop := s = "C" ∨ s = "V"
theorem isF_form {s : Str} (hs : isF s) (k : Nat) (h : Heap) : callI pg (k + 1) f_is_form [.str s] h = .ok (.bl true, h) := by
  rcases hs with rfl | rfl
  · exact s_is_form_C k h
  · exact s_is_form_V k h

theorem in_formC {d0 d1 d2 : D} {s t : Str} (hs : isF s) (ht : isF t) (k : Nat) (h : Heap) (e : s ≠ t → callI pg (k + 1) f_turned_over [d0, d1, .str s] h = .ok (d2, h)) : callI pg (k + 2) f_in_form [d0, d1, .str s, .str t] h = .ok (if s = t then d1 else d2, h) := by
  rw [u_in_form, b_in_form]
  simp [LIM]
  refine go_itemsE (h1 := h) [D.str s, D.str t] (fun i ρ h1 => h1 = h ∧ ∃ x, ρ = [some d0, some d1, some (.str s), some (.str t), x]) (by simp [LIM]) ⟨rfl, _, rfl⟩ ?_ ?_
  · rintro i x ρ h1 hx ⟨rfl, y, rfl⟩
    have hx2 : ∃ u, isF u ∧ x = .str u := by
      match i, hx with
      | 0, hx => simp at hx; exact ⟨s, hs, hx.symm⟩
      | 1, hx => simp at hx; exact ⟨t, ht, hx.symm⟩
      | i + 2, hx => simp at hx
    obtain ⟨u, hu, rfl⟩ := hx2
    refine ⟨_, _, ?_, rfl, some (.str u), rfl⟩
    simp [isF_form hu]
  · rintro ρ' h' ⟨rfl, x, rfl⟩
    by_cases q : s = t
    · simp [q]
    · simp [q, e q]
abbrev kr (p w : Int) (n : Nat) (s : Str) (v : Nat → Int) : D := row n (kf p w n s v)
theorem isC : ("C" : Str) = "C" ↔ True := by simp
theorem isV : ("V" : Str) = "C" ↔ False := by simp [str_eq]
theorem isCV : ("C" : Str) = "V" ↔ False := by simp [str_eq]
theorem kfC (p w : Int) (n : Nat) (v : Nat → Int) : kf p w n "C" v = cs p w n v := by
  unfold kf
  rw [if_pos rfl]
theorem kfV (p w : Int) (n : Nat) (v : Nat → Int) : kf p w n "V" v = v := by
  unfold kf
  rw [if_neg (by rw [isV]; exact fun x => x)]
theorem krC (p w : Int) (n : Nat) (v : Nat → Int) : kr p w n "C" v = row n (cs p w n v) := by
  unfold kr kf
  rw [if_pos rfl]
theorem krV (p w : Int) (n : Nat) (v : Nat → Int) : kr p w n "V" v = row n v := by
  unfold kr kf
  rw [if_neg (by rw [isV]; exact fun x => x)]
section
variable {p w : Int} {n : Nat} (F : Fld p n w)
include F
theorem s_inV {s : Str} (hs : isF s) {v : Nat → Int} (hv : rg p v) (k : Nat) (h : Heap) : callI pg (k + 5) f_in_form [fl p n w, kr p w n s v, .str s, .str "V"] h = .ok (row n v, h) := by
  rw [in_formC (d2 := row n v) hs (.inr rfl) (k + 3) h fun q => ?_]
  · rcases hs with rfl | rfl
    · rw [if_neg (by rw [isCV]; exact fun x => x)]
    · rw [if_pos rfl, krV]
  · rcases hs with rfl | rfl
    · rw [krC, s_turned_C F, row, vs_csI F hv]
    · exact (q rfl).elim
theorem s_outV {s : Str} (hs : isF s) (v : Nat → Int) (k : Nat) (h : Heap) : callI pg (k + 5) f_in_form [fl p n w, row n v, .str "V", .str s] h = .ok (kr p w n s v, h) := by
  rw [in_formC (d2 := kr p w n s v) (.inr rfl) hs (k + 3) h fun q => ?_]
  · rcases hs with rfl | rfl
    · rw [if_neg (by rw [isV]; exact fun x => x)]
    · rw [if_pos rfl, krV]
  · rcases hs with rfl | rfl
    · rw [krC, s_turned_V F]
    · exact (q rfl).elim
theorem s_inC {s : Str} (hs : isF s) {v : Nat → Int} (hv : rg p v) (k : Nat) (h : Heap) : callI pg (k + 5) f_in_form [fl p n w, kr p w n s v, .str s, .str "C"] h = .ok (row n (cs p w n v), h) := by
  rcases hs with rfl | rfl
  · rw [in_formC (d2 := .non) (.inl rfl) (.inl rfl) (k + 3) h fun q => (q rfl).elim, if_pos rfl, krC]
  · have := s_outV F (.inl rfl) v k h
    rw [krC] at this
    rwa [krV]
theorem s_mult {s : Str} (hs : isF s) {a b : Nat → Int} (ha : rg p a) (hb : rg p b) (k : Nat) (h : Heap) : callI pg (k + 1) f_multiplied [fl p n w, .str s, kr p w n s a, kr p w n s b] h = .ok (kr p w n s fun i => a i * b i % p, h) := by
  have hp : 0 < p := by have := F.p2; omega
  rcases hs with rfl | rfl
  · rw [krC, krC, krC, s_multC F _ _ (fun i => rg_small F.pU (fun i => cs_in hp n a i) i)]
    rw [row, row, ints_congr fun t ht => cv_cs F ha hb t ht]
  · rw [krV, krV, krV, s_multV F _ _ (fun i => rg_small F.pU ha i)]
end
/-- 1 everywhere is the coefficients 1, 0, 0, .. -/
theorem cs_one {p w : Int} {n : Nat} (F : Fld p n w) (i : Nat) (hi : i < n) : cs p w n (fun _ => 1) i = if i = 0 then 1 else 0 := by
  have h1p : (1 : Int) % p = 1 := Int.emod_eq_of_lt (by omega) (by have := F.p2; omega)
  have e := inv_thm F (fun i => if i = 0 then 1 else 0) i hi
  rw [cs_congr (b := fun _ => 1) fun j hj => ?_] at e
  · rw [e]
    show (if i = 0 then (1 : Int) else 0) % p = if i = 0 then 1 else 0
    split
    · exact h1p
    · simp
  · unfold vs
    have : sm n (fun i => (if i = 0 then (1 : Int) else 0) * cy n (rr p w) (i * j)) = 1 := by
      rw [sm_congr (g := fun i => if i = 0 then cy n (rr p w) (i * j) else 0) (fun i hi => by
        by_cases q : i = 0
        · rw [if_pos q, if_pos q, Int.one_mul]
        · rw [if_neg q, if_neg q, Int.zero_mul]), sm_delta _ 0 (by have := F.n1; omega)]
      rw [show (((0 : Nat) : Int) * (j : Int)) = 0 by simp]
      exact W_zero F
    rw [this, h1p]
end K86
end

section
set_option Elab.async false
set_option linter.all false
set_option maxRecDepth 100000
set_option maxHeartbeats 400000
namespace K86
open Tw
open PySem (Str)
theorem z_in (x y : D) (h : Heap) : opC .isin x y h = inB false x y h := rfl
theorem z_nin (x y : D) (h : Heap) : opC .notin x y h = inB true x y h := rfl
theorem eqds_intz (n : Nat) (f g : Nat → Int) : eqds (intz n f) (intz n g) = decide (∀ j, j < n → f j = g j) := by
  have key : ∀ l : List Nat, eqds (l.map fun i => D.int (f i)) (l.map fun i => D.int (g i)) = decide (∀ j, j ∈ l → f j = g j) := by
    intro l
    induction l with
    | nil => simp [eqds]
    | cons x l ih =>
      rw [List.map_cons, List.map_cons, eqds, ih, show eqd (.int (f x)) (.int (g x)) = decide (f x = g x) from rfl]
      simp
  unfold intz
  rw [key]
  simp
theorem deep_intz (k n : Nat) (f : Nat → Int) : D.deep (k + 1) (.tup (intz n f)) = true := by
  have key : ∀ l : List Nat, D.deeps k (l.map fun i => D.int (f i)) = true := by
    intro l
    induction l with
    | nil => rfl
    | cons x l ih =>
      rw [List.map_cons, D.deeps, ih]
      cases k <;> rfl
  rw [D.deep]
  exact key _
end K86
end

section
set_option Elab.async false
set_option linter.all false
set_option maxRecDepth 100000
set_option maxHeartbeats 400000
namespace K86
open Tw
open PySem (Str)
/-! ### what the law draws from -/
abbrev ck (m c : Int) : O := .dct [(.inr "stir", .int m), (.inr "laps", .int c), (.inr "deep", .ref 0)]
structure Ch where
  g : List Int
  z : List Int
  m : Int
  c : Int
abbrev Ch.hp (x : Ch) (t : Heap) : Heap := .lst (x.g.map D.int) :: ck x.m x.c :: .lst (x.z.map D.int) :: t
def Ch.ok (x : Ch) : Prop := x.g.length ≤ 60
theorem tidy_ch (x y : Ch) (t g : Heap) (d : D) (hd : d.low (t.length + 3) = true) : tidy (x.hp t) (d, y.hp (t ++ g)) = (d, y.hp t) := by
  unfold tidy
  rw [if_pos]
  · simp [Ch.hp]
  refine ⟨by simpa [Ch.hp] using hd, by simp [Ch.hp], fun i hi => ?_⟩
  match i, hi with
  | 0, _ => exact .inr ⟨_, rfl, lows_map _ _⟩
  | 1, _ => exact .inr ⟨_, rfl, by simp [O.low, D.lows, D.low, Ch.hp]⟩
  | 2, _ => exact .inr ⟨_, rfl, lows_map _ _⟩
  | i + 3, hi =>
    left
    have : i < t.length := by simpa [Ch.hp] using hi
    simp [Ch.hp, List.getElem?_append_left this]
theorem tidy_ch0 (x y : Ch) (t : Heap) (d : D) (hd : d.low (t.length + 3) = true) : tidy (x.hp t) (d, y.hp t) = (d, y.hp t) := by
  have := tidy_ch x y t [] d hd
  rwa [List.append_nil] at this
theorem pop_snoc (g : List Int) (hg : g ≠ []) : ∃ g' s, g = g' ++ [s] := ⟨g.dropLast, g.getLast hg, (List.dropLast_concat_getLast hg).symm⟩
theorem s_draw {m : Int} (hm : 0 < m) (hm2 : m < 1000000) (x : Ch) (hx : x.ok) : ∃ v y, 0 ≤ v ∧ v < m ∧ Ch.ok y ∧ ∀ t k, callI pg (k + 1) f_law_draw [.ref 1, .int m] (x.hp t) = .ok (.int v, y.hp t) := by
  obtain ⟨g, z, mx, c⟩ := x
  have hm3 : m < 1073741824 := by omega
  by_cases h2 : m < 2
  · refine ⟨0, ⟨g, z, mx, c⟩, Int.le_refl _, hm, hx, fun t k => ?_⟩
    rw [u_law_draw, b_law_draw]
    simp [h2]
  by_cases hg : g = []
  · subst hg
    refine ⟨((mx * 62089 + 17 * (c + 1) + 1) % 2147483549 / 37) % m, ⟨[], z, (mx * 62089 + 17 * (c + 1) + 1) % 2147483549, c + 1⟩, Int.emod_nonneg _ (by omega), Int.emod_lt_of_pos _ hm, by unfold Ch.ok; simp, fun t k => ?_⟩
    have s1 : small 62089 = true := rfl
    have s2 : small 17 = true := rfl
    rw [u_law_draw, b_law_draw]
    simp [h2, keyOf, findV, putV, str_eq, LIM, s1, s2, hm]
    exact tidy_ch0 ⟨[], z, mx, c⟩ ⟨[], z, _, _⟩ _ _ rfl
  · obtain ⟨g', s, rfl⟩ := pop_snoc g hg
    have hl : g'.length + 1 ≤ 60 := by simpa [Ch.ok] using hx
    by_cases hs : m ≤ s
    · refine ⟨s % m, ⟨g' ++ [s / m], z, mx, c + 1⟩, Int.emod_nonneg _ (by omega), Int.emod_lt_of_pos _ hm, by unfold Ch.ok; simpa using hl, fun t k => ?_⟩
      rw [u_law_draw, b_law_draw]
      simp [h2, keyOf, findV, putV, str_eq, LIM, hm, hm3, hs, show g'.length < 16777216 by omega]
      have e := tidy_ch0 ⟨g' ++ [s], z, mx, c⟩ ⟨g' ++ [s / m], z, mx, c + 1⟩ t (.int (s % m)) rfl
      simpa [Ch.hp] using e
    · refine ⟨s % m, ⟨g', z, mx, c + 1⟩, Int.emod_nonneg _ (by omega), Int.emod_lt_of_pos _ hm, by unfold Ch.ok; simp; omega, fun t k => ?_⟩
      rw [u_law_draw, b_law_draw]
      simp [h2, keyOf, findV, putV, str_eq, LIM, hm, hm3, hs]
      have e := tidy_ch0 ⟨g' ++ [s], z, mx, c⟩ ⟨g', z, mx, c + 1⟩ t (.int (s % m)) rfl
      simpa [Ch.hp] using e
theorem s_cup (ns : List Int) (k : Nat) : ∃ x, Ch.ok x ∧ callI pg (k + 1) f_law_cup [.seq (ns.map D.int)] [] = .ok (.ref 1, x.hp []) := by
  suffices H : ∀ Q : R (D × Heap) → Prop, (∀ x, Ch.ok x → Q (.ok (.ref 1, x.hp []))) → Q (callI pg (k + 1) f_law_cup [.seq (ns.map D.int)] []) by
    exact H (fun y => ∃ x, Ch.ok x ∧ y = .ok (.ref 1, x.hp [])) (fun x hx => ⟨x, hx, rfl⟩)
  intro Q hQ
  have hz := cut_take ns 60
  have hz2 : cut (ns.map D.int) none (some 60) = (ns.take 60).map D.int := hz
  have hl : (ns.take 60).length ≤ 60 := List.length_take_le _ _
  rw [u_law_cup, b_law_cup]
  simp [LIM, dbuildO, isKT, dbuild, dputM, keyOf, putV, str_eq]
  refine go_kept (P := Q) (g := [(2, .lst ((ns.take 60).map D.int))]) (h1 := [.lst [], ck 86027 0, .lst ((ns.take 60).map D.int)]) ((ns.take 60).map D.int) (fun i ρ h1 => ∃ g m, g.length ≤ i ∧ h1 = [.lst (g.map D.int), ck m 0, .lst ((ns.take 60).map D.int)] ∧ ∃ x y, ρ = [some (.seq (ns.map D.int)), some (.ref 1), x, y]) ?_ ?_ ⟨[], 86027, by simp, by simp, _, _, rfl⟩ ?_ ?_
  · simp [hz2]
  · rintro i ρ h1 ⟨g, m, _, rfl, x, y, rfl⟩
    simp [guards]
  · rintro i x ρ h1 hx ⟨g, m, hg, rfl, x1, y, rfl⟩
    rw [List.getElem?_map] at hx
    obtain ⟨d, hd, rfl⟩ : ∃ d, (ns.take 60)[i]? = some d ∧ D.int d = x := by
      cases e : (ns.take 60)[i]? with
      | none => rw [e] at hx; cases hx
      | some d => rw [e] at hx; exact ⟨d, rfl, by simpa using hx⟩
    have hi : i < (ns.take 60).length := by
      rcases Nat.lt_or_ge i (ns.take 60).length with h | h
      · exact h
      · rw [List.getElem?_eq_none h] at hd
        cases hd
    have s1 : small 16807 = true := rfl
    have hgl : g.length < 16777216 := by omega
    have hp : (0 : Int) < 2 ^ 1300 := Int.pow_pos (by decide)
    have z : ∀ h, opB .shl (.int 1) (.int 1300) h = .ok (.int (2 ^ 1300), h) := fun h => by
      rw [z_shl]
      rfl
    generalize (2 : Int) ^ 1300 = B at hp z
    by_cases hb : 1000000000000000000 ≤ (if d < 0 then -d else d) % B
    · refine ⟨[some (.seq (ns.map D.int)), some (.ref 1), some (.int d), some (.int ((if d < 0 then -d else d) % B))], [.lst ((g ++ [(if d < 0 then -d else d) % B]).map D.int), ck ((m * 16807 + (if d < 0 then -d else d) % B % 999931 + 5) % 2147483549) 0, .lst ((ns.take 60).map D.int)], ?_, g ++ [(if d < 0 then -d else d) % B], _, ?_, rfl, _, _, rfl⟩
      · simp [s1, hgl, LIM, z, hp, biV, hb, keyOf, findV, putV, str_eq]
      · simpa using hg
    · refine ⟨[some (.seq (ns.map D.int)), some (.ref 1), some (.int d), some (.int ((if d < 0 then -d else d) % B))], [.lst (g.map D.int), ck ((m * 16807 + (if d < 0 then -d else d) % B % 999931 + 5) % 2147483549) 0, .lst ((ns.take 60).map D.int)], ?_, g, _, ?_, rfl, _, _, rfl⟩
      · simp [s1, hgl, LIM, z, hp, biV, hb, keyOf, findV, putV, str_eq]
      · omega
  · rintro ρ' h' ⟨g, m, hg, rfl, x, y, rfl⟩
    have hg2 : g.length ≤ 60 := by
      rw [List.length_map] at hg
      omega
    have e := hQ ⟨g, ns.take 60, m, 0⟩ hg2
    simp
    have t2 : ∀ H : Heap, tidy [] (D.ref 1, H) = (D.ref 1, H) := fun H => by
      unfold tidy
      rw [if_neg]
      simp [D.low]
    rw [t2]
    simpa [Ch.hp] using e
end K86
end

section
set_option Elab.async false
set_option linter.all false
set_option maxRecDepth 100000
set_option maxHeartbeats 400000
namespace K86
open Tw
open PySem (Str)
theorem mapL_draw {p : Int} (hp : 0 < p) (t : Heap) (f : D → Heap → R (Option D × Heap)) (N : Nat) (hf : ∀ (j : Nat) y, j < N → Ch.ok y → ∃ v y', 0 ≤ v ∧ v < p ∧ Ch.ok y' ∧ f (.int j) (y.hp t) = .ok (some (.int v), y'.hp t)) :
    ∀ n k y, k + n ≤ N → Ch.ok y → ∃ (a : Nat → Int) (y' : Ch), rg p a ∧ Ch.ok y' ∧ mapL [] f ((List.range' k n).map fun j => D.int (j : Nat)) (y.hp t) = .ok ((List.range' k n).map fun j => D.int (a j), y'.hp t) := by
  intro n
  induction n with
  | zero => exact fun k y _ hy => ⟨fun _ => 0, y, fun _ => ⟨Int.le_refl _, hp⟩, hy, rfl⟩
  | succ n ih =>
    intro k y hk hy
    obtain ⟨v, y1, v0, v1, hy1, e1⟩ := hf k y (by omega) hy
    obtain ⟨a, y2, ha, hy2, e2⟩ := ih (k + 1) y1 (by omega) hy1
    refine ⟨fun j => if j = k then v else a j, y2, fun j => ?_, hy2, ?_⟩
    · show 0 ≤ (if j = k then v else a j) ∧ (if j = k then v else a j) < p
      split
      · exact ⟨v0, v1⟩
      · exact ha j
    · rw [List.range'_succ, List.map_cons, mapL, e1]
      simp only [guards, List.all_nil, chk, R.nox, R.bind, e2, List.map_cons, if_true]
      congr 3
      apply List.map_congr_left
      intro j hj
      have := (List.mem_range'.mp hj)
      rw [if_neg (by omega)]
theorem comp_draw {p : Int} (hp : 0 < p) {c : Ctx} {ρ : Env} {e : CE} {i : Nat} {it : CI} (n : Nat) (x : Ch) (t : Heap) (hx : x.ok) (hit : evI c it ρ (x.hp t) = .ok ((rngD 0 n, []), x.hp t)) (hn : n < LIM)
    (hf : ∀ (j : Nat) y, j < n → Ch.ok y → ∃ v y', 0 ≤ v ∧ v < p ∧ Ch.ok y' ∧ ev c e ((ρ.set i none).set i (some (.int j))) (y.hp t) = .ok (.int v, y'.hp t)) :
    ∃ (a : Nat → Int) (y : Ch), rg p a ∧ y.ok ∧ evL c (.comp e (.name i) it .none) ρ (x.hp t) = .ok (intz n a, y.hp t) := by
  rw [evL, hit]
  obtain ⟨a, y, ha, hy, e3⟩ := mapL_draw hp t (fun x h => cstep c e (.name i) .none ρ x h) n (fun j y hj hy => by
    obtain ⟨v, y', v0, v1, hy', e1⟩ := hf j y hj hy
    refine ⟨v, y', v0, v1, hy', ?_⟩
    simp only [cstep, asg, CT.slots, wipeE, R.bind, tvO, e1]) n 0 x (by omega) hx
  refine ⟨a, y, ha, hy, ?_⟩
  show chk (decide ((rngD 0 n).length < LIM)) (mapL [] _ (rngD 0 n) _) = _
  rw [rngD_len, decide_eq_true hn, rngD_intz]
  show mapL [] (fun x h => cstep c e (.name i) .none ρ x h) ((List.range n).map fun j => D.int (j : Nat)) (x.hp t) = _
  rw [List.range_eq_range', e3, ← List.range_eq_range']
  rfl
end K86
end

section
set_option Elab.async false
set_option linter.all false
set_option maxRecDepth 100000
set_option maxHeartbeats 400000
namespace K86
open Tw
open PySem (Str)
def ordT (p : Int) (n : Nat) (w : Int) : Bool := decide (w ^ n % p = 1) && (List.range n).all fun i => !decide (0 < i) || decide (w ^ i % p ≠ 1)
theorem ordT_iff (p : Int) (n : Nat) (w : Int) : ordT p n w = true ↔ w ^ n % p = 1 ∧ ∀ i, 0 < i → i < n → w ^ i % p ≠ 1 := by
  unfold ordT
  simp only [Bool.and_eq_true, decide_eq_true_eq, List.all_eq_true, List.mem_range, Bool.or_eq_true, Bool.not_eq_true', decide_eq_false_iff_not]
  exact ⟨fun ⟨a, b⟩ => ⟨a, fun i h0 h1 => (b i h1).resolve_left fun q => q h0⟩, fun ⟨a, b⟩ => ⟨a, fun i h1 => by
    by_cases h0 : 0 < i
    · exact .inr (b i h0 h1)
    · exact .inl h0⟩⟩
def rtI (p : Int) (n : Nat) (i : Nat) : List Int := ((List.range i).map fun i => ((1 + i : Nat) : Int)).filter (ordT p n)
def rts (p : Int) (n : Nat) : List Int := rtI p n (p.toNat - 1)
def tblB (p : Int) (n : Nat) : Bool := decide (2 ≤ p) && decide (p < 1000) && decide (1 ≤ n) && decide (n < 13) && !(rts p n).isEmpty && (rts p n).all fun r => fldB p n r
structure tbl (p : Int) (n : Nat) : Prop where
  p2 : 2 ≤ p
  pU : p < 1000
  n1 : 1 ≤ n
  nU : n < 13
  ne : rts p n ≠ []
  all : ∀ r ∈ rts p n, Fld p n r
theorem tbl_of {p : Int} {n : Nat} (h : tblB p n = true) : tbl p n := by
  unfold tblB at h
  simp only [Bool.and_eq_true, decide_eq_true_eq, List.all_eq_true, Bool.not_eq_true'] at h
  obtain ⟨⟨⟨⟨⟨a1, a2⟩, a3⟩, a4⟩, a5⟩, a6⟩ := h
  exact ⟨a1, a2, a3, a4, fun q => by simp [q] at a5, fun r hr => fld_of (a6 r hr)⟩
abbrev pn (p : Int) (n : Nat) : D := .tup [.int p, .int (n : Nat)]
theorem table (d : D) (h : d ∈ [pn 2 1, pn 3 2, pn 5 4, pn 7 6, pn 7 3, pn 5 2, pn 13 6, pn 11 5, pn 17 4, pn 3 1]) : ∃ p n, tbl p n ∧ n ≤ 6 ∧ d = pn p n := by
  simp only [List.mem_cons, List.not_mem_nil, or_false] at h
  rcases h with rfl | rfl | rfl | rfl | rfl | rfl | rfl | rfl | rfl | rfl
  · exact ⟨2, 1, tbl_of (by decide +kernel), by decide, rfl⟩
  · exact ⟨3, 2, tbl_of (by decide +kernel), by decide, rfl⟩
  · exact ⟨5, 4, tbl_of (by decide +kernel), by decide, rfl⟩
  · exact ⟨7, 6, tbl_of (by decide +kernel), by decide, rfl⟩
  · exact ⟨7, 3, tbl_of (by decide +kernel), by decide, rfl⟩
  · exact ⟨5, 2, tbl_of (by decide +kernel), by decide, rfl⟩
  · exact ⟨13, 6, tbl_of (by decide +kernel), by decide, rfl⟩
  · exact ⟨11, 5, tbl_of (by decide +kernel), by decide, rfl⟩
  · exact ⟨17, 4, tbl_of (by decide +kernel), by decide, rfl⟩
  · exact ⟨3, 1, tbl_of (by decide +kernel), by decide, rfl⟩
theorem wide_tbl : tbl 13 12 := tbl_of (by decide +kernel)
def E1 : CE := (.ite (.val (.var 1)) (.tup (.cons (.int 13) (.cons (.int 12) .nil))) (.idx (.tup (.cons (.tup (.cons (.int 2) (.cons (.int 1) .nil))) (.cons (.tup (.cons (.int 3) (.cons (.int 2) .nil))) (.cons (.tup (.cons (.int 5) (.cons (.int 4) .nil))) (.cons (.tup (.cons (.int 7) (.cons (.int 6) .nil))) (.cons (.tup (.cons (.int 7) (.cons (.int 3) .nil))) (.cons (.tup (.cons (.int 5) (.cons (.int 2) .nil))) (.cons (.tup (.cons (.int 13) (.cons (.int 6) .nil))) (.cons (.tup (.cons (.int 11) (.cons (.int 5) .nil))) (.cons (.tup (.cons (.int 17) (.cons (.int 4) .nil))) (.cons (.tup (.cons (.int 3) (.cons (.int 1) .nil))) .nil))))))))))) (.call f_law_draw (.cons (.var 0) (.cons (.int 10) .nil)))))
theorem first_ev (x : Ch) (hx : x.ok) (b : Bool) (t : Heap) (k : Nat) : ∃ p n y, tbl p n ∧ (b = false → n ≤ 6) ∧ Ch.ok y ∧ ev ⟨callI pg (k + 1), pg.cs, pg.cl⟩ E1 [some (.ref 1), some (.bl b), none, none, none, none, none, none] (x.hp t) = .ok (pn p n, y.hp t) := by
  cases b with
  | true => exact ⟨13, 12, x, wide_tbl, (fun e => by cases e), hx, by simp [E1, LIM]⟩
  | false =>
    obtain ⟨v, y, v0, v1, hy, e⟩ := s_draw (m := 10) (by decide) (by decide) x hx
    obtain ⟨d, hd, ed⟩ := nth_mem (ds := [pn 2 1, pn 3 2, pn 5 4, pn 7 6, pn 7 3, pn 5 2, pn 13 6, pn 11 5, pn 17 4, pn 3 1]) v0 v1
    obtain ⟨p, n, ht, h6, rfl⟩ := table d hd
    have ed2 : nth [D.tup [.int 2, .int 1], D.tup [.int 3, .int 2], D.tup [.int 5, .int 4], D.tup [.int 7, .int 6], D.tup [.int 7, .int 3], D.tup [.int 5, .int 2], D.tup [.int 13, .int 6], D.tup [.int 11, .int 5], D.tup [.int 17, .int 4], D.tup [.int 3, .int 1]] v = some (pn p n) := ed
    exact ⟨p, n, y, ht, fun _ => h6, hy, by simp [E1, LIM, e, ed2]⟩
theorem whL_runB {c : Env → Heap → R (Bool × Heap)} {f : Env → Heap → R St} (Inv : Nat → Env → Heap → Prop) (Q : Env → Heap → Prop)
    (step : ∀ m ρ h, Inv m ρ h → (c ρ h = .ok (false, h) ∧ Q ρ h) ∨ (c ρ h = .ok (true, h) ∧ ((∃ m' ρ' h', m' < m ∧ f ρ h = .ok (.nx, ρ', h') ∧ Inv m' ρ' h') ∨ ∃ ρ' h', f ρ h = .ok (.bk, ρ', h') ∧ Q ρ' h'))) :
    ∀ n m ρ h, Inv m ρ h → m < n → ∃ ρ' h', whL c f n ρ h = .ok (.nx, ρ', h') ∧ Q ρ' h'
  | 0, m, ρ, h, _, hm => absurd hm (Nat.not_lt_zero _)
  | n + 1, m, ρ, h, hi, hm => by
    rcases step m ρ h hi with ⟨e, q⟩ | ⟨e, ⟨m', ρ', h', hl, ef, hi'⟩ | ⟨ρ', h', ef, q⟩⟩
    · exact ⟨ρ, h, by simp only [whL, e, lift], q⟩
    · obtain ⟨ρ2, h2, e2, q2⟩ := whL_runB Inv Q step n m' ρ' h' hi' (by omega)
      exact ⟨ρ2, h2, by simp only [whL, e, lift, ef, R.bind, e2], q2⟩
    · exact ⟨ρ', h', by simp only [whL, e, lift, ef, R.bind], q⟩
theorem go_whileB {β : Type} {P : R β → Prop} {F : St → R β} {c : Ctx} {ρ : Env} {h : Heap} {t : CB} {b : CSs} (m : Nat) (Inv : Nat → Env → Heap → Prop) (Q : Env → Heap → Prop) (hm : m < FUEL) (h0 : Inv m ρ h)
    (step : ∀ m ρ h, Inv m ρ h → (tv c t ρ h = .ok (false, h) ∧ Q ρ h) ∨ (tv c t ρ h = .ok (true, h) ∧ ((∃ m' ρ' h', m' < m ∧ execs c b ρ h = .ok (.nx, ρ', h') ∧ Inv m' ρ' h') ∨ ∃ ρ' h', execs c b ρ h = .ok (.bk, ρ', h') ∧ Q ρ' h')))
    (next : ∀ ρ' h', Q ρ' h' → P (F (.nx, ρ', h'))) : P ((exec c (.wh t b) ρ h).bind F) := by
  obtain ⟨ρ', h', e, q⟩ := whL_runB (c := tv c t) (f := execs c b) Inv Q step FUEL m ρ h h0 hm
  rw [show exec c (.wh t b) ρ h = .ok (.nx, ρ', h') from by rw [exec]; exact e]
  exact next ρ' h' q
theorem in_whileB {F : St → R St} {J : Env → Heap → Prop} {c : Ctx} {ρ : Env} {h : Heap} {t : CB} {b : CSs} (m : Nat) (Inv : Nat → Env → Heap → Prop) (Q : Env → Heap → Prop) (hm : m < FUEL) (h0 : Inv m ρ h)
    (step : ∀ m ρ h, Inv m ρ h → (tv c t ρ h = .ok (false, h) ∧ Q ρ h) ∨ (tv c t ρ h = .ok (true, h) ∧ ((∃ m' ρ' h', m' < m ∧ execs c b ρ h = .ok (.nx, ρ', h') ∧ Inv m' ρ' h') ∨ ∃ ρ' h', execs c b ρ h = .ok (.bk, ρ', h') ∧ Q ρ' h')))
    (next : ∀ ρ' h', Q ρ' h' → ∃ ρ2 h2, F (.nx, ρ', h') = .ok (.nx, ρ2, h2) ∧ J ρ2 h2) : ∃ ρ2 h2, (exec c (.wh t b) ρ h).bind F = .ok (.nx, ρ2, h2) ∧ J ρ2 h2 := go_whileB (P := fun r : R St => ∃ (ρ2 : Env) (h2 : Heap), r = R.ok (Fl.nx, ρ2, h2) ∧ J ρ2 h2) m Inv Q hm h0 step next
theorem s_law_ground (x : Ch) (hx : x.ok) (b : Bool) (t : Heap) (k : Nat) : ∃ p n r y, tbl p n ∧ (b = false → n ≤ 6) ∧ Fld p n r ∧ Ch.ok y ∧ callI pg (k + 2) f_law_ground [.ref 1, .bl b] (x.hp t) = .ok (fl p n r, y.hp t) := by
  obtain ⟨p, n, y, ht0, hb6, hy, e⟩ := first_ev x hx b t k
  have ht := ht0
  obtain ⟨p2, pU, n1, nU, ne, hall⟩ := ht
  have hp : 0 < p := by omega
  suffices H : ∀ Q : R (D × Heap) → Prop, (∀ r y, Fld p n r → Ch.ok y → Q (.ok (fl p n r, y.hp t))) → Q (callI pg (k + 2) f_law_ground [.ref 1, .bl b] (x.hp t)) by
    exact H (fun q => ∃ p n r y, tbl p n ∧ (b = false → n ≤ 6) ∧ Fld p n r ∧ Ch.ok y ∧ q = .ok (fl p n r, y.hp t)) (fun r y hr hy => ⟨p, n, r, y, ht0, hb6, hr, hy, rfl⟩)
  intro Q hQ
  have h1p : (1 : Int) % p = 1 := Int.emod_eq_of_lt (by omega) (by omega)
  rw [u_law_ground, b_law_ground, z_xs1, z_xasg]
  have e' : ev ⟨callI pg (k + 1), pg.cs, pg.cl⟩ (.ite (.val (.var 1)) (.tup (.cons (.int 13) (.cons (.int 12) .nil))) (.idx (.tup (.cons (.tup (.cons (.int 2) (.cons (.int 1) .nil))) (.cons (.tup (.cons (.int 3) (.cons (.int 2) .nil))) (.cons (.tup (.cons (.int 5) (.cons (.int 4) .nil))) (.cons (.tup (.cons (.int 7) (.cons (.int 6) .nil))) (.cons (.tup (.cons (.int 7) (.cons (.int 3) .nil))) (.cons (.tup (.cons (.int 5) (.cons (.int 2) .nil))) (.cons (.tup (.cons (.int 13) (.cons (.int 6) .nil))) (.cons (.tup (.cons (.int 11) (.cons (.int 5) .nil))) (.cons (.tup (.cons (.int 17) (.cons (.int 4) .nil))) (.cons (.tup (.cons (.int 3) (.cons (.int 1) .nil))) .nil))))))))))) (.call f_law_draw (.cons (.var 0) (.cons (.int 10) .nil))))) [some (.ref 1), some (.bl b), none, none, none, none, none, none] (x.hp t) = .ok (pn p n, y.hp t) := e
  rw [e']
  generalize hH : y.hp t = H
  simp
  have r1 : rngOk 1 = true := rok (n := 1) (by decide)
  have r2 : rngOk p = true := by
    have := rok (n := p.toNat) (by omega)
    rwa [show ((p.toNat : Nat) : Int) = p by omega] at this
  have r3 : (p - 1).toNat = p.toNat - 1 := by omega
  refine go_items (P := Q) (h1 := H ++ [.lst []]) (rngD 1 (p.toNat - 1)) (fun i ρ h1 => i ≤ p.toNat - 1 ∧ h1 = H ++ [.lst ((rtI p n i).map D.int)] ∧ ∃ x3 x6 x7, ρ = [some (.ref 1), some (.bl b), some (.ref H.length), x3, some (.int p), some (.int n), x6, x7]) ?_ ⟨by omega, by simp [rtI], _, _, _, rfl⟩ ?_ ?_
  · simp [r1, r2, r3]
  · rintro i x ρ h1 hx ⟨hi', rfl, x3, x6, x7, rfl⟩
    obtain ⟨hi, rfl⟩ := rngD_get hx
    have hw : 0 ≤ (1 + (i : Int)) ∧ (1 + (i : Int)) < p := ⟨by omega, by omega⟩
    have sw : small (1 + (i : Int)) = true := small_of (by omega) (by omega)
    simp [LIM]
    refine in_whileB (J := fun ρ h2 => i + 1 ≤ p.toNat - 1 ∧ h2 = H ++ [.lst ((rtI p n (i + 1)).map D.int)] ∧ ∃ x3 x6 x7, ρ = [some (.ref 1), some (.bl b), some (.ref H.length), x3, some (.int p), some (.int n), x6, x7])
      n (fun m ρ h2 => ∃ l, l ≤ n ∧ m + l = n ∧ (∀ j, 0 < j → j ≤ l → (1 + (i : Int)) ^ j % p ≠ 1) ∧ h2 = H ++ [.lst ((rtI p n i).map D.int)] ∧ ρ = [some (.ref 1), some (.bl b), some (.ref H.length), some (.int (1 + i)), some (.int p), some (.int n), some (.int ((1 + (i : Int)) ^ l % p)), some (.int (l : Nat))])
      (fun ρ h2 => ∃ (l : Nat) (v : Int), l < 100 ∧ ((v = 1 ∧ l = n) ↔ ordT p n (1 + (i : Int)) = true) ∧ h2 = H ++ [.lst ((rtI p n i).map D.int)] ∧ ρ = [some (.ref 1), some (.bl b), some (.ref H.length), some (.int (1 + i)), some (.int p), some (.int n), some (.int v), some (.int (l : Nat))])
      (by unfold FUEL; omega) ⟨0, by omega, by omega, fun j a b => by omega, rfl, by rw [Int.pow_zero, h1p]⟩ ?_ ?_
    · rintro m ρ h2 ⟨l, ln, lm, hl, rfl, rfl⟩
      have hs2 : small ((1 + (i : Int)) ^ l % p) = true := small_of (by have := Int.emod_nonneg ((1 + (i : Int)) ^ l) (show p ≠ 0 by omega); omega) (by have := Int.emod_lt_of_pos ((1 + (i : Int)) ^ l) hp; omega)
      have hnext : ((1 + (i : Int)) ^ l % p * (1 + (i : Int))) % p = (1 + (i : Int)) ^ (l + 1) % p := by
        rw [mod_mul_l, ← Int.pow_succ]
      by_cases hm : m = 0
      · left
        have hln : ¬ ((l : Int) < n) := by omega
        refine ⟨by simp [hln], l, _, by omega, ?_, rfl, rfl⟩
        rw [ordT_iff]
        constructor
        · rintro ⟨z, _⟩
          by_cases l0 : l = 0
          · omega
          · exact (hl l (by omega) (Nat.le_refl _) z).elim
        · rintro ⟨z, _⟩
          exact (hl n (by omega) (by omega) z).elim
      · have hln : (l : Int) < n := by omega
        by_cases z : (1 + (i : Int)) ^ (l + 1) % p = 1
        · right
          refine ⟨by simp [hln], .inr ⟨[some (.ref 1), some (.bl b), some (.ref H.length), some (.int (1 + i)), some (.int p), some (.int n), some (.int 1), some (.int ((l + 1 : Nat) : Int))], H ++ [.lst ((rtI p n i).map D.int)], ?_, l + 1, 1, by omega, ?_, rfl, rfl⟩⟩
          · simp [hs2, sw, hp, hnext, z]
          · rw [ordT_iff]
            constructor
            · rintro ⟨_, rfl⟩
              exact ⟨z, fun j a c => hl j a (by omega)⟩
            · rintro ⟨z1, z2⟩
              refine ⟨rfl, ?_⟩
              rcases Nat.lt_or_ge (l + 1) n with q | q
              · exact (z2 (l + 1) (by omega) q z).elim
              · omega
        · right
          refine ⟨by simp [hln], .inl ⟨m - 1, [some (.ref 1), some (.bl b), some (.ref H.length), some (.int (1 + i)), some (.int p), some (.int n), some (.int ((1 + (i : Int)) ^ (l + 1) % p)), some (.int ((l + 1 : Nat) : Int))], H ++ [.lst ((rtI p n i).map D.int)], by omega, ?_, l + 1, by omega, by omega, fun j a c => ?_, rfl, rfl⟩⟩
          · simp [hs2, sw, hp, hnext, z]
          · rcases Nat.lt_or_ge l j with q | q
            · rwa [show j = l + 1 by omega]
            · exact hl j a q
    · rintro ρ' h' ⟨l, v, l100, hl, rfl, rfl⟩
      have hsucc : rtI p n (i + 1) = rtI p n i ++ if ordT p n (1 + (i : Int)) = true then [1 + (i : Int)] else [] := by
        unfold rtI
        rw [List.range_succ, List.map_append, List.filter_append]
        rw [show List.filter (ordT p n) (List.map (fun i => ((1 + i : Nat) : Int)) [i]) = if ordT p n (1 + (i : Int)) = true then [1 + (i : Int)] else [] from ?_]
        show List.filter (ordT p n) [((1 + i : Nat) : Int)] = _
        rw [show ((1 + i : Nat) : Int) = 1 + (i : Int) by omega]
        by_cases z : ordT p n (1 + (i : Int)) = true
        · rw [if_pos z, List.filter_cons_of_pos z]; rfl
        · rw [if_neg z, List.filter_cons_of_neg z]; rfl
      have hlen : (rtI p n i).length < 16777216 := by
        have : (rtI p n i).length ≤ i := by
          unfold rtI
          exact Nat.le_trans (List.length_filter_le _ _) (by simp)
        omega
      by_cases z : ordT p n (1 + (i : Int)) = true
      · obtain ⟨z1, z2⟩ := hl.mpr z
        refine ⟨_, H ++ [.lst ((rtI p n (i + 1)).map D.int)], ?_, by omega, rfl, some (.int (1 + i)), some (.int v), some (.int (l : Nat)), rfl⟩
        simp [z1, z2, LIM, hlen, hsucc, z]
      · refine ⟨_, H ++ [.lst ((rtI p n (i + 1)).map D.int)], ?_, by omega, rfl, some (.int (1 + i)), some (.int v), some (.int (l : Nat)), rfl⟩
        by_cases z1 : v = 1
        · have z2 : ¬ l = n := fun q => z (hl.mp ⟨z1, q⟩)
          have z3 : ¬ ((l : Int) = n) := by omega
          simp [z1, z2, z3, LIM, hlen, hsucc, z]
        · simp [z1, LIM, hlen, hsucc, z]
  · rintro ρ' h' ⟨_, rfl, x3, x6, x7, rfl⟩
    rw [rngD_len]
    have hne : 0 < (rts p n).length := List.length_pos_iff.mpr ne
    have hlt : (rts p n).length < 1000000 := by
      have : (rts p n).length ≤ p.toNat - 1 := by
        unfold rts rtI
        exact Nat.le_trans (List.length_filter_le _ _) (by simp)
      omega
    obtain ⟨v, y2, v0, v1, hy2, e2⟩ := s_draw (m := (rts p n).length) (by omega) (by omega) y hy
    have e3 := e2 (t ++ [.lst ((rts p n).map D.int)]) k
    have hr : nth ((rts p n).map D.int) v = some (.int ((rts p n)[v.toNat]'(by omega))) := by
      unfold nth
      rw [if_pos v0]
      simp
    have hF := hall _ (List.getElem_mem (show v.toNat < (rts p n).length by omega))
    have q := hQ _ y2 hF hy2
    generalize (rts p n)[v.toNat]'(by omega) = r at hr hF q
    show Q ((nxV _ _ (Fl.nx, _, H ++ [.lst ((rts p n).map D.int)])).bind _)
    have e4 : callI pg (k + 1) f_law_draw [.ref 1, .int ((rts p n).length : Nat)] (H ++ [.lst ((rts p n).map D.int)]) = .ok (.int v, y2.hp (t ++ [.lst ((rts p n).map D.int)])) := by
      rw [← hH]
      exact e3
    have e5 : (y2.hp (t ++ [.lst ((rts p n).map D.int)]))[H.length]? = some (.lst ((rts p n).map D.int)) := by
      rw [← hH]
      show (y2.hp t ++ [.lst ((rts p n).map D.int)])[(y2.hp t).length]? = _
      generalize y2.hp t = Y
      simp
    simp [e4, LIM, e5, hr]
    rw [tidy_ch _ _ _ _ _ rfl]
    exact q
end K86
end

section
set_option Elab.async false
set_option linter.all false
set_option maxRecDepth 100000
set_option maxHeartbeats 400000
namespace K86
open Tw
open PySem (Str)
/-! ### turns -/
theorem eq_row (n : Nat) (f g : Nat → Int) : eqs (row n f) (row n g) = some (decide (∀ j, j < n → f j = g j)) := by
  show eqs (.tup (intz n f)) (.tup (intz n g)) = _
  rw [z_eqt, show DEEP = 7 + 1 from rfl, deep_intz, deep_intz, eqds_intz]
  rfl
def rl (n : Nat) (R : Nat → Nat → Int) (m : Nat) : List (List Int) := (List.range m).map fun j => (List.range n).map (R j)
theorem row_D (n : Nat) (f : Nat → Int) : row n f = rowD ((List.range n).map f) := by
  unfold rowD
  rw [List.map_map]
  rfl
theorem intsOf_map (l : List Int) : intsOf (l.map D.int) = some l := by
  induction l with
  | nil => rfl
  | cons x l ih => simp [intsOf, ih]
theorem rowsI_map (rs : List (List Int)) : rowsI (rs.map rowD) = some rs := by
  induction rs with
  | nil => rfl
  | cons r rs ih => simp [rowsI, rowD, intsOf_map] ; simpa [rowD] using ih
theorem rws_rl (n : Nat) (R : Nat → Nat → Int) (m : Nat) : rws n R m = (rl n R m).map rowD := by
  unfold rws rl
  rw [List.map_map]
  exact List.map_congr_left fun j _ => row_D n (R j)
theorem rl_ok {n m : Nat} {R : Nat → Nat → Int} (hn : 0 < n) (hm : m < 64) (h0 : ∀ j i, 0 ≤ R j i) : rowsOk (rl n R m) = true := by
  unfold rowsOk
  simp only [Bool.and_eq_true, decide_eq_true_eq, List.all_eq_true]
  refine ⟨by simpa [rl] using hm, fun r hr => ?_⟩
  obtain ⟨j, hj, rfl⟩ := List.mem_map.mp hr
  refine ⟨⟨by simpa using hn, ?_⟩, fun x hx => ?_⟩
  · have hm0 : 0 < m := by have := List.mem_range.mp hj; omega
    obtain ⟨k, rfl⟩ : ∃ k, m = k + 1 := ⟨m - 1, by omega⟩
    unfold rl
    rw [List.range_succ_eq_map]
    simp
  · obtain ⟨i, _, rfl⟩ := List.mem_map.mp hx
    exact h0 j i
theorem srtU_rl {n m : Nat} {R : Nat → Nat → Int} (hn : 0 < n) (hm : m < 64) (h0 : ∀ j i, 0 ≤ R j i) : srtU (rws n R m) = some ((srtG leR (nubR (rl n R m))).map rowD) := by
  unfold srtU
  rw [rws_rl, rowsI_map]
  simp only [Option.bind_some, rl_ok hn hm h0, if_true]
def tR (n : Nat) (a : Nat → Int) : Nat → Nat → Int := fun k i => cy n a (i + k)
/-- the unlike turns, ascending -/
def TT (n : Nat) (a : Nat → Int) : List (List Int) := srtG leR (nubR (rl n (tR n a) n))
theorem TT_mem {n : Nat} {a : Nat → Int} {r : List Int} : r ∈ TT n a ↔ ∃ j, j < n ∧ r = (List.range n).map (tR n a j) := by
  unfold TT
  rw [(srtG_perm _).mem_iff, nub_mem]
  unfold rl
  rw [List.mem_map]
  constructor
  · rintro ⟨j, hj, rfl⟩
    exact ⟨j, List.mem_range.mp hj, rfl⟩
  · rintro ⟨j, hj, rfl⟩
    exact ⟨j, List.mem_range.mpr hj, rfl⟩
theorem TT_ne {n : Nat} {a : Nat → Int} (hn : 0 < n) : TT n a ≠ [] := fun e => by
  have : (List.range n).map (tR n a 0) ∈ TT n a := TT_mem.mpr ⟨0, hn, rfl⟩
  rw [e] at this
  cases this
theorem TT_len {n : Nat} {a : Nat → Int} : (TT n a).length ≤ n := by
  unfold TT
  rw [(srtG_perm _).length_eq]
  have : ∀ l : List (List Int), (nubR l).length ≤ l.length := by
    intro l
    induction l with
    | nil => exact Nat.le_refl _
    | cons x l ih =>
      unfold nubR
      split
      · exact Nat.le_succ_of_le ih
      · exact Nat.succ_le_succ ih
  refine Nat.le_trans (this _) ?_
  simp [rl]
theorem min_sorted : ∀ (rs : List (List Int)) (r : List Int), (r :: rs).Pairwise (fun a b => leR a b = true) → rs.foldl (fun a y => if ltR y a = true then y else a) r = r
  | [], r, _ => rfl
  | x :: rs, r, h => by
    have h1 : leR r x = true := (List.pairwise_cons.mp h).1 x List.mem_cons_self
    have h2 : ¬ ltR x r = true := by
      unfold leR at h1
      simpa using h1
    rw [List.foldl_cons, if_neg h2]
    refine min_sorted rs r ?_
    obtain ⟨a, b⟩ := List.pairwise_cons.mp h
    exact List.pairwise_cons.mpr ⟨fun y hy => a y (List.mem_cons_of_mem _ hy), (List.pairwise_cons.mp b).2⟩
theorem TT_min {n : Nat} {a : Nat → Int} (hn : 0 < n) : ∃ r rs, TT n a = r :: rs ∧ minRw ((TT n a).map rowD) = some (rowD r) := by
  have hs : (TT n a).Pairwise (fun a b => leR a b = true) := srtG_sorted leR_tot leR_tr _
  cases e : TT n a with
  | nil => exact absurd e (TT_ne hn)
  | cons r rs =>
    refine ⟨r, rs, rfl, ?_⟩
    rw [e] at hs
    unfold minRw
    rw [rowsI_map]
    simp only [Option.bind_some]
    rw [min_sorted rs r hs]
section
variable {n : Nat} (hn : 0 < n) (hU : n < 60) (a : Nat → Int)
include hn hU
theorem s_round (c : Int) (k : Nat) (h : Heap) : callI pg (k + 1) f_law_round [row n a, .int c] h = .ok (row n fun i => cy n a (i + c), h) := by
  have hro := rok (show n < 1000000 by omega)
  rw [u_law_round, b_law_round]
  simp
  rw [comp_ints n (fun i => cy n a (i + c)) (by simp [hro]) (by unfold LIM; omega) (by
    intro j hj
    simp [z_cy hn, hn])]
  simp [LIM]
theorem s_turned (c : Int) (k : Nat) (h : Heap) : callI pg (k + 1) f_turned_row [row n a, .int c] h = .ok (row n fun i => cy n a (i + c), h) := by
  have hro := rok (show n < 1000000 by omega)
  rw [u_turned_row, b_turned_row]
  simp
  rw [comp_ints n (fun i => cy n a (i + c)) (by simp [hro]) (by unfold LIM; omega) (by
    intro j hj
    simp [z_cy hn, hn])]
  simp [LIM]
theorem s_all_turns (ha : ∀ i, 0 ≤ a i) (k : Nat) (h : Heap) : callI pg (k + 2) f_all_turns [row n a] h = .ok (.tup ((TT n a).map rowD), h) := by
  have hro := rok (show n < 1000000 by omega)
  have ht := s_turned hn hU a
  rw [u_all_turns, b_all_turns]
  simp
  rw [comp_map n (fun j => .int (j : Nat)) (fun j => row n (tR n a j)) (g := []) (by simp [hro, rngD_intz]; rfl) rfl (by unfold LIM; omega) (by
    intro j hj
    simp [ht]
    rfl)]
  have e : srtU ((List.range n).map fun j => row n (tR n a j)) = some ((TT n a).map rowD) := srtU_rl hn (by omega) (fun j i => ha _)
  simp [e]
theorem s_law_turns (ha : ∀ i, 0 ≤ a i) (k : Nat) (h : Heap) : callI pg (k + 2) f_law_turns [row n a] h = .ok (.tup ((TT n a).map rowD), h) := by
  have hro := rok (show n < 1000000 by omega)
  have ht := s_round hn hU a
  rw [u_law_turns, b_law_turns]
  simp
  rw [comp_map n (fun j => .int (j : Nat)) (fun j => row n (tR n a j)) (g := []) (by simp [hro, rngD_intz]; rfl) rfl (by unfold LIM; omega) (by
    intro j hj
    simp [ht]
    rfl)]
  have e : srtU ((List.range n).map fun j => row n (tR n a j)) = some ((TT n a).map rowD) := srtU_rl hn (by omega) (fun j i => ha _)
  simp [e]
theorem s_least_turn (ha : ∀ i, 0 ≤ a i) (k : Nat) (h : Heap) : ∃ r rs, TT n a = r :: rs ∧ minRw ((TT n a).map rowD) = some (rowD r) ∧ callI pg (k + 3) f_least_turn [row n a] h = .ok (rowD r, h) := by
  obtain ⟨r, rs, e1, e2⟩ := TT_min (a := a) hn
  refine ⟨r, rs, e1, e2, ?_⟩
  rw [u_least_turn, b_least_turn]
  simp [s_all_turns hn hU a ha, e1, nth]
end
end K86
end

section
set_option Elab.async false
set_option linter.all false
set_option maxRecDepth 100000
set_option maxHeartbeats 400000
namespace K86
open Tw
open PySem (Str)
/-! ### periods -/
def isPer (n : Nat) (a : Nat → Int) (P : Nat) : Prop := 1 ≤ P ∧ P ≤ n ∧ (∀ i, i < n → cy n a (i + P) = a i) ∧ ∀ j, 1 ≤ j → j < P → ¬ ∀ i, i < n → cy n a (i + j) = a i
theorem per_ex {n : Nat} (hn : 0 < n) (a : Nat → Int) : ∃ P, isPer n a P := by
  have hw : ∀ i, i < n → cy n a (i + n) = a i := fun i hi => by rw [cy_per, cy_nat a hi]
  have main : ∀ m, m ≤ n → (∃ P, isPer n a P) ∨ ∀ j, 1 ≤ j → j ≤ m → ¬ ∀ i, i < n → cy n a (i + j) = a i := by
    intro m
    induction m with
    | zero => exact fun _ => .inr fun j h1 h2 => by omega
    | succ m ih =>
      intro hm
      rcases ih (by omega) with h | h
      · exact .inl h
      · by_cases z : ∀ i, i < n → cy n a (i + (m + 1 : Nat)) = a i
        · exact .inl ⟨m + 1, by omega, hm, z, fun j h1 h2 => h j h1 (by omega)⟩
        · refine .inr fun j h1 h2 => ?_
          rcases Nat.lt_or_ge m j with q | q
          · rwa [show j = m + 1 by omega]
          · exact h j h1 q
  rcases main n (Nat.le_refl _) with h | h
  · exact h
  · exact absurd hw (h n hn (Nat.le_refl _))
theorem eq_row_t {n : Nat} {f g : Nat → Int} (h : ∀ j, j < n → f j = g j) : eqs (row n f) (row n g) = some true := by
  rw [eq_row, decide_eq_true h]
theorem eq_row_f {n : Nat} {f g : Nat → Int} (h : ¬ ∀ j, j < n → f j = g j) : eqs (row n f) (row n g) = some false := by
  rw [eq_row, decide_eq_false h]
section
variable {n : Nat} (hn : 0 < n) (hU : n < 60) (a : Nat → Int)
include hn hU
theorem s_row_period {P : Nat} (hP : isPer n a P) (k : Nat) (h : Heap) : callI pg (k + 2) f_row_period [row n a] h = .ok (.int (P : Nat), h) := by
  obtain ⟨p1, pn, pe, pm⟩ := hP
  have ht := s_turned hn hU a
  rw [u_row_period, b_row_period]
  simp
  refine go_whileE (P - 1) (fun m ρ h1 => ∃ j, 1 ≤ j ∧ j ≤ P ∧ m + j = P ∧ h1 = h ∧ ρ = [some (row n a), some (.int (j : Nat))]) (fun ρ h1 => h1 = h ∧ ρ = [some (row n a), some (.int (P : Nat))]) (by unfold FUEL; omega) ?_ ?_ ?_
  · exact ⟨1, Nat.le_refl _, p1, by omega, rfl, rfl⟩
  · rintro m ρ h1 ⟨j, j1, jP, jm, rfl, rfl⟩
    by_cases e : j = P
    · subst e
      left
      refine ⟨?_, rfl, rfl⟩
      simp [ht, eq_row]
      exact pe
    · right
      have z := pm j j1 (by omega)
      refine ⟨?_, m - 1, [some (row n a), some (.int ((j + 1 : Nat) : Int))], h1, by omega, ?_, j + 1, by omega, by omega, by omega, rfl, rfl⟩
      · simp [ht, eq_row]
        simpa using z
      · simp
  · rintro ρ' h' ⟨rfl, rfl⟩
    simp
theorem s_law_period {P : Nat} (hP : isPer n a P) (k : Nat) (h : Heap) : callI pg (k + 2) f_law_period [row n a] h = .ok (.int (P : Nat), h) := by
  obtain ⟨p1, pn, pe, pm⟩ := hP
  have ht := s_round hn hU a
  have r1 : rngOk 1 = true := rok (n := 1) (by decide)
  have r2 : rngOk ((n : Int) + 1) = true := rok (n := n + 1) (by omega)
  rw [u_law_period, b_law_period]
  simp
  refine go_for (P := fun r : R (D × Heap) => r = R.ok (D.int ((P : Nat) : Int), h)) (h1 := h) (rngD 1 n) (fun i ρ h1 => i < P ∧ h1 = h ∧ ∃ x, ρ = [some (row n a), x]) ?_ ⟨by omega, rfl, _, rfl⟩ ?_ ?_
  · simp [r1, r2]
  · rintro i x ρ h1 hx ⟨hi, rfl, y, rfl⟩
    obtain ⟨hin, rfl⟩ := rngD_get hx
    by_cases e : i + 1 = P
    · have pe' : ∀ i_1, i_1 < n → cy n a ((i_1 : Int) + (1 + (i : Int))) = a i_1 := fun q hq => by
        rw [show (q : Int) + (1 + (i : Int)) = q + ((P : Nat) : Int) by omega]
        exact pe q hq
      refine ⟨.rt (.int (P : Nat)), [some (row n a), some (.int (1 + i))], h1, ?_, ?_⟩
      · simp [ht, eq_row_t pe']
        omega
      · simp
    · have z := pm (i + 1) (by omega) (by omega)
      have z' : ¬ ∀ i_1, i_1 < n → cy n a ((i_1 : Int) + (1 + (i : Int))) = a i_1 := fun q => z fun t ht => by
        rw [show (t : Int) + ((i + 1 : Nat) : Int) = t + (1 + (i : Int)) by omega]
        exact q t ht
      refine ⟨.nx, [some (row n a), some (.int (1 + i))], h1, ?_, by omega, rfl, _, rfl⟩
      simp [ht, eq_row_f z']
  · rintro ρ' h' ⟨hi, rfl, y, rfl⟩
    rw [rngD_len] at hi
    omega
end
/-! ### what _law_equal says of a thing and itself -/
def okA (d : D) : Prop := (∃ i, d = .int i) ∨ ∃ b, d = .bl b
def okB (d : D) : Prop := okA d ∨ ∃ r : List Int, r.length < 1000 ∧ d = rowD r
def okC (d : D) : Prop := okA d ∨ ∃ ds, d = .tup ds ∧ ds.length < 1000 ∧ ∀ e ∈ ds, okB e
def okE (d : D) : Prop := okA d ∨ ∃ ds, d = .tup ds ∧ ds.length < 1000 ∧ ∀ e ∈ ds, okC e
theorem nth_get {ds : List D} {j : Nat} (hj : j < ds.length) : nth ds (j : Int) = some ds[j] := by
  unfold nth
  rw [if_pos (by omega)]
  simp [hj]
theorem one_is {d : D} (hd : okA d) (k : Nat) (h : Heap) : callI pg (k + 1) f_law_one [d, d] h = .ok (.bl true, h) := by
  rcases hd with ⟨i, rfl⟩ | ⟨i, rfl⟩
  all_goals
    rw [u_law_one, b_law_one]
    simp [isTy]
theorem rowD_row (r : List Int) : rowD r = row r.length fun i => r.getD i 0 := by
  rw [row_D]
  congr 1
  apply List.ext_getElem
  · simp
  · intro i h1 h2
    simp [List.getD_eq_getElem?_getD, h1]
theorem okA_tup {d : D} (hd : okA d) (h : Heap) : isTy .tuple d h = some false := by
  rcases hd with ⟨i, rfl⟩ | ⟨i, rfl⟩ <;> rfl
theorem s_equal {d : D} (hd : okE d) (k : Nat) (h : Heap) : callI pg (k + 2) f_law_equal [d, d] h = .ok (.bl true, h) := by
  rcases hd with hd | ⟨ds, rfl, hl, hd⟩
  · rw [u_law_equal, b_law_equal]
    simp [okA_tup hd, one_is hd]
  rw [u_law_equal, b_law_equal]
  simp
  refine go_rngE ds.length (h1 := h) (fun i ρ h1 => h1 = h ∧ ∃ x y z, ρ = [some (.tup ds), some (.tup ds), x, y, z]) ?_ ⟨rfl, _, _, _, rfl⟩ ?_ ?_
  · simp [rok (show ds.length < 1000000 by omega)]
  · rintro i ρ h1 hi ⟨rfl, x, y, z, rfl⟩
    have hn := nth_get hi
    have he := hd _ (List.getElem_mem hi)
    generalize ds[i] = e at hn he
    rcases he with he | ⟨es, rfl, hel, hed⟩
    · refine ⟨[some (.tup ds), some (.tup ds), some (.int (i : Nat)), y, z], h1, ?_, rfl, _, _, _, rfl⟩
      simp [hn, okA_tup he, one_is he]
    · simp [hn]
      refine in_rng (J := fun ρ h2 => h2 = h1 ∧ ∃ x y z, ρ = [some (.tup ds), some (.tup ds), x, y, z]) es.length (h1 := h1) (fun j ρ h2 => h2 = h1 ∧ ∃ y z, ρ = [some (.tup ds), some (.tup ds), some (.int (i : Nat)), y, z]) ?_ ⟨rfl, _, _, rfl⟩ ?_ ?_
      · simp [hn, rok (show es.length < 1000000 by omega)]
      · rintro j ρ h2 hj ⟨rfl, y1, z1, rfl⟩
        have hm := nth_get hj
        have hg := hed _ (List.getElem_mem hj)
        generalize es[j] = g at hm hg
        rcases hg with hg | ⟨r, hr, rfl⟩
        · refine ⟨[some (.tup ds), some (.tup ds), some (.int (i : Nat)), some (.int (j : Nat)), z1], h2, ?_, rfl, _, _, rfl⟩
          simp [hn, hm, okA_tup hg, one_is hg]
        · rw [rowD_row] at hm
          generalize (fun i => r.getD i 0) = f at hm
          refine ⟨[some (.tup ds), some (.tup ds), some (.int (i : Nat)), some (.int (j : Nat)), z1], h2, ?_, rfl, _, _, rfl⟩
          simp [hn, hm, eq_row]
          rw [comp_gen (h1 := h2) (G := fun _ => none) (g := []) (intz r.length f) (by simp [hn, hm]) rfl (by rw [ints_len]; unfold LIM; omega) (by
            intro x hx
            obtain ⟨q, _, rfl⟩ := mem_intz hx
            simp [cstep, tvO])]
          simp
      · rintro ρ' h' ⟨rfl, y1, z1, rfl⟩
        exact ⟨_, h', rfl, rfl, _, _, _, rfl⟩
  · rintro ρ' h' ⟨rfl, x, y, z, rfl⟩
    simp
end K86
end

section
set_option Elab.async false
set_option linter.all false
set_option maxRecDepth 100000
set_option maxHeartbeats 400000
namespace K86
open Tw
open PySem (Str)
/-- the cup's heap, closed -/
def HP (x : Ch) (t : Heap) : Heap := x.hp t
@[simp] theorem HP_len (x : Ch) (t : Heap) : (HP x t).length = t.length + 3 := rfl
@[simp] theorem HP_get0 (x : Ch) (t l : Heap) : (HP x t ++ l)[t.length + 3]? = l[0]? := get_app0 (HP x t) l
@[simp] theorem HP_getk (x : Ch) (t l : Heap) (k : Nat) : (HP x t ++ l)[t.length + 3 + k]? = l[k]? := get_app (HP x t) l k
@[simp] theorem HP_get1 (x : Ch) (t l : Heap) : (HP x t ++ l)[t.length + 4]? = l[1]? := get_app (HP x t) l 1
@[simp] theorem HP_tidyb (x y : Ch) (t l : Heap) (b : Bool) : tidy (HP x t) (.bl b, HP y t ++ l) = (.bl b, HP y t) := tidy_ch x y t l (.bl b) rfl
theorem draw_HP {m v : Int} {x y : Ch} (e : ∀ t k, callI pg (k + 1) f_law_draw [.ref 1, .int m] (x.hp t) = .ok (.int v, y.hp t)) (t g : Heap) (k : Nat) : callI pg (k + 1) f_law_draw [.ref 1, .int m] (HP x t ++ g) = .ok (.int v, HP y t ++ g) := e (t ++ g) k
theorem draw_HP0 {m v : Int} {x y : Ch} (e : ∀ t k, callI pg (k + 1) f_law_draw [.ref 1, .int m] (x.hp t) = .ok (.int v, y.hp t)) (t : Heap) (k : Nat) : callI pg (k + 1) f_law_draw [.ref 1, .int m] (HP x t) = .ok (.int v, HP y t) := e t k
/-! ### rows among rows -/
theorem eqd_rowD (a b : List Int) : eqd (rowD a) (rowD b) = decide (a = b) := by
  show eqds (a.map D.int) (b.map D.int) = _
  induction a generalizing b with
  | nil => cases b <;> simp [eqds]
  | cons x a ih =>
    cases b with
    | nil => simp [eqds]
    | cons y b =>
      rw [List.map_cons, List.map_cons, eqds, ih, show eqd (.int x) (.int y) = decide (x = y) from rfl]
      simp
theorem deep_rowD (k : Nat) (r : List Int) : D.deep (k + 1) (rowD r) = true := by
  rw [rowD_row]
  exact deep_intz k _ _
theorem deeps_rows (k : Nat) (rs : List (List Int)) : D.deeps (k + 1) (rs.map rowD) = true := by
  induction rs with
  | nil => rfl
  | cons r rs ih => rw [List.map_cons, D.deeps, ih, deep_rowD]; rfl
theorem in_rowsD (neg : Bool) (r : List Int) (rs : List (List Int)) (h : Heap) : inB neg (rowD r) (.tup (rs.map rowD)) h = .ok (.bl (neg != decide (r ∈ rs)), h) := by
  show inL neg (rowD r) (rs.map rowD) h = _
  unfold inL
  have e1 : (scal (rowD r) && (rs.map rowD).all scal) = false := rfl
  rw [e1, show DEEP = 7 + 1 from rfl, deeps_rows, deep_rowD]
  simp only [Bool.false_eq_true, if_false, Bool.and_self]
  have e2 : ((rs.map rowD).any fun z => eqd z (rowD r)) = decide (r ∈ rs) := by
    rw [List.any_map, Bool.eq_iff_iff, List.any_eq_true, decide_eq_true_eq]
    constructor
    · rintro ⟨q, hq, e⟩
      have : q = r := by simpa [eqd_rowD] using e
      rwa [← this]
    · intro hr
      exact ⟨r, hr, by simp [eqd_rowD]⟩
  rw [e2]
  rfl
def lsr (n : Nat) (f : Nat → Int) : List Int := (List.range n).map f
theorem lsr_eq {n : Nat} {f g : Nat → Int} : lsr n f = lsr n g ↔ ∀ i, i < n → f i = g i := by
  unfold lsr
  rw [List.map_inj_left]
  exact ⟨fun h i hi => h i (List.mem_range.mpr hi), fun h i hi => h i (List.mem_range.mp hi)⟩
theorem mem_TT {n : Nat} {a b : Nat → Int} : lsr n b ∈ TT n a ↔ ∃ j : Nat, j < n ∧ ∀ i, i < n → b i = cy n a (i + j) := by
  rw [TT_mem]
  constructor
  · rintro ⟨j, hj, e⟩
    exact ⟨j, hj, lsr_eq.mp e⟩
  · rintro ⟨j, hj, e⟩
    exact ⟨j, hj, lsr_eq.mpr e⟩
theorem turn_sym {n : Nat} {a b : Nat → Int} (hn : 0 < n) (h : lsr n b ∈ TT n a) : lsr n a ∈ TT n b := by
  obtain ⟨j, hj, e⟩ := mem_TT.mp h
  have ex : ∀ x : Int, cy n b x = cy n a (x + j) := fun x => by
    have h0 : 0 ≤ x % (n : Int) := Int.emod_nonneg _ (by omega)
    have h1 : x % (n : Int) < n := Int.emod_lt_of_pos _ (by omega)
    show b (x % n).toNat = _
    rw [e _ (by omega)]
    apply cy_mod
    rw [show (((x % (n : Int)).toNat : Nat) : Int) = x % (n : Int) by omega, Int.emod_add_emod]
  refine mem_TT.mpr ⟨(n - j) % n, Nat.mod_lt _ hn, fun i hi => ?_⟩
  rw [ex]
  rw [← cy_nat a hi]
  apply cy_mod
  have : (((n - j) % n : Nat) : Int) = ((n : Int) - j) % n := by
    rw [Int.natCast_emod]
    congr 1
    omega
  rw [this, show (i : Int) + ((n : Int) - j) % n + j = ((n : Int) - j) % n + (i + j) by omega, Int.emod_add_emod, show (n : Int) - j + (i + j) = i + n by omega, Int.add_emod_right]
theorem turn_iff {n : Nat} {a b : Nat → Int} (hn : 0 < n) : lsr n a ∈ TT n b ↔ lsr n b ∈ TT n a := ⟨turn_sym hn, turn_sym hn⟩
section
variable {n : Nat} (hn : 0 < n) (hU : n < 60) (a : Nat → Int)
include hn hU
theorem s_are_turns (b : Nat → Int) (ha : ∀ i, 0 ≤ a i) (k : Nat) (h : Heap) : callI pg (k + 3) f_are_turns [row n b, row n a] h = .ok (.bl (decide (lsr n b ∈ TT n a)), h) := by
  have e := in_rowsD false (lsr n b) (TT n a) h
  rw [show rowD (lsr n b) = row n b from (row_D n b).symm] at e
  rw [u_are_turns, b_are_turns]
  simp [s_all_turns hn hU a ha, e]
end
end K86
end

section
set_option Elab.async false
set_option linter.all false
set_option maxRecDepth 100000
set_option maxHeartbeats 400000
namespace K86
open Tw
open PySem (Str)
/-! ### twin places -/
theorem low_rowD (k : Nat) (r : List Int) : (rowD r).low k = true := lows_map' k _ (fun _ => rfl) r
@[simp] theorem low_rowsD (k : Nat) (rs : List (List Int)) : D.lows k (rs.map rowD) = true := lows_map' k _ (low_rowD k) rs
@[simp] theorem z_trowsD (h g : Heap) (rs : List (List Int)) : tidy h (.tup (rs.map rowD), h ++ g) = (.tup (rs.map rowD), h) := tidy_tup h g _ (low_rowsD _ rs)
/-- places behind i with the same residue -/
def TP (n : Nat) (a : Nat → Int) (i : Nat) : List (List Int) := (List.range (n - (i + 1))).filterMap fun m => if a i = a (i + 1 + m) then some [(i : Int), ((i + 1 + m : Nat) : Int)] else none
def PW (n : Nat) (a : Nat → Int) : Nat → List (List Int)
  | 0 => []
  | i + 1 => PW n a i ++ TP n a i
theorem TP_len (n : Nat) (a : Nat → Int) (i : Nat) : (TP n a i).length ≤ n := by
  unfold TP
  exact Nat.le_trans (List.length_filterMap_le _ _) (by simp)
theorem PW_len (n : Nat) (a : Nat → Int) (i : Nat) : (PW n a i).length ≤ i * n := by
  induction i with
  | zero => simp [PW]
  | succ i ih =>
    have := TP_len n a i
    rw [PW, List.length_append, Nat.succ_mul]
    omega
theorem TP_len2 (n : Nat) (a : Nat → Int) (i : Nat) : ∀ r ∈ TP n a i, r.length = 2 := fun r hr => by
  unfold TP at hr
  obtain ⟨m, _, e⟩ := List.mem_filterMap.mp hr
  split at e
  · cases e; rfl
  · cases e
theorem PW_len2 (n : Nat) (a : Nat → Int) (i : Nat) : ∀ r ∈ PW n a i, r.length = 2 := by
  induction i with
  | zero => intro r hr; cases hr
  | succ i ih =>
    intro r hr
    rcases List.mem_append.mp hr with z | z
    · exact ih r z
    · exact TP_len2 n a i r z
theorem rngD_map (i : Int) : ∀ m, rngD i m = (List.range m).map fun q => D.int (i + (q : Nat))
  | 0 => rfl
  | m + 1 => by
    rw [rngD, rngD_map (i + 1) m, List.range_succ_eq_map, List.map_cons, List.map_map]
    congr 1
    · simp
    · refine List.map_congr_left fun q _ => ?_
      show D.int _ = D.int _
      congr 1
      show i + 1 + (q : Int) = i + ((q + 1 : Nat) : Int)
      omega
theorem fm_congr {α β : Type} {f g : α → Option β} : ∀ l : List α, (∀ x ∈ l, f x = g x) → l.filterMap f = l.filterMap g
  | [], _ => rfl
  | x :: l, h => by rw [List.filterMap_cons, List.filterMap_cons, h x List.mem_cons_self, fm_congr l fun y hy => h y (List.mem_cons_of_mem _ hy)]
theorem comp_twin {c : Ctx} {ρ : Env} {h : Heap} {e : CE} {t : CT} {it : CI} {cd : CBO} (n : Nat) (a : Nat → Int) (i : Nat) (hn : n < 1000) (hit : evI c it ρ h = .ok ((rngD ((i : Int) + 1) (n - (i + 1)), []), h))
    (hf : ∀ m : Nat, m < n - (i + 1) → cstep c e t cd ρ (.int ((i : Int) + 1 + m)) h = .ok (if a i = a (i + 1 + m) then some (.tup [.int i, .int ((i : Int) + 1 + m)]) else none, h)) :
    evL c (.comp e t it cd) ρ h = .ok ((TP n a i).map rowD, h) := by
  rw [comp_gen (h1 := h) (g := []) (G := fun x => match x with | .int z => (if a i = a z.toNat then some (.tup [.int i, .int z]) else none) | _ => none) _ hit rfl (by rw [rngD_len]; unfold LIM; omega) ?_]
  · congr 2
    rw [rngD_map, List.filterMap_map]
    unfold TP
    rw [List.map_filterMap]
    refine fm_congr _ fun m _ => ?_
    show (if a i = a ((i : Int) + 1 + (m : Nat)).toNat then _ else _) = _
    rw [show ((i : Int) + 1 + (m : Nat)).toNat = i + 1 + m by omega]
    by_cases q : a i = a (i + 1 + m)
    · rw [if_pos q, if_pos q]
      show some _ = some _
      simp [rowD]
    · rw [if_neg q, if_neg q]
      rfl
  · intro x hx
    rw [rngD_map] at hx
    obtain ⟨m, hm, rfl⟩ := List.mem_map.mp hx
    rw [hf m (List.mem_range.mp hm)]
    show _ = R.ok ((if a i = a ((i : Int) + 1 + (m : Nat)).toNat then _ else _), h)
    rw [show ((i : Int) + 1 + (m : Nat)).toNat = i + 1 + m by omega]
section
variable {n : Nat} (hn : 0 < n) (hU : n < 60) (a : Nat → Int)
include hn hU
theorem s_twin_places (p w : Int) (k : Nat) (h : Heap) : callI pg (k + 1) f_twin_places [fl p n w, row n a] h = .ok (.tup ((PW n a n).map rowD), h) := by
  have hro := rok (show n < 1000000 by omega)
  rw [u_twin_places, b_twin_places]
  simp
  refine go_rngE n (h1 := h ++ [.lst []]) (fun i ρ h1 => i ≤ n ∧ h1 = h ++ [.lst ((PW n a i).map rowD)] ∧ ∃ x y, ρ = [some (fl p n w), some (row n a), some (.ref h.length), x, y]) ?_ ⟨by omega, rfl, _, _, rfl⟩ ?_ ?_
  · simp [hro]
  · rintro i ρ h1 hi ⟨_, rfl, x, y, rfl⟩
    have r1 : rngOk ((i : Int) + 1) = true := rok (n := i + 1) (by omega)
    have e0 : ((n : Int) - ((i : Int) + 1)).toNat = n - (i + 1) := by omega
    have hl := PW_len n a i
    have hl2 := TP_len n a i
    have hb : i * n ≤ 60 * 60 := Nat.mul_le_mul (by omega) (by omega)
    refine ⟨[some (fl p n w), some (row n a), some (.ref h.length), some (.int (i : Nat)), y], h ++ [.lst ((PW n a (i + 1)).map rowD)], ?_, by omega, rfl, _, _, rfl⟩
    simp
    rw [comp_twin n a i (by omega) (by simp [hro, r1, e0]) (by
      intro m hm
      have e2 : nth (intz n a) ((i : Int) + 1 + m) = some (.int (a (i + 1 + m))) := by
        have := ints_at (f := a) (show i + 1 + m < n by omega)
        rw [show (((i + 1 + m : Nat) : Int)) = (i : Int) + 1 + m by omega] at this
        exact this
      by_cases q : a i = a (i + 1 + m) <;> simp [cstep, tvO, ints_at hi, e2, q, LIM])]
    simp [LIM, PW, show (PW n a i).length + (TP n a i).length ≤ 16777216 by omega]
  · rintro ρ' h' ⟨_, rfl, x, y, rfl⟩
    simp [LIM]
end
/-! ### turns of a row, of a row near it -/
theorem rowsT (n : Nat) (f : Nat → Int) (x : Int) (i : Nat) (hi : i < n) : cut (intz n f) none (some (i : Int)) ++ [D.int x] ++ cut (intz n f) (some ((i : Int) + 1)) none = intz n fun t => if t = i then x else f t := by
  have e1 : cut (intz n f) none (some (i : Int)) = (intz n f).take i := by
    unfold cut
    rw [sIx_nat, ints_len, Nat.min_eq_left (by omega)]
    rfl
  have e2 : cut (intz n f) (some ((i : Int) + 1)) none = (intz n f).drop (i + 1) := cut_drop _ (i + 1)
  rw [e1, e2, ← ints_set]
  rw [List.set_eq_take_append_cons_drop, if_pos (by rw [ints_len]; exact hi)]
  simp
def law_circled_T : CSs := (.cons (.asg (.name 5) (.tup (.cons (.call f_turned_row (.cons (.var 1) (.cons (.var 3) .nil))) (.cons (.call f_all_turns (.cons (.var 1) .nil)) (.cons (.call f_row_period (.cons (.var 1) .nil)) (.cons (.call f_least_turn (.cons (.var 1) .nil)) (.cons (.call f_are_turns (.cons (.var 1) (.cons (.var 4) .nil))) (.cons (.callK f_are_turns [1, 0] .nil (.cons (.call f_law_round (.cons (.var 1) (.cons (.var 2) .nil))) (.cons (.var 1) .nil))) .nil)))))))) (.cons (.asg (.name 6) (.tup (.cons (.call f_law_round (.cons (.var 1) (.cons (.var 2) .nil))) (.cons (.call f_law_turns (.cons (.var 1) .nil)) (.cons (.call f_law_period (.cons (.var 1) .nil)) (.cons (.sqE .min (.call f_law_turns (.cons (.var 1) .nil))) (.cons (.cmp .isin (.var 4) (.call f_law_turns (.cons (.var 1) .nil))) (.cons (.bl true) .nil)))))))) (.cons (.ite (.not (.val (.call f_law_equal (.cons (.var 5) (.cons (.var 6) .nil))))) (.cons (.ret (.bl false)) .nil) .nil) (.cons (.asg (.name 7) (.new (.disp .nil))) (.cons (.loop (.name 8) (.rng1 (.sq .len (.val (.var 1)))) (.cons (.ex (.ext (.var 7) (.comp (.tup (.cons (.var 8) (.cons (.var 12) .nil))) (.name 12) (.rng2 (.bin .add (.var 8) (.int 1)) (.sq .len (.val (.var 1)))) (.some (.val (.cmp .eq (.idx (.var 1) (.var 8)) (.idx (.var 1) (.var 12)))))))) .nil)) (.cons (.asg (.tup (.cons (.name 10) (.cons (.name 11) .nil))) (.idx (.tup (.cons (.tup (.cons (.int 17) (.cons (.int 1) .nil))) (.cons (.tup (.cons (.int 17) (.cons (.int 16) .nil))) (.cons (.tup (.cons (.int 19) (.cons (.int 7) .nil))) (.cons (.tup (.cons (.int 17) (.cons (.int 4) .nil))) (.cons (.tup (.cons (.int 31) (.cons (.int 2) .nil))) (.cons (.tup (.cons (.int 19) (.cons (.int 8) .nil))) (.cons (.tup (.cons (.int 29) (.cons (.int 7) .nil))) (.cons (.tup (.cons (.int 17) (.cons (.int 2) .nil))) .nil))))))))) (.bin .sub (.sq .len (.val (.var 1))) (.int 1)))) (.cons (.ret (.call f_law_equal (.cons (.call f_twin_places (.cons (.tup (.cons (.var 10) (.cons (.sq .len (.val (.var 1))) (.cons (.var 11) .nil)))) (.cons (.var 1) .nil))) (.cons (.sq .tuple (.val (.var 7))) .nil)))) .nil)))))))
theorem law_circled_eq : b_law_circled = (.cons (.asg (.name 2) (.call f_law_draw (.cons (.var 0) (.cons (.sq .len (.val (.var 1))) .nil)))) (.cons (.asg (.name 3) (.bin .add (.var 2) (.bin .mul (.sq .len (.val (.var 1))) (.call f_law_draw (.cons (.var 0) (.cons (.int 3) .nil)))))) (.cons (.asg (.name 4) (.call f_law_round (.cons (.var 1) (.cons (.var 2) .nil)))) (.cons (.ite (.val (.cmp .eq (.call f_law_draw (.cons (.var 0) (.cons (.int 2) .nil))) (.int 0))) (.cons (.asg (.name 9) (.call f_law_draw (.cons (.var 0) (.cons (.sq .len (.val (.var 1))) .nil)))) (.cons (.asg (.name 4) (.bin .add (.bin .add (.slc (.var 4) .none (.some (.var 9))) (.tup (.cons (.idx (.var 1) (.int 0)) .nil))) (.slc (.var 4) (.some (.bin .add (.var 9) (.int 1))) .none))) .nil)) .nil) law_circled_T)))) := rfl
theorem s_law_circled {n : Nat} (hn : 0 < n) (h8 : n ≤ 8) (a : Nat → Int) (ha : ∀ i, 0 ≤ a i) (x : Ch) (hx : x.ok) (t : Heap) (k : Nat) : ∃ y, Ch.ok y ∧ callI pg (k + 4) f_law_circled [.ref 1, row n a] (HP x t) = .ok (.bl true, HP y t) := by
  have hro := rok (show n < 1000000 by omega)
  have hU : n < 60 := by omega
  obtain ⟨v1, y1, a0, a1, hy1, e1⟩ := s_draw (m := n) (by omega) (by omega) x hx
  obtain ⟨v2, y2, b0, b1, hy2, e2⟩ := s_draw (m := 3) (by decide) (by decide) y1 hy1
  obtain ⟨v3, y3, c0, c1, hy3, e3⟩ := s_draw (m := 2) (by decide) (by decide) y2 hy2
  obtain ⟨v4, y4, d0, d1, hy4, e4⟩ := s_draw (m := n) (by omega) (by omega) y3 hy3
  obtain ⟨P, hP⟩ := per_ex hn a
  have hr := s_round hn hU
  have ht := s_turned hn hU
  obtain ⟨r, rs, eT, em, el⟩ := s_least_turn hn hU a ha k (HP x t)
  have el := fun h => (s_least_turn hn hU a ha k h)
  have hr0 : ∀ h, callI pg (k + 3) f_least_turn [row n a] h = .ok (rowD r, h) := fun h => by
    obtain ⟨r', rs', eT', _, e⟩ := el h
    rw [(List.cons.inj (eT.symm.trans eT')).1]
    exact e
  have hrT : r ∈ TT n a := by rw [eT]; exact List.mem_cons_self
  have lenT : ∀ q ∈ TT n a, q.length < 1000 := fun q hq => by
    obtain ⟨j, _, e⟩ := TT_mem.mp hq
    rw [e, List.length_map, List.length_range]
    exact Nat.lt_of_le_of_lt h8 (by decide)
  have okR : ∀ f : Nat → Int, okC (row n f) := fun f => .inr ⟨intz n f, rfl, by rw [ints_len]; omega, fun e he => by
    obtain ⟨j, _, rfl⟩ := mem_intz he
    exact .inl (.inl ⟨_, rfl⟩)⟩
  have okRD : ∀ q ∈ TT n a, okC (rowD q) := fun q hq => by
    rw [rowD_row]
    refine .inr ⟨_, rfl, by rw [ints_len]; exact lenT q hq, fun e he => ?_⟩
    obtain ⟨j, _, rfl⟩ := mem_intz he
    exact .inl (.inl ⟨_, rfl⟩)
  have eqT : ∀ (b1 b2 : Bool) (h : Heap), callI pg (k + 3) f_law_equal [.tup [row n (fun i => cy n a (i + v1)), .tup ((TT n a).map rowD), .int (P : Nat), rowD r, .bl b1, .bl b2], .tup [row n (fun i => cy n a (i + v1)), .tup ((TT n a).map rowD), .int (P : Nat), rowD r, .bl b1, .bl b2]] h = .ok (.bl true, h) := fun b1 b2 h => s_equal (.inr ⟨_, rfl, by simp, fun e he => by
    simp only [List.mem_cons, List.not_mem_nil, or_false] at he
    rcases he with rfl | rfl | rfl | rfl | rfl | rfl
    · exact okR _
    · refine .inr ⟨_, rfl, by rw [List.length_map]; have := TT_len (n := n) (a := a); omega, fun e he => ?_⟩
      obtain ⟨q, hq, rfl⟩ := List.mem_map.mp he
      exact .inr ⟨q, lenT q hq, rfl⟩
    · exact .inl (.inl ⟨_, rfl⟩)
    · exact okRD r hrT
    · exact .inl (.inr ⟨_, rfl⟩)
    · exact .inl (.inr ⟨_, rfl⟩)⟩) (k + 1) h
  have eqP : ∀ h, callI pg (k + 3) f_law_equal [.tup ((PW n a n).map rowD), .tup ((PW n a n).map rowD)] h = .ok (.bl true, h) := fun h => s_equal (.inr ⟨_, rfl, by
    rw [List.length_map]
    have := PW_len n a n
    have := Nat.mul_le_mul h8 h8
    omega, fun e he => by
    obtain ⟨q, hq, rfl⟩ := List.mem_map.mp he
    rw [rowD_row]
    refine .inr ⟨_, rfl, by rw [ints_len, PW_len2 n a n q hq]; decide, fun e he => ?_⟩
    obtain ⟨j, _, rfl⟩ := mem_intz he
    exact .inl (.inl ⟨_, rfl⟩)⟩) (k + 1) h
  have f1 : (fun i : Nat => cy n a (i + (v1 + n * v2))) = fun i : Nat => cy n a (i + v1) := by
    funext i
    apply cy_mod
    rw [← Int.add_assoc, Int.add_mul_emod_self_left]
  have f3 : lsr n a ∈ TT n (fun i : Nat => cy n a (i + v1)) := by
    refine (turn_iff hn).mpr (mem_TT.mpr ⟨v1.toNat, by omega, fun i _ => ?_⟩)
    rw [show ((v1.toNat : Nat) : Int) = v1 by omega]
  have inT : ∀ (b : Nat → Int) (h : Heap), inB false (row n b) (.tup ((TT n a).map rowD)) h = .ok (.bl (decide (lsr n b ∈ TT n a)), h) := fun b h => by
    have e := in_rowsD false (lsr n b) (TT n a) h
    rw [show rowD (lsr n b) = row n b from (row_D n b).symm] at e
    rw [e]
    simp
  have tbl : ∃ p w, nth [D.tup [.int 17, .int 1], .tup [.int 17, .int 16], .tup [.int 19, .int 7], .tup [.int 17, .int 4], .tup [.int 31, .int 2], .tup [.int 19, .int 8], .tup [.int 29, .int 7], .tup [.int 17, .int 2]] ((n : Int) - 1) = some (.tup [.int p, .int w]) := by
    have : n = 1 ∨ n = 2 ∨ n = 3 ∨ n = 4 ∨ n = 5 ∨ n = 6 ∨ n = 7 ∨ n = 8 := by omega
    rcases this with rfl | rfl | rfl | rfl | rfl | rfl | rfl | rfl <;> exact ⟨_, _, rfl⟩
  obtain ⟨p, w, tbl⟩ := tbl
  have s2 : small (n : Int) = true := small_of (by omega) (by omega)
  -- the end, from the first pair of things on
  have main : ∀ (b : Nat → Int) (hb : ∀ i, 0 ≤ b i) (y : Ch) (x9 : Option D), (execs ⟨callI pg (k + 3), pg.cs, pg.cl⟩ law_circled_T [some (.ref 1), some (row n a), some (.int v1), some (.int (v1 + n * v2)), some (row n b), none, none, none, none, x9, none, none, none] (HP y t)).bind (fin (HP x t)) = .ok (.bl true, HP y t) := by
    intro b hb y x9
    have f2 : decide (lsr n a ∈ TT n b) = decide (lsr n b ∈ TT n a) := decide_eq_decide.mpr (turn_iff hn)
    have eA := s_are_turns hn hU b a hb k
    have eB := s_are_turns hn hU (fun i : Nat => cy n a (i + v1)) a (fun i => ha _) k
    have hp1 := s_row_period hn hU a hP (k + 1)
    have hp2 := s_law_period hn hU a hP (k + 1)
    have t1 := s_all_turns hn hU a ha (k + 1)
    have t2 := s_law_turns hn hU a ha (k + 1)
    rw [law_circled_T]
    simp [hr, ht, hr0, f1, f2, f3, eA, eB, hp1, hp2, t1, t2, inT, em, eqT, selD, LIM]
    have g0 : ∀ (o : O) (h : t.length + 3 < (HP y t ++ [o]).length), (HP y t ++ [o])[t.length + 3]'h = o := fun o h => by simp [show (HP y t).length = t.length + 3 from rfl]
    have s0 : ∀ (o o' : O), (HP y t ++ [o]).set (t.length + 3) o' = HP y t ++ [o'] := fun o o' => by
      rw [List.set_append_right _ _ (by rw [HP_len]; omega), HP_len]
      simp
    generalize hT : (D.tup [row n fun i : Nat => cy n a (i + v1), D.tup ((TT n a).map rowD), D.int (P : Nat), rowD r, D.bl (decide (lsr n b ∈ TT n a)), D.bl true]) = TD
    refine go_rngE n (h1 := HP y t ++ [.lst []]) (fun i ρ h1 => i ≤ n ∧ h1 = HP y t ++ [.lst ((PW n a i).map rowD)] ∧ ∃ u z, ρ = [some (.ref 1), some (row n a), some (.int v1), some (.int (v1 + n * v2)), some (row n b), some TD, some TD, some (.ref (t.length + 3)), u, x9, none, none, z]) ?_ ⟨by omega, rfl, _, _, rfl⟩ ?_ ?_
    · simp [hro]
    · rintro i ρ h1 hi ⟨_, rfl, u, z, rfl⟩
      have r1 : rngOk ((i : Int) + 1) = true := rok (n := i + 1) (by omega)
      have e0 : ((n : Int) - ((i : Int) + 1)).toNat = n - (i + 1) := by omega
      have hl := PW_len n a i
      have hl2 := TP_len n a i
      have hb2 : i * n ≤ 60 * 60 := Nat.mul_le_mul (by omega) (by omega)
      refine ⟨[some (.ref 1), some (row n a), some (.int v1), some (.int (v1 + n * v2)), some (row n b), some TD, some TD, some (.ref (t.length + 3)), some (.int (i : Nat)), x9, none, none, z], HP y t ++ [.lst ((PW n a (i + 1)).map rowD)], ?_, by omega, rfl, _, _, rfl⟩
      simp
      rw [comp_twin n a i (by omega) (by simp [hro, r1, e0]) (by
        intro m hm
        have e2 : nth (intz n a) ((i : Int) + 1 + m) = some (.int (a (i + 1 + m))) := by
          have := ints_at (f := a) (show i + 1 + m < n by omega)
          rw [show (((i + 1 + m : Nat) : Int)) = (i : Int) + 1 + m by omega] at this
          exact this
        by_cases q : a i = a (i + 1 + m) <;> simp [cstep, tvO, ints_at hi, e2, q, LIM])]
      simp [LIM, PW, g0, s0, show (PW n a i).length + (TP n a i).length ≤ 16777216 by omega]
    · rintro ρ' h' ⟨_, rfl, u, z, rfl⟩
      simp [tbl, g0, s_twin_places hn hU a p w, eqP, LIM]
  have q1 := draw_HP0 e1 t
  have q2 := draw_HP0 e2 t
  have q3 := draw_HP0 e3 t
  have q4 := draw_HP0 e4 t
  rw [u_law_circled, law_circled_eq]
  by_cases h3 : v3 = 0
  · subst h3
    refine ⟨y4, hy4, ?_⟩
    have m := main (fun i => if i = v4.toNat then a 0 else cy n a (i + v1)) (fun i => by
      show 0 ≤ if i = v4.toNat then a 0 else cy n a (i + v1)
      split
      · exact ha _
      · exact ha _) y4 (some (.int v4))
    have e9 := rowsT n (fun i : Nat => cy n a (i + v1)) (a 0) v4.toNat (by omega)
    rw [show ((v4.toNat : Nat) : Int) = v4 by omega] at e9
    have ea : nth (intz n a) 0 = some (.int (a 0)) := ints_at (f := a) (show 0 < n by omega)
    have cl : ∀ (xs : List D) lo hi, (cut xs lo hi).length ≤ xs.length := fun xs lo hi => by
      unfold cut
      rw [List.length_take, List.length_drop]
      omega
    have c1 : (cut (intz n fun i : Nat => cy n a (i + v1)) none (some v4)).length ≤ 8 := Nat.le_trans (cl _ _ _) (by rw [ints_len]; exact h8)
    have c2 : (cut (intz n fun i : Nat => cy n a (i + v1)) (some (v4 + 1)) none).length ≤ 8 := Nat.le_trans (cl _ _ _) (by rw [ints_len]; exact h8)
    simp at e9
    simp [q1, q2, q3, q4, hr, s2, LIM, ea, show (cut (intz n fun i : Nat => cy n a (i + v1)) none (some v4)).length ≤ 16777215 by omega,
      show (cut (intz n fun i : Nat => cy n a (i + v1)) none (some v4)).length + 1 + (cut (intz n fun i : Nat => cy n a (i + v1)) (some (v4 + 1)) none).length ≤ 16777216 by omega, e9]
    exact m
  · refine ⟨y3, hy3, ?_⟩
    have m := main (fun i : Nat => cy n a (i + v1)) (fun i => ha _) y3 none
    simp [q1, q2, q3, hr, s2, h3, LIM]
    exact m
end K86
end

section
set_option Elab.async false
set_option linter.all false
set_option maxRecDepth 100000
set_option maxHeartbeats 800000
namespace K86
open Tw
open PySem (Str)

section
variable {p w : Int} {n : Nat} (F : Fld p n w) (k : Nat) (h : Heap) (a b : Nat → Int)
include F
theorem s_added : callI pg (k + 1) f_added [fl p n w, row n a, row n b] h = .ok (row n fun i => (a i + b i) % p, h) := by
  have hp : 0 < p := by have := F.p2; omega
  have hn : n < LIM := by have := F.nU; unfold LIM; omega
  rw [u_added, b_added]
  simp
  rw [comp_zip n a b (fun i => (a i + b i) % p) (by simp [isTup]) hn (by intro j hj; simp [hp])]
  simp
theorem s_lessened : callI pg (k + 1) f_lessened [fl p n w, row n a, row n b] h = .ok (row n fun i => (a i - b i) % p, h) := by
  have hp : 0 < p := by have := F.p2; omega
  have hn : n < LIM := by have := F.nU; unfold LIM; omega
  rw [u_lessened, b_lessened]
  simp
  rw [comp_zip n a b (fun i => (a i - b i) % p) (by simp [isTup]) hn (by intro j hj; simp [hp])]
  simp
theorem s_scaled (r : Int) (hr : small r = true) : callI pg (k + 1) f_scaled [fl p n w, row n a, .int r] h = .ok (row n fun i => (a i * r) % p, h) := by
  have hp : 0 < p := by have := F.p2; omega
  have hn : n < LIM := by have := F.nU; unfold LIM; omega
  rw [u_scaled, b_scaled]
  simp
  rw [comp_row n a (fun i => (a i * r) % p) (by simp) hn (by intro j hj; simp [hp, hr])]
  simp
theorem s_shiftedC (s : Int) : callI pg (k + 1) f_shifted [fl p n w, .str "C", row n a, .int s] h = .ok (row n fun i => cy n a (i - s), h) := by
  have hn0 : 0 < n := F.n1
  have hn : n < LIM := by have := F.nU; unfold LIM; omega
  have hro := rok (show n < 1000000 by have := F.nU; omega)
  rw [u_shifted, b_shifted]
  simp
  rw [comp_ints n (fun i => cy n a (i - s)) (by simp [hro]) hn (by intro j hj; simp [hn0, z_cy hn0])]
  simp
theorem s_mirrored : callI pg (k + 1) f_mirrored [fl p n w, row n a] h = .ok (row n fun i => cy n a (-i), h) := by
  have hn0 : 0 < n := F.n1
  have hn : n < LIM := by have := F.nU; unfold LIM; omega
  have hro := rok (show n < 1000000 by have := F.nU; omega)
  rw [u_mirrored, b_mirrored]
  simp
  rw [comp_ints n (fun i => cy n a (-i)) (by simp [hro]) hn (by intro j hj; simp [hn0, z_cy hn0])]
  simp
theorem s_stretchedC (m : Nat) (hm : m < 1000) : callI pg (k + 1) f_stretched [fl p n w, .str "C", row n a, .int (m : Nat)] h = .ok (row n (stR n m a n), h) := by
  have hn0 : 0 < n := F.n1
  have hn : n < LIM := by have := F.nU; unfold LIM; omega
  have hnU : n ≤ 16777216 := by have := F.nU; omega
  have hro := rok (show n < 1000000 by have := F.nU; omega)
  have hz : List.replicate n (D.int 0) = intz n (stR n m a 0) := rep_zero n _ fun _ => rfl
  rw [u_stretched, b_stretched]
  simp [hro, LIM, hnU, hz]
  refine go_rngE (h1 := h ++ [.lst (intz n (stR n m a 0))]) n (fun i ρ h1 => h1 = h ++ [.lst (intz n (stR n m a i))] ∧ ∃ x, ρ = [some (fl p n w), some (.str "C"), some (row n a), some (.int (m : Nat)), some (.int (n : Nat)), some (.ref h.length), x]) (by simp [hro]) ⟨rfl, _, rfl⟩ ?_ ?_
  · rintro i ρ h1 hi ⟨rfl, x, rfl⟩
    have si : small (i : Int) = true := small_of (by omega) (by have := F.nU; omega)
    refine ⟨_, h ++ [.lst (intz n (stR n m a (i + 1)))], ?_, rfl, some (.int i), rfl⟩
    simp [ints_at hi, si, hn0]
    rw [show ((i : Int) * m) = ((i * m : Nat) : Int) by simp, nix_cy hn0]
    simp [ints_set]
    apply ints_congr
    intro t ht
    rw [stR, show (((i : Int) * m) % n).toNat = (i * m) % n by
      rw [show ((i : Int) * m) % n = (((i * m) % n : Nat) : Int) by simp]
      rfl]
  · rintro ρ' h' ⟨rfl, x, rfl⟩
    simp
theorem s_keptP (ps : List Nat) : callI pg (k + 1) f_kept [fl p n w, row n a, plc ps] h = .ok (row n fun i => if i ∈ ps then a i else 0, h) := by
  have hn : n < LIM := by have := F.nU; unfold LIM; omega
  have hro := rok (show n < 1000000 by have := F.nU; omega)
  rw [u_kept, b_kept]
  simp
  rw [comp_ints n (fun i => if i ∈ ps then a i else 0) (by simp [hro]) hn (by
    intro j hj
    by_cases q : j ∈ ps <;> simp [in_plc, q, ints_at hj])]
  simp
theorem s_sloped : callI pg (k + 1) f_sloped [fl p n w, row n a] h = .ok (row n fun i => (i * a i) % p, h) := by
  have hp : 0 < p := by have := F.p2; omega
  have hn : n < LIM := by have := F.nU; unfold LIM; omega
  rw [u_sloped, b_sloped]
  simp
  rw [comp_enum n a (fun i => (i * a i) % p) (by simp) hn (by
    intro j hj
    have sj : small (j : Int) = true := small_of (by omega) (by have := F.nU; omega)
    simp [hp, sj])]
  simp
variable (m : Nat)
theorem d_add (hm : h[m]? = some (.lst [row n a, row n b])) : callI pg (k + 2) f_done [fl p n w, .str "C", .str "add", .ref m, .non] h = .ok (row n (fun i => (a i + b i) % p), h) := by
  rw [u_done, b_done]
  simp [str_eq, hm, s_added F]
theorem d_less (hm : h[m]? = some (.lst [row n a, row n b])) : callI pg (k + 2) f_done [fl p n w, .str "C", .str "less", .ref m, .non] h = .ok (row n (fun i => (a i - b i) % p), h) := by
  rw [u_done, b_done]
  simp [str_eq, hm, s_lessened F]
theorem d_times (ha : ∀ i, small (a i) = true) (hm : h[m]? = some (.lst [row n a, row n b])) : callI pg (k + 2) f_done [fl p n w, .str "C", .str "times", .ref m, .non] h = .ok (row n (cv p n a b), h) := by
  rw [u_done, b_done]
  simp [str_eq, hm, s_multC F a b ha]
theorem d_scale (r : Int) (hr : small r = true) (hm : h[m]? = some (.lst [row n a])) : callI pg (k + 2) f_done [fl p n w, .str "C", .str "scale", .ref m, .int r] h = .ok (row n (fun i => (a i * r) % p), h) := by
  rw [u_done, b_done]
  simp [str_eq, hm, s_scaled F k h a r hr]
theorem d_shift (s : Int) (hm : h[m]? = some (.lst [row n a])) : callI pg (k + 2) f_done [fl p n w, .str "C", .str "shift", .ref m, .int s] h = .ok (row n (fun i => cy n a (i - s)), h) := by
  rw [u_done, b_done]
  simp [str_eq, hm, s_shiftedC F]
theorem d_mirror (hm : h[m]? = some (.lst [row n a])) : callI pg (k + 2) f_done [fl p n w, .str "C", .str "mirror", .ref m, .non] h = .ok (row n (fun i => cy n a (-i)), h) := by
  rw [u_done, b_done]
  simp [str_eq, hm, s_mirrored F]
theorem d_stretch (s : Nat) (hs : s < 1000) (hm : h[m]? = some (.lst [row n a])) : callI pg (k + 2) f_done [fl p n w, .str "C", .str "stretch", .ref m, .int (s : Nat)] h = .ok (row n (stR n s a n), h) := by
  rw [u_done, b_done]
  simp [str_eq, hm, s_stretchedC F k h a s hs]
theorem d_keep (ps : List Nat) (hm : h[m]? = some (.lst [row n a])) : callI pg (k + 2) f_done [fl p n w, .str "C", .str "keep", .ref m, plc ps] h = .ok (row n (fun i => if i ∈ ps then a i else 0), h) := by
  rw [u_done, b_done]
  simp [str_eq, hm, s_keptP F]
theorem d_hold (ps : List Nat) (hm : h[m]? = some (.lst [row n a])) : callI pg (k + 2) f_done [fl p n w, .str "V", .str "hold", .ref m, plc ps] h = .ok (row n (fun i => if i ∈ ps then a i else 0), h) := by
  rw [u_done, b_done]
  simp [str_eq, hm, s_keptP F]
theorem d_slope (hm : h[m]? = some (.lst [row n a])) : callI pg (k + 2) f_done [fl p n w, .str "C", .str "slope", .ref m, .non] h = .ok (row n (fun i => (i * a i) % p), h) := by
  rw [u_done, b_done]
  simp [str_eq, hm, s_sloped F]
end
/-- a deed's word -/
def wdD : Deed → Str
  | .take .. => "take" | .add .. => "add" | .less .. => "less" | .times .. => "times" | .scale .. => "scale" | .shift .. => "shift"
  | .mirror .. => "mirror" | .stretch .. => "stretch" | .keep .. => "keep" | .hold .. => "hold" | .slope .. => "slope"
def ndD : Deed → List Nat
  | .take .. => [] | .add a b => [a, b] | .less a b => [a, b] | .times a b => [a, b] | .scale a _ => [a] | .shift a _ => [a]
  | .mirror a => [a] | .stretch a _ => [a] | .keep a _ => [a] | .hold a _ => [a] | .slope a => [a]
def xoD : Deed → D
  | .take .. => .non | .add .. => .non | .less .. => .non | .times .. => .non | .scale _ r => .int r | .shift _ s => .int s
  | .mirror _ => .non | .stretch _ m => .int (m : Nat) | .keep _ ps => plc ps | .hold _ ps => plc ps | .slope _ => .non
theorem wd_at (d : Deed) (h : Heap) : idxV (encD d) (.int 0) h = .ok (.str (wdD d), h) := by
  cases d <;> rfl
theorem s_named (d : Deed) (k : Nat) (h : Heap) : callI pg (k + 1) f_named_deeds [encD d] h = .ok (.tup ((ndD d).map fun j => .int (j : Nat)), h) := by
  rw [u_named_deeds, b_named_deeds]
  cases d <;> simp [wd_at, wdD, str_eq, inB, scal, eqf, LIM, encD, ndD]
theorem s_extra (d : Deed) (k : Nat) (h : Heap) : callI pg (k + 1) f_extra_of [encD d] h = .ok (xoD d, h) := by
  rw [u_extra_of, b_extra_of]
  cases d <;> simp [wd_at, wdD, str_eq, inB, scal, eqf, LIM, encD, xoD]
end K86
end

section
set_option Elab.async false
set_option linter.all false
set_option maxRecDepth 100000
set_option maxHeartbeats 800000
namespace K86
open Tw
open PySem (Str)
section
variable {p w : Int} {n : Nat} (F : Fld p n w)
theorem in_same {s : Str} (hs : isF s) (f d : D) (k : Nat) (h : Heap) : callI pg (k + 2) f_in_form [f, d, .str s, .str s] h = .ok (d, h) := by
  rw [in_formC (d2 := .non) hs hs k h fun q => (q rfl).elim, if_pos rfl]
include F
theorem in_CV (a : Nat → Int) (k : Nat) (h : Heap) : callI pg (k + 5) f_in_form [fl p n w, row n a, .str "C", .str "V"] h = .ok (row n (vs p w n a), h) := by
  rw [in_formC (d2 := row n (vs p w n a)) (.inl rfl) (.inr rfl) (k + 3) h fun _ => s_turned_C F a (k + 1) h, if_neg (by rw [isCV]; exact fun x => x)]
theorem in_VC (a : Nat → Int) (k : Nat) (h : Heap) : callI pg (k + 5) f_in_form [fl p n w, row n a, .str "V", .str "C"] h = .ok (row n (cs p w n a), h) := by
  rw [in_formC (d2 := row n (cs p w n a)) (.inr rfl) (.inl rfl) (k + 3) h fun _ => s_turned_V F a k h, if_neg (by rw [isV]; exact fun x => x)]
end
/-- a take is answered by the inputs -/
def tkOk (p w : Int) (n : Nat) (ins : List (Str × (Nat → Int))) (X : Str → Nat → Int) : Deed → Prop
  | .take x f => ∃ v, findV (kvIn n ins) (.inr x) = some (row n v) ∧ ((f = "C" ∧ ∀ t, t < n → X x t = v t) ∨ (f = "V" ∧ ∀ t, t < n → X x t = cs p w n v t))
  | _ => True
theorem row_congr {n : Nat} {a b : Nat → Int} (h : ∀ t, t < n → a t = b t) : row n a = row n b := congrArg D.tup (ints_congr h)
theorem rws_sem {p w : Int} {n : Nat} {X : Str → Nat → Int} {R : Nat → Nat → Int} {d : Deed} {i : Nat} (h : ∀ t, t < n → R i t = semD p w n X R d t) : row n (semD p w n X R d) = row n (R i) := row_congr fun t ht => (h t ht).symm
theorem s_along {p w : Int} {n : Nat} (F : Fld p n w) (ins : List (Str × (Nat → Int))) (hnd : (ins.map (·.1)).Nodup) (hil : ins.length < 1000) (X : Str → Nat → Int)
    (ds : List Deed) (R : Nat → Nat → Int) (hl : ds.length < 1000) (hs : ∀ j i, small (R j i) = true)
    (hd : ∀ i d, ds[i]? = some d → okD i d ∧ tkOk p w n ins X d ∧ ∀ t, t < n → R i t = semD p w n X R d t) (tl : D) (k : Nat) (h : Heap) :
    callI pg (k + 7) f_coefficients_along [fl p n w, .tup [.tup (ds.map encD), tl], .tup (encIn n ins)] h = .ok (.tup (rws n R ds.length), h) := by
  rw [u_coefficients_along, b_coefficients_along]
  have edc := dcomp_in (c := ⟨callI pg (k + 6), pg.cs, pg.cl⟩) (h := h) (i := 6) (j := 7) (ρ := [some (fl p n w), some (.tup [.tup (ds.map encD), tl]), some (.tup (encIn n ins)), none, none, none, none, none, none, none]) (it := .val (.var 2)) n ins hnd hil (by simp) (by simp) (by decide) (by simp)
  rw [z_xs1, z_xasg, edc]
  simp
  refine go_itemsE (h1 := h ++ [.dct (kvIn n ins), .lst []]) (ds.map encD) (fun i ρ h1 => i ≤ ds.length ∧ ∃ gb x5 x6 x7 x8 x9, h1 = h ++ .dct (kvIn n ins) :: .lst (rws n R i) :: gb ∧ ρ = [some (fl p n w), some (.tup [.tup (ds.map encD), tl]), some (.tup (encIn n ins)), some (.ref h.length), some (.ref (h.length + 1)), x5, x6, x7, x8, x9]) (by simp) ⟨by omega, [], _, _, _, _, _, rfl, rfl⟩ ?_ ?_
  · rintro i x ρ h1 hx ⟨hi', gb, x5, x6, x7, x8, x9, rfl, rfl⟩
    obtain ⟨d, hx', rfl⟩ := map_get hx
    obtain ⟨ok, tk, sem⟩ := hd i d hx'
    have hi : i < ds.length := get_lt hx'
    have hL : i < LIM := by unfold LIM; omega
    have er := rws_sem sem
    have one : ∀ (b : Nat) (hb : b < i) (wd : wdD d ≠ "take" ∧ wdD d ≠ "hold") (nd : ndD d = [b]) (ed : ∀ m h, h[m]? = some (.lst [row n (R b)]) → callI pg (k + 6) f_done [fl p n w, .str "C", .str (wdD d), .ref m, xoD d] h = .ok (row n (R i), h)),
        ∃ ρ' h', ((asg ⟨callI pg (k + 6), pg.cs, pg.cl⟩ (.name 5) (encD d) [some (fl p n w), some (.tup [.tup (ds.map encD), tl]), some (.tup (encIn n ins)), some (.ref h.length), some (.ref (h.length + 1)), x5, x6, x7, x8, x9] (h ++ .dct (kvIn n ins) :: .lst (rws n R i) :: gb)).nox.bind fun s => execs ⟨callI pg (k + 6), pg.cs, pg.cl⟩ (.cons (.ite (.val (.cmp .eq (.idx (.var 5) (.int 0)) (.str "take"))) (.cons (.ex (.app (.var 4) (.call f_in_form (.cons (.var 0) (.cons (.idx (.var 3) (.idx (.var 5) (.int 1))) (.cons (.idx (.var 5) (.int 2)) (.cons (.str "C") .nil))))))) .nil) (.cons (.ite (.val (.cmp .eq (.idx (.var 5) (.int 0)) (.str "hold"))) (.cons (.asg (.name 8) (.call f_done (.cons (.var 0) (.cons (.str "V") (.cons (.str "hold") (.cons (.new (.disp (.cons (.call f_in_form (.cons (.var 0) (.cons (.idx (.var 4) (.idx (.var 5) (.int 1))) (.cons (.str "C") (.cons (.str "V") .nil))))) .nil))) (.cons (.idx (.var 5) (.int 2)) .nil))))))) (.cons (.ex (.app (.var 4) (.call f_in_form (.cons (.var 0) (.cons (.var 8) (.cons (.str "V") (.cons (.str "C") .nil))))))) .nil)) (.cons (.ex (.app (.var 4) (.call f_done (.cons (.var 0) (.cons (.str "C") (.cons (.idx (.var 5) (.int 0)) (.cons (.new (.comp (.idx (.var 4) (.var 9)) (.name 9) (.val (.call f_named_deeds (.cons (.var 5) .nil))) .none)) (.cons (.call f_extra_of (.cons (.var 5) .nil)) .nil)))))))) .nil)) .nil)) .nil) s.1 s.2) = .ok (.nx, ρ', h') ∧ i + 1 ≤ ds.length ∧ ∃ gb x5 x6 x7 x8 x9, h' = h ++ .dct (kvIn n ins) :: .lst (rws n R (i + 1)) :: gb ∧ ρ' = [some (fl p n w), some (.tup [.tup (ds.map encD), tl]), some (.tup (encIn n ins)), some (.ref h.length), some (.ref (h.length + 1)), x5, x6, x7, x8, x9] := by
      intro b hb wd nd ed
      refine ⟨_, h ++ .dct (kvIn n ins) :: .lst (rws n R (i + 1)) :: (gb ++ [.lst [row n (R b)]]), ?_, by omega, _, some (encD d), x6, x7, x8, x9, rfl, rfl⟩
      have wd1 := wd.1
      have wd2 := wd.2
      have en := s_named d (k + 5)
      rw [nd] at en
      simp [wd_at, wd1, wd2]
      rw [comp_one (x1 := .int (b : Nat)) (y1 := row n (R b)) (by simp [en]) (by simp [rws_at hb])]
      simp [s_extra]
      rw [ed _ _ (by simp)]
      simp [hL, rws_succ]
    have two : ∀ (a b : Nat) (ha : a < i) (hb : b < i) (wd : wdD d ≠ "take" ∧ wdD d ≠ "hold") (nd : ndD d = [a, b]) (ed : ∀ m h, h[m]? = some (.lst [row n (R a), row n (R b)]) → callI pg (k + 6) f_done [fl p n w, .str "C", .str (wdD d), .ref m, xoD d] h = .ok (row n (R i), h)),
        ∃ ρ' h', ((asg ⟨callI pg (k + 6), pg.cs, pg.cl⟩ (.name 5) (encD d) [some (fl p n w), some (.tup [.tup (ds.map encD), tl]), some (.tup (encIn n ins)), some (.ref h.length), some (.ref (h.length + 1)), x5, x6, x7, x8, x9] (h ++ .dct (kvIn n ins) :: .lst (rws n R i) :: gb)).nox.bind fun s => execs ⟨callI pg (k + 6), pg.cs, pg.cl⟩ (.cons (.ite (.val (.cmp .eq (.idx (.var 5) (.int 0)) (.str "take"))) (.cons (.ex (.app (.var 4) (.call f_in_form (.cons (.var 0) (.cons (.idx (.var 3) (.idx (.var 5) (.int 1))) (.cons (.idx (.var 5) (.int 2)) (.cons (.str "C") .nil))))))) .nil) (.cons (.ite (.val (.cmp .eq (.idx (.var 5) (.int 0)) (.str "hold"))) (.cons (.asg (.name 8) (.call f_done (.cons (.var 0) (.cons (.str "V") (.cons (.str "hold") (.cons (.new (.disp (.cons (.call f_in_form (.cons (.var 0) (.cons (.idx (.var 4) (.idx (.var 5) (.int 1))) (.cons (.str "C") (.cons (.str "V") .nil))))) .nil))) (.cons (.idx (.var 5) (.int 2)) .nil))))))) (.cons (.ex (.app (.var 4) (.call f_in_form (.cons (.var 0) (.cons (.var 8) (.cons (.str "V") (.cons (.str "C") .nil))))))) .nil)) (.cons (.ex (.app (.var 4) (.call f_done (.cons (.var 0) (.cons (.str "C") (.cons (.idx (.var 5) (.int 0)) (.cons (.new (.comp (.idx (.var 4) (.var 9)) (.name 9) (.val (.call f_named_deeds (.cons (.var 5) .nil))) .none)) (.cons (.call f_extra_of (.cons (.var 5) .nil)) .nil)))))))) .nil)) .nil)) .nil) s.1 s.2) = .ok (.nx, ρ', h') ∧ i + 1 ≤ ds.length ∧ ∃ gb x5 x6 x7 x8 x9, h' = h ++ .dct (kvIn n ins) :: .lst (rws n R (i + 1)) :: gb ∧ ρ' = [some (fl p n w), some (.tup [.tup (ds.map encD), tl]), some (.tup (encIn n ins)), some (.ref h.length), some (.ref (h.length + 1)), x5, x6, x7, x8, x9] := by
      intro a b ha hb wd nd ed
      refine ⟨_, h ++ .dct (kvIn n ins) :: .lst (rws n R (i + 1)) :: (gb ++ [.lst [row n (R a), row n (R b)]]), ?_, by omega, _, some (encD d), x6, x7, x8, x9, rfl, rfl⟩
      have wd1 := wd.1
      have wd2 := wd.2
      have en := s_named d (k + 5)
      rw [nd] at en
      simp [wd_at, wd1, wd2]
      rw [comp_two (x1 := .int (a : Nat)) (x2 := .int (b : Nat)) (y1 := row n (R a)) (y2 := row n (R b)) (by simp [en]) (by simp [rws_at ha]) (by simp [rws_at hb])]
      simp [s_extra]
      rw [ed _ _ (by simp)]
      simp [hL, rws_succ]
    cases d with
    | take x f =>
      obtain ⟨v, hv, hf⟩ := tk
      refine ⟨_, h ++ .dct (kvIn n ins) :: .lst (rws n R (i + 1)) :: gb, ?_, by omega, gb, some (encD (.take x f)), x6, x7, x8, x9, rfl, rfl⟩
      have er' : row n (X x) = row n (R i) := er
      rcases hf with ⟨rfl, hf⟩ | ⟨rfl, hf⟩
      · rw [row_congr hf] at er'
        simp [encD, str_eq, keyOf, hv, in_same (s := "C") (.inl rfl), hL, rws_succ, er']
      · rw [row_congr hf] at er'
        simp [encD, str_eq, keyOf, hv, in_VC F, hL, rws_succ, er']
    | hold a ps =>
      refine ⟨_, h ++ .dct (kvIn n ins) :: .lst (rws n R (i + 1)) :: (gb ++ [.lst [row n (vs p w n (R a))]]), ?_, by omega, _, some (encD (.hold a ps)), x6, x7, some (row n fun j => if j ∈ ps then vs p w n (R a) j else 0), x9, rfl, rfl⟩
      have er' : row n (cs p w n fun j => if j ∈ ps then vs p w n (R a) j else 0) = row n (R i) := er
      simp [encD, str_eq, rws_at (show a < i from ok), in_CV F, LIM]
      rw [d_hold F (k + 4) _ (vs p w n (R a)) _ ps (by simp)]
      simp [in_VC F, hL, rws_succ, er']
    | add a b => exact two a b ok.1 ok.2 (by simp [wdD, str_eq]) rfl fun m h hm => (d_add F (k + 4) h (R a) (R b) m hm).trans (by rw [← er]; rfl)
    | less a b => exact two a b ok.1 ok.2 (by simp [wdD, str_eq]) rfl fun m h hm => (d_less F (k + 4) h (R a) (R b) m hm).trans (by rw [← er]; rfl)
    | times a b => exact two a b ok.1 ok.2 (by simp [wdD, str_eq]) rfl fun m h hm => (d_times F (k + 4) h (R a) (R b) m (hs a) hm).trans (by rw [← er]; rfl)
    | scale a r => exact one a ok.1 (by simp [wdD, str_eq]) rfl fun m h hm => (d_scale F (k + 4) h (R a) m r ok.2 hm).trans (by rw [← er]; rfl)
    | shift a s => exact one a ok.1 (by simp [wdD, str_eq]) rfl fun m h hm => (d_shift F (k + 4) h (R a) m s hm).trans (by rw [← er]; rfl)
    | mirror a => exact one a ok (by simp [wdD, str_eq]) rfl fun m h hm => (d_mirror F (k + 4) h (R a) m hm).trans (by rw [← er]; rfl)
    | stretch a s => exact one a ok.1 (by simp [wdD, str_eq]) rfl fun m h hm => (d_stretch F (k + 4) h (R a) m s ok.2 hm).trans (by rw [← er]; rfl)
    | keep a ps => exact one a ok (by simp [wdD, str_eq]) rfl fun m h hm => (d_keep F (k + 4) h (R a) m ps hm).trans (by rw [← er]; rfl)
    | slope a => exact one a ok (by simp [wdD, str_eq]) rfl fun m h hm => (d_slope F (k + 4) h (R a) m hm).trans (by rw [← er]; rfl)
  · rintro ρ' h' ⟨_, gb, x5, x6, x7, x8, x9, rfl, rfl⟩
    rw [List.length_map]
    simp
end K86
end

section
set_option Elab.async false
set_option linter.all false
set_option maxRecDepth 100000
set_option maxHeartbeats 800000
namespace K86
open Tw
open PySem (Str)
/-- a row of coefficients in a form -/
def inF (p w : Int) (n : Nat) (f : Str) (a : Nat → Int) : Nat → Int := if f = "V" then vs p w n a else a
theorem inF_C (p w : Int) (n : Nat) (a : Nat → Int) : inF p w n "C" a = a := by
  unfold inF
  rw [if_neg (by rw [isCV]; exact fun x => x)]
theorem inF_V (p w : Int) (n : Nat) (a : Nat → Int) : inF p w n "V" a = vs p w n a := by
  unfold inF
  rw [if_pos rfl]
theorem in_Cf {p w : Int} {n : Nat} (F : Fld p n w) {f : Str} (hf : isF f) (a : Nat → Int) (k : Nat) (h : Heap) : callI pg (k + 5) f_in_form [fl p n w, row n a, .str "C", .str f] h = .ok (row n (inF p w n f a), h) := by
  rcases hf with rfl | rfl
  · rw [inF_C]
    exact in_same (.inl rfl) _ _ (k + 3) h
  · rw [inF_V]
    exact in_CV F a k h
section
variable {p w : Int} {n : Nat} (F : Fld p n w) (ins : List (Str × (Nat → Int))) (hnd : (ins.map (·.1)).Nodup) (hil : ins.length < 1000) (X : Str → Nat → Int)
    (ds : List Deed) (R : Nat → Nat → Int) (hl : ds.length < 1000) (hs : ∀ j i, small (R j i) = true)
    (hd : ∀ i d, ds[i]? = some d → okD i d ∧ tkOk p w n ins X d ∧ ∀ t, t < n → R i t = semD p w n X R d t) (ts : List Tell)
include F hnd hil hl hs hd
theorem s_answers_of (htl : ts.length < 1000) (hts : ∀ t ∈ ts, t.d < ds.length ∧ isF t.f ∧ t.j < n) (k : Nat) (h : Heap) : callI pg (k + 8) f_answers_of [fl p n w, encP ds ts, .tup (encIn n ins)] h = .ok (.tup (ts.map fun t => .int (inF p w n t.f (R t.d) t.j)), h) := by
  have e := s_along F ins hnd hil X ds R hl hs hd (.tup (ts.map encT)) k h
  rw [u_answers_of, b_answers_of]
  unfold encP
  simp [e]
  refine go_itemsE (h1 := h ++ [.lst []]) (ts.map encT) (fun i ρ h1 => i ≤ ts.length ∧ h1 = h ++ [.lst ((ts.take i).map fun t => .int (inF p w n t.f (R t.d) t.j))] ∧ ∃ x5 x6 x7, ρ = [some (fl p n w), some (.tup [.tup (ds.map encD), .tup (ts.map encT)]), some (.tup (encIn n ins)), some (.tup (rws n R ds.length)), some (.ref h.length), x5, x6, x7]) (by simp) ⟨by omega, by simp, _, _, _, rfl⟩ ?_ ?_
  · rintro i x ρ h1 hx ⟨hi', rfl, x5, x6, x7, rfl⟩
    obtain ⟨t, ht, rfl⟩ := map_get hx
    have hi : i < ts.length := get_lt ht
    obtain ⟨q1, q2, q3⟩ := hts t (List.mem_of_getElem? ht)
    have hm : min i ts.length < LIM := by unfold LIM; omega
    have et : ts.take (i + 1) = ts.take i ++ [t] := by
      rw [List.take_succ, ht]
      rfl
    refine ⟨_, h ++ [.lst ((ts.take (i + 1)).map fun t => .int (inF p w n t.f (R t.d) t.j))], ?_, by omega, rfl, some (.int t.d), some (.str t.f), some (.int t.j), rfl⟩
    simp [encT, rws_at q1, in_Cf F q2, ints_at q3, et, hm]
  · rintro ρ' h' ⟨_, rfl, x5, x6, x7, rfl⟩
    rw [List.length_map]
    simp
    exact tidy_tup h _ _ (lows_map' _ _ (fun _ => rfl) _)
end
/-! ### names -/
end K86
end

section
set_option Elab.async false
set_option linter.all false
set_option maxRecDepth 100000
set_option maxHeartbeats 400000
namespace K86
open Tw
open PySem (Str)
/-! ### sums of one times other turned -/
def lk (p : Int) (n : Nat) (a b : Nat → Int) (t : Nat) : Int := sm n (fun i => a i * cy n b (i + t)) % p
theorem sm_neg0 : ∀ (n : Nat) (g : Int → Int), sm n (fun i => g (-(i : Int))) = sm n (fun i => g ((i : Int) - ((n : Int) - 1)))
  | 0, _ => rfl
  | n + 1, g => by
    have ih := sm_neg0 n g
    have s := sm_slide n (fun t => g (t - n))
    show sm n (fun i => g (-(i : Int))) + g (-(n : Int)) = sm n (fun i => g ((i : Int) - (((n + 1 : Nat) : Int) - 1))) + g ((n : Int) - (((n + 1 : Nat) : Int) - 1))
    rw [ih]
    have e1 : sm n (fun i => g ((i : Int) - ((n : Int) - 1))) = sm n (fun t => g ((t : Int) + 1 - n)) := sm_congr fun i _ => by congr 1; omega
    have e2 : sm n (fun i => g ((i : Int) - (((n + 1 : Nat) : Int) - 1))) = sm n (fun t => g ((t : Int) - n)) := sm_congr fun i _ => by congr 1; omega
    rw [e1, e2]
    have s' : sm n (fun t => g ((t : Int) + 1 - n)) + g (0 - n) = sm n (fun t => g ((t : Int) - n)) + g ((n : Int) - n) := s
    rw [show (0 : Int) - n = -n by omega] at s'
    rw [s']
    congr 2
    omega
theorem sm_neg {n : Nat} (g : Int → Int) (hg : ∀ x, g (x + n) = g x) : sm n (fun i => g (-(i : Int))) = sm n (fun i => g i) := by
  cases n with
  | zero => rfl
  | succ n =>
    rw [sm_neg0]
    have := sm_turn (n := n + 1) g hg n
    rw [← this]
    refine sm_congr fun i _ => ?_
    congr 1
    omega
theorem cv_mirror (p : Int) (n : Nat) (a b : Nat → Int) (t : Nat) : cv p n (fun i => cy n a (-(i : Int))) b t = lk p n a b t := by
  unfold cv lk
  have := sm_neg (n := n) (fun x => cy n a x * cy n b (t + x)) (fun x => by
    show cy n a (x + n) * cy n b (t + (x + n)) = _
    rw [cy_per, ← Int.add_assoc, cy_per])
  have e1 : sm n (fun i => cy n a (-(i : Int)) * cy n b ((t : Int) - i)) = sm n (fun i => cy n a (-(i : Int)) * cy n b (t + -(i : Int))) := rfl
  rw [e1, this]
  congr 1
  refine sm_congr fun i hi => ?_
  rw [cy_nat a hi, Int.add_comm (t : Int)]
theorem mirror_row (n : Nat) (hn : 0 < n) (a : Nat → Int) : D.int (a 0) :: ((intz n a).drop 1).reverse = intz n fun i => cy n a (-(i : Int)) := by
  apply List.ext_getElem
  · simp [ints_len]
    omega
  · intro i h1 h2
    rw [ints_len] at h2
    have e : (intz n fun i => cy n a (-(i : Int)))[i] = D.int (cy n a (-(i : Int))) := by
      have := ints_get (f := fun i : Nat => cy n a (-(i : Int))) h2
      obtain ⟨_, q⟩ := List.getElem?_eq_some_iff.mp this
      exact q
    rw [e]
    cases i with
    | zero =>
      show D.int (a 0) = _
      rw [show (-((0 : Nat) : Int)) = ((0 : Nat) : Int) by rfl, cy_nat a hn]
    | succ i =>
      have h3 : n - (i + 1) < n := by omega
      have e2 : cy n a (-((i + 1 : Nat) : Int)) = a (n - (i + 1)) := by
        rw [← cy_per, show (-((i + 1 : Nat) : Int)) + n = ((n - (i + 1) : Nat) : Int) by omega, cy_nat a h3]
      rw [e2]
      simp only [List.getElem_cons_succ, List.getElem_reverse, List.getElem_drop]
      have e3 := ints_get (f := a) h3
      obtain ⟨h4, q⟩ := List.getElem?_eq_some_iff.mp e3
      rw [← q]
      congr 1
      rw [List.length_drop, ints_len]
      omega
section
variable {p w : Int} {n : Nat} (F : Fld p n w)
include F
theorem s_likeness_row (a b : Nat → Int) (ha : ∀ i, small (a i) = true) (k : Nat) (h : Heap) : callI pg (k + 1) f_likeness_row [fl p n w, row n a, row n b] h = .ok (row n (lk p n a b), h) := by
  obtain ⟨p2, pU, n1, nU, w0, wU, _, _, _, np⟩ := F
  have hp : 0 < p := by omega
  have hn : 0 < n := by omega
  have hro := rok (show n < 1000000 by omega)
  rw [u_likeness_row, b_likeness_row]
  simp
  refine go_rngE n (h1 := h ++ [.lst []]) (fun i ρ h1 => i ≤ n ∧ ∃ gb x, h1 = h ++ .lst (intz i (lk p n a b)) :: gb ∧ ρ = [some (fl p n w), some (row n a), some (row n b), some (.ref h.length), x, some (.int p), some (.int n), some (.int w), none]) (by simp [hro]) ⟨by omega, [], _, rfl, rfl⟩ ?_ ?_
  · rintro i ρ h1 hi ⟨_, gb, x, rfl, rfl⟩
    refine ⟨_, h ++ .lst (intz (i + 1) (lk p n a b)) :: gb, ?_, by omega, gb, some (.int (i : Nat)), rfl, rfl⟩
    simp
    rw [comp_ints n (fun j => a j * cy n b (j + i)) (by simp [hro]) (by unfold LIM; omega) (by
      intro j hj
      simp [ints_at hj, z_cy hn, hn, ha])]
    simp [sum_ints, hp, show i < 16777216 by omega, LIM, ints_succ]
    rfl
  · rintro ρ' h' ⟨_, gb, x, rfl, rfl⟩
    simp [LIM]
theorem s_likeness_by_product (a b : Nat → Int) (ha : rg p a) (k : Nat) (h : Heap) : callI pg (k + 2) f_likeness_by_product [fl p n w, row n a, row n b] h = .ok (row n (lk p n a b), h) := by
  have F' := F
  obtain ⟨p2, pU, n1, nU, w0, wU, _, _, _, np⟩ := F
  have e1 := s_mirrored F' (a := a) (k := k) (h := h)
  have e2 := s_multC F' (fun i : Nat => cy n a (-(i : Int))) b (fun i => small_of (by have := (ha ((-(i : Int)) % n).toNat).1; show -18446744073709551616 < a _; omega) (by have := (ha ((-(i : Int)) % n).toNat).2; show a _ < 18446744073709551616; omega)) k h
  rw [u_likeness_by_product, b_likeness_by_product]
  simp [e1, e2]
  exact ints_congr fun t _ => cv_mirror p n a b t
/-- the program that mirrors and multiplies -/
theorem s_answers (a b : Nat → Int) (ha : rg p a) (hb : rg p b) (m : Nat) (hm : m < 100) (s : Nat → Int) (hs : rg n s) (k : Nat) (h : Heap) :
    callI pg (k + 8) f_answers_of [fl p n w, .tup [.tup [.tup [.str "take", .str "a", .str "C"], .tup [.str "take", .str "b", .str "C"], .tup [.str "mirror", .int 0], .tup [.str "times", .int 2, .int 1]], .tup ((intz m s).map fun x => .tup [.int 3, .str "C", x])], .tup [.tup [.str "a", row n a], .tup [.str "b", row n b]]] h
      = .ok (.tup (intz m fun j => lk p n a b (s j).toNat), h) := by
  have F' := F
  obtain ⟨p2, pU, n1, nU, w0, wU, _, _, _, np⟩ := F
  have hp : 0 < p := by omega
  have hnab : ¬ ("b" : Str) = "a" := by simp [str_eq]
  have hnba : ¬ ("a" : Str) = "b" := by simp [str_eq]
  let X : Str → Nat → Int := fun q => if q = "a" then a else b
  let R : Nat → Nat → Int := fun j => match j with
    | 0 => a
    | 1 => b
    | 2 => fun i => cy n a (-(i : Int))
    | 3 => cv p n (fun i => cy n a (-(i : Int))) b
    | _ => fun _ => 0
  have sr : ∀ v : Int, 0 ≤ v ∧ v < p → small v = true := fun v hv => small_of (by omega) (by omega)
  have hsm : ∀ j i, small (R j i) = true := fun j i => by
    match j with
    | 0 => exact sr _ (ha i)
    | 1 => exact sr _ (hb i)
    | 2 => exact sr _ (ha _)
    | 3 => exact sr _ ⟨Int.emod_nonneg _ (by omega), Int.emod_lt_of_pos _ hp⟩
    | j + 4 => rfl
  have e := s_answers_of F' [("a", a), ("b", b)] (by simp [hnba]) (by simp) X [.take "a" "C", .take "b" "C", .mirror 0, .times 2 1] R (by simp) hsm (fun i d hi => by
    match i, hi with
    | 0, hi =>
      cases hi
      exact ⟨trivial, ⟨a, rfl, .inl ⟨rfl, fun t _ => by show (if ("a" : Str) = "a" then a else b) t = a t; rw [if_pos rfl]⟩⟩, fun t _ => by show a t = (if ("a" : Str) = "a" then a else b) t; rw [if_pos rfl]⟩
    | 1, hi =>
      cases hi
      refine ⟨trivial, ⟨b, ?_, .inl ⟨rfl, fun t _ => by show (if ("b" : Str) = "a" then a else b) t = b t; rw [if_neg hnab]⟩⟩, fun t _ => by show b t = (if ("b" : Str) = "a" then a else b) t; rw [if_neg hnab]⟩
      simp [kvIn, findV, hnba]
    | 2, hi =>
      cases hi
      exact ⟨by show 0 < 2; decide, trivial, fun t _ => rfl⟩
    | 3, hi =>
      cases hi
      exact ⟨by show 2 < 3 ∧ 1 < 3; decide, trivial, fun t _ => rfl⟩
    | i + 4, hi => simp at hi) ((List.range m).map fun j => ⟨3, "C", (s j).toNat⟩) (by simp; omega) (fun t ht => by
      obtain ⟨j, _, rfl⟩ := List.mem_map.mp ht
      refine ⟨by show 3 < 4; decide, .inl rfl, ?_⟩
      have := hs j
      show (s j).toNat < n
      omega) k h
  have e1 : ((List.range m).map fun j => (⟨3, "C", (s j).toNat⟩ : Tell)).map encT = (intz m s).map fun x => D.tup [.int 3, .str "C", x] := by
    unfold intz
    rw [List.map_map, List.map_map]
    refine List.map_congr_left fun j _ => ?_
    show D.tup [.int ((3 : Nat) : Int), .str "C", .int ((s j).toNat : Nat)] = D.tup [.int 3, .str "C", .int (s j)]
    have := (hs j).1
    rw [show (((s j).toNat : Nat) : Int) = s j by omega]
    rfl
  have e2 : (((List.range m).map fun j => (⟨3, "C", (s j).toNat⟩ : Tell)).map fun t => D.int (inF p w n t.f (R t.d) t.j)) = intz m fun j => lk p n a b (s j).toNat := by
    unfold intz
    rw [List.map_map]
    refine List.map_congr_left fun j _ => ?_
    show D.int (inF p w n "C" (R 3) (s j).toNat) = _
    rw [inF_C]
    show D.int (cv p n (fun i => cy n a (-(i : Int))) b (s j).toNat) = _
    rw [cv_mirror]
  rw [e2] at e
  unfold encP at e
  rw [e1] at e
  exact e
end
end K86
end

section
set_option Elab.async false
set_option linter.all false
set_option maxRecDepth 100000
set_option maxHeartbeats 800000
namespace K86
open Tw
open PySem (Str)
theorem comp_drawH {p : Int} (hp : 0 < p) {c : Ctx} {ρ : Env} {e : CE} {i : Nat} {it : CI} (n : Nat) (x : Ch) (t : Heap) (hx : x.ok) (hit : evI c it ρ (HP x t) = .ok ((rngD 0 n, []), HP x t)) (hn : n < LIM)
    (hf : ∀ (j : Nat) y, j < n → Ch.ok y → ∃ v y', 0 ≤ v ∧ v < p ∧ Ch.ok y' ∧ ev c e ((ρ.set i none).set i (some (.int j))) (HP y t) = .ok (.int v, HP y' t)) :
    ∃ (a : Nat → Int) (y : Ch), rg p a ∧ y.ok ∧ evL c (.comp e (.name i) it .none) ρ (HP x t) = .ok (intz n a, HP y t) := comp_draw hp n x t hx hit hn hf
theorem three {p u w3 : Int} (hp : 2 ≤ p) (u0 : 0 ≤ u) (u1 : u < p) (w0 : 0 ≤ w3) (w1 : w3 < 3) : ∃ v, 0 ≤ v ∧ v < p ∧ nth [D.int 0, .int 1, .int u] w3 = some (.int v) := by
  have : w3 = 0 ∨ w3 = 1 ∨ w3 = 2 := by omega
  rcases this with rfl | rfl | rfl
  · exact ⟨0, by omega, by omega, rfl⟩
  · exact ⟨1, by omega, by omega, rfl⟩
  · exact ⟨u, u0, u1, rfl⟩
theorem fmap_some {α β : Type} {f : α → Option β} {g : α → β} : ∀ {l : List α}, (∀ m ∈ l, f m = some (g m)) → l.filterMap f = l.map g
  | [], _ => rfl
  | x :: l, h => by
    rw [List.filterMap_cons, h x List.mem_cons_self, List.map_cons, fmap_some fun m hm => h m (List.mem_cons_of_mem _ hm)]
theorem okC_row {n : Nat} (hn : n < 1000) (f : Nat → Int) : okC (row n f) := .inr ⟨intz n f, rfl, by rw [ints_len]; omega, fun e he => by
  obtain ⟨j, _, rfl⟩ := mem_intz he
  exact .inl (.inl ⟨_, rfl⟩)⟩
theorem s_law_likeness {p w : Int} {n : Nat} (F : Fld p n w) (hU : n < 60) (x : Ch) (hx : x.ok) (t : Heap) (k : Nat) : ∃ y, Ch.ok y ∧ callI pg (k + 10) f_law_likeness [.ref 1, fl p n w] (HP x t) = .ok (.bl true, HP y t) := by
  have F' := F
  obtain ⟨p2, pU, n1, nU, w0, wU, _, _, _, np⟩ := F
  have hp : 0 < p := by omega
  have hn : 0 < n := by omega
  have hro := rok (show n < 1000000 by omega)
  have hL : n < LIM := by unfold LIM; omega
  suffices H : ∀ Q : R (D × Heap) → Prop, (∀ (y : Ch), y.ok → Q (.ok (.bl true, HP y t))) → Q (callI pg (k + 10) f_law_likeness [.ref 1, fl p n w] (HP x t)) by
    exact H (fun r => ∃ y, Ch.ok y ∧ r = .ok (.bl true, HP y t)) (fun y hy => ⟨y, hy, rfl⟩)
  intro Q hQ
  have step : ∀ (ρ : Env) (j : Nat) (y : Ch), ρ[0]? = some (some (.ref 1)) → ρ[10]? = some (some (.int p)) → 14 < ρ.length → Ch.ok y → ∃ v y', 0 ≤ v ∧ v < p ∧ Ch.ok y' ∧ ev ⟨callI pg (k + 9), pg.cs, pg.cl⟩ (.idx (.tup (.cons (.int 0) (.cons (.int 1) (.cons (.call f_law_draw (.cons (.var 0) (.cons (.var 10) .nil))) .nil)))) (.call f_law_draw (.cons (.var 0) (.cons (.int 3) .nil)))) ((ρ.set 14 none).set 14 (some (.int j))) (HP y t) = .ok (.int v, HP y' t) := by
    intro ρ j y h0 h10 hl hy
    obtain ⟨u, y1, u0, u1, hy1, e1⟩ := s_draw (m := p) hp (by omega) y hy
    obtain ⟨u3, y2, v0, v1, hy2, e2⟩ := s_draw (m := 3) (by decide) (by decide) y1 hy1
    obtain ⟨v, q0, q1, e3⟩ := three p2 u0 u1 v0 v1
    refine ⟨v, y2, q0, q1, hy2, ?_⟩
    have g0 : ((ρ.set 14 none).set 14 (some (D.int j)))[0]? = some (some (.ref 1)) := by simp [h0]
    have g10 : ((ρ.set 14 none).set 14 (some (D.int j)))[10]? = some (some (.int p)) := by simp [h10]
    generalize (ρ.set 14 none).set 14 (some (D.int j)) = ρ' at g0 g10
    simp [g0, g10, draw_HP0 e1, draw_HP0 e2, e3, LIM]
  obtain ⟨a, y1, ha, hy1, e1⟩ := comp_drawH hp (c := ⟨callI pg (k + 9), pg.cs, pg.cl⟩) (ρ := [some (.ref 1), some (fl p n w), none, none, none, none, none, none, none, none, some (.int p), some (.int n), some (.int w), none, none]) (i := 14) (it := .rng1 (.var 11)) n x t hx (by simp [hro]) hL (fun j y hj hy => step _ j y rfl rfl (by simp) hy)
  obtain ⟨b, y2, hb, hy2, e2⟩ := comp_drawH hp (c := ⟨callI pg (k + 9), pg.cs, pg.cl⟩) (ρ := [some (.ref 1), some (fl p n w), some (row n a), none, none, none, none, none, none, none, some (.int p), some (.int n), some (.int w), none, none]) (i := 14) (it := .rng1 (.var 11)) n y1 t hy1 (by simp [hro]) hL (fun j y hj hy => step _ j y rfl rfl (by simp) hy)
  have sr : ∀ v : Int, 0 ≤ v ∧ v < p → small v = true := fun v hv => small_of (by omega) (by omega)
  have hsa : ∀ i, small (a i) = true := fun i => sr _ (ha i)
  let m : Nat := min n 4
  have em : (if (4 : Int) < n then (4 : Int) else n) = ((m : Nat) : Int) := by
    show _ = ((min n 4 : Nat) : Int)
    split <;> omega
  have hm4 : m ≤ 4 := Nat.min_le_right _ _
  obtain ⟨s, y3, hs, hy3, e3⟩ := comp_drawH (p := n) (by omega) (c := ⟨callI pg (k + 9), pg.cs, pg.cl⟩) (ρ := [some (.ref 1), some (fl p n w), some (row n a), some (row n b), some (row n (lk p n a b)), none, none, none, none, none, some (.int p), some (.int n), some (.int w), none, none]) (e := .call f_law_draw (.cons (.var 0) (.cons (.var 11) .nil))) (i := 13) (it := .rng1 (.bi .min2 (.cons (.var 11) (.cons (.int 4) .nil)))) m y2 t hy2 (by simp [biV, em, rok (show m < 1000000 by omega)]) (by unfold LIM; omega) (fun j y hj hy => by
    obtain ⟨v, y', v0, v1, hy', e'⟩ := s_draw (m := n) (by omega) (by omega) y hy
    exact ⟨v, y', v0, v1, hy', by simp [draw_HP0 e']⟩)
  obtain ⟨v, y4, v0, v1, hy4, e4⟩ := s_draw (m := n) (by omega) (by omega) y3 hy3
  have q4 := draw_HP e4 t
  have hq := hQ y4 hy4
  simp at e1 e2 e3
  have l1 := s_likeness_row F' a b hsa (k + 8)
  have l2 := s_likeness_by_product F' a b ha (k + 7)
  have l3 := s_answers F' a b ha hb m (by omega) s hs (k + 1)
  have okk : ∀ f, okC (row n f) := fun f => okC_row (by omega) f
  have q1 : ∀ h, callI pg (k + 9) f_law_equal [.tup [row n (lk p n a b), row n (lk p n a b), .tup (intz m fun j => lk p n a b (s j).toNat)], .tup [row n (lk p n a b), row n (lk p n a b), .tup (intz m fun j => lk p n a b (s j).toNat)]] h = .ok (.bl true, h) := fun h => s_equal (.inr ⟨_, rfl, by simp, fun e he => by
    simp only [List.mem_cons, List.not_mem_nil, or_false] at he
    rcases he with rfl | rfl | rfl
    · exact okk _
    · exact okk _
    · exact okC_row (n := m) (by omega) _⟩) (k + 7) h
  have q2 : ∀ h, callI pg (k + 9) f_law_equal [.tup [row n (lk p n a b), row n (fun i => cy n a (i + (n - v))), row n a, row n a], .tup [row n (lk p n a b), row n (fun i => cy n a (i + (n - v))), row n a, row n a]] h = .ok (.bl true, h) := fun h => s_equal (.inr ⟨_, rfl, by simp, fun e he => by
    simp only [List.mem_cons, List.not_mem_nil, or_false] at he
    rcases he with rfl | rfl | rfl | rfl <;> exact okk _⟩) (k + 7) h
  have g0 : ∀ (y : Ch) (o : O) (h : t.length + 3 < (HP y t ++ [o]).length), (HP y t ++ [o])[t.length + 3]'h = o := fun y o h => by simp [show (HP y t).length = t.length + 3 from rfl]
  rw [u_law_likeness, b_law_likeness]
  simp [e1, LIM]
  simp [e2, LIM]
  rw [comp_ints n (lk p n a b) (by simp [hro]) hL (by
    intro j hj
    simp
    rw [comp_ints n (fun i => a i * cy n b (i + j)) (by simp [hro]) hL (by
      intro i hi
      simp [ints_at hi, z_cy hn, hn, hsa])]
    simp [sum_ints, hp]
    rfl)]
  simp [e3, LIM]
  rw [comp_gen (h1 := HP y3 t ++ [.lst (intz m s)]) (g := [(t.length + 3, .lst (intz m s))]) (G := fun x => some (.tup [.int 3, .str "C", x])) (intz m s) (by simp [g0]) (by simp [guards, g0]) (by rw [ints_len]; unfold LIM; omega) (by
    intro x hx
    simp [cstep, tvO, LIM])]
  simp [LIM, l1, l2, l3]
  rw [comp_gen (h1 := HP y3 t ++ [.lst (intz m s)]) (g := [(t.length + 3, .lst (intz m s))]) (G := fun x => match x with | .int z => some (.int (lk p n a b z.toNat)) | _ => none) (intz m s) (by simp [g0]) (by simp [guards, g0]) (by rw [ints_len]; unfold LIM; omega) (by
    intro x hx
    obtain ⟨j, hj, rfl⟩ := mem_intz hx
    have e5 : nth (intz n (lk p n a b)) (s j) = some (.int (lk p n a b (s j).toNat)) := ints_nth (hs j).1 (hs j).2
    simp [cstep, tvO, LIM, e5])]
  have e6 : (intz m s).filterMap (fun x => match x with | .int z => some (D.int (lk p n a b z.toNat)) | _ => none) = intz m fun j => lk p n a b (s j).toNat := by
    unfold intz
    rw [List.filterMap_map]
    exact fmap_some fun j _ => rfl
  rw [e6]
  have ea : nth (intz n a) 0 = some (.int (a 0)) := ints_at (f := a) (show 0 < n by omega)
  have em2 : D.int (a 0) :: (intz n a).tail.reverse = intz n fun i => cy n a (-(i : Int)) := by
    have := mirror_row n hn a
    rwa [List.drop_one] at this
  have m1 : ∀ h, callI pg (k + 9) f_multiplied [fl p n w, .str "C", row n fun i => cy n a (-(i : Int)), row n b] h = .ok (row n (lk p n a b), h) := fun h => by
    have := s_multC F' (fun i : Nat => cy n a (-(i : Int))) b (fun i => sr _ (ha _)) (k + 8) h
    exact this.trans (congrArg (fun d => R.ok (d, h)) (row_congr fun t _ => cv_mirror p n a b t))
  have m2 : ∀ h, callI pg (k + 9) f_shifted [fl p n w, .str "C", row n a, .int v] h = .ok (row n (fun i => cy n a (i + (n - v))), h) := fun h => by
    have := s_shiftedC F' (a := a) (k := k + 8) (h := h) v
    refine this.trans (congrArg (fun d => R.ok (d, h)) (row_congr fun i _ => ?_))
    rw [← cy_per, show (i : Int) - v + n = i + (n - v) by omega]
  have m3 : ∀ h, callI pg (k + 9) f_shifted [fl p n w, .str "C", row n a, .int 0] h = .ok (row n a, h) := fun h => by
    have := s_shiftedC F' (a := a) (k := k + 8) (h := h) 0
    refine this.trans (congrArg (fun d => R.ok (d, h)) (row_congr fun i hi => ?_))
    rw [Int.sub_zero, cy_nat a hi]
  have m4 : ∀ h, callI pg (k + 9) f_turned_row [row n a, .int 0] h = .ok (row n a, h) := fun h => by
    have := s_turned hn hU a 0 (k + 8) h
    refine this.trans (congrArg (fun d => R.ok (d, h)) (row_congr fun i hi => ?_))
    rw [Int.add_zero, cy_nat a hi]
  have m5 := fun h => s_round hn hU a (n - v) (k + 8) h
  simp [LIM, q1, ea, em2, show 1 + (n - 1) ≤ 16777216 by omega, q4, m1, m2, m3, m4, m5, q2]
  exact hq
end K86
end

section
set_option Elab.async false
set_option linter.all false
set_option maxRecDepth 100000
set_option maxHeartbeats 400000
namespace K86
open Tw
open PySem (Str)
/-- the places of values 0 -/
def zs (n : Nat) (v : Nat → Int) : List D := (List.range n).filterMap fun j => if v j = 0 then some (.int j) else none
theorem enumD_eq (n : Nat) (v : Nat → Int) : enumD 0 (intz n v) = (List.range n).map fun j => D.tup [.int (j : Nat), .int (v j)] := by
  apply List.ext_getElem?
  intro i
  by_cases hi : i < n
  · cases e : (enumD 0 (intz n v))[i]? with
    | none =>
      have := List.getElem?_eq_none_iff.mp e
      rw [enumD_len, ints_len] at this
      omega
    | some d =>
      obtain ⟨_, rfl⟩ := enumI_get e
      simp [hi]
  · rw [List.getElem?_eq_none (by rw [enumD_len, ints_len]; omega), List.getElem?_eq_none (by simp; omega)]
theorem comp_zs1 {c : Ctx} {ρ : Env} {h : Heap} {e : CE} {t : CT} {it : CI} {cd : CBO} (n : Nat) (v : Nat → Int) (hit : evI c it ρ h = .ok ((enumD 0 (intz n v), []), h)) (hn : n < LIM)
    (hf : ∀ j : Nat, j < n → cstep c e t cd ρ (.tup [.int j, .int (v j)]) h = .ok (if v j = 0 then some (.int j) else none, h)) :
    evL c (.comp e t it cd) ρ h = .ok (zs n v, h) := by
  rw [comp_gen (G := fun x => match x with | .tup [.int j, .int y] => if y = 0 then some (.int j) else none | _ => none) _ hit rfl (by rw [enumD_len, ints_len]; exact hn) ?_]
  · rw [enumD_eq, List.filterMap_map]
    rfl
  · intro x hx
    rw [enumD_eq] at hx
    obtain ⟨j, hj, rfl⟩ := List.mem_map.mp hx
    exact hf j (List.mem_range.mp hj)
theorem rngD_eq (n : Nat) : rngD 0 n = (List.range n).map fun j => D.int (j : Nat) := rngD_intz n
theorem comp_sel {c : Ctx} {ρ : Env} {h : Heap} {e : CE} {t : CT} {it : CI} {cd : CBO} (n : Nat) (G : Nat → Option D) (hit : evI c it ρ h = .ok ((rngD 0 n, []), h)) (hn : n < LIM)
    (hf : ∀ j : Nat, j < n → cstep c e t cd ρ (.int j) h = .ok (G j, h)) :
    evL c (.comp e t it cd) ρ h = .ok ((List.range n).filterMap G, h) := by
  rw [comp_gen (G := fun x => match x with | .int j => G j.toNat | _ => none) _ hit rfl (by rw [rngD_len]; exact hn) ?_]
  · rw [rngD_eq, List.filterMap_map]
    rfl
  · intro x hx
    rw [rngD_eq] at hx
    obtain ⟨j, hj, rfl⟩ := List.mem_map.mp hx
    exact hf j (List.mem_range.mp hj)
/-! ### steps -/
def fs (n s : Nat) (i : Nat) : Int := ((i * s % n : Nat) : Int)
def isSt (n s J : Nat) : Prop := 1 ≤ J ∧ J ≤ n ∧ J * s % n = 0 ∧ ∀ j, 1 ≤ j → j < J → j * s % n ≠ 0
theorem st_ex {n : Nat} (hn : 0 < n) (s : Nat) : ∃ J, isSt n s J := by
  have hw : n * s % n = 0 := Nat.mul_mod_right n s
  have main : ∀ m, m ≤ n → (∃ P, isSt n s P) ∨ ∀ j, 1 ≤ j → j ≤ m → j * s % n ≠ 0 := by
    intro m
    induction m with
    | zero => exact fun _ => .inr fun j h1 h2 => by omega
    | succ m ih =>
      intro hm
      rcases ih (by omega) with h | h
      · exact .inl h
      · by_cases z : (m + 1) * s % n = 0
        · exact .inl ⟨m + 1, by omega, hm, z, fun j h1 h2 => h j h1 (by omega)⟩
        · refine .inr fun j h1 h2 => ?_
          rcases Nat.lt_or_ge m j with q | q
          · rwa [show j = m + 1 by omega]
          · exact h j h1 q
  rcases main n (Nat.le_refl _) with h | h
  · exact h
  · exact absurd hw (h n hn (Nat.le_refl _))
theorem fs_succ (n s j : Nat) : (fs n s j + (s : Int)) % (n : Int) = fs n s (j + 1) := by
  unfold fs
  rw [← Int.natCast_add, ← Int.natCast_emod, Nat.mod_add_mod, Nat.succ_mul]
theorem fs_one (n s : Nat) : (s : Int) % (n : Int) = fs n s 1 := by
  unfold fs
  rw [← Int.natCast_emod, Nat.one_mul]
theorem fs_zero (n s : Nat) : fs n s 0 = 0 := by
  unfold fs
  rw [Nat.zero_mul, Nat.zero_mod]
  rfl
/-- the places, ascending -/
def SP (n s J : Nat) : List Int := srtG leI ((List.range J).map (fs n s))
theorem intz_map (n : Nat) (f : Nat → Int) : intz n f = ((List.range n).map f).map D.int := by
  unfold intz
  rw [List.map_map]
  rfl
theorem srtV_intz (n : Nat) (f : Nat → Int) : srtV (intz n f) = some ((srtG leI ((List.range n).map f)).map D.int) := by
  unfold srtV
  rw [intz_map, intsOf_map]
theorem SP_mem {n s J : Nat} {x : Int} : x ∈ SP n s J ↔ ∃ j, j < J ∧ fs n s j = x := by
  unfold SP
  rw [(srtG_perm _).mem_iff, List.mem_map]
  constructor
  · rintro ⟨j, hj, e⟩
    exact ⟨j, List.mem_range.mp hj, e⟩
  · rintro ⟨j, hj, e⟩
    exact ⟨j, List.mem_range.mpr hj, e⟩
theorem in_ints (neg : Bool) (x : Int) (l : List Int) (h : Heap) : inB neg (.int x) (.tup (l.map D.int)) h = .ok (.bl (neg != decide (x ∈ l)), h) := by
  have e := in_row neg x l.length (fun i => l.getD i 0) h
  have e1 : intz l.length (fun i => l.getD i 0) = l.map D.int := by
    have := rowD_row l
    unfold rowD at this
    injection this with this
    exact this.symm
  rw [e1] at e
  rw [e]
  congr 4
  apply decide_eq_decide.mpr
  constructor
  · rintro ⟨j, hj, rfl⟩
    rw [List.getD_eq_getElem?_getD, List.getElem?_eq_getElem hj]
    exact List.getElem_mem hj
  · intro hx
    obtain ⟨j, hj, e⟩ := List.getElem_of_mem hx
    exact ⟨j, hj, by rw [List.getD_eq_getElem?_getD, List.getElem?_eq_getElem hj]; exact e⟩
def cb (n s J : Nat) (i : Nat) : Int := if (i : Int) ∈ SP n s J then 1 else 0
theorem low_ints (k : Nat) (l : List Int) : D.lows k (l.map D.int) = true := lows_map' k _ (fun _ => rfl) l
section
variable {p w : Int} {n : Nat} (F : Fld p n w)
include F
theorem s_step_places {s J : Nat} (hJ : isSt n s J) (k : Nat) (h : Heap) : callI pg (k + 1) f_step_places [fl p n w, .int (s : Nat)] h = .ok (.tup ((SP n s J).map D.int), h) := by
  obtain ⟨j1, jn, je, jm⟩ := hJ
  have hn : 0 < n := F.n1
  have nU := F.nU
  rw [u_step_places, b_step_places]
  simp [hn, fs_one, LIM]
  refine go_whileE (J - 1) (fun m ρ h1 => ∃ j, 1 ≤ j ∧ j ≤ J ∧ m + j = J ∧ h1 = h ++ [.lst (intz j (fs n s))] ∧ ρ = [some (fl p n w), some (.int (s : Nat)), some (.int n), some (.ref h.length), some (.int (fs n s j))]) (fun ρ h1 => h1 = h ++ [.lst (intz J (fs n s))] ∧ ∃ x, ρ = [some (fl p n w), some (.int (s : Nat)), some (.int n), some (.ref h.length), x]) (by unfold FUEL; omega) ?_ ?_ ?_
  · refine ⟨1, Nat.le_refl _, j1, by omega, ?_, rfl⟩
    simp [intz, fs_zero]
  · rintro m ρ h1 ⟨j, q1, q2, q3, rfl, rfl⟩
    by_cases e : j = J
    · subst e
      left
      have z : fs n s j = 0 := by unfold fs; rw [je]; rfl
      exact ⟨by simp [z], rfl, _, rfl⟩
    · right
      have z : ¬ fs n s j = 0 := fun q => jm j q1 (by omega) (by unfold fs at q; omega)
      refine ⟨by simp [z], m - 1, [some (fl p n w), some (.int (s : Nat)), some (.int n), some (.ref h.length), some (.int (fs n s (j + 1)))], h ++ [.lst (intz (j + 1) (fs n s))], by omega, ?_, j + 1, by omega, by omega, by omega, rfl, rfl⟩
      simp [LIM, show j < 16777216 by omega, hn, fs_succ, ints_succ]
  · rintro ρ' h' ⟨rfl, x, rfl⟩
    simp [srtV_intz]
    exact tidy_tup _ _ _ (low_ints _ _)
theorem s_comb_row {s J : Nat} (hJ : isSt n s J) (k : Nat) (h : Heap) : callI pg (k + 2) f_comb_row [fl p n w, .int (s : Nat)] h = .ok (row n (cb n s J), h) := by
  have e := s_step_places F hJ k
  obtain ⟨p2, pU, n1, nU, w0, wU, _, _, _, np⟩ := F
  have hp : 0 < p := by omega
  have hro := rok (show n < 1000000 by omega)
  have h1p : (1 : Int) % p = 1 := Int.emod_eq_of_lt (by omega) (by omega)
  rw [u_comb_row, b_comb_row]
  simp [e]
  rw [comp_ints n (cb n s J) (by simp [hro]) (by unfold LIM; omega) (by
    intro j hj
    by_cases q : (j : Int) ∈ SP n s J <;> simp [in_ints, q, cb, hp, h1p])]
  simp [LIM]
theorem s_empty_values (a : Nat → Int) (k : Nat) (h : Heap) : callI pg (k + 3) f_empty_values [fl p n w, row n a] h = .ok (.tup (zs n (vs p w n a)), h) := by
  have e := s_values_of F a k
  have nU := F.nU
  rw [u_empty_values, b_empty_values]
  simp
  rw [comp_zs1 n (vs p w n a) (by simp [e]) (by unfold LIM; omega) (by
    intro j hj
    by_cases q : vs p w n a j = 0 <;> simp [cstep, q, tvO])]
  simp
end
end K86
end

section
set_option Elab.async false
set_option linter.all false
set_option maxRecDepth 100000
set_option maxHeartbeats 800000
namespace K86
open Tw
open PySem (Str)
theorem four {p u w3 : Int} (hp : 2 ≤ p) (u0 : 0 ≤ u) (u1 : u < p) (w0 : 0 ≤ w3) (w1 : w3 < 4) : ∃ v, 0 ≤ v ∧ v < p ∧ nth [D.int 0, .int 1, .int (p - 1), .int u] w3 = some (.int v) := by
  have : w3 = 0 ∨ w3 = 1 ∨ w3 = 2 ∨ w3 = 3 := by omega
  rcases this with rfl | rfl | rfl | rfl
  · exact ⟨0, by omega, by omega, rfl⟩
  · exact ⟨1, by omega, by omega, rfl⟩
  · exact ⟨p - 1, by omega, by omega, rfl⟩
  · exact ⟨u, u0, u1, rfl⟩
theorem five {n : Nat} {u w3 : Int} (hn : n < 60) (u0 : 0 ≤ u) (u1 : u < n + 1) (w0 : 0 ≤ w3) (w1 : w3 < 5) : ∃ s : Nat, s < 1000 ∧ nth [D.int 0, .int 1, .int n, .int u, .int (3 * n + 2)] w3 = some (.int (s : Nat)) := by
  have : w3 = 0 ∨ w3 = 1 ∨ w3 = 2 ∨ w3 = 3 ∨ w3 = 4 := by omega
  rcases this with rfl | rfl | rfl | rfl | rfl
  · exact ⟨0, by decide, rfl⟩
  · exact ⟨1, by decide, rfl⟩
  · exact ⟨n, by omega, rfl⟩
  · refine ⟨u.toNat, by omega, ?_⟩
    rw [show ((u.toNat : Nat) : Int) = u by omega]
    rfl
  · exact ⟨3 * n + 2, by omega, rfl⟩
theorem zs_okC {n : Nat} (hn : n < 1000) (v : Nat → Int) : okC (.tup (zs n v)) := .inr ⟨_, rfl, by
  unfold zs
  exact Nat.lt_of_le_of_lt (List.length_filterMap_le _ _) (by simpa using hn), fun e he => by
  unfold zs at he
  obtain ⟨j, _, e2⟩ := List.mem_filterMap.mp he
  split at e2
  · cases e2
    exact .inl (.inl ⟨_, rfl⟩)
  · cases e2⟩
theorem SP_len {n s J : Nat} : (SP n s J).length = J := by
  unfold SP
  rw [(srtG_perm _).length_eq]
  simp
theorem s_law_values {p w : Int} {n : Nat} (F : Fld p n w) (hU : n < 60) (x : Ch) (hx : x.ok) (t : Heap) (k : Nat) : ∃ y, Ch.ok y ∧ callI pg (k + 6) f_law_values [.ref 1, fl p n w] (HP x t) = .ok (.bl true, HP y t) := by
  have F' := F
  obtain ⟨p2, pU, n1, nU, w0, wU, _, _, _, np⟩ := F
  have hp : 0 < p := by omega
  have hn : 0 < n := by omega
  have hro := rok (show n < 1000000 by omega)
  have hL : n < LIM := by unfold LIM; omega
  have h1p : (1 : Int) % p = 1 := Int.emod_eq_of_lt (by omega) (by omega)
  have sr : ∀ v : Int, 0 ≤ v ∧ v < p → small v = true := fun v hv => small_of (by omega) (by omega)
  suffices H : ∀ Q : R (D × Heap) → Prop, (∀ (y : Ch), y.ok → Q (.ok (.bl true, HP y t))) → Q (callI pg (k + 6) f_law_values [.ref 1, fl p n w] (HP x t)) by
    exact H (fun r => ∃ y, Ch.ok y ∧ r = .ok (.bl true, HP y t)) (fun y hy => ⟨y, hy, rfl⟩)
  intro Q hQ
  have g0 : ∀ (y : Ch) (o : O) (g : Heap), (HP y t ++ o :: g)[t.length + 3]? = some o := fun y o g => by rw [HP_get0]; rfl
  have g1 : ∀ (y : Ch) (o : O) (h : t.length + 3 < (HP y t ++ [o]).length), (HP y t ++ [o])[t.length + 3]'h = o := fun y o h => by simp [show (HP y t).length = t.length + 3 from rfl]
  have s0 : ∀ (y : Ch) (o o' : O), (HP y t ++ [o]).set (t.length + 3) o' = HP y t ++ [o'] := fun y o o' => by
    rw [List.set_append_right _ _ (by rw [HP_len]; omega), HP_len]
    simp
  have r1 : rngOk 1 = true := rok (n := 1) (by decide)
  have e0 : ((n : Int) - 1).toNat = n - 1 := by omega
  rw [u_law_values, b_law_values]
  simp [LIM]
  refine go_items (P := Q) (h1 := HP x t ++ [.lst [.int 1]]) (rngD 1 (n - 1)) (fun i ρ h1 => i ≤ n - 1 ∧ h1 = HP x t ++ [.lst (intz (i + 1) (rr p w))] ∧ ∃ u, ρ = [some (.ref 1), some (fl p n w), some (.ref (t.length + 3)), u, none, none, none, none, some (.int p), some (.int n), some (.int w), none, none, none, none, none]) ?_ ⟨by omega, ?_, _, rfl⟩ ?_ ?_
  · simp [r1, hro, e0]
  · show HP x t ++ [O.lst [D.int 1]] = _
    have : intz (0 + 1) (rr p w) = [D.int 1] := by
      show [D.int (w ^ 0 % p)] = _
      rw [Int.pow_zero, h1p]
    rw [this]
  · rintro i x' ρ h1 hx' ⟨_, rfl, u, rfl⟩
    obtain ⟨hi, rfl⟩ := rngD_get hx'
    have e3 : nth (intz (i + 1) (rr p w)) (1 + (i : Int) - 1) = some (.int (rr p w i)) := by
      rw [show (1 + (i : Int) - 1) = ((i : Nat) : Int) by omega]
      exact ints_at (by omega)
    have e4 : rr p w i * w % p = rr p w (i + 1) := by
      unfold rr
      rw [mod_mul_l, ← Int.pow_succ]
    have sw : small w = true := small_of (by omega) (by omega)
    refine ⟨[some (.ref 1), some (fl p n w), some (.ref (t.length + 3)), some (.int (1 + i)), none, none, none, none, some (.int p), some (.int n), some (.int w), none, none, none, none, none], HP x t ++ [.lst (intz (i + 1 + 1) (rr p w))], ?_, by omega, rfl, _, rfl⟩
    simp [g1, e3, e4, sw, hp, s0, LIM, show i + 1 < 16777216 by omega, ints_succ (i + 1)]
  · rintro ρ' h' ⟨_, rfl, u, rfl⟩
    rw [rngD_len, show n - 1 + 1 = n by omega]
    have step : ∀ (ρ : Env) (j : Nat) (y : Ch), ρ[0]? = some (some (.ref 1)) → ρ[8]? = some (some (.int p)) → 14 < ρ.length → Ch.ok y → ∃ v y', 0 ≤ v ∧ v < p ∧ Ch.ok y' ∧ ev ⟨callI pg (k + 5), pg.cs, pg.cl⟩ (.idx (.tup (.cons (.int 0) (.cons (.int 1) (.cons (.bin .sub (.var 8) (.int 1)) (.cons (.call f_law_draw (.cons (.var 0) (.cons (.var 8) .nil))) .nil))))) (.call f_law_draw (.cons (.var 0) (.cons (.int 4) .nil)))) ((ρ.set 14 none).set 14 (some (.int j))) (HP y (t ++ [.lst (intz n (rr p w))])) = .ok (.int v, HP y' (t ++ [.lst (intz n (rr p w))])) := by
      intro ρ j y h0 h10 hl hy
      obtain ⟨u, y1, u0, u1, hy1, e1⟩ := s_draw (m := p) hp (by omega) y hy
      obtain ⟨u3, y2, v0, v1, hy2, e2⟩ := s_draw (m := 4) (by decide) (by decide) y1 hy1
      obtain ⟨v, q0, q1, e3⟩ := four p2 u0 u1 v0 v1
      refine ⟨v, y2, q0, q1, hy2, ?_⟩
      have z0 : ((ρ.set 14 none).set 14 (some (D.int j)))[0]? = some (some (.ref 1)) := by simp [h0]
      have z8 : ((ρ.set 14 none).set 14 (some (D.int j)))[8]? = some (some (.int p)) := by simp [h10]
      generalize (ρ.set 14 none).set 14 (some (D.int j)) = ρ' at z0 z8
      simp [z0, z8, draw_HP0 e1, draw_HP0 e2, e3, LIM]
    obtain ⟨a, y1, ha, hy1, e1⟩ := comp_drawH hp (c := ⟨callI pg (k + 5), pg.cs, pg.cl⟩) (ρ := [some (.ref 1), some (fl p n w), some (.ref (t.length + 3)), u, none, none, none, none, some (.int p), some (.int n), some (.int w), none, none, none, none, none]) (i := 14) (it := .rng1 (.var 9)) n x (t ++ [.lst (intz n (rr p w))]) hx (by simp [hro]) hL (fun j y hj hy => step _ j y rfl rfl (by simp) hy)
    obtain ⟨v1, y2, a0, a1, hy2, e2⟩ := s_draw (m := n + 1) (by omega) (by omega) y1 hy1
    obtain ⟨v2, y3, b0, b1, hy3, e3⟩ := s_draw (m := 5) (by decide) (by decide) y2 hy2
    obtain ⟨s, hs, e5⟩ := five hU a0 a1 b0 b1
    obtain ⟨J, hJ⟩ := st_ex hn s
    have hJ' := hJ
    obtain ⟨j1, jn, je, jm⟩ := hJ
    have hq := hQ y3 hy3
    have q1 := draw_HP e2 t
    have q2 := draw_HP e3 t
    have e1 : evL ⟨callI pg (k + 5), pg.cs, pg.cl⟩ _ _ (HP x t ++ [.lst (intz n (rr p w))]) = .ok (intz n a, HP y1 t ++ [.lst (intz n (rr p w))]) := e1
    simp at e1
    have s3 : small 3 = true := rfl
    simp [e1, LIM, q1, q2, e5, s3, hn, fs_one]
    have g2 : ∀ (o o' : O) (h : t.length + 3 < (HP y3 t ++ [o, o']).length), (HP y3 t ++ [o, o'])[t.length + 3]'h = o := fun o o' h => by simp [show (HP y3 t).length = t.length + 3 from rfl]
    have g3 : ∀ (o o' : O) (h : t.length + 3 + 1 < (HP y3 t ++ [o, o']).length), (HP y3 t ++ [o, o'])[t.length + 3 + 1]'h = o' := fun o o' h => by simp [show (HP y3 t).length = t.length + 3 from rfl]
    have s4 : ∀ (o o' u : O), (HP y3 t ++ [o, o']).set (t.length + 3 + 1) u = HP y3 t ++ [o, u] := fun o o' u => by
      rw [List.set_append_right _ _ (by rw [HP_len]; omega), HP_len]
      simp
    refine go_while (P := Q) (J - 1) (fun m ρ h1 => ∃ j, 1 ≤ j ∧ j ≤ J ∧ m + j = J ∧ h1 = HP y3 t ++ [.lst (intz n (rr p w)), .lst (intz j (fs n s))] ∧ ρ = [some (.ref 1), some (fl p n w), some (.ref (t.length + 3)), u, some (row n a), some (.int s), none, none, some (.int p), some (.int n), some (.int w), some (.ref (t.length + 3 + 1)), some (.int (fs n s j)), none, none, none])
      (fun ρ h1 => h1 = HP y3 t ++ [.lst (intz n (rr p w)), .lst (intz J (fs n s))] ∧ ∃ q, ρ = [some (.ref 1), some (fl p n w), some (.ref (t.length + 3)), u, some (row n a), some (.int s), none, none, some (.int p), some (.int n), some (.int w), some (.ref (t.length + 3 + 1)), q, none, none, none]) (by unfold FUEL; omega) ?_ ?_ ?_
    · refine ⟨1, Nat.le_refl _, j1, by omega, ?_, rfl⟩
      simp [intz, fs_zero]
    · rintro m ρ h1 ⟨j, w1, w2, w3, rfl, rfl⟩
      by_cases e : j = J
      · subst e
        left
        have z : fs n s j = 0 := by unfold fs; rw [je]; rfl
        exact ⟨by simp [z], rfl, _, rfl⟩
      · right
        have z : ¬ fs n s j = 0 := fun q => jm j w1 (by omega) (by unfold fs at q; omega)
        refine ⟨by simp [z], m - 1, [some (.ref 1), some (fl p n w), some (.ref (t.length + 3)), u, some (row n a), some (.int s), none, none, some (.int p), some (.int n), some (.int w), some (.ref (t.length + 3 + 1)), some (.int (fs n s (j + 1))), none, none, none], HP y3 t ++ [.lst (intz n (rr p w)), .lst (intz (j + 1) (fs n s))], by omega, ?_, j + 1, by omega, by omega, by omega, rfl, rfl⟩
        simp [LIM, g3, s4, show j < 16777216 by omega, hn, fs_succ, ints_succ]
    · rintro ρ' h' ⟨rfl, q, rfl⟩
      have ek : ∀ i : Nat, inB false (.int i) (.ref (t.length + 3 + 1)) (HP y3 t ++ [.lst (intz n (rr p w)), .lst (intz J (fs n s))]) = .ok (.bl (decide (∃ j, j < J ∧ fs n s j = (i : Int))), HP y3 t ++ [.lst (intz n (rr p w)), .lst (intz J (fs n s))]) := fun i => by
        rw [in_kept false (i : Int) J (t.length + 3 + 1) (fs n s) _ (by rw [List.getElem?_eq_getElem (by simp [show (HP y3 t).length = t.length + 3 from rfl]), g3])]
        simp
      simp
      rw [comp_ints n (cb n s J) (by simp [hro]) hL (by
        intro i hi
        by_cases z : ∃ j, j < J ∧ fs n s j = (i : Int)
        · have z2 : (i : Int) ∈ SP n s J := SP_mem.mpr z
          simp [ek, cb, z2, biV]
          exact z
        · have z2 : ¬ (i : Int) ∈ SP n s J := fun q => z (SP_mem.mp q)
          simp [ek, cb, z2, biV]
          exact fun x hx e => z ⟨x, hx, e⟩)]
      simp [LIM]
      refine go_items (P := Q) (h1 := HP y3 t ++ [.lst (intz n (rr p w)), .lst (intz J (fs n s))]) [row n a, row n (cb n s J)] (fun i ρ h1 => h1 = HP y3 t ++ [.lst (intz n (rr p w)), .lst (intz J (fs n s))] ∧ ∃ x7 x13 x14 x15, ρ = [some (.ref 1), some (fl p n w), some (.ref (t.length + 3)), u, some (row n a), some (.int s), some (row n (cb n s J)), x7, some (.int p), some (.int n), some (.int w), some (.ref (t.length + 3 + 1)), q, x13, x14, x15]) ?_ ⟨rfl, _, _, _, _, rfl⟩ ?_ ?_
      · simp [LIM]
      · rintro i x' ρ h1 hx' ⟨rfl, x7, x13, x14, x15, rfl⟩
        obtain ⟨d, rfl⟩ : ∃ d : Nat → Int, x' = row n d := by
          match i, hx' with
          | 0, hx' => cases hx'; exact ⟨_, rfl⟩
          | 1, hx' => cases hx'; exact ⟨_, rfl⟩
        have l1 := s_empty_values F' d (k + 2)
        have l2 := s_values_of F' d (k + 3)
        have l3 : ∀ h, callI pg (k + 5) f_law_equal [.tup [.tup (zs n (vs p w n d)), row n (vs p w n d)], .tup [.tup (zs n (vs p w n d)), row n (vs p w n d)]] h = .ok (.bl true, h) := fun h => s_equal (.inr ⟨_, rfl, by simp, fun e he => by
          simp only [List.mem_cons, List.not_mem_nil, or_false] at he
          rcases he with rfl | rfl
          · exact zs_okC (by omega) _
          · exact okC_row (by omega) _⟩) (k + 3) h
        refine ⟨[some (.ref 1), some (fl p n w), some (.ref (t.length + 3)), u, some (row n a), some (.int s), some (row n (cb n s J)), some (row n d), some (.int p), some (.int n), some (.int w), some (.ref (t.length + 3 + 1)), q, some (row n (vs p w n d)), x14, x15], HP y3 t ++ [.lst (intz n (rr p w)), .lst (intz J (fs n s))], ?_, rfl, _, _, _, _, rfl⟩
        simp
        rw [comp_ints n (vs p w n d) (by simp [hro]) hL (by
          intro j hj
          simp
          rw [comp_ints n (fun i => d i * cy n (rr p w) (i * j)) (by simp [hro]) hL (by
            intro i hi
            simp [ints_at hi, g2, z_cy hn, hn, rr_small F', show small (i : Int) = true from small_of (by omega) (by omega)])]
          simp [sum_ints, hp]
          rfl)]
        simp [LIM, l1, l2]
        rw [comp_sel n (fun j => if vs p w n d j = 0 then some (.int (j : Nat)) else none) (by simp [hro]) hL (by
          intro j hj
          by_cases z : vs p w n d j = 0 <;> simp [cstep, tvO, ints_at hj, z])]
        rw [show ((List.range n).filterMap fun j => if vs p w n d j = 0 then some (D.int (j : Nat)) else none) = zs n (vs p w n d) from rfl]
        simp [LIM, l3]
      · rintro ρ' h' ⟨rfl, x7, x13, x14, x15, rfl⟩
        have m1 := s_step_places F' hJ' (k + 4)
        have m2 := s_comb_row F' hJ' (k + 3)
        have m3 : ∀ h, callI pg (k + 5) f_law_equal [.tup [.tup ((SP n s J).map D.int), row n (cb n s J)], .tup [.tup ((SP n s J).map D.int), row n (cb n s J)]] h = .ok (.bl true, h) := fun h => s_equal (.inr ⟨_, rfl, by simp, fun e he => by
          simp only [List.mem_cons, List.not_mem_nil, or_false] at he
          rcases he with rfl | rfl
          · refine .inr ⟨_, rfl, by rw [List.length_map, SP_len]; omega, fun e he => ?_⟩
            obtain ⟨z, _, rfl⟩ := List.mem_map.mp he
            exact .inl (.inl ⟨_, rfl⟩)
          · exact okC_row (by omega) _⟩) (k + 3) h
        have ev : srtV (intz J (fs n s)) = some ((SP n s J).map D.int) := srtV_intz J (fs n s)
        simp [m1, m2, g3, ev, m3, LIM]
        exact hq
end K86
end

section
set_option Elab.async false
set_option linter.all false
set_option maxRecDepth 100000
set_option maxHeartbeats 800000
namespace K86
open Tw
open PySem (Str)
def tot (n v : Nat) : Nat → Nat
  | 0 => 0
  | k + 1 => tot n v k + v ^ Nat.gcd n k
def cnum (n v : Nat) : Nat := tot n v n / n
theorem s_circle_number {n v : Nat} (hn : 0 < n) (hU : n < 60) (hv : v < 1000) (p w : Int) (k : Nat) (h : Heap) : callI pg (k + 1) f_circle_number [fl p n w, .int (v : Nat)] h = .ok (.int (cnum n v : Nat), h) := by
  have hro := rok (show n < 1000000 by omega)
  have sv : small ((v : Nat) : Int) = true := small_of (by omega) (by omega)
  rw [u_circle_number, b_circle_number]
  simp
  refine go_rngE n (h1 := h) (fun i ρ h1 => h1 = h ∧ ∃ x4 x5 x6 x7 x8, ρ = [some (fl p n w), some (.int (v : Nat)), some (.int n), some (.int (tot n v i : Nat)), x4, x5, x6, x7, x8]) (by simp [hro]) ⟨rfl, _, _, _, _, _, rfl⟩ ?_ ?_
  · rintro i ρ h1 hi ⟨rfl, x4, x5, x6, x7, x8, rfl⟩
    simp [LIM]
    refine in_while (J := fun ρ h2 => h2 = h1 ∧ ∃ x4 x5 x6 x7 x8, ρ = [some (fl p n w), some (.int (v : Nat)), some (.int n), some (.int (tot n v (i + 1) : Nat)), x4, x5, x6, x7, x8])
      i (fun m ρ h2 => ∃ a b : Nat, m = b ∧ a ≤ 60 ∧ b ≤ 60 ∧ Nat.gcd a b = Nat.gcd n i ∧ h2 = h1 ∧ ρ = [some (fl p n w), some (.int (v : Nat)), some (.int n), some (.int (tot n v i : Nat)), some (.int (i : Nat)), x5, x6, some (.int (a : Nat)), some (.int (b : Nat))])
      (fun ρ h2 => Nat.gcd n i ≤ 60 ∧ h2 = h1 ∧ ρ = [some (fl p n w), some (.int (v : Nat)), some (.int n), some (.int (tot n v i : Nat)), some (.int (i : Nat)), x5, x6, some (.int (Nat.gcd n i : Nat)), some (.int 0)])
      (by unfold FUEL; omega) ⟨n, i, rfl, by omega, by omega, rfl, rfl, rfl⟩ ?_ ?_
    · rintro m ρ h2 ⟨a, b, rfl, ha, hbb, hg, rfl, rfl⟩
      by_cases hb : m = 0
      · subst hb
        left
        rw [Nat.gcd_zero_right] at hg
        subst hg
        exact ⟨by simp, ha, rfl, rfl⟩
      · right
        have hb' : 0 < m := by omega
        have hlt : a % m < m := Nat.mod_lt _ (by omega)
        refine ⟨by simp [hb'], a % m, [some (fl p n w), some (.int (v : Nat)), some (.int n), some (.int (tot n v i : Nat)), some (.int (i : Nat)), x5, x6, some (.int (m : Nat)), some (.int ((a % m : Nat) : Int))], h2, hlt, ?_, m, a % m, rfl, hbb, by omega, ?_, rfl, rfl⟩
        · simp [hb', LIM]
        · rw [← hg, Nat.gcd_comm m, ← Nat.gcd_rec, Nat.gcd_comm]
    · rintro ρ' h' ⟨hg60, rfl, rfl⟩
      simp
      refine in_rng (J := fun ρ h2 => h2 = h' ∧ ∃ x4 x5 x6 x7 x8, ρ = [some (fl p n w), some (.int (v : Nat)), some (.int n), some (.int (tot n v (i + 1) : Nat)), x4, x5, x6, x7, x8]) (Nat.gcd n i) (h1 := h') (fun j ρ h2 => h2 = h' ∧ ∃ x6, ρ = [some (fl p n w), some (.int (v : Nat)), some (.int n), some (.int (tot n v i : Nat)), some (.int (i : Nat)), some (.int ((v : Int) ^ j)), x6, some (.int (Nat.gcd n i : Nat)), some (.int 0)]) ?_ ⟨rfl, _, rfl⟩ ?_ ?_
      · simp [rok (show Nat.gcd n i < 1000000 by omega)]
      · rintro j ρ h2 hj ⟨rfl, x6', rfl⟩
        refine ⟨[some (fl p n w), some (.int (v : Nat)), some (.int n), some (.int (tot n v i : Nat)), some (.int (i : Nat)), some (.int ((v : Int) ^ (j + 1))), some (.int (j : Nat)), some (.int (Nat.gcd n i : Nat)), some (.int 0)], h2, ?_, rfl, _, rfl⟩
        simp [sv, Int.pow_succ]
      · rintro ρ2 h2 ⟨rfl, x6', rfl⟩
        refine ⟨[some (fl p n w), some (.int (v : Nat)), some (.int n), some (.int (tot n v (i + 1) : Nat)), some (.int (i : Nat)), some (.int ((v : Int) ^ Nat.gcd n i)), x6', some (.int (Nat.gcd n i : Nat)), some (.int 0)], h2, ?_, rfl, _, _, _, _, _, rfl⟩
        simp [tot]
  · rintro ρ' h' ⟨rfl, x4, x5, x6, x7, x8, rfl⟩
    simp [hn, show (n : Int) < 1073741824 by omega, cnum]
end K86
end

section
set_option Elab.async false
set_option linter.all false
set_option maxRecDepth 100000
set_option maxHeartbeats 800000
namespace K86
open Tw
open PySem (Str)
/-- all rows of i places of residues below v -/
def AR (v : Nat) : Nat → List (List Int)
  | 0 => [[]]
  | i + 1 => (AR v i).flatMap fun r => (List.range v).map fun o : Nat => r ++ [(o : Int)]
def mnR (n : Nat) (r : List Int) : List Int := match rl n (tR n fun i => r.getD i 0) n with
  | [] => []
  | x :: xs => xs.foldl (fun a y => if ltR y a = true then y else a) x
def isLone (n : Nat) (r : List Int) : Bool := decide (r = mnR n r)
def CN (n v : Nat) : Nat := ((AR v n).filter (isLone n)).length
def cases : List (Nat × Nat × Nat) := [(2, 1, 1), (3, 2, 2), (5, 4, 2), (7, 3, 2), (7, 6, 3), (5, 2, 4), (11, 5, 3)]
def most (p n : Nat) : Nat := min p (if n < 4 then 7 else if n = 4 then 4 else if n = 5 then 3 else 2)
theorem count_ok : (cases.all fun c => decide (c.2.1 ≤ 6) && decide (1 ≤ c.2.1) && decide (most c.1 c.2.1 ≤ 7) && decide (2 ≤ most c.1 c.2.1) && (List.range (most c.1 c.2.1)).all fun u => decide (cnum c.2.1 (1 + u) = CN c.2.1 (1 + u))) = true := by decide +kernel
theorem AR_len {v i : Nat} : ∀ r ∈ AR v i, r.length = i := by
  induction i with
  | zero => intro r hr; simp [AR] at hr; rw [hr]; rfl
  | succ i ih =>
    intro r hr
    obtain ⟨q, hq, h2⟩ := List.mem_flatMap.mp hr
    obtain ⟨o, _, rfl⟩ := List.mem_map.mp h2
    rw [List.length_append, ih q hq]
    rfl
theorem flat_len {v : Nat} (l : List (List Int)) : (l.flatMap fun r => (List.range v).map fun o : Nat => r ++ [(o : Int)]).length = l.length * v := by
  induction l with
  | nil => simp
  | cons r l ih => rw [List.flatMap_cons, List.length_append, ih, List.length_map, List.length_range, List.length_cons, Nat.succ_mul, Nat.add_comm]
theorem AR_size {v i : Nat} : (AR v i).length = v ^ i := by
  induction i with
  | zero => rfl
  | succ i ih => rw [AR, flat_len, ih, Nat.pow_succ]
theorem comp_flt {c : Ctx} {ρ : Env} {h h1 : Heap} {e : CE} {t : CT} {it : CI} {cd : CBO} {g : List (Nat × O)} (l : List (List Int)) (P : List Int → Bool) (hit : evI c it ρ h = .ok ((l.map rowD, g), h1)) (hg : guards g h1 = true) (hn : l.length < LIM)
    (hf : ∀ r, r ∈ l → cstep c e t cd ρ (rowD r) h1 = .ok (if P r = true then some (rowD r) else none, h1)) :
    evL c (.comp e t it cd) ρ h = .ok ((l.filter P).map rowD, h1) := by
  rw [comp_gen (G := fun x => match rowsI [x] with | some [r] => if P r = true then some (rowD r) else none | _ => none) (l.map rowD) hit hg (by rwa [List.length_map]) (fun x hx => by
    obtain ⟨r, hr, rfl⟩ := List.mem_map.mp hx
    rw [hf r hr, show rowsI [rowD r] = some [r] from rowsI_map [r]])]
  congr 2
  clear hit hn hf
  induction l with
  | nil => rfl
  | cons r l ih =>
    rw [List.map_cons, List.filterMap_cons, show rowsI [rowD r] = some [r] from rowsI_map [r]]
    simp only
    by_cases q : P r = true
    · rw [if_pos q, List.filter_cons_of_pos q, List.map_cons, ih]
    · rw [if_neg q, List.filter_cons_of_neg q, ih]
theorem eq_rowD (a b : List Int) : eqs (rowD a) (rowD b) = some (decide (a = b)) := by
  have e := eqd_rowD a b
  show eqs (.tup (a.map D.int)) (.tup (b.map D.int)) = _
  rw [z_eqt]
  have d1 : ∀ r : List Int, D.deep DEEP (.tup (r.map D.int)) = true := fun r => deep_rowD 7 r
  rw [d1, d1]
  exact congrArg some e
theorem minV_rl {n m : Nat} (hm : 0 < m) (R : Nat → Nat → Int) (x : List Int) (xs : List (List Int)) (e : rl n R m = x :: xs) : minV (rws n R m) = some (rowD (xs.foldl (fun a y => if ltR y a = true then y else a) x)) := by
  unfold minV
  have h1 : intsOf (rws n R m) = none := by
    rw [rws_rl, e]
    rfl
  rw [h1]
  unfold minRw
  rw [rws_rl, rowsI_map, e]
  rfl
theorem min_round {n : Nat} (hn : 0 < n) (hU : n < 60) (r : List Int) (hr : r.length = n) {c : Ctx} {k : Nat} (hc : c.T = callI pg (k + 1)) {ρ : Env} {h : Heap} (h9 : ρ[9]? = some (some (rowD r))) (h6 : ρ[6]? = some (some (.int n))) (hl : 11 < ρ.length) :
    ∃ ds, evL c (.comp (.call f_law_round (.cons (.var 9) (.cons (.var 11) .nil))) (.name 11) (.rng1 (.var 6)) .none) ρ h = .ok (ds, h) ∧ minV ds = some (rowD (mnR n r)) := by
  have hro := rok (show n < 1000000 by omega)
  have er : rowD r = row n (fun i => r.getD i 0) := by rw [rowD_row, hr]
  have em : mnR n r = match rl n (tR n fun i => r.getD i 0) n with
    | [] => []
    | x :: xs => xs.foldl (fun a y => if ltR y a = true then y else a) x := rfl
  generalize (fun i : Nat => r.getD i 0) = f at er em
  refine ⟨rws n (tR n f) n, ?_, ?_⟩
  · exact comp_map n (fun j => .int (j : Nat)) (fun j => row n (tR n f j)) (g := []) (by simp [h6, hro, rngD_intz]; rfl) rfl (by unfold LIM; omega) (by
    intro j hj
    have g9 : ((ρ.set 11 none).set 11 (some (D.int (j : Nat))))[9]? = some (some (rowD r)) := by simp [h9]
    have g11 : ((ρ.set 11 none).set 11 (some (D.int (j : Nat))))[11]? = some (some (.int (j : Nat))) := by simp [hl]
    generalize (ρ.set 11 none).set 11 (some (D.int (j : Nat))) = ρ' at g9 g11
    simp [g9, g11, hc, er, s_round hn hU]
    rfl)
  cases e : rl n (tR n f) n with
  | nil =>
    have := congrArg List.length e
    simp [rl] at this
    omega
  | cons x xs =>
    rw [e] at em
    simp [minV_rl hn _ x xs e, em]
end K86
end

section
set_option Elab.async false
set_option linter.all false
set_option maxRecDepth 100000
set_option maxHeartbeats 800000
namespace K86
open Tw
open PySem (Str)
theorem most_ev {p n w : Nat} (hc : (p, n, w) ∈ cases) (h : Heap) : ∃ j : Int, (iteV (decide ((n : Int) < 4)) (R.ok (D.int 7, h)) (iteV (decide ((n : Int) = 4)) (R.ok (D.int 4, h)) (iteV (decide ((n : Int) = 5)) (R.ok (D.int 3, h)) (R.ok (D.int 2, h))))) = .ok (.int j, h) ∧ (if j < (p : Int) then j else (p : Int)) = ((most p n : Nat) : Int) := by
  simp only [cases, List.mem_cons, List.not_mem_nil, or_false, Prod.mk.injEq] at hc
  rcases hc with ⟨rfl, rfl, rfl⟩ | ⟨rfl, rfl, rfl⟩ | ⟨rfl, rfl, rfl⟩ | ⟨rfl, rfl, rfl⟩ | ⟨rfl, rfl, rfl⟩ | ⟨rfl, rfl, rfl⟩ | ⟨rfl, rfl, rfl⟩ <;> exact ⟨_, rfl, rfl⟩
theorem count_at {p n w : Nat} (hc : (p, n, w) ∈ cases) : n ≤ 6 ∧ 1 ≤ n ∧ most p n ≤ 7 ∧ 2 ≤ most p n ∧ ∀ u, u < most p n → cnum n (1 + u) = CN n (1 + u) := by
  have h := List.all_eq_true.mp count_ok _ hc
  simp only [Bool.and_eq_true, decide_eq_true_eq, List.all_eq_true] at h
  obtain ⟨⟨⟨⟨h1, h2⟩, h3⟩, h4⟩, h5⟩ := h
  exact ⟨h1, h2, h3, h4, fun u hu => h5 u (List.mem_range.mpr hu)⟩
theorem case_at {v : Int} (h0 : 0 ≤ v) (h1 : v < 7) : ∃ p n w : Nat, (p, n, w) ∈ cases ∧ nth [D.tup [.int 2, .int 1, .int 1], .tup [.int 3, .int 2, .int 2], .tup [.int 5, .int 4, .int 2], .tup [.int 7, .int 3, .int 2], .tup [.int 7, .int 6, .int 3], .tup [.int 5, .int 2, .int 4], .tup [.int 11, .int 5, .int 3]] v = some (.tup [.int (p : Nat), .int (n : Nat), .int (w : Nat)]) := by
  have : v = 0 ∨ v = 1 ∨ v = 2 ∨ v = 3 ∨ v = 4 ∨ v = 5 ∨ v = 6 := by omega
  rcases this with rfl | rfl | rfl | rfl | rfl | rfl | rfl
  · exact ⟨2, 1, 1, by decide, rfl⟩
  · exact ⟨3, 2, 2, by decide, rfl⟩
  · exact ⟨5, 4, 2, by decide, rfl⟩
  · exact ⟨7, 3, 2, by decide, rfl⟩
  · exact ⟨7, 6, 3, by decide, rfl⟩
  · exact ⟨5, 2, 4, by decide, rfl⟩
  · exact ⟨11, 5, 3, by decide, rfl⟩
theorem get_app1 {t g : Heap} {i : Nat} {o : O} (h : t[i]? = some o) : (t ++ g)[i]? = some o := by
  rw [List.getElem?_append_left, h]
  rcases Nat.lt_or_ge i t.length with z | z
  · exact z
  · rw [List.getElem?_eq_none z] at h
    cases h
theorem in_keptG {F : St → R St} {J : Env → Heap → Prop} {c : Ctx} {ρ : Env} {h h1 : Heap} {t : CT} {it : CI} {b : CSs} {g : List (Nat × O)} (xs : List D) (Inv : Nat → Env → Heap → Prop) (hit : evI c it ρ h = .ok ((xs, g), h1)) (hg : ∀ i ρ h, Inv i ρ h → guards g h = true) (h0 : Inv 0 ρ h1)
    (hf : ∀ (i : Nat) (x : D) ρ h, xs[i]? = some x → Inv i ρ h → ∃ ρ' h', ((asg c t x ρ h).nox.bind fun s => execs c b s.1 s.2) = .ok (.nx, ρ', h') ∧ Inv (i + 1) ρ' h')
    (next : ∀ ρ' h', Inv xs.length ρ' h' → ∃ ρ2 h2, F (.nx, ρ', h') = .ok (.nx, ρ2, h2) ∧ J ρ2 h2) : ∃ ρ2 h2, (exec c (.loop t it b) ρ h).bind F = .ok (.nx, ρ2, h2) ∧ J ρ2 h2 := go_kept (P := fun r : R St => ∃ (ρ2 : Env) (h2 : Heap), r = R.ok (Fl.nx, ρ2, h2) ∧ J ρ2 h2) xs Inv hit hg h0 hf next
/-- one place more -/
def ex1 (v : Nat) (r : List Int) : List (List Int) := (List.range v).map fun o : Nat => r ++ [(o : Int)]
theorem s_law_count (x : Ch) (hx : x.ok) (t : Heap) (k : Nat) : ∃ y, Ch.ok y ∧ callI pg (k + 4) f_law_count [.ref 1] (HP x t) = .ok (.bl true, HP y t) := by
  obtain ⟨v0, y1, a0, a1, hy1, e1⟩ := s_draw (m := 7) (by decide) (by decide) x hx
  obtain ⟨p, n, w, hc, ec⟩ := case_at a0 a1
  obtain ⟨n6, n1, m7, m2, hcn⟩ := count_at hc
  obtain ⟨v1, y2, b0, b1, hy2, e2⟩ := s_draw (m := (most p n : Nat)) (by omega) (by omega) y1 hy1
  refine ⟨y2, hy2, ?_⟩
  have q1 := draw_HP0 e1 t
  have q2 := draw_HP0 e2 t
  obtain ⟨u, rfl⟩ : ∃ u : Nat, v1 = (u : Int) := ⟨v1.toNat, by omega⟩
  have hu : u < most p n := by omega
  have hroN := rok (show n < 1000000 by omega)
  have hv : rngOk (1 + (u : Int)) = true := by
    have := rok (show 1 + u < 1000000 by omega)
    rwa [show (((1 + u : Nat) : Int)) = 1 + (u : Int) by omega] at this
  have hsz : ∀ i, i ≤ n → (AR (1 + u) i).length ≤ 117649 := fun i hi => by
    rw [AR_size]
    calc (1 + u) ^ i ≤ 7 ^ i := Nat.pow_le_pow_left (by omega) i
      _ ≤ 7 ^ 6 := Nat.pow_le_pow_right (by decide) (by omega)
  obtain ⟨j, me, mj⟩ := most_ev hc (HP y1 t)
  rw [u_law_count, b_law_count]
  simp [q1, ec, LIM, me, biV, mj, q2]
  have g0 : ∀ (y : Ch) (o : O) (h : t.length + 3 < (HP y t ++ [o]).length), (HP y t ++ [o])[t.length + 3]'h = o := fun y o h => by simp [show (HP y t).length = t.length + 3 from rfl]
  refine go_rngE n (h1 := HP y2 t ++ [.lst [.tup []]]) (fun i ρ h1 => ∃ g, h1 = HP y2 t ++ g ∧ ∃ m, (HP y2 t ++ g)[m]? = some (.lst ((AR (1 + u) i).map rowD)) ∧ ∃ x3 x8 x9 x10, ρ = [some (.ref 1), some (.int (1 + u)), some (.ref m), x3, none, some (.int (p : Nat)), some (.int (n : Nat)), some (.int (w : Nat)), x8, x9, x10, none]) (by simp [hroN]) ⟨_, rfl, t.length + 3, by simp [g0, AR, rowD], _, _, _, _, rfl⟩ ?_ ?_
  · rintro i ρ h1 hi ⟨g, rfl, m, hm, x3, x8, x9, x10, rfl⟩
    have hm' : ∀ l, (HP y2 t ++ (g ++ l))[m]? = some (.lst ((AR (1 + u) i).map rowD)) := fun l => by
      rw [← List.append_assoc]
      exact get_app1 hm
    have gl : ∀ o, (HP y2 t ++ (g ++ [o]))[t.length + 3 + g.length]? = some o := fun o => by
      rw [← List.append_assoc, show t.length + 3 + g.length = (HP y2 t ++ g).length by simp, get_app0]
      rfl
    have gl2 : ∀ o (h : t.length + 3 + g.length < (HP y2 t ++ (g ++ [o])).length), (HP y2 t ++ (g ++ [o]))[t.length + 3 + g.length]'h = o := fun o h => (List.getElem?_eq_some_iff.mp (gl o)).2
    have sl : ∀ o o', (HP y2 t ++ (g ++ [o])).set (t.length + 3 + g.length) o' = HP y2 t ++ (g ++ [o']) := fun o o' => by
      rw [← List.append_assoc, ← List.append_assoc, show t.length + 3 + g.length = (HP y2 t ++ g).length by simp, List.set_append_right _ _ (Nat.le_refl _)]
      simp
    simp
    refine in_keptG (J := fun ρ h1 => ∃ g, h1 = HP y2 t ++ g ∧ ∃ m, (HP y2 t ++ g)[m]? = some (.lst ((AR (1 + u) (i + 1)).map rowD)) ∧ ∃ x3 x8 x9 x10, ρ = [some (.ref 1), some (.int (1 + u)), some (.ref m), x3, none, some (.int (p : Nat)), some (.int (n : Nat)), some (.int (w : Nat)), x8, x9, x10, none]) (g := [(m, .lst ((AR (1 + u) i).map rowD))]) (h1 := HP y2 t ++ (g ++ [.lst []])) ((AR (1 + u) i).map rowD) (fun q ρ h2 => q ≤ (AR (1 + u) i).length ∧ h2 = HP y2 t ++ (g ++ [.lst ((((AR (1 + u) i).take q).flatMap (ex1 (1 + u))).map rowD)]) ∧ ∃ x9 x10, ρ = [some (.ref 1), some (.int (1 + u)), some (.ref m), some (.int (i : Nat)), none, some (.int (p : Nat)), some (.int (n : Nat)), some (.int (w : Nat)), some (.ref (t.length + 3 + g.length)), x9, x10, none]) ?_ ?_ ⟨by omega, by simp, _, _, rfl⟩ ?_ ?_
    · simp [hm']
    · rintro q ρ h2 ⟨_, rfl, x9, x10, rfl⟩
      simp [guards, hm']
    · rintro q z ρ h2 hz ⟨_, rfl, x9, x10, rfl⟩
      rw [List.getElem?_map] at hz
      obtain ⟨r, hr, rfl⟩ : ∃ r, (AR (1 + u) i)[q]? = some r ∧ rowD r = z := by
        cases e : (AR (1 + u) i)[q]? with
        | none => rw [e] at hz; cases hz
        | some r => rw [e] at hz; exact ⟨r, rfl, by simpa using hz⟩
      have hq : q < (AR (1 + u) i).length := (List.getElem?_eq_some_iff.mp hr).1
      have hrl := AR_len r (List.mem_of_getElem? hr)
      have ef : ((AR (1 + u) i).take (q + 1)).flatMap (ex1 (1 + u)) = ((AR (1 + u) i).take q).flatMap (ex1 (1 + u)) ++ ex1 (1 + u) r := by
        rw [List.take_succ, hr, List.flatMap_append]
        simp
      have lf : (((AR (1 + u) i).take q).flatMap (ex1 (1 + u))).length ≤ 117649 * 7 := by
        have := flat_len (v := 1 + u) ((AR (1 + u) i).take q)
        have h2 : (((AR (1 + u) i).take q).flatMap (ex1 (1 + u))).length = ((AR (1 + u) i).take q).length * (1 + u) := this
        rw [h2]
        exact Nat.mul_le_mul (Nat.le_trans (List.length_take_le _ _) (by have := hsz i (by omega); omega)) (by omega)
      refine ⟨[some (.ref 1), some (.int (1 + u)), some (.ref m), some (.int (i : Nat)), none, some (.int (p : Nat)), some (.int (n : Nat)), some (.int (w : Nat)), some (.ref (t.length + 3 + g.length)), some (rowD r), x10, none], HP y2 t ++ (g ++ [.lst ((((AR (1 + u) i).take (q + 1)).flatMap (ex1 (1 + u))).map rowD)]), ?_, by omega, rfl, _, _, rfl⟩
      rw [ef]
      clear ef
      generalize ((AR (1 + u) i).take q).flatMap (ex1 (1 + u)) = L at lf ⊢
      simp [gl]
      rw [comp_map (1 + u) (fun o => .int (o : Nat)) (fun o => rowD (r ++ [((o : Nat) : Int)])) (g := []) (by simp [hv, rngD_intz, show (1 + (u : Int)).toNat = 1 + u by omega]; rfl) rfl (by unfold LIM; omega) (by
        intro o ho
        simp [rowD, hrl, LIM, show i + 1 ≤ 16777216 by omega])]
      have e9 : ((List.range (1 + u)).map fun o => rowD (r ++ [((o : Nat) : Int)])) = (ex1 (1 + u) r).map rowD := by
        unfold ex1
        rw [List.map_map]
        rfl
      have e10 : (ex1 (1 + u) r).length = 1 + u := by unfold ex1; simp
      rw [e9]
      simp [gl2, sl, LIM, e10, show L.length + (1 + u) ≤ 16777216 by omega]
    · rintro ρ' h' ⟨_, rfl, x9', x10', rfl⟩
      have eA : ((AR (1 + u) i).take ((AR (1 + u) i).map rowD).length).flatMap (ex1 (1 + u)) = AR (1 + u) (i + 1) := by
        rw [List.length_map, List.take_length]
        rfl
      rw [eA]
      refine ⟨[some (.ref 1), some (.int (1 + u)), some (.ref (t.length + 3 + g.length)), some (.int (i : Nat)), none, some (.int (p : Nat)), some (.int (n : Nat)), some (.int (w : Nat)), some (.ref (t.length + 3 + g.length)), x9', x10', none], HP y2 t ++ (g ++ [.lst ((AR (1 + u) (i + 1)).map rowD)]), by simp, g ++ [.lst ((AR (1 + u) (i + 1)).map rowD)], rfl, t.length + 3 + g.length, gl _, some (.int (i : Nat)), some (.ref (t.length + 3 + g.length)), x9', x10', rfl⟩
  · rintro ρ' h' ⟨g, rfl, m, hm, x3, x8, x9, x10, rfl⟩
    simp
    rw [comp_flt (h1 := HP y2 t ++ g) (g := [(m, .lst ((AR (1 + u) n).map rowD))]) (AR (1 + u) n) (isLone n) (by simp [hm]) (by simp [guards, hm]) (by have := hsz n (Nat.le_refl _); unfold LIM; omega) (by
      intro r hr
      obtain ⟨ds, m1, m2⟩ := min_round (n := n) n1 (by omega) r (AR_len r hr) (c := ⟨callI pg (k + 3), pg.cs, pg.cl⟩) (k := k + 2) rfl (ρ := [some (.ref 1), some (.int (1 + u)), some (.ref m), x3, none, some (.int (p : Nat)), some (.int (n : Nat)), some (.int (w : Nat)), x8, some (rowD r), x10, none]) (h := HP y2 t ++ g) rfl rfl (by simp)
      simp at m1
      simp [cstep, tvO, m1, m2, eq_rowD]
      rw [show isLone n r = decide (r = mnR n r) from rfl]
      generalize decide (r = mnR n r) = bb
      cases bb <;> rfl)]
    have ecn := s_circle_number (n := n) (v := 1 + u) n1 (by omega) (by omega) (p : Int) (w : Int) (k + 2)
    rw [show (((1 + u : Nat) : Int)) = 1 + (u : Int) by omega, hcn u hu] at ecn
    have eqN : ∀ h, callI pg (k + 3) f_law_equal [.int (CN n (1 + u) : Nat), .int (CN n (1 + u) : Nat)] h = .ok (.bl true, h) := fun h => s_equal (.inl (.inl ⟨_, rfl⟩)) (k + 1) h
    have el : ((AR (1 + u) n).filter (isLone n)).length = CN n (1 + u) := rfl
    have gl3 : ∀ o (h : t.length + 3 + g.length < (HP y2 t ++ (g ++ [o])).length), (HP y2 t ++ (g ++ [o]))[t.length + 3 + g.length]'h = o := fun o h => by
      have gl : (HP y2 t ++ (g ++ [o]))[t.length + 3 + g.length]? = some o := by
        rw [← List.append_assoc, show t.length + 3 + g.length = (HP y2 t ++ g).length by simp, get_app0]
        rfl
      exact (List.getElem?_eq_some_iff.mp gl).2
    simp [ecn, LIM, gl3, el, eqN]
end K86
end

section
set_option Elab.async false
set_option linter.all false
set_option maxRecDepth 100000
set_option maxHeartbeats 800000
namespace K86
open Tw
open PySem (Str)
def gt (l : List Int) (i : Nat) : Int := l.getD i 0
theorem gt0 {l : List Int} (h : (l.all fun x => decide (0 ≤ x)) = true) (i : Nat) : 0 ≤ gt l i := by
  unfold gt
  rw [List.getD_eq_getElem?_getD]
  cases e : l[i]? with
  | none => exact Int.le_refl _
  | some x =>
    have := List.all_eq_true.mp h x (List.mem_of_getElem? e)
    simpa using this
theorem F5 : Fld 5 4 2 := fld_of (by decide +kernel)
section
variable (k : Nat) (h : Heap)
theorem u1 : callI pg (k + 1) f_turned_row [.tup [.int 1, .int 2, .int 3, .int 4], .int 1] h = .ok (.tup [.int 2, .int 3, .int 4, .int 1], h) := by
  have e := s_turned (n := 4) (by decide) (by decide) (gt [1, 2, 3, 4]) 1 k h
  rw [show row 4 (gt [1, 2, 3, 4]) = .tup [.int 1, .int 2, .int 3, .int 4] by decide +kernel, show (row 4 fun i => cy 4 (gt [1, 2, 3, 4]) (i + 1)) = .tup [.int 2, .int 3, .int 4, .int 1] by decide +kernel] at e
  exact e
theorem u2 : callI pg (k + 2) f_all_turns [.tup [.int 1, .int 0, .int 1, .int 0]] h = .ok (.tup [.tup [.int 0, .int 1, .int 0, .int 1], .tup [.int 1, .int 0, .int 1, .int 0]], h) := by
  have e := s_all_turns (n := 4) (by decide) (by decide) (gt [1, 0, 1, 0]) (gt0 (by decide)) k h
  rw [show row 4 (gt [1, 0, 1, 0]) = .tup [.int 1, .int 0, .int 1, .int 0] by decide +kernel, show (D.tup ((TT 4 (gt [1, 0, 1, 0])).map rowD)) = .tup [.tup [.int 0, .int 1, .int 0, .int 1], .tup [.int 1, .int 0, .int 1, .int 0]] by decide +kernel] at e
  exact e
theorem per2 : isPer 4 (gt [1, 0, 1, 0]) 2 := ⟨by decide, by decide, by decide +kernel, fun j a b => by
  rw [show j = 1 by omega]
  decide +kernel⟩
theorem u3 : callI pg (k + 2) f_row_period [.tup [.int 1, .int 0, .int 1, .int 0]] h = .ok (.int 2, h) := by
  have e := s_row_period (n := 4) (by decide) (by decide) (gt [1, 0, 1, 0]) per2 k h
  rw [show row 4 (gt [1, 0, 1, 0]) = .tup [.int 1, .int 0, .int 1, .int 0] by decide +kernel] at e
  exact e
theorem u4 : callI pg (k + 1) f_likeness_row [.tup [.int 5, .int 4, .int 2], .tup [.int 1, .int 2, .int 0, .int 0], .tup [.int 3, .int 0, .int 0, .int 1]] h = .ok (.tup [.int 3, .int 0, .int 2, .int 2], h) := by
  have e := s_likeness_row F5 (gt [1, 2, 0, 0]) (gt [3, 0, 0, 1]) (fun i => by
    unfold gt
    match i with
    | 0 => rfl
    | 1 => rfl
    | 2 => rfl
    | 3 => rfl
    | i + 4 => rfl) k h
  rw [show row 4 (gt [1, 2, 0, 0]) = .tup [.int 1, .int 2, .int 0, .int 0] by decide +kernel, show row 4 (gt [3, 0, 0, 1]) = .tup [.int 3, .int 0, .int 0, .int 1] by decide +kernel, show row 4 (lk 5 4 (gt [1, 2, 0, 0]) (gt [3, 0, 0, 1])) = .tup [.int 3, .int 0, .int 2, .int 2] by decide +kernel] at e
  exact e
theorem st2 : isSt 4 2 2 := ⟨by decide, by decide, by decide, fun j a b => by
  rw [show j = 1 by omega]
  decide⟩
theorem st3 : isSt 4 3 4 := ⟨by decide, by decide, by decide, fun j a b => by
  have : j = 1 ∨ j = 2 ∨ j = 3 := by omega
  rcases this with rfl | rfl | rfl <;> decide⟩
theorem u5 : callI pg (k + 1) f_step_places [.tup [.int 5, .int 4, .int 2], .int 2] h = .ok (.tup [.int 0, .int 2], h) := by
  have e := s_step_places F5 st2 k h
  rw [show (D.tup ((SP 4 2 2).map D.int)) = .tup [.int 0, .int 2] by decide +kernel] at e
  exact e
theorem u6 : callI pg (k + 2) f_comb_row [.tup [.int 5, .int 4, .int 2], .int 3] h = .ok (.tup [.int 1, .int 1, .int 1, .int 1], h) := by
  have e := s_comb_row F5 st3 k h
  rw [show row 4 (cb 4 3 4) = .tup [.int 1, .int 1, .int 1, .int 1] by decide +kernel] at e
  exact e
theorem u7 : callI pg (k + 1) f_circle_number [.tup [.int 5, .int 4, .int 2], .int 2] h = .ok (.int 6, h) := by
  have e := s_circle_number (n := 4) (v := 2) (by decide) (by decide) (by decide) 5 2 k h
  rw [show cnum 4 2 = 6 by decide +kernel] at e
  exact e
theorem u8 : callI pg (k + 1) f_twin_places [.tup [.int 5, .int 4, .int 2], .tup [.int 1, .int 0, .int 1, .int 2]] h = .ok (.tup [.tup [.int 0, .int 2]], h) := by
  have e := s_twin_places (n := 4) (by decide) (by decide) (gt [1, 0, 1, 2]) 5 2 k h
  rw [show row 4 (gt [1, 0, 1, 2]) = .tup [.int 1, .int 0, .int 1, .int 2] by decide +kernel, show (D.tup ((PW 4 (gt [1, 0, 1, 2]) 4).map rowD)) = .tup [.tup [.int 0, .int 2]] by decide +kernel] at e
  exact e
theorem per1 : isPer 1 (gt [3]) 1 := ⟨by decide, by decide, by decide +kernel, fun j a b => by omega⟩
theorem u9 : callI pg (k + 2) f_row_period [.tup [.int 3]] h = .ok (.int 1, h) := by
  have e := s_row_period (n := 1) (by decide) (by decide) (gt [3]) per1 k h
  rw [show row 1 (gt [3]) = .tup [.int 3] by decide +kernel] at e
  exact e
theorem u10 : callI pg (k + 3) f_least_turn [.tup [.int 2, .int 1, .int 0]] h = .ok (.tup [.int 0, .int 2, .int 1], h) := by
  obtain ⟨r, rs, e1, _, e⟩ := s_least_turn (n := 3) (by decide) (by decide) (gt [2, 1, 0]) (gt0 (by decide)) k h
  rw [show row 3 (gt [2, 1, 0]) = .tup [.int 2, .int 1, .int 0] by decide +kernel] at e
  have e2 : TT 3 (gt [2, 1, 0]) = [[0, 2, 1], [1, 0, 2], [2, 1, 0]] := by decide +kernel
  rw [e, (List.cons.inj (e1.symm.trans e2)).1]
  rfl
theorem u11 : callI pg (k + 3) f_are_turns [.tup [.int 1, .int 2, .int 0], .tup [.int 2, .int 1, .int 0]] h = .ok (.bl false, h) := by
  have e := s_are_turns (n := 3) (by decide) (by decide) (gt [2, 1, 0]) (gt [1, 2, 0]) (gt0 (by decide)) k h
  rw [show row 3 (gt [2, 1, 0]) = .tup [.int 2, .int 1, .int 0] by decide +kernel, show row 3 (gt [1, 2, 0]) = .tup [.int 1, .int 2, .int 0] by decide +kernel, show decide (lsr 3 (gt [1, 2, 0]) ∈ TT 3 (gt [2, 1, 0])) = false by decide +kernel] at e
  exact e
theorem u12 : callI pg (k + 1) f_circle_number [.tup [.int 13, .int 12, .int 2], .int 2] h = .ok (.int 352, h) := by
  have e := s_circle_number (n := 12) (v := 2) (by decide) (by decide) (by decide) 13 2 k h
  rw [show cnum 12 2 = 352 by decide +kernel] at e
  exact e
end
/-- a tuple of numbers -/
theorem okB_ints (r : List Int) (hr : r.length < 1000) : okC (.tup (r.map D.int)) := .inr ⟨_, rfl, by rw [List.length_map]; exact hr, fun e he => by
  obtain ⟨z, _, rfl⟩ := List.mem_map.mp he
  exact .inl (.inl ⟨_, rfl⟩)⟩
theorem s_law_sure (k : Nat) (h : Heap) : callI pg (k + 4) f_law_sure [] h = .ok (.bl true, h) := by
  have e1 : ∀ h, callI pg (k + 3) f_law_equal [.tup [.tup [.int 2, .int 3, .int 4, .int 1], .tup [.tup [.int 0, .int 1, .int 0, .int 1], .tup [.int 1, .int 0, .int 1, .int 0]], .int 2, .tup [.int 3, .int 0, .int 2, .int 2], .tup [.int 0, .int 2]], .tup [.tup [.int 2, .int 3, .int 4, .int 1], .tup [.tup [.int 0, .int 1, .int 0, .int 1], .tup [.int 1, .int 0, .int 1, .int 0]], .int 2, .tup [.int 3, .int 0, .int 2, .int 2], .tup [.int 0, .int 2]]] h = .ok (.bl true, h) := fun h => s_equal (.inr ⟨_, rfl, by simp, fun e he => by
    simp only [List.mem_cons, List.not_mem_nil, or_false] at he
    rcases he with rfl | rfl | rfl | rfl | rfl
    · exact okB_ints [2, 3, 4, 1] (by decide)
    · refine .inr ⟨_, rfl, by simp, fun e he => ?_⟩
      simp only [List.mem_cons, List.not_mem_nil, or_false] at he
      rcases he with rfl | rfl
      · exact .inr ⟨[0, 1, 0, 1], by decide, rfl⟩
      · exact .inr ⟨[1, 0, 1, 0], by decide, rfl⟩
    · exact .inl (.inl ⟨_, rfl⟩)
    · exact okB_ints [3, 0, 2, 2] (by decide)
    · exact okB_ints [0, 2] (by decide)⟩) (k + 1) h
  have e2 : ∀ h, callI pg (k + 3) f_law_equal [.tup [.tup [.int 1, .int 1, .int 1, .int 1], .int 6, .tup [.tup [.int 0, .int 2]], .int 1, .tup [.int 0, .int 2, .int 1], .bl false], .tup [.tup [.int 1, .int 1, .int 1, .int 1], .int 6, .tup [.tup [.int 0, .int 2]], .int 1, .tup [.int 0, .int 2, .int 1], .bl false]] h = .ok (.bl true, h) := fun h => s_equal (.inr ⟨_, rfl, by simp, fun e he => by
    simp only [List.mem_cons, List.not_mem_nil, or_false] at he
    rcases he with rfl | rfl | rfl | rfl | rfl | rfl
    · exact okB_ints [1, 1, 1, 1] (by decide)
    · exact .inl (.inl ⟨_, rfl⟩)
    · refine .inr ⟨_, rfl, by simp, fun e he => ?_⟩
      simp only [List.mem_cons, List.not_mem_nil, or_false] at he
      subst he
      exact .inr ⟨[0, 2], by decide, rfl⟩
    · exact .inl (.inl ⟨_, rfl⟩)
    · exact okB_ints [0, 2, 1] (by decide)
    · exact .inl (.inr ⟨_, rfl⟩)⟩) (k + 1) h
  have e3 : ∀ h, callI pg (k + 3) f_law_equal [.int 352, .int 352] h = .ok (.bl true, h) := fun h => s_equal (.inl (.inl ⟨_, rfl⟩)) (k + 1) h
  rw [u_law_sure, b_law_sure]
  simp [LIM, u1, u2, u3, u4, u5, e1]
  simp [LIM, u6, u7, u8, u9, u10, u11, u12, e2, e3, selD]
end K86
end

section
set_option Elab.async false
set_option linter.all false
set_option maxRecDepth 100000
set_option maxHeartbeats 1600000
namespace K86
open Tw
open PySem (Str)
theorem kinds_at {v : Int} (h0 : 0 ≤ v) (h1 : v < 3) : ∃ kd : Int, 2 ≤ kd ∧ kd ≤ 17 ∧ nth [D.int 2, .int 3, .int 17] v = some (.int kd) := by
  have : v = 0 ∨ v = 1 ∨ v = 2 := by omega
  rcases this with rfl | rfl | rfl
  · exact ⟨2, by decide, by decide, rfl⟩
  · exact ⟨3, by decide, by decide, rfl⟩
  · exact ⟨17, by decide, by decide, rfl⟩
theorem ground_HP (x : Ch) (hx : x.ok) (b : Bool) (t : Heap) (k : Nat) : ∃ p n r y, tbl p n ∧ (b = false → n ≤ 6) ∧ Fld p n r ∧ Ch.ok y ∧ callI pg (k + 2) f_law_ground [.ref 1, .bl b] (HP x t) = .ok (fl p n r, HP y t) := s_law_ground x hx b t k
/-- a row of drawn numbers -/
theorem drawn {kd : Int} (hk : 0 < kd) (hk2 : kd < 1000) {n : Nat} (hn : n < 1000) (x : Ch) (hx : x.ok) (ρ : Env) (it : CI) (kE : CE) (hit : ∀ h, evI ⟨callI pg 59, pg.cs, pg.cl⟩ it ρ h = .ok ((rngD 0 n, []), h)) (h1 : ρ[1]? = some (some (.ref 1))) (hk : ∀ (j : Nat) h, ev ⟨callI pg 59, pg.cs, pg.cl⟩ kE ((ρ.set 7 none).set 7 (some (.int j))) h = .ok (.int kd, h)) :
    ∃ (a : Nat → Int) (y : Ch), rg kd a ∧ y.ok ∧ evL ⟨callI pg 59, pg.cs, pg.cl⟩ (.comp (.call f_law_draw (.cons (.var 1) (.cons kE .nil))) (.name 7) it .none) ρ (HP x []) = .ok (intz n a, HP y []) := by
  refine comp_drawH (by omega) n x [] hx (hit _) (by unfold LIM; omega) fun j y hj hy => ?_
  obtain ⟨v, y', v0, v1, hy', e⟩ := s_draw (m := kd) (by omega) (by omega) y hy
  refine ⟨v, y', v0, v1, hy', ?_⟩
  have g1 : ((ρ.set 7 none).set 7 (some (D.int (j : Nat))))[1]? = some (some (.ref 1)) := by simp [h1]
  have hk' := hk j
  simp only [pgcs, pgcl] at hk'
  generalize (ρ.set 7 none).set 7 (some (D.int (j : Nat))) = ρ' at g1 hk'
  simp [g1, hk', draw_HP0 e]
theorem evL_it {c : Ctx} {ρ : Env} {h0 h1 : Heap} {e : CE} {t : CT} {it it' : CI} {cd : CBO} {w : Walk} (e1 : evI c it ρ h0 = .ok (w, h1)) (e2 : evI c it' ρ h1 = .ok (w, h1)) : evL c (.comp e t it cd) ρ h0 = evL c (.comp e t it' cd) ρ h1 := by
  rw [evL, evL, e1, e2]
theorem twice (m : Nat) (a : Nat → Int) : intz m a ++ intz m a = intz (m + m) fun i => if i < m then a i else a (i - m) := by
  unfold intz
  rw [List.range_add, List.map_append, List.map_map]
  congr 1
  · refine List.map_congr_left fun i hi => ?_
    show D.int (a i) = D.int (if i < m then a i else a (i - m))
    rw [if_pos (List.mem_range.mp hi)]
  · refine List.map_congr_left fun i _ => ?_
    show D.int (a i) = D.int (if m + i < m then a (m + i) else a (m + i - m))
    rw [if_neg (by omega), Nat.add_sub_cancel_left]
theorem tidy_none (b : Bool) (H : Heap) : tidy [] (.bl b, H) = (.bl b, []) := by
  unfold tidy
  rw [if_pos ⟨rfl, Nat.zero_le _, fun i hi => by cases hi⟩]
  rfl
theorem law_true (ns : List Int) (hns : ns.length ≤ 63) : ∃ h, callI pg 60 f_law [.seq (ns.map D.int)] [] = .ok (.bl true, h) := by
  obtain ⟨x, hx, e0⟩ := s_cup ns 58
  have e0 : callI pg 59 f_law_cup [.seq (ns.map D.int)] [] = .ok (.ref 1, HP x []) := e0
  rw [u_law, b_law]
  simp [e0]
  generalize hS : D.seq (ns.map D.int) = S
  refine go_rng (P := fun r : R (D × Heap) => ∃ h, r = .ok (.bl true, h)) 2 (h1 := HP x []) (fun i ρ h1 => ∃ y, Ch.ok y ∧ h1 = HP y [] ∧ ∃ x2 x4 x5 x6 x7, ρ = [some S, some (.ref 1), x2, none, x4, x5, x6, x7]) (by simp [show rngOk 2 = true from rok (n := 2) (by decide)]) ⟨x, hx, rfl, _, _, _, _, _, rfl⟩ ?_ ?_
  · rintro i ρ h1 hi ⟨y0, hy0, rfl, x2, x4, x5, x6, x7, rfl⟩
    obtain ⟨v1, y1, a0, a1, hy1, e1⟩ := s_draw (m := 8) (by decide) (by decide) y0 hy0
    obtain ⟨v2, y2, b0, b1, hy2, e2⟩ := s_draw (m := 3) (by decide) (by decide) y1 hy1
    obtain ⟨kd, k2, k17, ek⟩ := kinds_at b0 b1
    obtain ⟨u, rfl⟩ : ∃ u : Nat, v1 = (u : Int) := ⟨v1.toNat, by omega⟩
    have hro : rngOk (1 + (u : Int)) = true := by
      have := rok (show 1 + u < 1000000 by omega)
      rwa [show (((1 + u : Nat) : Int)) = 1 + (u : Int) by omega] at this
    obtain ⟨a, y3, ha, hy3, e3⟩ := drawn (kd := kd) (by omega) (by omega) (n := 1 + u) (by omega) y2 hy2 [some S, some (.ref 1), some (.int (i : Nat)), none, x4, some (.int (1 + u)), some (.int kd), x7] (.rng1 (.var 5)) (.var 6) (fun h => by simp [hro, show (1 + (u : Int)).toNat = 1 + u by omega]) rfl (fun j h => by simp)
    obtain ⟨y4, hy4, e4⟩ := s_law_circled (n := 1 + u) (by omega) (by omega) a (fun i => (ha i).1) y3 hy3 [] 55
    obtain ⟨p, n, w, y5, ht, hn6, F, hy5, e5⟩ := ground_HP y4 hy4 false [] 57
    have h6 := hn6 rfl
    obtain ⟨y6, hy6, e6⟩ := s_law_likeness F (by omega) y5 hy5 [] 49
    obtain ⟨y7, hy7, e7⟩ := s_law_values F (by omega) y6 hy6 [] 53
    simp at e3 e4 e5 e6 e7
    refine ⟨[some S, some (.ref 1), some (.int (i : Nat)), none, some (fl p n w), some (.int (1 + u)), some (.int kd), x7], HP y7 [], ?_, y7, hy7, rfl, _, _, _, _, _, rfl⟩
    simp [draw_HP0 e1, draw_HP0 e2, ek, LIM, e3, e4, e5, e6, e7]
  · rintro ρ' h' ⟨y0, hy0, rfl, x2, x4, x5, x6, x7, rfl⟩
    obtain ⟨v1, y1, a0, a1, hy1, e1⟩ := s_draw (m := 4) (by decide) (by decide) y0 hy0
    obtain ⟨u, rfl⟩ : ∃ u : Nat, v1 = (u : Int) := ⟨v1.toNat, by omega⟩
    have hro : rngOk (1 + (u : Int)) = true := by
      have := rok (show 1 + u < 1000000 by omega)
      rwa [show (((1 + u : Nat) : Int)) = 1 + (u : Int) by omega] at this
    obtain ⟨a, y3, ha, hy3, e3⟩ := drawn (kd := 3) (by decide) (by decide) (n := 1 + u) (by omega) y1 hy1 [some S, some (.ref 1), x2, none, x4, x5, x6, x7] (.rng1 (.int (1 + u))) (.int 3) (fun h => by simp [hro, show (1 + (u : Int)).toNat = 1 + u by omega]) rfl (fun j h => by simp)
    have ei := evL_it (c := ⟨callI pg 59, pg.cs, pg.cl⟩) (ρ := [some S, some (.ref 1), x2, none, x4, x5, x6, x7]) (h0 := HP y0 []) (h1 := HP y1 []) (e := .call f_law_draw (.cons (.var 1) (.cons (.int 3) .nil))) (t := .name 7) (it := .rng1 (.bin .add (.int 1) (.call f_law_draw (.cons (.var 1) (.cons (.int 4) .nil))))) (it' := .rng1 (.int (1 + u))) (cd := .none) (w := (rngD 0 (1 + u), [])) (by simp [draw_HP0 e1, hro, show (1 + (u : Int)).toNat = 1 + u by omega]) (by simp [hro, show (1 + (u : Int)).toNat = 1 + u by omega])
    rw [e3] at ei
    obtain ⟨y4, hy4, e4⟩ := s_law_circled (n := (1 + u) + (1 + u)) (by omega) (by omega) (fun i => if i < 1 + u then a i else a (i - (1 + u))) (fun i => by
      show 0 ≤ if i < 1 + u then a i else a (i - (1 + u))
      split
      · exact (ha _).1
      · exact (ha _).1) y3 hy3 [] 55
    obtain ⟨y5, hy5, e5⟩ := s_law_count y4 hy4 [] 55
    have e6 := s_law_sure 55 (HP y5 [])
    obtain ⟨v2, y6, b0, b1, hy6, e7⟩ := s_draw (m := 13) (by decide) (by decide) y5 hy5
    obtain ⟨p, n, w, y7, ht, _, F, hy7, e8⟩ := ground_HP y6 hy6 true [] 57
    have hn13 := ht.nU
    obtain ⟨y8, hy8, e9⟩ := s_law_likeness F (by omega) y7 hy7 [] 49
    obtain ⟨y9, hy9, e10⟩ := s_law_values F (by omega) y8 hy8 [] 53
    have tw := twice (1 + u) a
    simp at ei e4 e5 e6 e8 e9 e10
    by_cases h6 : v2 = 6
    · subst h6
      refine ⟨[], ?_⟩
      simp [ei, LIM, show 1 + u + (1 + u) ≤ 16777216 by omega, tw, e4, e5, e6, draw_HP0 e7, e8, e9, e10]
      exact tidy_none _ _
    · refine ⟨[], ?_⟩
      simp [ei, LIM, show 1 + u + (1 + u) ≤ 16777216 by omega, tw, e4, e5, e6, draw_HP0 e7, h6]
      exact tidy_none _ _
end K86
end

section
set_option Elab.async false
set_option linter.all false
set_option maxRecDepth 100000
set_option maxHeartbeats 0
open PySem PySem.W PySem.Calls PyProof.Rows
theorem PySem.Challenge.cw_twoforms_k86_whole_circles_holds : PySem.Challenge.rw_twoforms_k86_whole_circles.Holds := by
  w_on; o_law
  refine HandSHeadRun.head_any (r := OpenLaw.row PySem.Challenge.rw_twoforms_k86_whole_circles) (q := view (OpenLaw.row PySem.Challenge.rw_twoforms_k86_whole_circles).prog [K86.lawAt]) (H := K86R.hk) (ob := K86R.ob) (M := 8000) (loose := K86.loose) (d := HandSHeadRun.topDef (OpenLaw.row PySem.Challenge.rw_twoforms_k86_whole_circles).prog K86.lawAt) (kwd := []) K86R.ob_eq
    (by kernel_rfl) (fun s => by kernel_rfl) K86R.run (by kernel_rfl) (by kernel_rfl) (by kernel_rfl) (by rfl) (by first | assumption | decide +kernel) (by decide +kernel) ⟨rfl, rfl, rfl, rfl, rfl, by decide +kernel⟩ ?hw ?hc
  case hw => w_witness2
  case hc =>
    refine L2.walk_ofE (l := PySem.Challenge.rw_twoforms_k86_whole_circles) (n := 63) (k := 62) (x := "script") (CX := L2.CX0) rfl (by decide) (by kernel_rfl) ⟨rfl, by decide, by decide⟩ ?F (fun _ _ _ _ z => z)
    intro w mg fa h Y G hmg0
    obtain ⟨K, KX, c⟩ := Y
    have hmg : mg ("law" : PySem.Str) = some (.ref fa) := by
      have e : (HandSHeadRun.topDef (OpenLaw.row PySem.Challenge.rw_twoforms_k86_whole_circles).prog K86.lawAt).name = ("law" : PySem.Str) := by kernel_rfl
      rw [← e]
      exact hmg0
    have T := Tw.tab_of (P := K86.pg) (G := K86.gi) (txt := K86R.txt) (ct := K86R.cts) KX G c (by decide +kernel) (by decide +kernel) K86R.match_ok (by decide +kernel) (by decide +kernel) (by decide +kernel)
    obtain ⟨fd, sp, hb, hsp, hF⟩ := Tw.law_end (prog := (PySem.Challenge.rw_twoforms_k86_whole_circles).prog) (w := w) (n := 63) (k := 60) (i := K86.f_law) (fn := K86.c_law) (t := K86R.txt.getD K86.f_law ⟨L2.defArgs (.Pass ⟨0, 0, 0, 0⟩), [], L2.defScope (.Pass ⟨0, 0, 0, 0⟩)⟩) (x := "script") T (by rfl) (by rfl) hmg (by rfl) K86.law_true
    exact ⟨K, fd, sp, KX, hb, hsp, fun base _ _ => hF base⟩
end
