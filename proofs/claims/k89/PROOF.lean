import PyProof.Rows.All
import PySem.Str
import HandS.ForMost
import HandS.Conv
import HandS.Zip
import HandS.TupAny
import HandS.DictComp
import HandS.IsInst
import HandS.Flow
import HandS.Style
import HandS.Defaults
import KE.KTupSum
import KE.GoesMore
import KE.GoesEnum
import KE.KStateDown
import HandS.More
import HandS.WordsExc
import HandS.Head0
import HandS.Head1
import HandS.Head2
import HandS.HeadEnd
import HandS.HeadHook1
import HandS.HeadHook2
import PySem.Challenge.RW_twoforms_k89_whole_sums
section
set_option linter.all false
/-! The core language: values, heaps, terms, and what they compute. Own work. -/
namespace Tw
open PySem (Str)

/-- data: tuples are values, and lists that nothing writes (seq); lists, dicts stand in the heap -/
inductive D where
  | non | bl (b : Bool) | int (i : Int) | str (s : Str) | tup (ds : List D) | seq (ds : List D) | ref (n : Nat)
  deriving Inhabited

mutual
def D.beq : D → D → Bool
  | .non, .non => true
  | .bl a, .bl b => a == b
  | .int a, .int b => a == b
  | .str a, .str b => decide (a = b)
  | .tup a, .tup b => D.beqs a b
  | .seq a, .seq b => D.beqs a b
  | .ref a, .ref b => a == b
  | _, _ => false
def D.beqs : List D → List D → Bool
  | [], [] => true
  | a :: as, b :: bs => D.beq a b && D.beqs as bs
  | _, _ => false
end
mutual
theorem D.beq_ok : ∀ a b : D, D.beq a b = true → a = b
  | .non, b, h => by cases b <;> simp [D.beq] at h <;> rfl
  | .bl a, b, h => by cases b <;> simp [D.beq] at h; rw [h]
  | .int a, b, h => by cases b <;> simp [D.beq] at h; rw [h]
  | .str a, b, h => by cases b <;> simp [D.beq] at h; rw [h]
  | .tup a, b, h => by
    cases b <;> simp [D.beq] at h
    rw [D.beqs_ok a _ h]
  | .seq a, b, h => by
    cases b <;> simp [D.beq] at h
    rw [D.beqs_ok a _ h]
  | .ref a, b, h => by cases b <;> simp [D.beq] at h; rw [h]
theorem D.beqs_ok : ∀ a b : List D, D.beqs a b = true → a = b
  | [], b, h => by cases b <;> simp [D.beqs] at h; rfl
  | x :: xs, b, h => by
    cases b with
    | nil => simp [D.beqs] at h
    | cons y ys =>
      simp [D.beqs] at h
      rw [D.beq_ok x y h.1, D.beqs_ok xs ys h.2]
end
mutual
theorem D.beq_self : ∀ a : D, D.beq a a = true
  | .non => rfl
  | .bl a => by simp [D.beq]
  | .int a => by simp [D.beq]
  | .str a => by simp [D.beq]
  | .tup a => by
    simp only [D.beq]
    exact D.beqs_self a
  | .seq a => by
    simp only [D.beq]
    exact D.beqs_self a
  | .ref a => by simp [D.beq]
theorem D.beqs_self : ∀ a : List D, D.beqs a a = true
  | [] => rfl
  | x :: xs => by simp only [D.beqs, D.beq_self x, D.beqs_self xs, Bool.and_self]
end
instance : DecidableEq D := fun a b => if h : D.beq a b = true then isTrue (D.beq_ok a b h) else isFalse fun e => h (e ▸ D.beq_self a)

abbrev Key := Sum Int Str
def kD : Key → D
  | .inl i => .int i
  | .inr s => .str s
def keyOf : D → Option Key
  | .int i => some (.inl i)
  | .str s => some (.inr s)
  | _ => none

/-- what stands in the heap: a list, a dict -/
inductive O where
  | lst (xs : List D) | dct (kvs : List (Key × D))
  deriving DecidableEq, Inhabited
abbrev Heap := List O
abbrev Env := List (Option D)

/-- an answer; an exception (class, fields, heap); no answer -/
inductive R (α : Type) where
  | ok (a : α) | exc (c : Nat) (fs : List D) (h : Heap) | no
def R.bind {α β : Type} : R α → (α → R β) → R β
  | .ok a, f => f a
  | .exc c fs h, _ => .exc c fs h
  | .no, _ => .no
/-- where no exception may be -/
def R.nox {α : Type} : R α → R α
  | .ok a => .ok a
  | _ => .no
/-- an option's value, or no answer -/
def ofO {α β : Type} : Option α → (α → R β) → R β
  | some a, f => f a
  | none, _ => .no
/-- under a condition -/
def chk {β : Type} (b : Bool) (r : R β) : R β := match b with
  | true => r
  | false => .no

inductive BOp where
  | add | sub | mul | mod | fdiv | pow | shl
  deriving DecidableEq
inductive COp where
  | eq | ne | lt | le | gt | ge | is | isnot | isin | notin
  deriving DecidableEq
/-- built-in functions of values -/
inductive Bi where
  | int | abs | min2 | max2 | str | bool
  deriving DecidableEq
/-- built-in functions of one sequence -/
inductive Sq where
  | len | tuple | sum | all | any | max | min
  deriving DecidableEq
/-- types in isinstance -/
inductive Ty where
  | int | bool | str | tuple | list
  deriving DecidableEq

mutual
inductive CE where
  | var (i : Nat) | int (i : Int) | bl (b : Bool) | non | str (s : Str) | cst (i : Nat)
  | bin (op : BOp) (a b : CE)
  | cmp (op : COp) (a b : CE)
  | chain (o1 o2 : COp) (a b c : CE)
  | and (a b : CE) | or (a b : CE) | not (a : CB) | neg (a : CE)
  | ite (c : CB) (a b : CE)
  | idx (a i : CE)
  | slc (a : CE) (lo hi : CO)
  | tup (es : CEs)
  | new (l : CL)
  | dct (ps : CPs)
  | dcomp (k v : CE) (t : CT) (it : CI) (c : CBO)
  | call (f : Nat) (as : CEs)
  | bi (b : Bi) (as : CEs)
  | sq (b : Sq) (s : CI)
  | isin (e : CE) (t : Ty)
  | app (l : CE) (e : CE)
  | ext (l : CE) (s : CL)
/-- an optional part -/
inductive CO where
  | none | some (e : CE)
inductive CEs where
  | nil | cons (e : CE) (es : CEs)
inductive CPs where
  | nil | cons (k v : CE) (ps : CPs)
/-- tests -/
inductive CB where
  | val (e : CE) | and (a b : CB) | or (a b : CB) | not (a : CB) | ite (c a b : CB)
inductive CBO where
  | none | some (e : CB)
/-- what makes a new list -/
inductive CL where
  | comp (e : CE) (t : CT) (it : CI) (c : CBO)
  | disp (es : CEs)
  | rep (es : CEs) (n : CE)
/-- what is walked -/
inductive CI where
  | val (e : CE) | tmp (l : CL)
  | rng1 (a : CE) | rng2 (a b : CE)
  | enum (e : CE) | zip (a b : CE)
/-- targets -/
inductive CT where
  | name (i : Nat) | tup (ts : CTs) | sub (o i : CE)
inductive CTs where
  | nil | cons (t : CT) (ts : CTs)
end

mutual
inductive CS where
  | asg (t : CT) (e : CE)
  | aug (i : Nat) (op : BOp) (e : CE)
  | ex (e : CE)
  | ret (e : CE) | retN
  | ite (c : CB) (a b : CSs)
  | loop (t : CT) (s : CI) (b : CSs)
  | wh (c : CB) (b : CSs)
  | brk | cnt | pass | raise
inductive CSs where
  | nil | cons (s : CS) (r : CSs)
end

inductive Fl where
  | nx | rt (d : D) | bk | ct

/-! ### values -/
def LIM : Nat := 16777216
def nth {α : Type} (xs : List α) (i : Int) : Option α :=
  if 0 ≤ i then xs[i.toNat]? else if -(xs.length : Int) ≤ i then xs[(i + xs.length).toNat]? else none
def nix (n : Nat) (i : Int) : Option Nat :=
  if 0 ≤ i then (if i < n then some i.toNat else none) else if -(n : Int) ≤ i then some (i + n).toNat else none
def sIx (n d : Nat) : Option Int → Nat
  | none => d
  | some i => if i < 0 then (i + n).toNat else min i.toNat n
def cut {α : Type} (xs : List α) (lo hi : Option Int) : List α := (xs.drop (sIx xs.length 0 lo)).take (sIx xs.length xs.length hi - sIx xs.length 0 lo)
def small (i : Int) : Bool := decide (-18446744073709551616 < i) && decide (i < 18446744073709551616)

def opB (op : BOp) (x y : D) (h : Heap) : R (D × Heap) :=
  match op, x, y with
  | .add, .int i, .int j => .ok (.int (i + j), h)
  | .sub, .int i, .int j => .ok (.int (i - j), h)
  | .mul, .int i, .int j => chk (small i || small j) (.ok (.int (i * j), h))
  | .mod, .int i, .int j => chk (decide (0 < j)) (.ok (.int (i % j), h))
  | .fdiv, .int i, .int j => chk (decide (0 < j) && decide (j < 1073741824)) (.ok (.int (i / j), h))
  | .add, .tup a, .tup b => chk (decide (a.length + b.length ≤ LIM)) (.ok (.tup (a ++ b), h))
  | _, _, _ => .no

/-- x op= y, ints alone -/
def opI (op : BOp) (x y : D) (h : Heap) : R (D × Heap) :=
  match op, x, y with
  | .add, .int i, .int j => .ok (.int (i + j), h)
  | .sub, .int i, .int j => .ok (.int (i - j), h)
  | .mul, .int i, .int j => chk (small i || small j) (.ok (.int (i * j), h))
  | _, _, _ => .no
def scal : D → Bool
  | .tup _ => false
  | .seq _ => false
  | .ref _ => false
  | _ => true
def eqs (x y : D) : Option Bool :=
  match x, y with
  | .non, .non => some true
  | .bl a, .bl b => some (decide (a = b))
  | .int a, .int b => some (decide (a = b))
  | .str a, .str b => some (decide (a = b))
  | .bl _, .int _ => none
  | .int _, .bl _ => none
  | .tup _, _ => none
  | .seq _, _ => none
  | .ref _, _ => none
  | _, .tup _ => none
  | _, .seq _ => none
  | _, .ref _ => none
  | _, _ => some false
/-- == of an item and a value, both flat: a bool is a number here -/
def eqf (x y : D) : Bool :=
  match x, y with
  | .non, .non => true
  | .bl a, .bl b => a == b
  | .bl a, .int b => (if a then 1 else 0) == b
  | .int a, .bl b => a == (if b then 1 else 0)
  | .int a, .int b => decide (a = b)
  | .str a, .str b => decide (a = b)
  | _, _ => false
def findV (kvs : List (Key × D)) (k : Key) : Option D := (kvs.find? fun kv => decide (kv.1 = k)).map (·.2)
def putV (kvs : List (Key × D)) (k : Key) (v : D) : List (Key × D) :=
  if (kvs.any fun kv => decide (kv.1 = k)) = true then kvs.map (fun kv => if kv.1 = k then (kv.1, v) else kv) else kvs ++ [(k, v)]

/-- the items of a list that is read -/
def lstAt (h : Heap) (n : Nat) : Option (List D) := match h[n]? with
  | some (.lst xs) => some xs
  | _ => none
def inB (neg : Bool) (x y : D) (h : Heap) : R (D × Heap) :=
  match y with
  | .tup ds => chk (scal x && ds.all scal) (.ok (.bl (neg != ds.any fun z => eqf z x), h))
  | .seq ds => chk (scal x && ds.all scal) (.ok (.bl (neg != ds.any fun z => eqf z x), h))
  | .ref n => match h[n]? with
    | some (.lst ds) => chk (scal x && ds.all scal) (.ok (.bl (neg != ds.any fun z => eqf z x), h))
    | some (.dct kvs) => ofO (keyOf x) fun k => .ok (.bl (neg != (findV kvs k).isSome), h)
    | none => .no
  | _ => .no
def opC (op : COp) (x y : D) (h : Heap) : R (D × Heap) :=
  match op with
  | .eq => ofO (eqs x y) fun b => .ok (.bl b, h)
  | .ne => ofO (eqs x y) fun b => .ok (.bl (!b), h)
  | .lt => match x, y with
    | .int i, .int j => .ok (.bl (decide (i < j)), h)
    | _, _ => .no
  | .le => match x, y with
    | .int i, .int j => .ok (.bl (decide (i ≤ j)), h)
    | _, _ => .no
  | .gt => match x, y with
    | .int i, .int j => .ok (.bl (decide (j < i)), h)
    | _, _ => .no
  | .ge => match x, y with
    | .int i, .int j => .ok (.bl (decide (j ≤ i)), h)
    | _, _ => .no
  | .is => match y with
    | .non => .ok (.bl (decide (x = .non)), h)
    | _ => .no
  | .isnot => match y with
    | .non => .ok (.bl (!decide (x = .non)), h)
    | _ => .no
  | .isin => inB false x y h
  | .notin => inB true x y h

def truth (d : D) (h : Heap) : Option Bool :=
  match d with
  | .non => some false
  | .bl b => some b
  | .int i => some (decide (i ≠ 0))
  | .str _ => none
  | .tup ds => some (!ds.isEmpty)
  | .seq ds => some (!ds.isEmpty)
  | .ref n => match h[n]? with
    | some (.lst xs) => some (!xs.isEmpty)
    | some (.dct kvs) => some (!kvs.isEmpty)
    | none => none

def idxV (x i : D) (h : Heap) : R (D × Heap) :=
  match x with
  | .tup ds => match i with
    | .int i => ofO (nth ds i) fun d => .ok (d, h)
    | _ => .no
  | .seq ds => match i with
    | .int i => ofO (nth ds i) fun d => .ok (d, h)
    | _ => .no
  | .ref n => match h[n]? with
    | some (.lst xs) => (match i with
      | .int i => ofO (nth xs i) fun d => .ok (d, h)
      | _ => .no)
    | some (.dct kvs) => ofO (keyOf i) fun k => ofO (findV kvs k) fun d => .ok (d, h)
    | none => .no
  | _ => .no
def storeV (o i v : D) (h : Heap) : R Heap :=
  match o with
  | .ref n => match h[n]? with
    | some (.lst xs) => (match i with
      | .int i => ofO (nix xs.length i) fun j => .ok (h.set n (.lst (xs.set j v)))
      | _ => .no)
    | some (.dct kvs) => ofO (keyOf i) fun k => chk (decide (kvs.length < LIM)) (.ok (h.set n (.dct (putV kvs k v))))
    | _ => .no
  | _ => .no
def slcV (x : D) (lo hi : Option Int) (h : Heap) : R (D × Heap) :=
  match x with
  | .tup ds => .ok (.tup (cut ds lo hi), h)
  | .ref n => match h[n]? with
    | some (.lst xs) => .ok (.ref h.length, h ++ [.lst (cut xs lo hi)])
    | _ => .no
  | _ => .no
def partV : Option D → R (Option Int)
  | none => .ok none
  | some (.int i) => .ok (some i)
  | some _ => .no

def intsOf : List D → Option (List Int)
  | [] => some []
  | .int i :: ds => (intsOf ds).map (i :: ·)
  | _ => none
def boolsOf : List D → Option (List Bool)
  | [] => some []
  | .bl i :: ds => (boolsOf ds).map (i :: ·)
  | _ => none
def strsOf : List D → Option (List Str)
  | [] => some []
  | .str i :: ds => (strsOf ds).map (i :: ·)
  | _ => none
def maxL : List Int → Option Int
  | [] => none
  | x :: xs => some (xs.foldl (fun a b => if b > a then b else a) x)
def minL : List Int → Option Int
  | [] => none
  | x :: xs => some (xs.foldl (fun a b => if b < a then b else a) x)
def biV (b : Bi) (vs : List D) (h : Heap) : R (D × Heap) :=
  match b, vs with
  | .int, [.int i] => .ok (.int i, h)
  | .int, [.bl b] => .ok (.int (if b then 1 else 0), h)
  | .abs, [.int i] => .ok (.int (if i < 0 then -i else i), h)
  | .min2, [.int i, .int j] => .ok (.int (if j < i then j else i), h)
  | .max2, [.int i, .int j] => .ok (.int (if j > i then j else i), h)
  | _, _ => .no
/-- len of a dict is here too -/
def sqV (b : Sq) (ds : List D) (h : Heap) : R (D × Heap) :=
  match b with
  | .len => .ok (.int ds.length, h)
  | .tuple => .ok (.tup ds, h)
  | .sum => ofO (intsOf ds) fun is => .ok (.int is.sum, h)
  | _ => .no
def isTy (t : Ty) (x : D) (h : Heap) : Option Bool :=
  match x with
  | .ref n => match h[n]? with
    | some (.lst _) => some (decide (t = .list))
    | _ => none
  | .non => some false
  | .bl _ => some (decide (t = .int) || decide (t = .bool))
  | .int _ => some (decide (t = .int))
  | .str _ => some (decide (t = .str))
  | .tup _ => some (decide (t = .tuple))
  | .seq _ => some (decide (t = .list))

/-! ### loops -/
/-- the lists that are walked stand as they were -/
def guards (g : List (Nat × O)) (h : Heap) : Bool := g.all fun p => decide (h[p.1]? = some p.2)
abbrev Walk := List D × List (Nat × O)
/-- a comprehension's items -/
def mapL {β : Type} (g : List (Nat × O)) (f : D → Heap → R (Option β × Heap)) : List D → Heap → R (List β × Heap)
  | [], h => chk (guards g h) (.ok ([], h))
  | x :: xs, h => chk (guards g h) ((f x h).nox.bind fun p => (mapL g f xs p.2).bind fun q => .ok ((match p.1 with
    | some y => y :: q.1
    | none => q.1), q.2))
/-- a dict comprehension's pairs -/
def dputM (acc : List (Key × D)) (k v : D) : Option (List (Key × D)) := (keyOf k).map fun k => putV acc k v
def mapD (g : List (Nat × O)) (f : D → Heap → R (Option (D × D) × Heap)) : List D → List (Key × D) → Heap → R (List (Key × D) × Heap)
  | [], acc, h => chk (guards g h) (.ok (acc, h))
  | x :: xs, acc, h => chk (guards g h) ((f x h).nox.bind fun p => match p.1 with
    | some y => chk (decide (acc.length < LIM)) (ofO (dputM acc y.1 y.2) fun acc => mapD g f xs acc p.2)
    | none => mapD g f xs acc p.2)
abbrev St := Fl × Env × Heap
def forL (g : List (Nat × O)) (f : D → Env → Heap → R St) : List D → Env → Heap → R St
  | [], ρ, h => chk (guards g h) (.ok (.nx, ρ, h))
  | x :: xs, ρ, h => chk (guards g h) ((f x ρ h).bind fun s => match s.1 with
    | .nx => forL g f xs s.2.1 s.2.2
    | .ct => forL g f xs s.2.1 s.2.2
    | .bk => .ok (.nx, s.2.1, s.2.2)
    | .rt d => .ok (.rt d, s.2.1, s.2.2))
def whL (c : Env → Heap → R (Bool × Heap)) (f : Env → Heap → R St) : Nat → Env → Heap → R St
  | 0, _, _ => .no
  | n + 1, ρ, h => (c ρ h).bind fun p => match p.1 with
    | false => .ok (.nx, ρ, p.2)
    | true => (f ρ p.2).bind fun s => match s.1 with
      | .nx => whL c f n s.2.1 s.2.2
      | .ct => whL c f n s.2.1 s.2.2
      | .bk => .ok (.nx, s.2.1, s.2.2)
      | .rt d => .ok (.rt d, s.2.1, s.2.2)
/-- more turns than any while of the programs takes -/
def FUEL : Nat := 1000000

/-! ### evaluation -/
abbrev Tbl := Nat → List D → Heap → R (D × Heap)
structure Ctx where
  T : Tbl
  cs : List D

mutual
def CT.slots : CT → List Nat
  | .name i => [i]
  | .tup ts => ts.slots
  | .sub _ _ => []
def CTs.slots : CTs → List Nat
  | .nil => []
  | .cons t ts => t.slots ++ ts.slots
end
def wipeE (ρ : Env) : List Nat → Env
  | [] => ρ
  | v :: vs => (wipeE ρ vs).set v none
def zipD : List D → List D → List D
  | x :: xs, y :: ys => .tup [x, y] :: zipD xs ys
  | _, _ => []
def enumD : Nat → List D → List D
  | _, [] => []
  | n, x :: xs => .tup [.int n, x] :: enumD (n + 1) xs
def rngD (lo : Int) : Nat → List D
  | 0 => []
  | n + 1 => .int lo :: rngD (lo + 1) n
def seqOf (d : D) (h : Heap) : Option Walk := match d with
  | .tup ds => some (ds, [])
  | .seq ds => some (ds, [])
  | .ref n => match h[n]? with
    | some (.lst xs) => some (xs, [(n, .lst xs)])
    | _ => none
  | _ => none
def isTup : D → Bool
  | .tup _ => true
  | _ => false
def rngOk (i : Int) : Bool := decide (-4611686018427387904 ≤ i) && decide (i < 4611686018427387904)
def isLst (d : D) (h : Heap) : Bool := match d with
  | .ref n => match h[n]? with
    | some (.lst _) => true
    | _ => false
  | _ => false
def appV (l v : D) (h : Heap) : R (D × Heap) := match l with
  | .ref n => match h[n]? with
    | some (.lst xs) => chk (decide (xs.length < LIM)) (.ok (.non, h.set n (.lst (xs ++ [v]))))
    | _ => .no
  | _ => .no
def extV (l : D) (vs : List D) (h : Heap) : R (D × Heap) := match l with
  | .ref n => match h[n]? with
    | some (.lst xs) => chk (decide (xs.length + vs.length ≤ LIM)) (.ok (.non, h.set n (.lst (xs ++ vs))))
    | _ => .no
  | _ => .no
def dbuild : List (D × D) → List (Key × D) → R (List (Key × D))
  | [], acc => .ok acc
  | (k, v) :: r, acc => chk (decide (acc.length < LIM)) (ofO (dputM acc k v) fun acc => dbuild r acc)

mutual
def ev (c : Ctx) : CE → Env → Heap → R (D × Heap)
  | .var i, ρ, h => (match ρ[i]? with
    | some (some d) => .ok (d, h)
    | _ => .no)
  | .int i, _, h => .ok (.int i, h)
  | .bl b, _, h => .ok (.bl b, h)
  | .non, _, h => .ok (.non, h)
  | .str s, _, h => .ok (.str s, h)
  | .cst i, _, h => ofO c.cs[i]? fun d => .ok (d, h)
  | .bin op a b, ρ, h => (ev c a ρ h).bind fun x => (ev c b ρ x.2).bind fun y => opB op x.1 y.1 y.2
  | .cmp op a b, ρ, h => (ev c a ρ h).bind fun x => (ev c b ρ x.2).bind fun y => opC op x.1 y.1 y.2
  | .chain o1 o2 a b d, ρ, h => (ev c a ρ h).bind fun x => (ev c b ρ x.2).bind fun y => (opC o1 x.1 y.1 y.2).bind fun z =>
    match z.1 with
    | .bl false => .ok (.bl false, z.2)
    | .bl true => (ev c d ρ z.2).bind fun w => opC o2 y.1 w.1 w.2
    | _ => .no
  | .and a b, ρ, h => (ev c a ρ h).bind fun x => ofO (truth x.1 x.2) fun t => match t with
    | true => ev c b ρ x.2
    | false => .ok x
  | .or a b, ρ, h => (ev c a ρ h).bind fun x => ofO (truth x.1 x.2) fun t => match t with
    | true => .ok x
    | false => ev c b ρ x.2
  | .not a, ρ, h => (tv c a ρ h).bind fun x => .ok (.bl (!x.1), x.2)
  | .neg a, ρ, h => (ev c a ρ h).bind fun x => match x.1 with
    | .int i => .ok (.int (-i), x.2)
    | _ => .no
  | .ite t a b, ρ, h => (tv c t ρ h).bind fun x => match x.1 with
    | true => ev c a ρ x.2
    | false => ev c b ρ x.2
  | .idx a i, ρ, h => (ev c a ρ h).bind fun x => (ev c i ρ x.2).bind fun y => idxV x.1 y.1 y.2
  | .slc a lo hi, ρ, h => (ev c a ρ h).bind fun x => (evO c lo ρ x.2).bind fun l => (evO c hi ρ l.2).bind fun u => slcV x.1 l.1 u.1 u.2
  | .tup es, ρ, h => (evs c es ρ h).bind fun x => chk (decide (x.1.length ≤ LIM)) (.ok (.tup x.1, x.2))
  | .new l, ρ, h => (evL c l ρ h).bind fun x => .ok (.ref x.2.length, x.2 ++ [.lst x.1])
  | .dct ps, ρ, h => (evP c ps ρ h).bind fun x => (dbuild x.1 []).bind fun kvs => .ok (.ref x.2.length, x.2 ++ [.dct kvs])
  | .dcomp k v t it cd, ρ, h => (evI c it ρ h).bind fun w =>
    ((mapD w.1.2 (fun x h => (asg c t x (wipeE ρ t.slots) h).bind fun s => (tvO c cd s.1 s.2).bind fun b => match b.1 with
      | true => (ev c k s.1 b.2).bind fun y => (ev c v s.1 y.2).bind fun z => .ok (some (y.1, z.1), z.2)
      | false => .ok (none, b.2)) w.1.1 [] w.2).bind fun x => .ok (.ref x.2.length, x.2 ++ [.dct x.1]))
  | .call f as, ρ, h => (evs c as ρ h).bind fun x => c.T f x.1 x.2
  | .bi b as, ρ, h => (evs c as ρ h).bind fun x => biV b x.1 x.2
  | .sq b s, ρ, h => (evQ c s ρ h).bind fun x => sqV b x.1 x.2
  | .isin e t, ρ, h => (ev c e ρ h).bind fun x => ofO (isTy t x.1 x.2) fun b => .ok (.bl b, x.2)
  | .app l e, ρ, h => (ev c l ρ h).bind fun x => chk (isLst x.1 x.2) ((ev c e ρ x.2).bind fun y => appV x.1 y.1 y.2)
  | .ext l s, ρ, h => (ev c l ρ h).bind fun x => chk (isLst x.1 x.2) ((evL c s ρ x.2).bind fun y => extV x.1 y.1 y.2)
/-- a test -/
def tv (c : Ctx) : CB → Env → Heap → R (Bool × Heap)
  | .and a b, ρ, h => (tv c a ρ h).bind fun x => match x.1 with
    | true => tv c b ρ x.2
    | false => .ok (false, x.2)
  | .or a b, ρ, h => (tv c a ρ h).bind fun x => match x.1 with
    | true => .ok (true, x.2)
    | false => tv c b ρ x.2
  | .not a, ρ, h => (tv c a ρ h).bind fun x => .ok (!x.1, x.2)
  | .ite t a b, ρ, h => (tv c t ρ h).bind fun x => match x.1 with
    | true => tv c a ρ x.2
    | false => tv c b ρ x.2
  | .val e, ρ, h => (ev c e ρ h).bind fun x => ofO (truth x.1 x.2) fun b => .ok (b, x.2)
def tvO (c : Ctx) : CBO → Env → Heap → R (Bool × Heap)
  | .none, _, h => .ok (true, h)
  | .some e, ρ, h => tv c e ρ h
def evO (c : Ctx) : CO → Env → Heap → R (Option Int × Heap)
  | .none, _, h => .ok (none, h)
  | .some e, ρ, h => (ev c e ρ h).bind fun x => match x.1 with
    | .int i => .ok (some i, x.2)
    | _ => .no
def evs (c : Ctx) : CEs → Env → Heap → R (List D × Heap)
  | .nil, _, h => .ok ([], h)
  | .cons e es, ρ, h => (ev c e ρ h).bind fun x => (evs c es ρ x.2).bind fun y => .ok (x.1 :: y.1, y.2)
def evP (c : Ctx) : CPs → Env → Heap → R (List (D × D) × Heap)
  | .nil, _, h => .ok ([], h)
  | .cons k v ps, ρ, h => (ev c k ρ h).bind fun x => (ev c v ρ x.2).bind fun y => (evP c ps ρ y.2).bind fun z => .ok ((x.1, y.1) :: z.1, z.2)
/-- a new list's items -/
def evL (c : Ctx) : CL → Env → Heap → R (List D × Heap)
  | .comp e t it cd, ρ, h => (evI c it ρ h).bind fun w => chk (decide (w.1.1.length < LIM))
    (mapL w.1.2 (fun x h => (asg c t x (wipeE ρ t.slots) h).bind fun s => (tvO c cd s.1 s.2).bind fun b => match b.1 with
      | true => (ev c e s.1 b.2).bind fun y => .ok (some y.1, y.2)
      | false => .ok (none, b.2)) w.1.1 w.2)
  | .disp es, ρ, h => (evs c es ρ h).bind fun x => chk (decide (x.1.length ≤ LIM)) (.ok x)
  | .rep es n, ρ, h => (evs c es ρ h).bind fun x => chk (decide (x.1.length ≤ LIM)) ((ev c n ρ x.2).bind fun y => match y.1 with
    | .int k => chk (rngOk k && decide (x.1.length * k.toNat ≤ LIM)) (.ok ((List.replicate k.toNat x.1).flatten, y.2))
    | _ => .no)
/-- what is walked: its items, the lists that must stand -/
def evI (c : Ctx) : CI → Env → Heap → R (Walk × Heap)
  | .val e, ρ, h => (ev c e ρ h).bind fun x => ofO (seqOf x.1 x.2) fun w => .ok (w, x.2)
  | .tmp l, ρ, h => (evL c l ρ h).bind fun x => .ok ((x.1, []), x.2)
  | .rng1 a, ρ, h => (ev c a ρ h).bind fun x => match x.1 with
    | .int j => chk (rngOk j) (.ok ((rngD 0 j.toNat, []), x.2))
    | _ => .no
  | .rng2 a b, ρ, h => (ev c a ρ h).bind fun x => (ev c b ρ x.2).bind fun y => match x.1, y.1 with
    | .int i, .int j => chk (rngOk i && rngOk j) (.ok ((rngD i (j - i).toNat, []), y.2))
    | _, _ => .no
  | .enum e, ρ, h => (ev c e ρ h).bind fun x => ofO (seqOf x.1 x.2) fun w => .ok ((enumD 0 w.1, w.2), x.2)
  | .zip a b, ρ, h => (ev c a ρ h).bind fun x => (ev c b ρ x.2).bind fun y => ofO (seqOf x.1 y.2) fun w => ofO (seqOf y.1 y.2) fun w' => chk (decide (isTup x.1 = isTup y.1)) (.ok ((zipD w.1 w'.1, w.2 ++ w'.2), y.2))
/-- the items of a sequence that a built-in takes -/
def evQ (c : Ctx) : CI → Env → Heap → R (List D × Heap)
  | .val e, ρ, h => (ev c e ρ h).bind fun x => ofO (seqOf x.1 x.2) fun w => .ok (w.1, x.2)
  | .tmp l, ρ, h => evL c l ρ h
  | _, _, _ => .no
def asg (c : Ctx) : CT → D → Env → Heap → R (Env × Heap)
  | .name i, d, ρ, h => .ok (ρ.set i (some d), h)
  | .tup ts, d, ρ, h => (match d with
    | .tup ds => asgs c ts ds ρ h
    | _ => .no)
  | .sub o i, d, ρ, h => (ev c o ρ h).bind fun x => (ev c i ρ x.2).bind fun y => (storeV x.1 y.1 d y.2).bind fun h => .ok (ρ, h)
def asgs (c : Ctx) : CTs → List D → Env → Heap → R (Env × Heap)
  | .nil, ds, ρ, h => (match ds with
    | [] => .ok (ρ, h)
    | _ => .no)
  | .cons t ts, ds, ρ, h => (match ds with
    | [] => .no
    | d :: ds => (asg c t d ρ h).bind fun s => asgs c ts ds s.1 s.2)
end

mutual
def exec (c : Ctx) : CS → Env → Heap → R St
  | .asg t e, ρ, h => (ev c e ρ h).bind fun x => (asg c t x.1 ρ x.2).bind fun s => .ok (.nx, s.1, s.2)
  | .aug i op e, ρ, h => (match ρ[i]? with
    | some (some d) => (ev c e ρ h).bind fun x => (opI op d x.1 x.2).bind fun y => .ok (.nx, ρ.set i (some y.1), y.2)
    | _ => .no)
  | .ex e, ρ, h => (ev c e ρ h).bind fun x => .ok (.nx, ρ, x.2)
  | .ret e, ρ, h => (ev c e ρ h).bind fun x => .ok (.rt x.1, ρ, x.2)
  | .retN, ρ, h => .ok (.rt .non, ρ, h)
  | .ite t a b, ρ, h => (tv c t ρ h).bind fun x => match x.1 with
    | true => execs c a ρ x.2
    | false => execs c b ρ x.2
  | .loop t s b, ρ, h => (evI c s ρ h).bind fun w => forL w.1.2 (fun x ρ h => (asg c t x ρ h).bind fun s => execs c b s.1 s.2) w.1.1 ρ w.2
  | .wh t b, ρ, h => whL (tv c t) (execs c b) FUEL ρ h
  | .brk, ρ, h => .ok (.bk, ρ, h)
  | .cnt, ρ, h => .ok (.ct, ρ, h)
  | .pass, ρ, h => .ok (.nx, ρ, h)
  | .raise, _, _ => .no
def execs (c : Ctx) : CSs → Env → Heap → R St
  | .nil, ρ, h => .ok (.nx, ρ, h)
  | .cons s r, ρ, h => (exec c s ρ h).bind fun x => match x.1 with
    | .nx => execs c r x.2.1 x.2.2
    | _ => .ok x
end

/-! ### functions -/
structure Fn where
  name : Str
  ps : List Str
  N : List Str
  body : CSs
structure Pg where
  fns : List Fn
  cs : List D

/-- the module's names: functions with their numbers of parameters, constants, the built-ins' names that nothing hides -/
structure GI where
  fns : List (Str × Nat)
  cs : List Str
  bl : List Str
mutual
def D.low (n : Nat) : D → Bool
  | .ref m => decide (m < n)
  | .tup ds => D.lows n ds
  | .seq ds => D.lows n ds
  | _ => true
def D.lows (n : Nat) : List D → Bool
  | [] => true
  | d :: ds => d.low n && D.lows n ds
end
def O.low (n : Nat) : O → Bool
  | .lst xs => D.lows n xs
  | .dct kvs => D.lows n (kvs.map (·.2))
/-- what was made in a call and is not handed out is forgotten -/
def tidy (h : Heap) (r : D × Heap) : D × Heap :=
  if r.1.low h.length = true ∧ h.length ≤ r.2.length ∧ ∀ i, i < h.length → r.2[i]? = h[i]? ∨ (∃ o, r.2[i]? = some o ∧ o.low h.length = true) then (r.1, r.2.take h.length) else r
def startE (n : Nat) (ds : List D) : Env := ds.map some ++ List.replicate (n - ds.length) none
def fin (h : Heap) (s : St) : R (D × Heap) := match s.1 with
  | .rt d => .ok (tidy h (d, s.2.2))
  | .nx => .ok (tidy h (.non, s.2.2))
  | _ => .no
def callI (P : Pg) : Nat → Tbl
  | 0, _, _, _ => .no
  | k + 1, f, ds, h => ofO P.fns[f]? fun fn => chk (decide (ds.length = fn.ps.length)) ((execs ⟨callI P k, P.cs⟩ fn.body (startE fn.N.length ds) h).bind (fin h))
theorem callI_eq {P : Pg} {k i : Nat} {fn : Fn} {ds : List D} {h : Heap} (hi : P.fns[i]? = some fn) (hl : ds.length = fn.ps.length) : callI P (k + 1) i ds h = (execs ⟨callI P k, P.cs⟩ fn.body (startE fn.N.length ds) h).bind (fin h) := by
  show ofO P.fns[i]? _ = _
  rw [hi]
  show chk (decide (ds.length = fn.ps.length)) _ = _
  rw [decide_eq_true hl]
  rfl
end Tw
end

section
set_option Elab.async false
set_option linter.all false
set_option maxRecDepth 100000
set_option maxHeartbeats 4000000
/-! What the machine's values and heaps have to do with data and heaps of the core language. Own work. -/
namespace Tw
open PySem PySem.Spec PyProof.Rows L2

abbrev Frg := PySem.W.Frag
/-- a list that nothing writes: locked, or of the module -/
def SqF (K : Frg) (H : Hp) (a : Addr) (xs : List V) : Prop :=
  (∃ o, H a = some (.frz o (.lst xs))) ∨
    ∃ (o : Obj) (its : Array Value) (n : Nat), K.lookup a = some o ∧ o.cls = .type "list" ∧ o.dict = none ∧ o.data = .seq its n ∧ its.size ≤ sizeLine ∧ Vals xs its.toList
theorem SqF.sq {K : Frg} {H : Hp} {a : Addr} {xs : List V} (h : SqF K H a xs) : SqL K H a xs := by
  rcases h with ⟨o, h⟩ | h
  · exact .inl (.inr ⟨o, h⟩)
  · exact .inr h

mutual
def Rep (K : Frg) (H : Hp) (ι : List Addr) : D → V → Prop
  | .non, v => v = .non
  | .bl b, v => v = .bl b
  | .int i, v => v = .int i
  | .str s, v => v = .str s
  | .tup ds, v => ∃ a vs, v = .ref a ∧ SqT K H a vs ∧ Reps K H ι ds vs
  | .seq ds, v => ∃ a vs, v = .ref a ∧ SqF K H a vs ∧ Reps K H ι ds vs
  | .ref n, v => ∃ a, v = .ref a ∧ ι[n]? = some a
def Reps (K : Frg) (H : Hp) (ι : List Addr) : List D → List V → Prop
  | [], vs => vs = []
  | d :: ds, vs => ∃ v r, vs = v :: r ∧ Rep K H ι d v ∧ Reps K H ι ds r
end
/-- a dict's pairs -/
def RepK (K : Frg) (H : Hp) (ι : List Addr) (kvs : List (Key × D)) (ws : List (L2.Key × V)) : Prop :=
  kvs.map (·.1) = ws.map (·.1) ∧ Reps K H ι (kvs.map (·.2)) (ws.map (·.2))
def OOk (K : Frg) (H : Hp) (ι : List Addr) (a : Addr) : O → Prop
  | .lst xs => ∃ vs, H a = some (.lst vs) ∧ Reps K H ι xs vs
  | .dct kvs => ∃ ws, H a = some (.dK ws) ∧ RepK K H ι kvs ws
structure HpRep (K : Frg) (H : Hp) (ι : List Addr) (hp : Heap) : Prop where
  len : ι.length = hp.length
  nd : ι.Nodup
  ok : ∀ (n : Nat) (o : O) (a : Addr), hp[n]? = some o → ι[n]? = some a → OOk K H ι a o
def SRep (K : Frg) (H : Hp) (ι : List Addr) (σ : L2.St) (ρ : Env) : Prop :=
  σ.length = ρ.length ∧ ∀ (i : Nat) (d : D), ρ[i]? = some (some d) → ∃ v, σ[i]? = some (some v) ∧ Rep K H ι d v
/-- from one state to a later one -/
structure Step (ι : List Addr) (H : Hp) (ι' : List Addr) (H' : Hp) : Prop where
  pre : ∃ κ, ι' = ι ++ κ
  new : ∀ a ∈ ι', a ∈ ι ∨ H a = none
  kp : ∀ a o, H a = some o → a ∉ ι → H' a = some o

theorem Step.refl {ι : List Addr} {H : Hp} : Step ι H ι H := ⟨⟨[], by simp⟩, fun a h => .inl h, fun a o h _ => h⟩
theorem Step.trans {ι ι1 ι2 : List Addr} {H H1 H2 : Hp} (a : Step ι H ι1 H1) (b : Step ι1 H1 ι2 H2) : Step ι H ι2 H2 := by
  refine ⟨?_, fun x hx => ?_, fun x o h n => ?_⟩
  · obtain ⟨κ, e⟩ := a.pre
    obtain ⟨μ, e'⟩ := b.pre
    exact ⟨κ ++ μ, by rw [e', e, List.append_assoc]⟩
  · rcases b.new x hx with h | h
    · exact a.new x h
    · by_cases hm : x ∈ ι
      · exact .inl hm
      · refine .inr ?_
        cases q : H x with
        | none => rfl
        | some o => rw [a.kp x o q hm] at h; cases h
  · refine b.kp x o (a.kp x o h n) fun hx => ?_
    rcases a.new x hx with z | z
    · exact n z
    · rw [z] at h; cases h

section
variable {K : Frg} {H H' : Hp} {ι ι' : List Addr} {hp hp' : Heap}
theorem HpRep.mut (h : HpRep K H ι hp) {a : Addr} (ha : a ∈ ι) : (∃ vs, H a = some (.lst vs)) ∨ ∃ ws, H a = some (.dK ws) := by
  obtain ⟨n, hn, e⟩ := List.getElem_of_mem ha
  have hl : n < hp.length := h.len ▸ hn
  have q := h.ok n hp[n] a (by simp [hl]) (by simp [hn, e])
  cases ho : hp[n] with
  | lst xs => rw [ho] at q; obtain ⟨vs, q, _⟩ := q; exact .inl ⟨vs, q⟩
  | dct kvs => rw [ho] at q; obtain ⟨ws, q, _⟩ := q; exact .inr ⟨ws, q⟩
theorem HpRep.sqT (h : HpRep K H ι hp) (s : Step ι H ι' H') {a : Addr} {xs : List V} (t : SqT K H a xs) : SqT K H' a xs := by
  have nm : ∀ u, H a = some u → (∀ vs, u ≠ .lst vs) → (∀ ws, u ≠ .dK ws) → H' a = some u := fun u e n1 n2 => s.kp a u e fun hm => by
    rcases h.mut hm with ⟨vs, q⟩ | ⟨ws, q⟩
    · rw [e] at q; exact n1 vs (Option.some.inj q)
    · rw [e] at q; exact n2 ws (Option.some.inj q)
  rcases t with (t | ⟨o, t⟩) | t
  · exact .inl (.inl (nm _ t (fun _ z => nomatch z) fun _ z => nomatch z))
  · exact .inl (.inr ⟨o, nm _ t (fun _ z => nomatch z) fun _ z => nomatch z⟩)
  · exact .inr t
theorem HpRep.sqF (h : HpRep K H ι hp) (s : Step ι H ι' H') {a : Addr} {xs : List V} (t : SqF K H a xs) : SqF K H' a xs := by
  rcases t with ⟨o, t⟩ | t
  · refine .inl ⟨o, s.kp a _ t fun hm => ?_⟩
    rcases h.mut hm with ⟨vs, q⟩ | ⟨ws, q⟩ <;> (rw [t] at q; cases q)
  · exact .inr t
mutual
theorem HpRep.rep (h : HpRep K H ι hp) (s : Step ι H ι' H') : ∀ (d : D) (v : V), Rep K H ι d v → Rep K H' ι' d v
  | .non, v, r => r
  | .bl b, v, r => r
  | .int i, v, r => r
  | .str x, v, r => r
  | .tup ds, v, r => by
    obtain ⟨a, vs, e, q, r⟩ := r
    exact ⟨a, vs, e, h.sqT s q, HpRep.reps h s ds vs r⟩
  | .seq ds, v, r => by
    obtain ⟨a, vs, e, q, r⟩ := r
    exact ⟨a, vs, e, h.sqF s q, HpRep.reps h s ds vs r⟩
  | .ref n, v, r => by
    obtain ⟨a, e, q⟩ := r
    obtain ⟨κ, z⟩ := s.pre
    refine ⟨a, e, ?_⟩
    rw [z, List.getElem?_append_left (List.getElem?_eq_some_iff.mp q).1]
    exact q
theorem HpRep.reps (h : HpRep K H ι hp) (s : Step ι H ι' H') : ∀ (ds : List D) (vs : List V), Reps K H ι ds vs → Reps K H' ι' ds vs
  | [], vs, r => r
  | d :: ds, vs, r => by
    obtain ⟨v, w, e, r1, r2⟩ := r
    exact ⟨v, w, e, HpRep.rep h s d v r1, HpRep.reps h s ds w r2⟩
end
theorem HpRep.srep (h : HpRep K H ι hp) (s : Step ι H ι' H') {σ : L2.St} {ρ : Env} (r : SRep K H ι σ ρ) : SRep K H' ι' σ ρ :=
  ⟨r.1, fun i d e => let ⟨v, q, z⟩ := r.2 i d e; ⟨v, q, h.rep s d v z⟩⟩
theorem Reps.length : ∀ {ds : List D} {vs : List V}, Reps K H ι ds vs → ds.length = vs.length
  | [], vs, e => by
    have e' : vs = [] := e
    rw [e']
    rfl
  | d :: ds, _, ⟨v, r, e, _, q⟩ => by rw [e, List.length_cons, List.length_cons, Reps.length q]
theorem Reps.get : ∀ {ds : List D} {vs : List V} {i : Nat} {d : D}, Reps K H ι ds vs → ds[i]? = some d → ∃ v, vs[i]? = some v ∧ Rep K H ι d v
  | [], _, _, _, _, e => by simp at e
  | d :: ds, _, 0, _, ⟨v, r, rfl, q, _⟩, e => by simp at e; subst e; exact ⟨v, rfl, q⟩
  | d :: ds, _, i + 1, x, ⟨v, r, rfl, _, q⟩, e => by
    obtain ⟨v, h1, h2⟩ := Reps.get (i := i) q (by simpa using e)
    exact ⟨v, by simpa using h1, h2⟩
theorem Reps.getV : ∀ {ds : List D} {vs : List V} {i : Nat} {v : V}, Reps K H ι ds vs → vs[i]? = some v → ∃ d, ds[i]? = some d ∧ Rep K H ι d v
  | [], _, _, _, e, h => by rw [show _ = [] from e] at h; simp at h
  | d :: ds, _, 0, _, ⟨v, r, rfl, q, _⟩, e => by simp at e; subst e; exact ⟨d, rfl, q⟩
  | d :: ds, _, i + 1, x, ⟨v, r, rfl, _, q⟩, e => by
    obtain ⟨v, h1, h2⟩ := Reps.getV (i := i) q (by simpa using e)
    exact ⟨v, by simpa using h1, h2⟩
theorem Reps.append : ∀ {ds es : List D} {vs ws : List V}, Reps K H ι ds vs → Reps K H ι es ws → Reps K H ι (ds ++ es) (vs ++ ws)
  | [], _, _, _, e, q => by rw [show _ = [] from e]; exact q
  | d :: ds, _, _, _, ⟨v, r, e, h1, h2⟩, q => by
    subst e
    exact ⟨v, r ++ _, rfl, h1, Reps.append h2 q⟩
theorem Reps.one {d : D} {v : V} (h : Rep K H ι d v) : Reps K H ι [d] [v] := ⟨v, [], rfl, h, rfl⟩
theorem Reps.two {d e : D} {v w : V} (h : Rep K H ι d v) (h' : Rep K H ι e w) : Reps K H ι [d, e] [v, w] := ⟨v, [w], rfl, h, Reps.one h'⟩
theorem Reps.nil : Reps K H ι [] [] := rfl
theorem Reps.set : ∀ {ds : List D} {vs : List V} {d : D} {v : V} (i : Nat), Reps K H ι ds vs → Rep K H ι d v → Reps K H ι (ds.set i d) (vs.set i v)
  | [], _, _, _, i, e, q => by rw [show _ = [] from e]; exact rfl
  | _ :: ds, _, _, _, 0, ⟨v, r, rfl, _, h2⟩, q => ⟨_, _, rfl, q, h2⟩
  | _ :: ds, _, _, _, i + 1, ⟨v, r, rfl, h1, h2⟩, q => ⟨_, _, rfl, h1, Reps.set i h2 q⟩
theorem Reps.take : ∀ {ds : List D} {vs : List V} (n : Nat), Reps K H ι ds vs → Reps K H ι (ds.take n) (vs.take n)
  | _, _, 0, _ => by rw [List.take_zero, List.take_zero]; exact rfl
  | [], _, n + 1, e => by rw [show _ = [] from e]; exact rfl
  | _ :: ds, _, n + 1, ⟨v, r, rfl, h1, h2⟩ => ⟨_, _, rfl, h1, Reps.take n h2⟩
theorem Reps.drop : ∀ {ds : List D} {vs : List V} (n : Nat), Reps K H ι ds vs → Reps K H ι (ds.drop n) (vs.drop n)
  | _, _, 0, h => h
  | [], _, n + 1, e => by rw [show _ = [] from e]; exact rfl
  | _ :: ds, _, n + 1, ⟨v, r, rfl, h1, h2⟩ => Reps.drop n h2
theorem Reps.rep {ds : List D} {vs : List V} (h : Reps K H ι ds vs) : ∀ k : Nat, Reps K H ι (List.replicate k ds).flatten (List.replicate k vs).flatten
  | 0 => rfl
  | k + 1 => by
    rw [List.replicate_succ, List.replicate_succ, List.flatten_cons, List.flatten_cons]
    exact h.append (Reps.rep h k)
theorem Reps.ints : ∀ {ds : List D} {vs : List V} {is : List Int}, Reps K H ι ds vs → intsOf ds = some is → vs = is.map V.int
  | [], _, _, e, h => by cases h; exact e
  | d :: ds, _, is, ⟨v, r, rfl, h1, h2⟩, h => by
    cases d with
    | int i =>
      simp only [intsOf, Option.map_eq_some_iff] at h
      obtain ⟨js, h, rfl⟩ := h
      rw [show v = .int i from h1, Reps.ints h2 h]
      rfl
    | _ => simp [intsOf] at h
theorem Reps.bools : ∀ {ds : List D} {vs : List V} {is : List Bool}, Reps K H ι ds vs → boolsOf ds = some is → vs = is.map V.bl
  | [], _, _, e, h => by cases h; exact e
  | d :: ds, _, is, ⟨v, r, rfl, h1, h2⟩, h => by
    cases d with
    | bl i =>
      simp only [boolsOf, Option.map_eq_some_iff] at h
      obtain ⟨js, h, rfl⟩ := h
      rw [show v = .bl i from h1, Reps.bools h2 h]
      rfl
    | _ => simp [boolsOf] at h
/-- a new object -/
theorem HpRep.fresh (h : HpRep K H ι hp) {p : Addr} (hn : H p = none) {ho : HO} : Step ι H (ι ++ [p]) (upd H p ho) := by
  refine ⟨⟨[p], rfl⟩, fun a ha => ?_, fun a o e _ => ?_⟩
  · rcases List.mem_append.mp ha with z | z
    · exact .inl z
    · rw [List.mem_singleton.mp z]; exact .inr hn
  · rw [upd_ne (ne_of_none e hn)]; exact e
/-- a new object that no number names -/
theorem HpRep.fresh0 (h : HpRep K H ι hp) {p : Addr} (hn : H p = none) {ho : HO} : Step ι H ι (upd H p ho) :=
  ⟨⟨[], by simp⟩, fun a ha => .inl ha, fun a o e _ => by rw [upd_ne (ne_of_none e hn)]; exact e⟩
theorem HpRep.notin (h : HpRep K H ι hp) {p : Addr} (hn : H p = none) : p ∉ ι := fun hm => by
  rcases h.mut hm with ⟨vs, q⟩ | ⟨ws, q⟩ <;> (rw [hn] at q; cases q)
theorem OOk.mono (h : HpRep K H ι hp) (s : Step ι H ι' H') {a : Addr} {o : O} (e : H' a = H a) (x : OOk K H ι a o) : OOk K H' ι' a o := by
  cases o with
  | lst xs => obtain ⟨vs, q, r⟩ := x; exact ⟨vs, e.trans q, h.reps s _ _ r⟩
  | dct kvs => obtain ⟨ws, q, r1, r2⟩ := x; exact ⟨ws, e.trans q, r1, h.reps s _ _ r2⟩
theorem HpRep.keep0 (h : HpRep K H ι hp) (s : Step ι H ι H') (k : ∀ a ∈ ι, H' a = H a) : HpRep K H' ι hp :=
  ⟨h.len, h.nd, fun n o a h1 h2 => OOk.mono h s (k a (List.mem_of_getElem? h2)) (h.ok n o a h1 h2)⟩
/-- a new tuple, or a list that no number names, leaves all as it is -/
theorem HpRep.laid0 (h : HpRep K H ι hp) {p : Addr} (hn : H p = none) {ho : HO} : HpRep K (upd H p ho) ι hp :=
  h.keep0 (h.fresh0 hn) fun a ha => upd_ne fun e => h.notin hn (e ▸ ha)
/-- a new numbered object -/
theorem HpRep.laid (h : HpRep K H ι hp) {p : Addr} (hn : H p = none) {ho : HO} {o : O} (x : OOk K (upd H p ho) (ι ++ [p]) p o) : HpRep K (upd H p ho) (ι ++ [p]) (hp ++ [o]) := by
  refine ⟨by simp [h.len], ?_, fun n o' a h1 h2 => ?_⟩
  · refine List.nodup_append.mpr ⟨h.nd, by simp, fun a ha b hb e => ?_⟩
    rw [List.mem_singleton.mp hb] at e
    exact h.notin hn (e ▸ ha)
  · by_cases hl : n < hp.length
    · rw [List.getElem?_append_left hl] at h1
      rw [List.getElem?_append_left (h.len ▸ hl)] at h2
      refine OOk.mono h (h.fresh hn) (upd_ne fun e => h.notin hn (e ▸ List.mem_of_getElem? h2)) (h.ok n o' a h1 h2)
    · have e : n = hp.length := by
        have := (List.getElem?_eq_some_iff.mp h1).1
        simp at this
        omega
      subst e
      rw [List.getElem?_append_right (Nat.le_refl _), Nat.sub_self] at h1
      rw [← h.len, List.getElem?_append_right (Nat.le_refl _), Nat.sub_self] at h2
      simp at h1 h2
      subst h1 h2
      exact x
/-- a numbered object is written -/
theorem Step.write {a : Addr} (ha : a ∈ ι) {ho : HO} : Step ι H ι (upd H a ho) :=
  ⟨⟨[], by simp⟩, fun b hb => .inl hb, fun b o e hb => by
    have hne : b ≠ a := fun z => hb (by rw [z]; exact ha)
    rw [upd_ne hne]; exact e⟩
theorem HpRep.write (h : HpRep K H ι hp) {n : Nat} {a : Addr} (ha : ι[n]? = some a) {ho : HO} {o : O} (x : OOk K (upd H a ho) ι a o) : HpRep K (upd H a ho) ι (hp.set n o) := by
  have hm : a ∈ ι := List.mem_of_getElem? ha
  refine ⟨by simp [h.len], h.nd, fun m o' b h1 h2 => ?_⟩
  by_cases hmn : n = m
  · subst hmn
    have : n < hp.length := h.len ▸ (List.getElem?_eq_some_iff.mp ha).1
    rw [List.getElem?_set_self this] at h1
    rw [ha] at h2
    cases h1; cases h2
    exact x
  · rw [List.getElem?_set_ne hmn] at h1
    refine OOk.mono h (Step.write hm) (upd_ne fun e => hmn ?_) (h.ok m o' b h1 h2)
    subst e
    obtain ⟨l1, e1⟩ := List.getElem?_eq_some_iff.mp ha
    obtain ⟨l2, e2⟩ := List.getElem?_eq_some_iff.mp h2
    exact (List.getElem_inj h.nd).mp (e1.trans e2.symm)
theorem HpRep.lst (h : HpRep K H ι hp) {n : Nat} {a : Addr} {xs : List D} (e : hp[n]? = some (.lst xs)) (ha : ι[n]? = some a) : ∃ vs, H a = some (.lst vs) ∧ Reps K H ι xs vs := h.ok n _ a e ha
theorem HpRep.dct (h : HpRep K H ι hp) {n : Nat} {a : Addr} {kvs : List (Key × D)} (e : hp[n]? = some (.dct kvs)) (ha : ι[n]? = some a) : ∃ ws, H a = some (.dK ws) ∧ RepK K H ι kvs ws := h.ok n _ a e ha
end

/-! ### answers -/
/-- what is wanted of exceptions -/
abbrev Wish := Nat → List D → Heap → List Addr → Hp → Prop
def Po {α : Type} (W : Wish) (ι : List Addr) (H : Hp) (r : R α) (S : α → List Addr → Hp → Prop) : Prop := match r with
  | .ok a => ∀ ι' H', Step ι H ι' H' → S a ι' H'
  | .exc c fs hp => ∀ ι' H', Step ι H ι' H' → W c fs hp ι' H'
  | .no => False
theorem Po.at {α : Type} {W : Wish} {ι ι' : List Addr} {H H' : Hp} {r : R α} {S : α → List Addr → Hp → Prop} (p : Po W ι H r S) (s : Step ι H ι' H') : Po W ι' H' r S := by
  cases r with
  | ok a => exact fun ι2 H2 s2 => p ι2 H2 (s.trans s2)
  | exc c fs hp => exact fun ι2 H2 s2 => p ι2 H2 (s.trans s2)
  | no => exact p
/-- one after another -/
theorem Po.bind {α β : Type} {W : Wish} {ι : List Addr} {H : Hp} {r : R α} {f : α → R β} {S : β → List Addr → Hp → Prop} (p : Po W ι H (r.bind f) S) :
    Po W ι H r fun a ι' H' => Po W ι' H' (f a) S := by
  cases r with
  | ok a => exact fun ι' H' s => Po.at p s
  | exc c fs hp => exact p
  | no => exact p
theorem Po.mono {α : Type} {W : Wish} {ι : List Addr} {H : Hp} {r : R α} {S S' : α → List Addr → Hp → Prop} (p : Po W ι H r S) (h : ∀ a ι' H', Step ι H ι' H' → S a ι' H' → S' a ι' H') : Po W ι H r S' := by
  cases r with
  | ok a => exact fun ι' H' s => h a ι' H' s (p ι' H' s)
  | exc c fs hp => exact p
  | no => exact p
theorem Po.ofO {α β : Type} {W : Wish} {ι : List Addr} {H : Hp} {o : Option α} {f : α → R β} {S : β → List Addr → Hp → Prop} (p : Po W ι H (ofO o f) S) : ∃ a, o = some a ∧ Po W ι H (f a) S := by
  cases o with
  | none => exact p.elim
  | some a => exact ⟨a, rfl, p⟩
theorem Po.chk {β : Type} {W : Wish} {ι : List Addr} {H : Hp} {b : Bool} {r : R β} {S : β → List Addr → Hp → Prop} (p : Po W ι H (chk b r) S) : b = true ∧ Po W ι H r S := by
  cases b with
  | false => exact p.elim
  | true => exact ⟨rfl, p⟩
/-- a value's end -/
def SE (K : Frg) (Q : VK) (r : D × Heap) (ι' : List Addr) (H' : Hp) : Prop := ∀ v, HpRep K H' ι' r.2 → Rep K H' ι' r.1 v → Q v H'
abbrev PoE (K : Frg) (W : Wish) (ι : List Addr) (H : Hp) (r : R (D × Heap)) (Q : VK) : Prop := Po W ι H r (SE K Q)

/-- an expression's reading -/
def rdE (K : Frg) (W : Wish) (c : Ctx) (e : CE) : TE := fun σ H Q => ∃ ι ρ hp, SRep K H ι σ ρ ∧ HpRep K H ι hp ∧ PoE K W ι H (ev c e ρ hp) Q
/-- a test's end -/
def SB (K : Frg) (Q : Bool → Hp → Prop) (r : Bool × Heap) (ι' : List Addr) (H' : Hp) : Prop := HpRep K H' ι' r.2 → Q r.1 H'
def rdB (K : Frg) (W : Wish) (c : Ctx) (e : CB) : TT := fun σ H Q => ∃ ι ρ hp, SRep K H ι σ ρ ∧ HpRep K H ι hp ∧ Po W ι H (tv c e ρ hp) (SB K Q)
/-- some values' end -/
def SA (K : Frg) (Q : List V → Hp → Prop) (r : List D × Heap) (ι' : List Addr) (H' : Hp) : Prop := ∀ vs, HpRep K H' ι' r.2 → Reps K H' ι' r.1 vs → Q vs H'
def rdA (K : Frg) (W : Wish) (c : Ctx) (es : CEs) : TA := fun σ H Q => ∃ ι ρ hp, SRep K H ι σ ρ ∧ HpRep K H ι hp ∧ Po W ι H (evs c es ρ hp) (SA K Q)
theorem PoE.now {K : Frg} {W : Wish} {ι : List Addr} {H : Hp} {d : D} {hp : Heap} {Q : VK} {v : V} (p : PoE K W ι H (.ok (d, hp)) Q) (hh : HpRep K H ι hp) (r : Rep K H ι d v) : Q v H := p ι H .refl v hh r
theorem _root_.L2.PE.imp {X : Cx} {e : Expr} {t t' : TE} (h : PE X e t) (i : ∀ σ H Q, t' σ H Q → t σ H Q) : PE X e t' := ⟨fun pins s σ H Q I q => h.run pins s σ H Q I (i σ H Q q)⟩
theorem _root_.L2.PT.imp {X : Cx} {e : Expr} {t t' : TT} (h : PT X e t) (i : ∀ σ H Q, t' σ H Q → t σ H Q) : PT X e t' := ⟨fun pins s σ H Q I q => h.run pins s σ H Q I (i σ H Q q)⟩
theorem _root_.L2.PS.imp {X : Cx} {e : Stmt} {t t' : TS} (h : PS X e t) (i : ∀ D σ H, t' D σ H → t D σ H) : PS X e t' := ⟨fun pins s σ H D I q => h.run pins s σ H D I (i D σ H q)⟩
theorem _root_.L2.PSs.imp {X : Cx} {e : List Stmt} {t t' : TS} (h : PSs X e t) (i : ∀ D σ H, t' D σ H → t D σ H) : PSs X e t' := ⟨fun pins s σ H D I q => h.run pins s σ H D I (i D σ H q)⟩
end Tw
end

section
set_option Elab.async false
set_option linter.all false
set_option maxRecDepth 100000
set_option maxHeartbeats 4000000
/-! The operations by values: each does what the core language says. Own work. -/
namespace Tw
open PySem PySem.Spec PyProof.Rows L2

/-- two values in, by the core language -/
def rOp (K : Frg) (W : Wish) (f : D → D → Heap → R (D × Heap)) : R2 := fun x y H Q => ∃ ι hp d1 d2, HpRep K H ι hp ∧ Rep K H ι d1 x ∧ Rep K H ι d2 y ∧ PoE K W ι H (f d1 d2 hp) Q
theorem rdE_op {K : Frg} {W : Wish} {c : Ctx} {f : D → D → Heap → R (D × Heap)} {a b : CE} {σ : L2.St} {H : Hp} {Q : VK} {ι : List Addr} {ρ : Env} {hp : Heap} (hs : SRep K H ι σ ρ) (hh : HpRep K H ι hp)
    (p : PoE K W ι H ((ev c a ρ hp).bind fun x => (ev c b ρ x.2).bind fun y => f x.1 y.1 y.2) Q) : tOp (rOp K W f) (rdE K W c a) (rdE K W c b) σ H Q := by
  refine ⟨ι, ρ, hp, hs, hh, p.bind.mono fun x ι1 H1 s1 p1 v h1 r1 => ?_⟩
  refine ⟨ι1, ρ, x.2, hh.srep s1 hs, h1, p1.bind.mono fun y ι2 H2 s2 p2 w h2 r2 => ?_⟩
  exact ⟨ι2, y.2, x.1, y.1, h2, h1.rep s2 _ _ r1, r2, p2⟩

def opN : BOp → Operator
  | .add => .Add | .sub => .Sub | .mul => .Mult | .mod => .Mod | .fdiv => .FloorDiv | .pow => .Pow | .shl => .LShift
def cpN : COp → CmpOp
  | .eq => .Eq | .ne => .NotEq | .lt => .Lt | .le => .LtE | .gt => .Gt | .ge => .GtE | .is => .Is | .isnot => .IsNot | .isin => .In | .notin => .NotIn

theorem lim_eq : sizeLine = LIM := by rw [sizeLine_eq]; rfl
theorem small_mul {i j : Int} (h : (small i || small j) = true) : CMul i j := by
  rcases Bool.or_eq_true_iff.mp h with h | h <;> (unfold small at h; obtain ⟨h1, h2⟩ := Bool.and_eq_true_iff.mp h; have h1 := of_decide_eq_true h1; have h2 := of_decide_eq_true h2)
  · exact .inl ⟨by omega, by omega⟩
  · exact .inr ⟨by omega, by omega⟩

section
variable {X : Cx} {W : Wish}
/-- a new tuple, by values -/
theorem new_tup {K : Frg} {ι : List Addr} {H : Hp} {hp : Heap} {ds : List D} {vs : List V} {Q : VK} {p : Addr} (hh : HpRep K H ι hp) (r : Reps K H ι ds vs) (hn : H p = none) (po : PoE K W ι H (.ok (.tup ds, hp)) Q) : Q (.ref p) (upd H p (.tup vs)) :=
  po ι _ (hh.fresh0 hn) _ (hh.laid0 hn) ⟨p, vs, rfl, SqT.of upd_same, hh.reps (hh.fresh0 hn) _ _ r⟩
/-- a new list, by values -/
theorem new_lst {K : Frg} {ι : List Addr} {H : Hp} {hp : Heap} {ds : List D} {vs : List V} {Q : VK} {p : Addr} (hh : HpRep K H ι hp) (r : Reps K H ι ds vs) (hn : H p = none) (po : PoE K W ι H (.ok (.ref hp.length, hp ++ [.lst ds])) Q) : Q (.ref p) (upd H p (.lst vs)) := by
  refine po (ι ++ [p]) _ (hh.fresh hn) _ (hh.laid hn ⟨vs, upd_same, hh.reps (hh.fresh hn) _ _ r⟩) ⟨p, rfl, ?_⟩
  rw [List.getElem?_append_right (by rw [hh.len]; exact Nat.le_refl _), hh.len, Nat.sub_self]
  rfl

theorem op_B (op : BOp) : OpR X (binaryOp (opN op)) (rOp X.K W (opB op)) := by
  intro pins s σ H x y v u Q I rx ry h
  obtain ⟨ι, hp, d1, d2, hh, r1, r2, po⟩ := h
  cases op with
  | add =>
    cases d1 with
    | int i =>
      cases d2 with
      | int j => exact op_add pins s σ H x y v u Q I rx ry ⟨i, j, r1, r2, PoE.now po hh rfl⟩
      | _ => exact po.elim
    | tup a =>
      cases d2 with
      | tup b =>
        obtain ⟨hl, po⟩ := Po.chk po
        have hl := of_decide_eq_true hl
        obtain ⟨p, vs, e1, q1, z1⟩ := r1
        obtain ⟨q, ws, e2, q2, z2⟩ := r2
        refine op_catA pins s σ H x y v u Q I rx ry ⟨p, q, vs, ws, e1, e2, q1, q2, by rw [lim_eq, ← z1.length, ← z2.length]; exact hl, ?_⟩
        refine ⟨fun h0 => ?_, fun _ h0 => ?_, fun _ _ l hn => new_tup hh (z1.append z2) hn po⟩
        · subst h0
          cases a with
          | nil => exact PoE.now po hh ⟨q, ws, rfl, q2, z2⟩
          | cons d r => obtain ⟨_, _, e, _⟩ := z1; cases e
        · subst h0
          cases b with
          | nil =>
            rw [List.append_nil] at po
            exact PoE.now po hh ⟨p, vs, rfl, q1, z1⟩
          | cons d r => obtain ⟨_, _, e, _⟩ := z2; cases e
      | _ => exact po.elim
    | _ => exact po.elim
  | sub =>
    cases d1 with
    | int i =>
      cases d2 with
      | int j => exact op_sub pins s σ H x y v u Q I rx ry ⟨i, j, r1, r2, PoE.now po hh rfl⟩
      | _ => exact po.elim
    | _ => exact po.elim
  | mul =>
    cases d1 with
    | int i =>
      cases d2 with
      | int j =>
        obtain ⟨hl, po⟩ := Po.chk po
        exact op_mul pins s σ H x y v u Q I rx ry ⟨i, j, r1, r2, small_mul hl, PoE.now po hh rfl⟩
      | _ => exact po.elim
    | _ => exact po.elim
  | mod =>
    cases d1 with
    | int i =>
      cases d2 with
      | int j =>
        obtain ⟨hl, po⟩ := Po.chk po
        exact op_mod pins s σ H x y v u Q I rx ry ⟨i, j, r1, r2, of_decide_eq_true hl, PoE.now po hh rfl⟩
      | _ => exact po.elim
    | _ => exact po.elim
  | fdiv =>
    cases d1 with
    | int i =>
      cases d2 with
      | int j =>
        obtain ⟨hl, po⟩ := Po.chk po
        obtain ⟨h1, h2⟩ := Bool.and_eq_true_iff.mp hl
        exact op_fdiv pins s σ H x y v u Q I rx ry ⟨i, j, r1, r2, ⟨of_decide_eq_true h1, of_decide_eq_true h2⟩, PoE.now po hh rfl⟩
      | _ => exact po.elim
    | _ => exact po.elim
  | _ => exact po.elim

/-! ### comparisons -/
theorem eqs_ok {K : Frg} {H : Hp} {ι : List Addr} {d1 d2 : D} {x y : V} {b : Bool} (r1 : Rep K H ι d1 x) (r2 : Rep K H ι d2 y) (e : eqs d1 d2 = some b) : L2.scal x y = true ∧ decide (x = y) = b := by
  cases d1 <;> cases d2 <;> simp only [eqs] at e <;> (try cases e) <;> (simp only [Rep] at r1 r2; subst r1 r2; simp [L2.scal])
theorem scal_flat {K : Frg} {H : Hp} {ι : List Addr} {d : D} {x : V} (r : Rep K H ι d x) (e : Tw.scal d = true) : flatV x = true := by
  cases d <;> simp only [Tw.scal] at e <;> (try cases e) <;> (simp only [Rep] at r; subst r; rfl)
theorem eqf_ok {K : Frg} {H : Hp} {ι : List Addr} {d1 d2 : D} {x y : V} (r1 : Rep K H ι d1 x) (r2 : Rep K H ι d2 y) (e1 : Tw.scal d1 = true) (e2 : Tw.scal d2 = true) : eqV x y = eqf d1 d2 := by
  cases d1 <;> simp only [Tw.scal] at e1 <;> (try cases e1) <;> cases d2 <;> simp only [Tw.scal] at e2 <;> (try cases e2) <;> (simp only [Rep] at r1 r2; subst r1 r2; first | rfl | simp [eqV, eqf, Bool.beq_eq_decide_eq])
theorem all_flat {K : Frg} {H : Hp} {ι : List Addr} : ∀ {ds : List D} {vs : List V}, Reps K H ι ds vs → ds.all Tw.scal = true → vs.all flatV = true
  | [], _, e, _ => by rw [show _ = [] from e]; rfl
  | d :: ds, _, ⟨v, r, rfl, h1, h2⟩, f => by
    rw [List.all_cons, Bool.and_eq_true] at f ⊢
    exact ⟨scal_flat h1 f.1, all_flat h2 f.2⟩
theorem inV_ok {K : Frg} {H : Hp} {ι : List Addr} {d : D} {x : V} (rx : Rep K H ι d x) (fx : Tw.scal d = true) : ∀ {ds : List D} {vs : List V}, Reps K H ι ds vs → ds.all Tw.scal = true → inV x vs = ds.any fun z => eqf z d
  | [], _, e, _ => by rw [show _ = [] from e]; rfl
  | z :: ds, _, ⟨v, r, rfl, h1, h2⟩, f => by
    rw [List.all_cons, Bool.and_eq_true] at f
    show (v :: r).any (fun y => eqV y x) = _
    rw [List.any_cons, List.any_cons, eqf_ok h1 rx f.1 fx]
    exact congrArg _ (inV_ok rx fx h2 f.2)
theorem keyOf_ok {K : Frg} {H : Hp} {ι : List Addr} {d : D} {x : V} {k : Key} (r : Rep K H ι d x) (e : keyOf d = some k) : x = kV k := by
  cases d <;> simp only [keyOf] at e <;> (try cases e) <;> (simp only [Rep] at r; subst r; rfl)
theorem findV_ok {K : Frg} {H : Hp} {ι : List Addr} (k : Key) : ∀ {kvs : List (Key × D)} {ws : List (L2.Key × V)}, RepK K H ι kvs ws → (findV kvs k = none ∧ valV ws k = none) ∨ ∃ d v, findV kvs k = some d ∧ valV ws k = some v ∧ Rep K H ι d v
  | [], ws, ⟨e, _⟩ => by
    cases ws with
    | nil => exact .inl ⟨rfl, rfl⟩
    | cons _ _ => cases e
  | (a, d) :: r, ws, ⟨e, q⟩ => by
    cases ws with
    | nil => cases e
    | cons w ws =>
      obtain ⟨b, v⟩ := w
      simp only [List.map_cons, List.cons.injEq] at e
      obtain ⟨v', r', e2, h1, h2⟩ := q
      simp only [List.map_cons, List.cons.injEq] at e2
      obtain ⟨e2, e3⟩ := e2
      obtain ⟨rfl, e⟩ := e
      subst e2 e3
      by_cases hk : a = k
      · exact .inr ⟨d, v, by simp [findV, hk], valV_pos hk, h1⟩
      · rcases findV_ok k (kvs := r) (ws := ws) ⟨e, h2⟩ with ⟨z1, z2⟩ | ⟨d', w', z1, z2, z3⟩
        · exact .inl ⟨by simpa [findV, List.find?_cons, hk] using z1, by rw [valV_neg hk]; exact z2⟩
        · exact .inr ⟨d', w', by simpa [findV, List.find?_cons, hk] using z1, by rw [valV_neg hk]; exact z2, z3⟩
theorem non_iff {K : Frg} {H : Hp} {ι : List Addr} {d : D} {x : V} (r : Rep K H ι d x) : (x = .non) ↔ d = .non := by
  cases d <;> simp only [Rep] at r
  all_goals first
    | (subst r; simp)
    | (obtain ⟨a, r⟩ := r
       first
         | (obtain ⟨vs, rfl, _⟩ := r; simp)
         | (obtain ⟨rfl, _⟩ := r; simp))

theorem op_C (op : COp) (hu : X.A.units + 1 < cLine) : OpR X (compareOp (cpN op)) (rOp X.K W (opC op)) := by
  intro pins s σ H x y v u Q I rx ry h
  obtain ⟨ι, hp, d1, d2, hh, r1, r2, po⟩ := h
  cases op with
  | eq =>
    obtain ⟨b, e, po⟩ := Po.ofO po
    obtain ⟨e1, e2⟩ := eqs_ok r1 r2 e
    exact op_eq pins s σ H x y v u Q I rx ry ⟨e1, by rw [e2]; exact PoE.now po hh rfl⟩
  | ne =>
    obtain ⟨b, e, po⟩ := Po.ofO po
    obtain ⟨e1, e2⟩ := eqs_ok r1 r2 e
    exact op_ne pins s σ H x y v u Q I rx ry ⟨e1, by rw [e2]; exact PoE.now po hh rfl⟩
  | lt =>
    cases d1 <;> cases d2 <;> first | exact po.elim | skip
    exact op_lt pins s σ H x y v u Q I rx ry ⟨_, _, r1, r2, PoE.now po hh rfl⟩
  | le =>
    cases d1 <;> cases d2 <;> first | exact po.elim | skip
    exact op_le pins s σ H x y v u Q I rx ry ⟨_, _, r1, r2, PoE.now po hh rfl⟩
  | gt =>
    cases d1 <;> cases d2 <;> first | exact po.elim | skip
    exact op_gt pins s σ H x y v u Q I rx ry ⟨_, _, r1, r2, PoE.now po hh rfl⟩
  | ge =>
    cases d1 <;> cases d2 <;> first | exact po.elim | skip
    exact op_ge pins s σ H x y v u Q I rx ry ⟨_, _, r1, r2, PoE.now po hh rfl⟩
  | is =>
    cases d2 <;> first | exact po.elim | skip
    refine op_isN pins s σ H x y v u Q I rx ry ⟨r2, ?_⟩
    have e : decide (x = V.non) = decide (d1 = D.non) := decide_eq_decide.mpr (non_iff r1)
    rw [e]
    exact PoE.now po hh rfl
  | isnot =>
    cases d2 <;> first | exact po.elim | skip
    refine op_notN pins s σ H x y v u Q I rx ry ⟨r2, ?_⟩
    have e : decide (x = V.non) = decide (d1 = D.non) := decide_eq_decide.mpr (non_iff r1)
    rw [e]
    exact PoE.now po hh rfl
  | isin =>
    cases d2 with
    | tup ds =>
      obtain ⟨hc, po⟩ := Po.chk po
      obtain ⟨h1, h2⟩ := Bool.and_eq_true_iff.mp hc
      obtain ⟨p, ws, e2, q2, z2⟩ := r2
      refine op_in_seq pins s σ H x y v u Q I rx ry ⟨p, ws, e2, .inr q2, scal_flat r1 h1, all_flat z2 h2, ?_⟩
      rw [if_neg Bool.false_ne_true, inV_ok r1 h1 z2 h2]
      exact PoE.now po hh (by simp [Rep])
    | seq ds =>
      obtain ⟨hc, po⟩ := Po.chk po
      obtain ⟨h1, h2⟩ := Bool.and_eq_true_iff.mp hc
      obtain ⟨p, ws, e2, q2, z2⟩ := r2
      refine op_in_seq pins s σ H x y v u Q I rx ry ⟨p, ws, e2, .inl q2.sq, scal_flat r1 h1, all_flat z2 h2, ?_⟩
      rw [if_neg Bool.false_ne_true, inV_ok r1 h1 z2 h2]
      exact PoE.now po hh (by simp [Rep])
    | ref n =>
      obtain ⟨a, rfl, ha⟩ := r2
      cases hn : hp[n]? with
      | none => simp only [opC, inB, hn] at po; exact po.elim
      | some o =>
        cases o with
        | lst ds =>
          simp only [opC, inB, hn] at po
          obtain ⟨hc, po⟩ := Po.chk po
          obtain ⟨h1, h2⟩ := Bool.and_eq_true_iff.mp hc
          obtain ⟨ws, q2, z2⟩ := hh.lst hn ha
          refine op_in_seq pins s σ H x _ v u Q I rx ry ⟨a, ws, rfl, .inl (.of q2), scal_flat r1 h1, all_flat z2 h2, ?_⟩
          rw [if_neg Bool.false_ne_true, inV_ok r1 h1 z2 h2]
          exact PoE.now po hh (by simp [Rep])
        | dct kvs =>
          simp only [opC, inB, hn] at po
          obtain ⟨k, hk, po⟩ := Po.ofO po
          obtain ⟨ws, q2, z2⟩ := hh.dct hn ha
          have ex := keyOf_ok r1 hk
          subst ex
          cases (show u = Value.ref a from ry)
          rcases findV_ok k z2 with ⟨e1, e2⟩ | ⟨d, w, e1, e2, _⟩
          · refine d_in hu I (DGet.k (k := k) q2) rx fun s' I' => ⟨.bl false, H, I', by rw [e2]; rfl, ?_⟩
            rw [e1] at po
            exact PoE.now po hh rfl
          · refine d_in hu I (DGet.k (k := k) q2) rx fun s' I' => ⟨.bl true, H, I', by rw [e2]; rfl, ?_⟩
            rw [e1] at po
            exact PoE.now po hh rfl
    | _ => exact po.elim
  | notin =>
    cases d2 with
    | tup ds =>
      obtain ⟨hc, po⟩ := Po.chk po
      obtain ⟨h1, h2⟩ := Bool.and_eq_true_iff.mp hc
      obtain ⟨p, ws, e2, q2, z2⟩ := r2
      refine op_notIn_seq pins s σ H x y v u Q I rx ry ⟨p, ws, e2, .inr q2, scal_flat r1 h1, all_flat z2 h2, ?_⟩
      rw [if_pos rfl, inV_ok r1 h1 z2 h2]
      exact PoE.now po hh (by simp [Rep])
    | seq ds =>
      obtain ⟨hc, po⟩ := Po.chk po
      obtain ⟨h1, h2⟩ := Bool.and_eq_true_iff.mp hc
      obtain ⟨p, ws, e2, q2, z2⟩ := r2
      refine op_notIn_seq pins s σ H x y v u Q I rx ry ⟨p, ws, e2, .inl q2.sq, scal_flat r1 h1, all_flat z2 h2, ?_⟩
      rw [if_pos rfl, inV_ok r1 h1 z2 h2]
      exact PoE.now po hh (by simp [Rep])
    | ref n =>
      obtain ⟨a, rfl, ha⟩ := r2
      cases hn : hp[n]? with
      | none => simp only [opC, inB, hn] at po; exact po.elim
      | some o =>
        cases o with
        | lst ds =>
          simp only [opC, inB, hn] at po
          obtain ⟨hc, po⟩ := Po.chk po
          obtain ⟨h1, h2⟩ := Bool.and_eq_true_iff.mp hc
          obtain ⟨ws, q2, z2⟩ := hh.lst hn ha
          refine op_notIn_seq pins s σ H x _ v u Q I rx ry ⟨a, ws, rfl, .inl (.of q2), scal_flat r1 h1, all_flat z2 h2, ?_⟩
          rw [if_pos rfl, inV_ok r1 h1 z2 h2]
          exact PoE.now po hh (by simp [Rep])
        | dct kvs =>
          simp only [opC, inB, hn] at po
          obtain ⟨k, hk, po⟩ := Po.ofO po
          obtain ⟨ws, q2, z2⟩ := hh.dct hn ha
          have ex := keyOf_ok r1 hk
          subst ex
          cases (show u = Value.ref a from ry)
          rcases findV_ok k z2 with ⟨e1, e2⟩ | ⟨d, w, e1, e2, _⟩
          · refine d_notIn hu I (DGet.k (k := k) q2) rx fun s' I' => ⟨.bl true, H, I', by rw [e2]; rfl, ?_⟩
            rw [e1] at po
            exact PoE.now po hh rfl
          · refine d_notIn hu I (DGet.k (k := k) q2) rx fun s' I' => ⟨.bl false, H, I', by rw [e2]; rfl, ?_⟩
            rw [e1] at po
            exact PoE.now po hh rfl
    | _ => exact po.elim

/-! ### truth -/
theorem truth_ok {K : Frg} {H : Hp} {ι : List Addr} {hp : Heap} {d : D} {x : V} {b : Bool} (hh : HpRep K H ι hp) (r : Rep K H ι d x) (e : truth d hp = some b) : TruV K x H b := by
  have emp : ∀ {ds : List D} {vs : List V}, Reps K H ι ds vs → ds.isEmpty = vs.isEmpty := fun {ds vs} z => by
    have := z.length
    cases ds <;> cases vs <;> simp at this ⊢
  cases d with
  | non => cases r; cases e; rfl
  | bl b => cases r; cases e; rfl
  | int i =>
    cases r; cases e
    show decide (i ≠ 0) = (i != 0)
    simp [bne, Bool.beq_eq_decide_eq]
  | str s => cases e
  | tup ds =>
    obtain ⟨p, ws, rfl, q2, z2⟩ := r
    cases e
    exact .inr (.inl ⟨ws, q2, by rw [emp z2]⟩)
  | seq ds =>
    obtain ⟨p, ws, rfl, q2, z2⟩ := r
    cases e
    exact .inl ⟨ws, q2.sq, by rw [emp z2]⟩
  | ref n =>
    obtain ⟨a, rfl, ha⟩ := r
    cases hn : hp[n]? with
    | none => simp only [truth, hn] at e; cases e
    | some o =>
      cases o with
      | lst xs =>
        simp only [truth, hn] at e
        cases e
        obtain ⟨ws, q2, z2⟩ := hh.lst hn ha
        exact .inl ⟨ws, .of q2, by rw [emp z2]⟩
      | dct kvs =>
        simp only [truth, hn] at e
        cases e
        obtain ⟨ws, q2, z1, z2⟩ := hh.dct hn ha
        refine .inr (.inr ⟨ws, q2, ?_⟩)
        have := congrArg List.length z1
        cases kvs <;> cases ws <;> simp at this ⊢

/-! ### subscripts -/
theorem nth_ok {α : Type} {xs : List α} {i : Int} {a : α} (h : nth xs i = some a) : ∃ j, xs[j]? = some a ∧ ixN xs.length i = some j := by
  unfold nth at h
  unfold ixN
  by_cases h0 : 0 ≤ i
  · rw [if_pos h0] at h ⊢
    have hl := (List.getElem?_eq_some_iff.mp h).1
    exact ⟨_, h, by rw [if_pos (by omega)]⟩
  · rw [if_neg h0] at h ⊢
    by_cases h1 : -(xs.length : Int) ≤ i
    · rw [if_pos h1] at h ⊢
      exact ⟨_, h, rfl⟩
    · rw [if_neg h1] at h; cases h
theorem nth_rep {K : Frg} {H : Hp} {ι : List Addr} {ds : List D} {vs : List V} {i : Int} {d : D} (r : Reps K H ι ds vs) (h : nth ds i = some d) : ∃ v, atI vs i = some v ∧ Rep K H ι d v := by
  obtain ⟨j, h1, h2⟩ := nth_ok h
  obtain ⟨v, e, q⟩ := r.get h1
  refine ⟨v, ?_, q⟩
  unfold atI
  rw [← r.length, h2]
  exact e
theorem ix_dict (hu : X.A.units + 1 < cLine) : IxR X (fun x y H Q => ∃ a v, x = .ref a ∧ DGet H a y (some v) ∧ Q v H) := by
  intro value slice pins s σ H x y v u Q I rx ry h hs
  obtain ⟨a, w, rfl, g, q⟩ := h
  cases (show v = Value.ref a from rx)
  have hT := dict_typeIs I g
  unfold subscriptTail
  refine wpAny_bind ?_
  rw [getitemInPython_of_ne hT.not_modules]
  refine wpAny_bind (wpAny_specialOf hT PySem.F.slot_dict_getitem.lookup ?_)
  have fin : wpAny (model X.prog X.w) X.A (subscripted slice false (.ref a) u) (fun r s₃ => wpAny (model X.prog X.w) X.A (letTemporaryGo value (.ref a) r >>= fun _ => pure r) (EP X pins σ Q) X.xe s₃) X.xe s := by
    rw [hs]
    exact wpAny_operating (d_getItem hu I g ry fun w' s3 I3 rw' => wpAny_bind (wpAny_letTemporaryGo (wpAny_pure ⟨w, H, I3, rw', q⟩)))
  first
    | exact wpAny_pure (wpAny_bind fin)
    | exact wpAny_bind (wpAny_pure (wpAny_bind fin))
    | exact wpAny_bind fin
theorem ix_V (hu : X.A.units + 1 < cLine) : IxR X (rOp X.K W idxV) := by
  intro value slice pins s σ H x y v u Q I rx ry h hs
  obtain ⟨ι, hp, d1, d2, hh, r1, r2, po⟩ := h
  cases d1 with
  | tup ds =>
    cases d2 <;> first | exact po.elim | skip
    obtain ⟨d, e, po⟩ := Po.ofO po
    obtain ⟨p, ws, e1, q1, z1⟩ := r1
    obtain ⟨w, e2, z2⟩ := nth_rep z1 e
    exact ix_tup value slice pins s σ H x y v u Q I rx ry ⟨p, ws, _, w, e1, r2, q1, e2, PoE.now po hh z2⟩ hs
  | seq ds =>
    cases d2 <;> first | exact po.elim | skip
    obtain ⟨d, e, po⟩ := Po.ofO po
    obtain ⟨p, ws, e1, q1, z1⟩ := r1
    obtain ⟨w, e2, z2⟩ := nth_rep z1 e
    exact ix_list value slice pins s σ H x y v u Q I rx ry ⟨p, ws, _, w, e1, r2, q1.sq, e2, PoE.now po hh z2⟩ hs
  | ref n =>
    obtain ⟨a, rfl, ha⟩ := r1
    cases hn : hp[n]? with
    | none => simp only [idxV, hn] at po; exact po.elim
    | some o =>
      cases o with
      | lst xs =>
        simp only [idxV, hn] at po
        cases d2 <;> first | exact po.elim | skip
        obtain ⟨d, e, po⟩ := Po.ofO po
        obtain ⟨ws, q1, z1⟩ := hh.lst hn ha
        obtain ⟨w, e2, z2⟩ := nth_rep z1 e
        exact ix_list value slice pins s σ H _ y v u Q I rx ry ⟨a, ws, _, w, rfl, r2, .of q1, e2, PoE.now po hh z2⟩ hs
      | dct kvs =>
        simp only [idxV, hn] at po
        obtain ⟨k, hk, po⟩ := Po.ofO po
        obtain ⟨d, e, po⟩ := Po.ofO po
        obtain ⟨ws, q1, z1⟩ := hh.dct hn ha
        have ey := keyOf_ok r2 hk
        subst ey
        rcases findV_ok k z1 with ⟨e1, _⟩ | ⟨d', w, e1, e2, z3⟩
        · rw [e1] at e; cases e
        · rw [e1] at e; cases e
          exact ix_dict hu value slice pins s σ H _ _ v u Q I rx ry ⟨a, w, rfl, by rw [← e2]; exact DGet.k q1, PoE.now po hh z3⟩ hs
  | _ => exact po.elim
/-! ### stores -/
theorem nix_ok {n : Nat} {i : Int} {j : Nat} (h : nix n i = some j) : ixN n i = some j := by
  unfold nix at h
  unfold ixN
  exact h
theorem putV_ok {K : Frg} {H : Hp} {ι : List Addr} {k : Key} {d : D} {v : V} (rd : Rep K H ι d v) {kvs : List (Key × D)} {ws : List (L2.Key × V)} (r : RepK K H ι kvs ws) : RepK K H ι (putV kvs k d) (putK ws k v) := by
  have any : (kvs.any fun kv => decide (kv.1 = k)) = (ws.any fun kv => decide (kv.1 = k)) := by
    have e := r.1
    have h1 : (kvs.any fun kv => decide (kv.1 = k)) = ((kvs.map (·.1)).any fun a => decide (a = k)) := by simp [List.any_map, Function.comp_def]
    have h2 : (ws.any fun kv => decide (kv.1 = k)) = ((ws.map (·.1)).any fun a => decide (a = k)) := by simp [List.any_map, Function.comp_def]
    rw [h1, h2, e]
  unfold putV putK
  rw [any]
  split
  · -- replaced
    rename_i hany
    clear hany any
    obtain ⟨e, q⟩ := r
    induction kvs generalizing ws with
    | nil => cases ws with
      | nil => exact ⟨rfl, rfl⟩
      | cons _ _ => cases e
    | cons a kvs ih => cases ws with
      | nil => cases e
      | cons b ws =>
        simp only [List.map_cons, List.cons.injEq] at e
        obtain ⟨v', r', e2, h1, h2⟩ := q
        simp only [List.map_cons, List.cons.injEq] at e2
        obtain ⟨e2, e3⟩ := e2
        subst e2 e3
        have ⟨i1, i2⟩ := ih e.2 h2
        by_cases hk : b.1 = k
        · have hk' : a.1 = k := e.1.trans hk
          simp only [List.map_cons, hk, hk', if_true]
          exact ⟨by rw [List.map_cons, List.map_cons, i1], ⟨v, _, rfl, rd, i2⟩⟩
        · have hk' : ¬ a.1 = k := fun z => hk (e.1.symm.trans z)
          simp only [List.map_cons, hk, hk', if_false]
          exact ⟨by rw [List.map_cons, List.map_cons, i1, e.1], ⟨_, _, rfl, h1, i2⟩⟩
  · exact ⟨by simp [r.1], by simpa using r.2.append (Reps.one rd)⟩
def rStore (K : Frg) (W : Wish) : V → V → V → Hp → (Hp → Prop) → Prop := fun o i v H Q => ∃ ι hp d1 d2 d3, HpRep K H ι hp ∧ Rep K H ι d1 o ∧ Rep K H ι d2 i ∧ Rep K H ι d3 v ∧
  Po W ι H (storeV d1 d2 d3 hp) fun h ι' H' => HpRep K H' ι' h → Q H'
theorem set_V (hu : X.A.units + 1 < cLine) : PSet X (rStore X.K W) := by
  intro pins s σ H o i v ov iv u Q I ro ri rv h
  obtain ⟨ι, hp, d1, d2, d3, hh, r1, r2, r3, po⟩ := h
  cases d1 <;> first | exact po.elim | skip
  rename_i n
  obtain ⟨a, rfl, ha⟩ := r1
  cases hn : hp[n]? with
  | none => simp only [storeV, hn] at po; exact po.elim
  | some o =>
    cases o with
    | lst xs =>
      simp only [storeV, hn] at po
      cases d2 <;> first | exact po.elim | skip
      obtain ⟨j, hj, po⟩ := Po.ofO po
      obtain ⟨ws, q1, z1⟩ := hh.lst hn ha
      refine set_list pins s σ H _ i v ov iv u Q I ro ri rv ⟨a, ws, _, j, rfl, r2, q1, by rw [← z1.length]; exact nix_ok hj, ?_⟩
      have st : Step ι H ι (upd H a (.lst (ws.set j v))) := Step.write (List.mem_of_getElem? ha)
      exact po ι _ st (hh.write ha ⟨_, upd_same, (hh.reps st _ _ z1).set j (hh.rep st _ _ r3)⟩)
    | dct kvs =>
      simp only [storeV, hn] at po
      obtain ⟨k, hk, po⟩ := Po.ofO po
      obtain ⟨hl, po⟩ := Po.chk po
      obtain ⟨ws, q1, z1⟩ := hh.dct hn ha
      have ey := keyOf_ok r2 hk
      subst ey
      cases (show ov = Value.ref a from ro)
      have hlen : ws.length < sizeLine := by
        have := congrArg List.length z1.1
        rw [List.length_map, List.length_map] at this
        rw [lim_eq, ← this]
        exact of_decide_eq_true hl
      refine d_setItem hu I (DPut.k (k := k) q1 hlen) ri rv fun s' I' => ⟨_, I', ?_⟩
      have st : Step ι H ι (upd H a (.dK (putK ws k v))) := Step.write (List.mem_of_getElem? ha)
      exact po ι _ st (hh.write ha ⟨_, upd_same, putV_ok (hh.rep st _ _ r3) ⟨z1.1, hh.reps st _ _ z1.2⟩⟩)
/-! ### slices -/
theorem sIx_ok (n d : Nat) (i : Option Int) (hd : d = 0 ∨ d = n) : HT.sIx n d i = sIx n d i := by
  cases i with
  | none => rfl
  | some i => simp only [HT.sIx, sIx]
theorem cut_rep {K : Frg} {H : Hp} {ι : List Addr} {ds : List D} {vs : List V} (r : Reps K H ι ds vs) (lo hi : Option Int) : Reps K H ι (cut ds lo hi) (cutV vs lo hi) := by
  unfold cut cutV
  rw [sIx_ok _ _ _ (.inl rfl), sIx_ok _ _ _ (.inr rfl), ← r.length]
  exact (r.drop _).take _
theorem sl_V : SlR X (fun x lo hi H Q => ∃ ι hp d, HpRep X.K H ι hp ∧ Rep X.K H ι d x ∧ PoE X.K W ι H (slcV d lo hi hp) Q) := by
  intro pins s σ H x v vl vu lo hi sl Q I rx hs pl pu h
  obtain ⟨ι, hp, d, hh, r, po⟩ := h
  cases d with
  | tup ds =>
    obtain ⟨p, ws, e1, q1, z1⟩ := r
    refine sl_tupA pins s σ H x v vl vu lo hi sl Q I rx hs pl pu ⟨p, ws, e1, q1, fun ⟨h1, h2⟩ => ?_, fun _ l hn => new_tup hh (cut_rep z1 lo hi) hn po⟩
    have e : cut ds lo hi = ds := by
      rw [sIx_ok _ _ _ (.inl rfl)] at h1
      rw [sIx_ok _ _ _ (.inr rfl)] at h2
      rw [← z1.length] at h1 h2
      unfold cut
      rw [h1, h2, List.drop_zero, Nat.sub_zero, List.take_length]
    have po : PoE X.K W ι H (.ok (.tup (cut ds lo hi), hp)) Q := po
    rw [e] at po
    exact PoE.now po hh ⟨p, ws, rfl, q1, z1⟩
  | ref n =>
    obtain ⟨a, rfl, ha⟩ := r
    cases hn : hp[n]? with
    | none => simp only [slcV, hn] at po; exact po.elim
    | some o =>
      cases o with
      | lst xs =>
        simp only [slcV, hn] at po
        obtain ⟨ws, q1, z1⟩ := hh.lst hn ha
        exact sl_list pins s σ H _ v vl vu lo hi sl Q I rx hs pl pu ⟨a, ws, rfl, .of q1, fun l hn => new_lst hh (cut_rep z1 lo hi) hn po⟩
      | dct kvs => simp only [slcV, hn] at po; exact po.elim
  | _ => exact po.elim
end
end Tw
end

section
set_option Elab.async false
set_option linter.all false
set_option maxRecDepth 100000
set_option maxHeartbeats 4000000
/-! Built-in functions, methods by values. Own work. -/
namespace Tw
open PySem PySem.Spec PyProof.Rows L2

def biF : Bi → Value
  | .int => .type "int" | .abs => .builtin "abs" | .min2 => .builtin "min" | .max2 => .builtin "max" | .str => .type "str" | .bool => .type "bool"
def biX : Bi → String
  | .int => "int" | .abs => "abs" | .min2 => "min" | .max2 => "max" | .str => "str" | .bool => "bool"
def sqF : Sq → Value
  | .len => .builtin "len" | .tuple => .type "tuple" | .sum => .builtin "sum" | .all => .builtin "all" | .any => .builtin "any" | .max => .builtin "max" | .min => .builtin "min"
def sqX : Sq → String
  | .len => "len" | .tuple => "tuple" | .sum => "sum" | .all => "all" | .any => "any" | .max => "max" | .min => "min"
def rCall (K : Frg) (W : Wish) (f : List D → Heap → R (D × Heap)) : List V → Hp → VK → Prop := fun vs H Q => ∃ ι hp ds, HpRep K H ι hp ∧ Reps K H ι ds vs ∧ PoE K W ι H (f ds hp) Q
/-- a value that holds items -/
def Holds (K : Frg) (H : Hp) (ι : List Addr) (ds : List D) (v : V) : Prop := ∃ a ws, v = .ref a ∧ (SqL K H a ws ∨ SqT K H a ws) ∧ Reps K H ι ds ws
def rSq (K : Frg) (W : Wish) (f : List D → Heap → R (D × Heap)) : List V → Hp → VK → Prop := fun vs H Q => ∃ ι hp ds v, HpRep K H ι hp ∧ vs = [v] ∧ Holds K H ι ds v ∧ PoE K W ι H (f ds hp) Q

section
variable {X : Cx} {W : Wish}
theorem reps0 {K : Frg} {H : Hp} {ι : List Addr} {vs : List V} (r : Reps K H ι [] vs) : vs = [] := r
theorem reps1 {K : Frg} {H : Hp} {ι : List Addr} {d : D} {vs : List V} (r : Reps K H ι [d] vs) : ∃ v, vs = [v] ∧ Rep K H ι d v := by
  obtain ⟨v, r', e, h1, h2⟩ := r
  rw [reps0 h2] at e
  exact ⟨v, e, h1⟩
theorem reps2 {K : Frg} {H : Hp} {ι : List Addr} {d e : D} {vs : List V} (r : Reps K H ι [d, e] vs) : ∃ v w, vs = [v, w] ∧ Rep K H ι d v ∧ Rep K H ι e w := by
  obtain ⟨v, r', e, h1, h2⟩ := r
  obtain ⟨w, e2, h3⟩ := reps1 h2
  rw [e2] at e
  exact ⟨v, w, e, h1, h3⟩
theorem call_Bi (hc : X.calm = true) (b : Bi) : CallR X (biF b) (rCall X.K W (biV b)) := by
  intro pins s σ H xs us Q I rs h
  obtain ⟨ι, hp, ds, hh, r, po⟩ := h
  cases b with
  | int =>
    match ds, r, po with
    | [.int i], r, po =>
      obtain ⟨v, rfl, h1⟩ := reps1 r
      exact call_int1 pins s σ H _ us Q I rs (.inl ⟨i, by rw [show v = .int i from h1], PoE.now po hh rfl⟩)
    | [.bl i], r, po =>
      obtain ⟨v, rfl, h1⟩ := reps1 r
      exact call_int1 pins s σ H _ us Q I rs (.inr ⟨i, by rw [show v = .bl i from h1], PoE.now po hh rfl⟩)
    | [], _, po => exact po.elim
    | .non :: _, _, po => cases ‹List D› <;> exact po.elim
    | .str _ :: _, _, po => cases ‹List D› <;> exact po.elim
    | .tup _ :: _, _, po => cases ‹List D› <;> exact po.elim
    | .seq _ :: _, _, po => cases ‹List D› <;> exact po.elim
    | .ref _ :: _, _, po => cases ‹List D› <;> exact po.elim
    | .int _ :: _ :: _, _, po => exact po.elim
    | .bl _ :: _ :: _, _, po => exact po.elim
  | abs =>
    match ds, r, po with
    | [.int i], r, po =>
      obtain ⟨v, rfl, h1⟩ := reps1 r
      exact call_abs pins s σ H _ us Q I rs ⟨i, by rw [show v = .int i from h1], PoE.now po hh rfl⟩
    | [], _, po => exact po.elim
    | .non :: _, _, po => cases ‹List D› <;> exact po.elim
    | .bl _ :: _, _, po => cases ‹List D› <;> exact po.elim
    | .str _ :: _, _, po => cases ‹List D› <;> exact po.elim
    | .tup _ :: _, _, po => cases ‹List D› <;> exact po.elim
    | .seq _ :: _, _, po => cases ‹List D› <;> exact po.elim
    | .ref _ :: _, _, po => cases ‹List D› <;> exact po.elim
    | .int _ :: _ :: _, _, po => exact po.elim
  | min2 =>
    have q : ∃ i j, ds = [.int i, .int j] := by
      match ds, po with
      | [.int i, .int j], _ => exact ⟨i, j, rfl⟩
      | [], po => exact po.elim
      | [a], po => cases a <;> exact po.elim
      | a :: b :: _ :: _, po => cases a <;> cases b <;> exact po.elim
      | [.non, _], po => exact po.elim
      | [.bl _, _], po => exact po.elim
      | [.str _, _], po => exact po.elim
      | [.tup _, _], po => exact po.elim
      | [.seq _, _], po => exact po.elim
      | [.ref _, _], po => exact po.elim
      | [.int _, .non], po => exact po.elim
      | [.int _, .bl _], po => exact po.elim
      | [.int _, .str _], po => exact po.elim
      | [.int _, .tup _], po => exact po.elim
      | [.int _, .seq _], po => exact po.elim
      | [.int _, .ref _], po => exact po.elim
    obtain ⟨i, j, rfl⟩ := q
    obtain ⟨v, w, rfl, h1, h2⟩ := reps2 r
    exact call_min2 hc pins s σ H _ us Q I rs ⟨i, j, by rw [show v = .int i from h1, show w = .int j from h2], PoE.now po hh rfl⟩
  | max2 =>
    have q : ∃ i j, ds = [.int i, .int j] := by
      match ds, po with
      | [.int i, .int j], _ => exact ⟨i, j, rfl⟩
      | [], po => exact po.elim
      | [a], po => cases a <;> exact po.elim
      | a :: b :: _ :: _, po => cases a <;> cases b <;> exact po.elim
      | [.non, _], po => exact po.elim
      | [.bl _, _], po => exact po.elim
      | [.str _, _], po => exact po.elim
      | [.tup _, _], po => exact po.elim
      | [.seq _, _], po => exact po.elim
      | [.ref _, _], po => exact po.elim
      | [.int _, .non], po => exact po.elim
      | [.int _, .bl _], po => exact po.elim
      | [.int _, .str _], po => exact po.elim
      | [.int _, .tup _], po => exact po.elim
      | [.int _, .seq _], po => exact po.elim
      | [.int _, .ref _], po => exact po.elim
    obtain ⟨i, j, rfl⟩ := q
    obtain ⟨v, w, rfl, h1, h2⟩ := reps2 r
    exact call_max2 hc pins s σ H _ us Q I rs ⟨i, j, by rw [show v = .int i from h1, show w = .int j from h2], PoE.now po hh rfl⟩
  | str => cases ds <;> exact po.elim
  | bool => cases ds <;> exact po.elim

theorem sum_seq (hc : X.calm = true) : CallR X (.builtin "sum") (fun vs H Q => ∃ (a : Addr) (ns : List Int), vs = [V.ref a] ∧ (SqL X.K H a (ns.map V.int) ∨ SqT X.K H a (ns.map V.int)) ∧ Q (.int ns.sum) H) := by
  intro pins s σ H xs us Q I rs h
  obtain ⟨a, ns, rfl, hq, q⟩ := h
  rcases hq with hq | hq
  · exact cr_sum hc pins s σ H _ us Q I rs ⟨a, ns, rfl, hq, q⟩
  · obtain rfl := rs.ref1
    obtain ⟨its, rv, ht, hz⟩ := I.tuple hq
    have hi := rv.ints
    obtain ⟨xs, e⟩ := hi.allInts.items
    have hn : numsOf (intItems xs).toList = ns := by rw [← e]; exact hi.numsOf
    rw [nums_intItems] at hn
    rw [e] at ht
    refine PySem.W.ktm_sumG (I.ok.hd hc) ht fun h' tk t' hk => ?_
    rw [preSum_eq, List.take_of_length_le (by simp), hn]
    exact ⟨.int ns.sum, H, I.kept (t' := tk) hk, ⟨_, rfl⟩, q⟩
theorem call_Sq (hc : X.calm = true) (b : Sq) : CallR X (sqF b) (rSq X.K W (sqV b)) := by
  intro pins s σ H xs us Q I rs h
  obtain ⟨ι, hp, ds, v, hh, rfl, ⟨a, ws, rfl, hq, z⟩, po⟩ := h
  cases b with
  | len => exact call_len_seq pins s σ H _ us Q I rs ⟨a, ws, rfl, hq, by rw [← z.length]; exact PoE.now po hh rfl⟩
  | tuple =>
    refine call_tuple_of pins s σ H _ us Q I rs ⟨a, ws, rfl, ?_⟩
    rcases hq with hq | hq
    · exact .inl ⟨hq, fun l hn => new_tup hh z hn po⟩
    · exact .inr ⟨hq, PoE.now po hh ⟨a, ws, rfl, hq, z⟩⟩
  | sum =>
    obtain ⟨is, e, po⟩ := Po.ofO po
    rw [z.ints e] at hq
    exact sum_seq hc pins s σ H _ us Q I rs ⟨a, is, rfl, hq, PoE.now po hh rfl⟩
  | _ => exact po.elim
end
end Tw
end

section
set_option Elab.async false
set_option linter.all false
set_option maxRecDepth 100000
set_option maxHeartbeats 4000000
/-! When a term of the core language stands for a piece of the program's text. Own work. -/
namespace Tw
open PySem PySem.Spec PyProof.Rows L2

/-- where one stands: the scope that runs, the scope whose names may be stored -/
structure Wh where
  N : List Str
  sc : Scope
  st : Scope
def visB (sc : Scope) (x : Str) : Bool := match sc.names.lookup x with
  | some .local => true
  | some .cell => true
  | some .free => true
  | _ => false
def locB (sc : Scope) (x : Str) : Bool := match sc.names.lookup x with
  | some .local => true
  | some .cell => true
  | _ => false
def glB (sc : Scope) (x : Str) : Bool := match sc.names.lookup x with
  | some .globalImplicit => true
  | _ => false
def nmB (x : Str) : Bool := !(x == ("__debug__" : Str)) && !(x == ("__classdict__" : Str)) && !(x == ("__name__" : Str))
def tyX : Ty → String
  | .int => "int" | .bool => "bool" | .str => "str" | .tuple => "tuple" | .list => "list"
/-- a name that is a built-in's -/
def blB (G : GI) (w : Wh) (x : Str) (s : String) : Bool := decide (x = Str.ofString s) && glB w.sc x && G.bl.any fun y => decide (y = x)
def plainE : Expr → Bool
  | .Slice .. => false
  | .Starred .. => false
  | _ => true
def compE : Expr → Bool
  | .ListComp .. => true
  | .SetComp .. => true
  | .DictComp .. => true
  | _ => false
/-- nothing special in its test -/
def tstE : Expr → Bool
  | .UnaryOp .Not _ _ => false
  | .BoolOp .. => false
  | .IfExp .. => false
  | .Compare .. => false
  | _ => true
def cmpE : Expr → Bool
  | .Compare .. => true
  | _ => false
/-- no display of a set -/
def setE : Expr → Bool
  | .Set .. => false
  | _ => true
/-- a value and its target: a comprehension is not stored in a name here, a display of a tuple not in several -/
def swOk : Expr → Expr → Bool
  | .ListComp .., .Name .. => false
  | .SetComp .., .Name .. => false
  | .DictComp .., .Name .. => false
  | .Tuple .., .Tuple .. => false
  | .Tuple .., .List .. => false
  | _, _ => true
/-- no call of super -/
def baseE : Expr → Bool
  | .Call .. => false
  | _ => true
def opM : BOp → Operator → Bool
  | .add, .Add => true | .sub, .Sub => true | .mul, .Mult => true | .mod, .Mod => true | .fdiv, .FloorDiv => true | .pow, .Pow => true | .shl, .LShift => true
  | _, _ => false
def cpM : COp → CmpOp → Bool
  | .eq, .Eq => true | .ne, .NotEq => true | .lt, .Lt => true | .le, .LtE => true | .gt, .Gt => true | .ge, .GtE => true | .is, .Is => true | .isnot, .IsNot => true | .isin, .In => true | .notin, .NotIn => true
  | _, _ => false
def ownOf (N : List Str) (is : List Nat) : List (Str × Nat) := is.map fun i => (N.getD i Str.empty, i)
def inW (w : Wh) (scope : Scope) : Wh := ⟨w.N, relS scope w.sc, scope⟩
mutual
def CT.flat : CT → Bool
  | .name _ => true
  | .tup ts => ts.flat
  | .sub _ _ => false
def CTs.flat : CTs → Bool
  | .nil => true
  | .cons t ts => t.flat && ts.flat
end

mutual
def mE (G : GI) : Wh → CE → Expr → Bool
  | w, .var i, e => (match e with
    | .Name x _ => decide (w.N[i]? = some x) && visB w.sc x && nmB x
    | _ => false)
  | w, .int i, e => (match e with
    | .Constant (.int j) _ _ => decide (i = j)
    | _ => false)
  | w, .bl i, e => (match e with
    | .Constant (.bool j) _ _ => decide (i = j)
    | _ => false)
  | w, .non, e => (match e with
    | .Constant .none _ _ => true
    | _ => false)
  | w, .str i, e => (match e with
    | .Constant (.str j) _ _ => decide (i = j)
    | _ => false)
  | w, .cst i, e => (match e with
    | .Name x _ => decide (G.cs[i]? = some x) && glB w.sc x && nmB x
    | _ => false)
  | w, .bin op a b, e => (match e with
    | .BinOp l o r _ => opM op o && mE G w a l && mE G w b r
    | _ => false)
  | w, .cmp op a b, e => (match e with
    | .Compare l [o] [r] _ => cpM op o && mE G w a l && mE G w b r && !behindInMarks o r
    | _ => false)
  | w, .chain o1 o2 a b c, e => (match e with
    | .Compare l [p1, p2] [m, r] _ => cpM o1 p1 && cpM o2 p2 && mE G w a l && mE G w b m && mE G w c r && !lastMarks [p1, p2] [m, r]
    | _ => false)
  | w, .and a b, e => (match e with
    | .BoolOp .And [x, y] _ => mE G w a x && mE G w b y
    | .BoolOp .And (x :: y :: z :: zs) p => mE G w a x && mE G w b (.BoolOp .And (y :: z :: zs) p)
    | _ => false)
  | w, .or a b, e => (match e with
    | .BoolOp .Or [x, y] _ => mE G w a x && mE G w b y
    | .BoolOp .Or (x :: y :: z :: zs) p => mE G w a x && mE G w b (.BoolOp .Or (y :: z :: zs) p)
    | _ => false)
  | w, .not a, e => (match e with
    | .UnaryOp .Not x _ => mN G w a x
    | _ => false)
  | w, .neg a, e => (match e with
    | .UnaryOp .USub x _ => mE G w a x
    | _ => false)
  | w, .ite c a b, e => (match e with
    | .IfExp t x y _ => mB G w c t && mE G w a x && mE G w b y
    | _ => false)
  | w, .idx a i, e => (match e with
    | .Subscript o s _ => mE G w a o && mE G w i s && plainE s
    | _ => false)
  | w, .slc a lo hi, e => (match e with
    | .Subscript o (.Slice l u none _) _ => mE G w a o && mO G w lo l && mO G w hi u
    | _ => false)
  | w, .tup es, e => (match e with
    | .Tuple xs _ _ => mEs G w es xs
    | _ => false)
  | w, .new l, e => mL G w l e
  | w, .dct ps, e => (match e with
    | .Dict ks vs _ => mP G w ps ks vs && !ks.isEmpty && decide (ks.length ≤ 15)
    | _ => false)
  | w, .dcomp k v t it cd, e => (match e with
    | .DictComp kx vx [⟨tg, iter, ifs, 0⟩] scope _ => blkC w.N w.sc scope (ownOf w.N t.slots) && t.flat && mI G w it iter tg && mT G (inW w scope) t tg && mIf G (inW w scope) cd ifs && mE G (inW w scope) k kx && mE G (inW w scope) v vx
    | _ => false)
  | w, .call f as, e => (match e with
    | .Call (.Name x _) args [] _ => (match G.fns[f]? with
      | some p => decide (p.1 = x) && glB w.sc x && nmB x && mEs G w as args
      | none => false)
    | _ => false)
  | w, .bi b as, e => (match e with
    | .Call (.Name x _) args [] _ => blB G w x (biX b) && mEs G w as args && !args.isEmpty
    | _ => false)
  | w, .sq b s, e => (match e with
    | .Call (.Name x _) [a] [] _ => blB G w x (sqX b) && mQ G w s a
    | _ => false)
  | w, .isin a t, e => (match e with
    | .Call (.Name x _) [y, .Name z _] [] _ => blB G w x "isinstance" && mE G w a y && blB G w z (tyX t)
    | _ => false)
  | w, .app l a, e => (match e with
    | .Call (.Attribute o m ap) [x] [] cp => decide (m = Str.ofString "append") && mE G w l o && mE G w a x && baseE o && (ap.endLine == cp.line)
    | _ => false)
  | w, .ext l a, e => (match e with
    | .Call (.Attribute o m ap) [x] [] cp => decide (m = Str.ofString "extend") && mE G w l o && mL G w a x && baseE o && (ap.endLine == cp.line)
    | _ => false)
/-- a test's term for what stands behind «not» as a value -/
def mN (G : GI) : Wh → CB → Expr → Bool
  | w, .val a, e => mE G w a e
  | _, _, _ => false
def mB (G : GI) : Wh → CB → Expr → Bool
  | w, .val a, e => mE G w a e && (tstE e || cmpE e)
  | w, .and a b, e => (match e with
    | .BoolOp .And [x, y] _ => mB G w a x && mB G w b y
    | .BoolOp .And (x :: y :: z :: zs) p => mB G w a x && mB G w b (.BoolOp .And (y :: z :: zs) p)
    | _ => false)
  | w, .or a b, e => (match e with
    | .BoolOp .Or [x, y] _ => mB G w a x && mB G w b y
    | .BoolOp .Or (x :: y :: z :: zs) p => mB G w a x && mB G w b (.BoolOp .Or (y :: z :: zs) p)
    | _ => false)
  | w, .not a, e => (match e with
    | .UnaryOp .Not x _ => mB G w a x
    | _ => false)
  | w, .ite _ _ _, e => false
def mIf (G : GI) : Wh → CBO → List Expr → Bool
  | w, .none, es => (match es with
    | [] => true
    | _ => false)
  | w, .some a, es => (match es with
    | [x] => mB G w a x
    | _ => false)
def mO (G : GI) : Wh → CO → Option Expr → Bool
  | w, .none, e => (match e with
    | none => true
    | _ => false)
  | w, .some a, e => (match e with
    | some x => mE G w a x
    | _ => false)
def mEs (G : GI) : Wh → CEs → List Expr → Bool
  | w, .nil, es => (match es with
    | [] => true
    | _ => false)
  | w, .cons a as, es => (match es with
    | x :: xs => mE G w a x && plainE x && mEs G w as xs
    | _ => false)
def mP (G : GI) : Wh → CPs → List (Option Expr) → List Expr → Bool
  | w, .nil, ks, vs => (match ks, vs with
    | [], [] => true
    | _, _ => false)
  | w, .cons a b ps, ks, vs => (match ks, vs with
    | some k :: ks, v :: vs => mE G w a k && mE G w b v && mP G w ps ks vs
    | _, _ => false)
def mL (G : GI) : Wh → CL → Expr → Bool
  | w, .comp a t it cd, e => (match e with
    | .ListComp x [⟨tg, iter, ifs, 0⟩] scope _ => blkC w.N w.sc scope (ownOf w.N t.slots) && t.flat && mI G w it iter tg && mT G (inW w scope) t tg && mIf G (inW w scope) cd ifs && mE G (inW w scope) a x
    | _ => false)
  | w, .disp es, e => (match e with
    | .List xs _ => mEs G w es xs
    | _ => false)
  | w, .rep es n, e => (match e with
    | .BinOp (.List xs _) .Mult r _ => mEs G w es xs && mE G w n r
    | _ => false)
/-- what is walked, by such a target -/
def mI (G : GI) : Wh → CI → Expr → Expr → Bool
  | w, .val a, e, _ => mE G w a e && plainE e && setE e
  | w, .tmp l, e, _ => mL G w l e
  | w, .rng1 a, e, _ => (match e with
    | .Call (.Name x _) [y] [] _ => blB G w x "range" && mE G w a y && plainE y
    | _ => false)
  | w, .rng2 a b, e, _ => (match e with
    | .Call (.Name x _) [y, z] [] _ => blB G w x "range" && mE G w a y && plainE y && mE G w b z && plainE z
    | _ => false)
  | w, .enum a, e, tg => (match e, tg with
    | .Call (.Name x _) [y] [] _, .Tuple _ _ _ => blB G w x "enumerate" && mE G w a y && plainE y
    | _, _ => false)
  | w, .zip a b, e, tg => (match e, tg with
    | .Call (.Name x _) [y, z] [] _, .Tuple _ _ _ => blB G w x "zip" && mE G w a y && plainE y && mE G w b z && plainE z
    | _, _ => false)
def mQ (G : GI) : Wh → CI → Expr → Bool
  | w, .val a, e => mE G w a e && plainE e
  | w, .tmp l, e => mL G w l e
  | _, _, _ => false
def mT (G : GI) : Wh → CT → Expr → Bool
  | w, .name i, e => (match e with
    | .Name x _ => decide (w.N[i]? = some x) && locB w.st x
    | _ => false)
  | w, .tup ts, e => (match e with
    | .Tuple xs _ _ => mTs G w ts xs
    | _ => false)
  | w, .sub o i, e => (match e with
    | .Subscript x y _ => mE G w o x && mE G w i y && plainE y
    | _ => false)
def mTs (G : GI) : Wh → CTs → List Expr → Bool
  | w, .nil, es => (match es with
    | [] => true
    | _ => false)
  | w, .cons t ts, es => (match es with
    | x :: xs => mT G w t x && plainE x && mTs G w ts xs
    | _ => false)
end
/-- a comprehension stored in a name: the name is a cell, or it stands on the comprehension's line and is none of its own -/
def swB (w : Wh) : Expr → Expr → Bool
  | .ListComp _ _ scope pos, .Name y py => (match w.sc.names.lookup y with
    | some .local => (py.line == pos.line) && !(scope.names.any fun (n, k) => n == y && (k == .local || k == .cell))
    | some .cell => true
    | _ => false)
  | .DictComp _ _ _ scope pos, .Name y py => (match w.sc.names.lookup y with
    | some .local => (py.line == pos.line) && !(scope.names.any fun (n, k) => n == y && (k == .local || k == .cell))
    | some .cell => true
    | _ => false)
  | _, _ => false
mutual
def mS (G : GI) : Wh → CS → Stmt → Bool
  | w, .asg t a, s => (match s with
    | .Assign [tg] e _ => mT G w t tg && mE G w a e && plainE tg && (swOk e tg || swB w e tg)
    | _ => false)
  | w, .aug i op a, s => (match s with
    | .AugAssign (.Name x _) o e _ => opM op o && decide (w.N[i]? = some x) && locB w.st x && visB w.sc x && nmB x && mE G w a e
    | _ => false)
  | w, .ex a, s => (match s with
    | .Expr e _ => mE G w a e && !compE e
    | _ => false)
  | w, .ret a, s => (match s with
    | .Return (some e) _ => mE G w a e
    | _ => false)
  | w, .retN, s => (match s with
    | .Return none _ => true
    | _ => false)
  | w, .ite c a b, s => (match s with
    | .If t x y _ => mB G w c t && mSs G w a x && mSs G w b y
    | _ => false)
  | w, .loop t it b, s => (match s with
    | .For tg iter body [] _ => mT G w t tg && mI G w it iter tg && mSs G w b body
    | _ => false)
  | w, .wh c b, s => (match s with
    | .While t body [] _ => mB G w c t && mSs G w b body
    | _ => false)
  | w, .brk, s => (match s with
    | .Break _ => true
    | _ => false)
  | w, .cnt, s => (match s with
    | .Continue _ => true
    | _ => false)
  | w, .pass, s => (match s with
    | .Pass _ => true
    | _ => false)
  | w, .raise, s => (match s with
    | .Raise _ _ _ => true
    | _ => false)
def mSs (G : GI) : Wh → CSs → List Stmt → Bool
  | w, .nil, ss => (match ss with
    | [] => true
    | _ => false)
  | w, .cons a as, ss => (match ss with
    | x :: xs => mS G w a x && mSs G w as xs
    | _ => false)
end
end Tw
end

section
set_option Elab.async false
set_option linter.all false
set_option maxRecDepth 100000
set_option maxHeartbeats 4000000
/-! The readings of terms are kept by the pieces of text that they stand for. Own work. -/
namespace Tw
open PySem PySem.Spec PyProof.Rows L2

abbrev W0 : Wish := fun _ _ _ _ _ => False
/-- a function's promise by the core language -/
def spT (K : Frg) (F : List D → Heap → R (D × Heap)) (n : Nat) : Sp := fun vs H Q _ => vs.length = n ∧ ∃ ι hp ds, HpRep K H ι hp ∧ Reps K H ι ds vs ∧ PoE K W0 ι H (F ds hp) Q
structure XOk (G : GI) (c : Ctx) (w : Wh) (X : Cx) : Prop where
  N : X.N = w.N
  nd : w.N.Nodup
  sc : X.env.scope = w.sc
  knd : X.env.scope.kind = .function
  calm : X.calm = true
  fn : ∀ x, locB w.st x = true → Loc w.sc x ∧ (X.fn x = true ∨ w.sc.names.lookup x = some .local)
  hu : X.A.units + 64 < cLine
  bl : ∀ x ∈ G.bl, X.mg x = none
  cs : ∀ (i : Nat) (x : Str), G.cs[i]? = some x → ∃ d u v, c.cs[i]? = some d ∧ X.mg x = some u ∧ RelV v u ∧ ∀ H ι, Rep X.K H ι d v
  ar : ∀ (f : Nat) (p : Str × Nat), G.fns[f]? = some p → ∀ ds hp, ds.length ≠ p.2 → c.T f ds hp = .no
  fns : ∀ (f : Nat) (p : Str × Nat), G.fns[f]? = some p → ∃ k fa fd ps, FnOk X.prog X.w X.K X.mg X.base CX0 k fa fd ps (spT X.K (c.T f) p.2) ∧ Room k X.A ∧ X.mg p.1 = some (.ref fa) ∧ PySem.W.keepIn X.K (.ref fa) = true ∧ Binds X.K fd ps []

/-! ### small facts of the text -/
theorem tt {a b : Bool} (h : (a && b) = true) : a = true ∧ b = true := Bool.and_eq_true_iff.mp h
theorem vis_of {sc : Scope} {x : Str} (h : visB sc x = true) : Vis sc x := by
  unfold visB at h
  split at h
  · exact .inl (by assumption)
  · exact .inr (.inl (by assumption))
  · exact .inr (.inr (by assumption))
  · cases h
theorem gl_of {G : GI} {c : Ctx} {w : Wh} {X : Cx} {x : Str} (O : XOk G c w X) (h : glB w.sc x = true) : Gl X x := by
  unfold glB at h
  split at h
  · show X.env.scope.names.lookup x = _
    rw [O.sc]
    assumption
  · cases h
theorem nm_of {x : Str} (h : nmB x = true) : (x == ("__debug__" : Str)) = false ∧ (x == ("__classdict__" : Str)) = false ∧ x ≠ "__name__" := by
  unfold nmB at h
  obtain ⟨h, h3⟩ := tt h
  obtain ⟨h1, h2⟩ := tt h
  exact ⟨by simpa using h1, by simpa using h2, by simpa using h3⟩
theorem bl_of {G : GI} {c : Ctx} {w : Wh} {X : Cx} {x : Str} {s : String} (O : XOk G c w X) (h : blB G w x s = true) : x = Str.ofString s ∧ Gl X x ∧ X.mg x = none := by
  unfold blB at h
  obtain ⟨h, h3⟩ := tt h
  obtain ⟨h1, h2⟩ := tt h
  obtain ⟨y, hy, e⟩ := List.any_eq_true.mp h3
  have e := of_decide_eq_true e
  subst e
  exact ⟨of_decide_eq_true h1, gl_of O h2, O.bl _ hy⟩
theorem star_cons {X : Cx} {e : Expr} {es : List Expr} (h : plainE e = true) : starEach (e :: es) X.env = (false, eval e X.env) :: starEach es X.env := by
  cases e <;> first | rfl | cases h
theorem asg_cons {X : Cx} {e : Expr} {es : List Expr} (h : plainE e = true) : assignEach (e :: es) X.env = (false, assign e X.env) :: assignEach es X.env := by
  cases e <;> first | rfl | cases h
theorem star_all {X : Cx} : ∀ {es : List Expr}, (∀ e ∈ es, plainE e = true) → ∀ pos, (backTo pos (starEach es X.env)).any (·.1) = false
  | [], _, pos => rfl
  | e :: es, h, pos => by
    rw [star_cons (h e List.mem_cons_self)]
    show (false || (backTo pos (starEach es X.env)).any (·.1)) = false
    rw [star_all (fun x hx => h x (List.mem_cons_of_mem _ hx)) pos]
    rfl
theorem mEs_plain {G : GI} {w : Wh} : ∀ {as : CEs} {es : List Expr}, mEs G w as es = true → ∀ e ∈ es, plainE e = true
  | .nil, [], _, e, he => nomatch he
  | .nil, _ :: _, h, _, _ => by simp [mEs] at h
  | .cons a as, [], h, _, _ => by simp [mEs] at h
  | .cons a as, x :: xs, h, e, he => by
    simp only [mEs] at h
    obtain ⟨h, h2⟩ := tt h
    obtain ⟨h, h1⟩ := tt h
    rcases List.mem_cons.mp he with rfl | he
    · exact h1
    · exact mEs_plain h2 e he
theorem plain_ix {e : Expr} (h : plainE e = true) : PlainIx e := by
  intro o i
  cases e <;> first | rfl | cases h
theorem op_of {op : BOp} {o : Operator} (h : opM op o = true) : o = opN op := by
  cases op <;> cases o <;> first | rfl | cases h
theorem cp_of {op : COp} {o : CmpOp} (h : cpM op o = true) : o = cpN op := by
  cases op <;> cases o <;> first | rfl | cases h
theorem base_of {X : Cx} {o : Expr} {m : Str} (h : baseE o = true) : attributeBase o m X.env (eval o X.env) = eval o X.env := by
  cases o <;> first | rfl | cases h
theorem tst_of {X : Cx} {e : Expr} (h : tstE e = true) : ∀ whole, isTrue e X.env whole = (do let v ← whole; standAt e.pos; holding [v] (truthy v)) := by
  intro whole
  cases e <;> first | rfl | skip
  all_goals first
    | (rename_i op x p; cases op <;> first | rfl | cases h)
    | cases h
theorem fold_of {X : Cx} {e : Expr} (h : setE e = true) : ∀ x, foldedSetIterable e X.env x = pure x := by
  intro x
  cases e <;> first | rfl | cases h
theorem hu1 {G : GI} {c : Ctx} {w : Wh} {X : Cx} (O : XOk G c w X) : X.A.units + 1 < cLine := by have := O.hu; omega

/-! ### slots -/
/-- only such slots were written -/
def Agr (is : List Nat) (σ σ' : L2.St) : Prop := σ'.length = σ.length ∧ ∀ i, i ∉ is → σ'[i]? = σ[i]?
theorem Agr.refl {is : List Nat} {σ : L2.St} : Agr is σ σ := ⟨rfl, fun _ _ => rfl⟩
theorem Agr.trans {is js : List Nat} {σ σ1 σ2 : L2.St} (a : Agr is σ σ1) (b : Agr js σ1 σ2) : Agr (is ++ js) σ σ2 :=
  ⟨b.1.trans a.1, fun i h => (b.2 i fun z => h (List.mem_append_right _ z)).trans (a.2 i fun z => h (List.mem_append_left _ z))⟩
theorem Agr.set {i : Nat} {σ : L2.St} {x : Option V} : Agr [i] σ (σ.set i x) := ⟨by simp, fun j h => by
  rw [List.getElem?_set_ne]
  exact fun e => h (by simp [e])⟩
theorem wipe_get {σ : L2.St} : ∀ {is : List Nat} (i : Nat), (wipe σ is)[i]? = if i ∈ is ∧ i < σ.length then some none else σ[i]?
  | [], i => by simp [wipe]
  | j :: is, i => by
    unfold wipe
    by_cases e : j = i
    · subst e
      by_cases hl : j < σ.length
      · rw [List.getElem?_set_self (by rw [wipe_length]; exact hl), if_pos ⟨by simp, hl⟩]
      · rw [List.getElem?_eq_none (by rw [List.length_set, wipe_length]; omega), if_neg (fun z => hl z.2), List.getElem?_eq_none (by omega)]
    · rw [List.getElem?_set_ne e, wipe_get i]
      have : (i ∈ is ∧ i < σ.length) ↔ (i ∈ j :: is ∧ i < σ.length) := by
        simp only [List.mem_cons]
        constructor
        · exact fun ⟨h1, h2⟩ => ⟨.inr h1, h2⟩
        · rintro ⟨h1 | h1, h2⟩
          · exact absurd h1.symm e
          · exact ⟨h1, h2⟩
      simp only [this]
theorem Agr.wipe {is : List Nat} {σ σ' : L2.St} (a : Agr is σ σ') : wipe σ' is = wipe σ is := by
  apply List.ext_getElem?
  intro i
  rw [wipe_get, wipe_get, a.1]
  split
  · rfl
  · rename_i h
    by_cases hm : i ∈ is
    · have hl : ¬ i < σ.length := fun z => h ⟨hm, z⟩
      have hl' := a.1
      rw [List.getElem?_eq_none (show σ'.length ≤ i by omega), List.getElem?_eq_none (show σ.length ≤ i by omega)]
    · exact a.2 i hm
theorem SRep.set {K : Frg} {H : Hp} {ι : List Addr} {σ : L2.St} {ρ : Env} {d : D} {v : V} (r : SRep K H ι σ ρ) (q : Rep K H ι d v) (i : Nat) : SRep K H ι (σ.set i (some v)) (ρ.set i (some d)) := by
  refine ⟨by simp [r.1], fun j e h => ?_⟩
  by_cases hj : i = j
  · subst hj
    by_cases hl : i < ρ.length
    · rw [List.getElem?_set_self hl] at h
      cases h
      exact ⟨v, List.getElem?_set_self (by rw [r.1]; exact hl), q⟩
    · rw [List.getElem?_eq_none (by simpa using hl)] at h; cases h
  · rw [List.getElem?_set_ne hj] at h ⊢
    exact r.2 j e h
theorem SRep.wipe {K : Frg} {H : Hp} {ι : List Addr} {σ : L2.St} {ρ : Env} (r : SRep K H ι σ ρ) : ∀ is : List Nat, SRep K H ι (wipe σ is) (wipeE ρ is)
  | [] => r
  | i :: is => by
    have q := SRep.wipe r is
    refine ⟨by simp [L2.wipe, wipeE, q.1], fun j e h => ?_⟩
    unfold wipeE at h
    unfold L2.wipe
    by_cases hj : i = j
    · subst hj
      by_cases hl : i < (wipeE ρ is).length
      · rw [List.getElem?_set_self hl] at h; cases h
      · rw [List.getElem?_eq_none (by simpa using hl)] at h; cases h
    · rw [List.getElem?_set_ne hj] at h ⊢
      exact q.2 j e h

/-! ### readings of what is walked, of targets, of lists that are made -/
/-- the iterator J yields these items as long as the lists at g stand -/
structure Wk (K : Frg) (J : It) (g : List (Nat × O)) (xs : List D) (ι0 : List Addr) (H0 : Hp) : Prop where
  go : ∀ ι H hp, Step ι0 H0 ι H → HpRep K H ι hp → guards g hp = true → ∀ (i : Nat) (d : D), xs[i]? = some d → J.go i H ∧ ∀ x H', J.yld i H x H' → Step ι H ι H' ∧ HpRep K H' ι hp ∧ Rep K H' ι d x
  stop : ∀ ι H hp, Step ι0 H0 ι H → HpRep K H ι hp → guards g hp = true → J.stop xs.length H
def SI (K : Frg) (R : It → Hp → Prop) (r : Walk × Heap) (ι' : List Addr) (H' : Hp) : Prop := HpRep K H' ι' r.2 → ∀ J, Wk K J r.1.2 r.1.1 ι' H' → R J H'
def rdI (K : Frg) (c : Ctx) (s : CI) : TI := fun σ H R => ∃ ι ρ hp, SRep K H ι σ ρ ∧ HpRep K H ι hp ∧ Po W0 ι H (evI c s ρ hp) (SI K R)
def ST (K : Frg) (is : List Nat) (σ : L2.St) (Q : L2.St → Hp → Prop) (r : Env × Heap) (ι' : List Addr) (H' : Hp) : Prop := HpRep K H' ι' r.2 → ∀ σ', Agr is σ σ' → SRep K H' ι' σ' r.1 → Q σ' H'
def rdT (K : Frg) (c : Ctx) (t : CT) : TG := fun v σ H Q => ∃ ι ρ hp d, SRep K H ι σ ρ ∧ HpRep K H ι hp ∧ Rep K H ι d v ∧ Po W0 ι H (asg c t d ρ hp) (ST K t.slots σ Q)
def rdTs (K : Frg) (c : Ctx) (t : CTs) : TGs := fun vs σ H Q => ∃ ι ρ hp ds, SRep K H ι σ ρ ∧ HpRep K H ι hp ∧ Reps K H ι ds vs ∧ Po W0 ι H (asgs c t ds ρ hp) (ST K t.slots σ Q)
/-- a list that no number names yet -/
def SL (K : Frg) (H : Hp) (Q : VK) (r : List D × Heap) (ι' : List Addr) (H' : Hp) : Prop := HpRep K H' ι' r.2 → ∀ a vs, H a = none → a ∉ ι' → H' a = some (.lst vs) → Reps K H' ι' r.1 vs → Q (.ref a) H'
def rdL (K : Frg) (c : Ctx) (l : CL) : TE := fun σ H Q => ∃ ι ρ hp, SRep K H ι σ ρ ∧ HpRep K H ι hp ∧ Po W0 ι H (evL c l ρ hp) (SL K H Q)
/-- what holds items -/
def SQ (K : Frg) (Q : VK) (r : List D × Heap) (ι' : List Addr) (H' : Hp) : Prop := HpRep K H' ι' r.2 → ∀ v, Holds K H' ι' r.1 v → Q v H'
def rdQ (K : Frg) (c : Ctx) (s : CI) : TE := fun σ H Q => ∃ ι ρ hp, SRep K H ι σ ρ ∧ HpRep K H ι hp ∧ Po W0 ι H (evQ c s ρ hp) (SQ K Q)
def rdO (K : Frg) (c : Ctx) (e : CO) : TO := fun σ H Q => ∃ ι ρ hp, SRep K H ι σ ρ ∧ HpRep K H ι hp ∧ Po W0 ι H (evO c e ρ hp) fun r ι' H' => HpRep K H' ι' r.2 → Q r.1 H'
def rdF (K : Frg) (c : Ctx) (e : CBO) : TT := fun σ H Q => ∃ ι ρ hp, SRep K H ι σ ρ ∧ HpRep K H ι hp ∧ Po W0 ι H (tvO c e ρ hp) (SB K Q)
def SP (K : Frg) (Q : List (V × V) → Hp → Prop) (r : List (D × D) × Heap) (ι' : List Addr) (H' : Hp) : Prop := HpRep K H' ι' r.2 → ∀ ps, Reps K H' ι' (r.1.map (·.1)) (ps.map (·.1)) → Reps K H' ι' (r.1.map (·.2)) (ps.map (·.2)) → Q ps H'

theorem _root_.L2.PG.imp {X : Cx} {e : Expr} {t t' : TG} (h : PG X e t) (i : ∀ v σ H Q, t' v σ H Q → t v σ H Q) : PG X e t' := ⟨fun pins s σ H v u Q I r q => h.run pins s σ H v u Q I r (i v σ H Q q)⟩
theorem _root_.L2.PGs.imp {X : Cx} {e : List Expr} {t t' : TGs} (h : PGs X e t) (i : ∀ v σ H Q, t' v σ H Q → t v σ H Q) : PGs X e t' := ⟨fun pins s σ H v u Q I r q => h.run pins s σ H v u Q I r (i v σ H Q q)⟩
theorem _root_.L2.PA.imp {X : Cx} {e : List Expr} {t t' : TA} (h : PA X e t) (i : ∀ σ H Q, t' σ H Q → t σ H Q) : PA X e t' := ⟨fun pos pins s σ H Q I q => h.run pos pins s σ H Q I (i σ H Q q)⟩
theorem _root_.L2.PI.imp {X : Cx} {tg e : Expr} {t t' : TI} (h : PI X tg e t) (i : ∀ σ H R, t' σ H R → t σ H R) : PI X tg e t' := ⟨fun pins s σ H R I q => h.run pins s σ H R I (i σ H R q)⟩
theorem _root_.L2.PO.imp {X : Cx} {e : Option Expr} {t t' : TO} (h : PO X e t) (i : ∀ σ H R, t' σ H R → t σ H R) : PO X e t' := ⟨fun pins s σ H R I q => h.run pins s σ H R I (i σ H R q)⟩
theorem _root_.L2.PTs.imp {X : Cx} {e : List Expr} {t t' : TT} (h : PTs X e t) (i : ∀ σ H R, t' σ H R → t σ H R) : PTs X e t' := ⟨fun pins s σ H R I q => h.run pins s σ H R I (i σ H R q)⟩
theorem _root_.L2.PW.imp {X : Cx} {e : Expr} {t t' : TT} (h : PW X e t) (i : ∀ σ H Q, t' σ H Q → t σ H Q) : PW X e t' := ⟨fun wh pins s σ H Q I q => h.run wh pins s σ H Q I (i σ H Q q)⟩
end Tw
end

section
set_option Elab.async false
set_option linter.all false
set_option maxRecDepth 100000
set_option maxHeartbeats 4000000
/-! Loops and comprehensions. Own work. -/
namespace Tw
open PySem PySem.Spec PyProof.Rows L2

theorem drop_nil {α : Type} {xs : List α} {i : Nat} (h : xs.length ≤ i) : xs.drop i = [] := List.drop_eq_nil_of_le h
theorem drop_cons {α : Type} {xs : List α} {i : Nat} (h : i < xs.length) : xs.drop i = xs[i] :: xs.drop (i + 1) := List.drop_eq_getElem_cons h

/-- back before: nothing stood there -/
theorem Step.was {K : Frg} {ι ι' : List Addr} {H H' : Hp} {hp' : Heap} (s : Step ι H ι' H') (h' : HpRep K H' ι' hp') {a : Addr} (n : H' a = none) : H a = none := by
  cases q : H a with
  | none => rfl
  | some o =>
    by_cases hm : a ∈ ι
    · obtain ⟨κ, e⟩ := s.pre
      have hm' : a ∈ ι' := by rw [e]; exact List.mem_append_left _ hm
      exact absurd hm' (h'.notin n)
    · rw [s.kp a o q hm] at n; cases n
/-- a thing that no number names is written -/
theorem Step.off {ι ι' : List Addr} {H H' : Hp} (s : Step ι H ι' H') {a : Addr} {o : HO} (n : H a = none) : Step ι H ι' (upd H' a o) :=
  ⟨s.pre, s.new, fun b u e hb => by rw [upd_ne (ne_of_none e n)]; exact s.kp b u e hb⟩
/-- where a thing that no number names is written, values stay what they are -/
theorem off_rep {K : Frg} {H : Hp} {ι : List Addr} {a : Addr} {o : HO} (nt : ∀ xs, H a ≠ some (.tup xs)) (nf : ∀ u w, H a ≠ some (.frz u w)) : (∀ (d : D) (v : V), Rep K H ι d v → Rep K (upd H a o) ι d v) ∧ ∀ (ds : List D) (vs : List V), Reps K H ι ds vs → Reps K (upd H a o) ι ds vs := by
  have t : ∀ {b : Addr} {xs : List V}, SqT K H b xs → SqT K (upd H a o) b xs := fun {b xs} h => by
    rcases h with (h | ⟨u, h⟩) | h
    · exact .inl (.inl (by rw [upd_ne (show b ≠ a from fun e => nt xs (by rw [← e]; exact h))]; exact h))
    · exact .inl (.inr ⟨u, by rw [upd_ne (show b ≠ a from fun e => nf u _ (by rw [← e]; exact h))]; exact h⟩)
    · exact .inr h
  have f : ∀ {b : Addr} {xs : List V}, SqF K H b xs → SqF K (upd H a o) b xs := fun {b xs} h => by
    rcases h with ⟨u, h⟩ | h
    · exact .inl ⟨u, by rw [upd_ne (show b ≠ a from fun e => nf u _ (by rw [← e]; exact h))]; exact h⟩
    · exact .inr h
  have main : ∀ n : Nat, (∀ (d : D), sizeOf d < n → ∀ v : V, Rep K H ι d v → Rep K (upd H a o) ι d v) ∧ ∀ (ds : List D), sizeOf ds < n → ∀ vs : List V, Reps K H ι ds vs → Reps K (upd H a o) ι ds vs := by
    intro n
    induction n with
    | zero => exact ⟨fun d h => absurd h (Nat.not_lt_zero _), fun d h => absurd h (Nat.not_lt_zero _)⟩
    | succ n ih =>
      refine ⟨fun d hd v r => ?_, fun ds hd vs r => ?_⟩
      · cases d with
        | tup ds =>
          obtain ⟨b, vs, e, q, r⟩ := r
          simp only [D.tup.sizeOf_spec] at hd
          exact ⟨b, vs, e, t q, ih.2 ds (by omega) vs r⟩
        | seq ds =>
          obtain ⟨b, vs, e, q, r⟩ := r
          simp only [D.seq.sizeOf_spec] at hd
          exact ⟨b, vs, e, f q, ih.2 ds (by omega) vs r⟩
        | _ => exact r
      · cases ds with
        | nil => exact r
        | cons d ds =>
          obtain ⟨v, w, e, r1, r2⟩ := r
          simp only [List.cons.sizeOf_spec] at hd
          exact ⟨v, w, e, ih.1 d (by omega) v r1, ih.2 ds (by omega) w r2⟩
  exact ⟨fun d v r => (main (sizeOf d + 1)).1 d (Nat.lt_succ_self _) v r, fun d v r => (main (sizeOf d + 1)).2 d (Nat.lt_succ_self _) v r⟩
theorem off_hp {K : Frg} {H : Hp} {ι : List Addr} {hp : Heap} {a : Addr} {o : HO} (hh : HpRep K H ι hp) (na : a ∉ ι) (nt : ∀ xs, H a ≠ some (.tup xs)) (nf : ∀ u w, H a ≠ some (.frz u w)) : HpRep K (upd H a o) ι hp := by
  obtain ⟨f, g⟩ := off_rep (K := K) (ι := ι) (o := o) nt nf
  refine ⟨hh.len, hh.nd, fun n x b h1 h2 => ?_⟩
  have hb : upd H a o b = H b := upd_ne (show b ≠ a from fun e => na (by rw [← e]; exact List.mem_of_getElem? h2))
  have q := hh.ok n x b h1 h2
  cases x with
  | lst xs => obtain ⟨vs, q, r⟩ := q; exact ⟨vs, hb.trans q, g _ _ r⟩
  | dct kvs => obtain ⟨ws, q, r1, r2⟩ := q; exact ⟨ws, hb.trans q, r1, g _ _ r2⟩

/-- one more number: all stays -/
theorem more_reps {K : Frg} {H : Hp} {ι : List Addr} {hp : Heap} (hh : HpRep K H ι hp) (a : Addr) : (∀ (d : D) (v : V), Rep K H ι d v → Rep K H (ι ++ [a]) d v) ∧ ∀ (ds : List D) (vs : List V), Reps K H ι ds vs → Reps K H (ι ++ [a]) ds vs := by
  have main : ∀ n : Nat, (∀ (d : D), sizeOf d < n → ∀ v : V, Rep K H ι d v → Rep K H (ι ++ [a]) d v) ∧ ∀ (ds : List D), sizeOf ds < n → ∀ vs : List V, Reps K H ι ds vs → Reps K H (ι ++ [a]) ds vs := by
    intro n
    induction n with
    | zero => exact ⟨fun d h => absurd h (Nat.not_lt_zero _), fun d h => absurd h (Nat.not_lt_zero _)⟩
    | succ n ih =>
      refine ⟨fun d hd v r => ?_, fun ds hd vs r => ?_⟩
      · cases d with
        | tup ds =>
          obtain ⟨b, vs, e, q, r⟩ := r
          simp only [D.tup.sizeOf_spec] at hd
          exact ⟨b, vs, e, q, ih.2 ds (by omega) vs r⟩
        | seq ds =>
          obtain ⟨b, vs, e, q, r⟩ := r
          simp only [D.seq.sizeOf_spec] at hd
          exact ⟨b, vs, e, q, ih.2 ds (by omega) vs r⟩
        | ref m =>
          obtain ⟨b, e, q⟩ := r
          exact ⟨b, e, by rw [List.getElem?_append_left (List.getElem?_eq_some_iff.mp q).1]; exact q⟩
        | _ => exact r
      · cases ds with
        | nil => exact r
        | cons d ds =>
          obtain ⟨v, w, e, r1, r2⟩ := r
          simp only [List.cons.sizeOf_spec] at hd
          exact ⟨v, w, e, ih.1 d (by omega) v r1, ih.2 ds (by omega) w r2⟩
  exact ⟨fun d v r => (main (sizeOf d + 1)).1 d (Nat.lt_succ_self _) v r, fun d v r => (main (sizeOf d + 1)).2 d (Nat.lt_succ_self _) v r⟩
/-- a thing that stood without a number gets one -/
theorem num_ok {K : Frg} {H : Hp} {ι : List Addr} {hp : Heap} {a : Addr} {o : O} (hh : HpRep K H ι hp) (na : a ∉ ι) (x : OOk K H (ι ++ [a]) a o) : HpRep K H (ι ++ [a]) (hp ++ [o]) := by
  refine ⟨by simp [hh.len], ?_, fun n o' b h1 h2 => ?_⟩
  · refine List.nodup_append.mpr ⟨hh.nd, by simp, fun b hb c hc e => ?_⟩
    rw [List.mem_singleton.mp hc] at e
    exact na (e ▸ hb)
  · by_cases hl : n < hp.length
    · rw [List.getElem?_append_left hl] at h1
      rw [List.getElem?_append_left (hh.len ▸ hl)] at h2
      have q := hh.ok n o' b h1 h2
      cases o' with
      | lst xs => obtain ⟨vs, q, r⟩ := q; exact ⟨vs, q, (more_reps hh a).2 _ _ r⟩
      | dct kvs => obtain ⟨ws, q, r1, r2⟩ := q; exact ⟨ws, q, r1, (more_reps hh a).2 _ _ r2⟩
    · have e : n = hp.length := by
        have := (List.getElem?_eq_some_iff.mp h1).1
        simp at this
        omega
      subst e
      rw [List.getElem?_append_right (Nat.le_refl _), Nat.sub_self] at h1
      rw [← hh.len, List.getElem?_append_right (Nat.le_refl _), Nat.sub_self] at h2
      simp at h1 h2
      subst h1 h2
      exact x
theorem num_at {K : Frg} {H : Hp} {ι : List Addr} {hp : Heap} {a : Addr} (hh : HpRep K H ι hp) : (ι ++ [a])[hp.length]? = some a := by
  rw [List.getElem?_append_right (by rw [hh.len]; exact Nat.le_refl _), hh.len, Nat.sub_self]
  rfl
theorem po_fix {α β : Type} {W : Wish} {ι : List Addr} {H : Hp} {r : R α} {k : α → R β} {S : β → List Addr → Hp → Prop} (p : Po W ι H (r.bind k) S) : Po W ι H r fun a _ _ => Po W ι H (k a) S := by
  cases r with
  | ok a => exact fun _ _ _ => p
  | exc c fs hp => exact p
  | no => exact p

/-! ### for -/
def SS (K : Frg) (De : Ends) (st : Tw.St) (ι' : List Addr) (H' : Hp) : Prop := HpRep K H' ι' st.2.2 → ∀ σ', SRep K H' ι' σ' st.2.1 → match st.1 with
  | .nx => De.nx σ' H'
  | .rt d => ∀ v, Rep K H' ι' d v → De.rt v H'
  | .bk => De.bk σ' H'
  | .ct => De.ct σ' H'
def rdS (K : Frg) (c : Ctx) (s : CS) : TS := fun De σ H => ∃ ι ρ hp, SRep K H ι σ ρ ∧ HpRep K H ι hp ∧ Po W0 ι H (exec c s ρ hp) (SS K De)
def rdSs (K : Frg) (c : Ctx) (s : CSs) : TS := fun De σ H => ∃ ι ρ hp, SRep K H ι σ ρ ∧ HpRep K H ι hp ∧ Po W0 ι H (execs c s ρ hp) (SS K De)

theorem for_rd {K : Frg} {c : Ctx} {t : CT} {s : CI} {b : CSs} {De : Ends} {σ : L2.St} {H : Hp} (h : rdS K c (.loop t s b) De σ H) : tFor (rdI K c s) (rdT K c t) (rdSs K c b) De σ H := by
  obtain ⟨ι, ρ, hp, hs, hh, po⟩ := h
  refine ⟨ι, ρ, hp, hs, hh, po.bind.mono fun w ι1 H1 s1 p1 h1 J wk => ?_⟩
  have hs1 := hh.srep s1 hs
  let f : D → Env → Heap → R Tw.St := fun x ρ h => (asg c t x ρ h).bind fun s => execs c b s.1 s.2
  refine ⟨fun i m σ H => ∃ ι' ρ' hp', Step ι1 H1 ι' H ∧ SRep K H ι' σ ρ' ∧ HpRep K H ι' hp' ∧ m = w.1.1.length - i ∧ i ≤ w.1.1.length ∧ Po W0 ι' H (forL w.1.2 f (w.1.1.drop i) ρ' hp') (SS K De),
    ⟨_, ι1, ρ, w.2, .refl, hs1, h1, rfl, Nat.zero_le _, p1⟩, ?_⟩
  rintro i m σ2 H2 ⟨ι2, ρ2, hp2, s2, hs2, h2, rfl, hi, p2⟩
  by_cases hl : i < w.1.1.length
  · rw [drop_cons hl] at p2
    obtain ⟨g2, p2⟩ := Po.chk p2
    obtain ⟨go, yl⟩ := wk.go ι2 H2 hp2 s2 h2 g2 i w.1.1[i] (List.getElem?_eq_getElem hl)
    refine .inr ⟨go, fun σ3 H3 => ∃ ι' ρ' hp', Step ι1 H1 ι' H3 ∧ SRep K H3 ι' σ3 ρ' ∧ HpRep K H3 ι' hp' ∧ Po W0 ι' H3 (forL w.1.2 f (w.1.1.drop (i + 1)) ρ' hp') (SS K De), fun σ3 H3 n3 => ?_, fun x H3 y3 => ?_⟩
    · obtain ⟨ι3, ρ3, hp3, e1, e2, e3, e4⟩ := n3
      exact ⟨w.1.1.length - (i + 1), by omega, ι3, ρ3, hp3, e1, e2, e3, rfl, hl, e4⟩
    · obtain ⟨s3, h3, r3⟩ := yl x H3 y3
      refine ⟨ι2, ρ2, hp2, _, h2.srep s3 hs2, h3, r3, (Po.at p2 s3).bind.bind.mono fun st ι4 H4 s4 p4 h4 σ4 _ hs4 => ?_⟩
      refine ⟨ι4, st.1, st.2, hs4, h4, p4.mono fun fs ι5 H5 s5 p5 h5 σ5 hs5 => ?_⟩
      have st5 : Step ι1 H1 ι5 H5 := ((s2.trans s3).trans s4).trans s5
      cases hf : fs.1 with
      | nx => rw [hf] at p5; exact ⟨ι5, _, _, st5, hs5, h5, p5⟩
      | ct => rw [hf] at p5; exact ⟨ι5, _, _, st5, hs5, h5, p5⟩
      | bk => rw [hf] at p5; exact p5 ι5 H5 .refl h5 σ5 hs5
      | rt d => rw [hf] at p5; exact p5 ι5 H5 .refl h5 σ5 hs5
  · have e : i = w.1.1.length := by omega
    subst e
    rw [drop_nil (Nat.le_refl _)] at p2
    obtain ⟨g2, p2⟩ := Po.chk p2
    exact .inl ⟨wk.stop ι2 H2 hp2 s2 h2 g2, p2 ι2 H2 .refl h2 σ2 hs2⟩
theorem while_rd {K : Frg} {c : Ctx} {t : CB} {b : CSs} {De : Ends} {σ : L2.St} {H : Hp} (h : rdS K c (.wh t b) De σ H) : tWhile (rdB K W0 c t) (rdSs K c b) De σ H := by
  obtain ⟨ι, ρ, hp, hs, hh, po⟩ := h
  refine ⟨fun m σ H => ∃ ι' ρ' hp', SRep K H ι' σ ρ' ∧ HpRep K H ι' hp' ∧ Po W0 ι' H (whL (tv c t) (execs c b) m ρ' hp') (SS K De), ⟨FUEL, ι, ρ, hp, hs, hh, po⟩, ?_⟩
  rintro m σ2 H2 ⟨ι2, ρ2, hp2, hs2, h2, p2⟩
  cases m with
  | zero => exact p2.elim
  | succ m =>
    refine ⟨ι2, ρ2, hp2, hs2, h2, p2.bind.mono fun k ι3 H3 s3 p3 h3 => ?_⟩
    have hs3 := h2.srep s3 hs2
    cases hk : k.1 with
    | false =>
      rw [hk] at p3
      simp only [Bool.false_eq_true, if_false]
      exact p3 ι3 H3 .refl h3 σ2 hs3
    | true =>
      rw [hk] at p3
      simp only [if_true]
      refine ⟨fun σ3 H3 => ∃ ι' ρ' hp', SRep K H3 ι' σ3 ρ' ∧ HpRep K H3 ι' hp' ∧ Po W0 ι' H3 (whL (tv c t) (execs c b) m ρ' hp') (SS K De), fun σ3 H3 n3 => ⟨m, Nat.lt_succ_self m, n3⟩, ι3, ρ2, k.2, hs3, h3, p3.bind.mono fun fs ι5 H5 s5 p5 h5 σ5 hs5 => ?_⟩
      cases hf : fs.1 with
      | nx => rw [hf] at p5; exact ⟨ι5, _, _, hs5, h5, p5⟩
      | ct => rw [hf] at p5; exact ⟨ι5, _, _, hs5, h5, p5⟩
      | bk => rw [hf] at p5; exact p5 ι5 H5 .refl h5 σ5 hs5
      | rt d => rw [hf] at p5; exact p5 ι5 H5 .refl h5 σ5 hs5

/-! ### comprehensions -/
theorem nox_ok {α β : Type} {W : Wish} {ι : List Addr} {H : Hp} {r : R α} {k : α → R β} {S : β → List Addr → Hp → Prop} (p : Po W ι H (r.nox.bind k) S) : ∃ a, r = .ok a ∧ Po W ι H (k a) S := by
  cases r with
  | ok a => exact ⟨a, rfl, p⟩
  | exc _ _ _ => exact p.elim
  | no => exact p.elim
theorem po_is {α : Type} {W : Wish} {ι : List Addr} {H : Hp} {r : R α} {a : α} (e : r = .ok a) : Po W ι H r fun b _ _ => b = a := by
  rw [e]
  exact fun _ _ _ => rfl
theorem lc_rd {K : Frg} {c : Ctx} {t : CT} {s : CI} {cd : CBO} {e : CE} {σ : L2.St} {H : Hp} {Q : VK} (h : rdL K c (.comp e t s cd) σ H Q) : tLc (rdI K c s) (rdT K c t) (rdF K c cd) (rdE K W0 c e) t.slots σ H Q := by
  obtain ⟨ι, ρ, hp, hs, hh, po⟩ := h
  refine ⟨ι, ρ, hp, hs, hh, po.bind.mono fun w ι1 H1 s1 p1 h1 J wk D hD => ?_⟩
  obtain ⟨hlim, p1⟩ := Po.chk p1
  have hlim := of_decide_eq_true hlim
  have hs1 := hh.srep s1 hs
  have hD0 : H D = none := s1.was h1 hD
  let f : Tw.D → Heap → R (Option Tw.D × Heap) := fun x h => (asg c t x (wipeE ρ t.slots) h).bind fun s => (tvO c cd s.1 s.2).bind fun b => match b.1 with
      | true => (ev c e s.1 b.2).bind fun y => .ok (some y.1, y.2)
      | false => .ok (none, b.2)
  have p1 : Po W0 ι1 H1 (mapL w.1.2 f w.1.1 w.2) (SL K H Q) := p1
  refine ⟨fun i m H2 => ∃ ι' hp' ys vs, Step ι1 H1 ι' H2 ∧ HpRep K H2 ι' hp' ∧ H2 D = some (.lst vs) ∧ D ∉ ι' ∧ Reps K H2 ι' ys vs ∧ ys.length ≤ i ∧ m = w.1.1.length - i ∧ i ≤ w.1.1.length ∧
    Po W0 ι1 H1 (mapL w.1.2 f (w.1.1.drop i) hp') (fun r ι'' H'' => SL K H Q (ys ++ r.1, r.2) ι'' H''),
    ⟨_, ι1, w.2, [], [], (Step.refl.off hD), h1.laid0 hD, upd_same, h1.notin hD, rfl, Nat.le_refl _, rfl, Nat.zero_le _, p1⟩, ?_⟩
  rintro i m H2 ⟨ι2, hp2, ys, vs, s2, h2, hD2, nD2, r2, hy, rfl, hi, p2⟩
  by_cases hl : i < w.1.1.length
  · rw [drop_cons hl] at p2
    obtain ⟨g2, p2⟩ := Po.chk p2
    obtain ⟨q, hq, p2⟩ := nox_ok p2
    obtain ⟨go, yl⟩ := wk.go ι2 H2 hp2 s2 h2 g2 i w.1.1[i] (List.getElem?_eq_getElem hl)
    refine .inr ⟨go, fun H3 => ∃ ι' hp' ys vs, Step ι1 H1 ι' H3 ∧ HpRep K H3 ι' hp' ∧ H3 D = some (.lst vs) ∧ D ∉ ι' ∧ Reps K H3 ι' ys vs ∧ ys.length ≤ i + 1 ∧
      Po W0 ι1 H1 (mapL w.1.2 f (w.1.1.drop (i + 1)) hp') (fun r ι'' H'' => SL K H Q (ys ++ r.1, r.2) ι'' H''), fun H3 n3 => ?_, fun x H3 y3 => ?_⟩
    · obtain ⟨ι3, hp3, ys3, vs3, e1, e2, e3, e4, e5, e6, e7⟩ := n3
      exact ⟨w.1.1.length - (i + 1), by omega, ι3, hp3, ys3, vs3, e1, e2, e3, e4, e5, e6, rfl, hl, e7⟩
    · obtain ⟨s3, h3, r3⟩ := yl x H3 y3
      have nin : ∀ {ιb : List Addr} {Hb : Hp}, Step ι2 H2 ιb Hb → D ∉ ιb := fun {ιb Hb} sb hm => by
        rcases sb.new D hm with z | z
        · exact nD2 z
        · rw [hD2] at z; cases z
      refine ⟨ι2, wipeE ρ t.slots, hp2, _, ((h2.srep s3) ((h1.srep s2 hs1).wipe _)), h3, r3, (po_is hq).bind.mono fun st ι4 H4 s4 p4 h4 σ4 ag hs4 => ⟨?_, ?_⟩⟩
      · rw [ag.wipe]
        apply List.ext_getElem?
        intro j
        rw [wipe_get, wipe_get, wipe_length]
        split <;> rfl
      · refine ⟨ι4, st.1, st.2, hs4, h4, p4.bind.mono fun b ι5 H5 s5 p5 h5 => ?_⟩
        have st5 := ((s2.trans s3).trans s4).trans s5
        have sd5 := (s3.trans s4).trans s5
        cases hb : b.1 with
        | false =>
          rw [hb] at p5
          have e5 : q = (none, b.2) := (p5 ι5 H5 .refl).symm
          subst e5
          simp only [Bool.false_eq_true, if_false]
          have p2 := Po.bind p2
          refine ⟨ι5, b.2, ys, vs, st5, h5, sd5.kp D _ hD2 nD2, nin sd5, h2.reps sd5 _ _ r2, by omega, ?_⟩
          exact p2.mono fun r ι6 H6 s6 p6 => p6 ι6 H6 .refl
        | true =>
          rw [hb] at p5
          simp only [if_true]
          refine ⟨ι5, st.1, b.2, h4.srep s5 hs4, h5, p5.bind.mono fun y ι6 H6 s6 p6 v h6 rv => ?_⟩
          have e6 : q = (some y.1, y.2) := (p6 ι6 H6 .refl).symm
          subst e6
          have st6 := st5.trans s6
          have sd6 := sd5.trans s6
          have hD6 : H6 D = some (.lst vs) := sd6.kp D _ hD2 nD2
          have r6 := h2.reps sd6 _ _ r2
          have ho := off_rep (K := K) (ι := ι6) (H := H6) (a := D) (o := .lst (vs ++ [v])) (fun _ z => by rw [hD6] at z; cases z) (fun _ _ z => by rw [hD6] at z; cases z)
          refine ⟨vs, hD6, by rw [lim_eq, ← r2.length]; omega, ι6, y.2, ys ++ [y.1], vs ++ [v], st6.off hD, off_hp h6 (nin sd6) (fun _ z => by rw [hD6] at z; cases z) (fun _ _ z => by rw [hD6] at z; cases z), upd_same, nin sd6, ho.2 _ _ (r6.append (Reps.one rv)), by simp; omega, ?_⟩
          have p2 := Po.bind p2
          refine p2.mono fun r ι7 H7 s7 p7 => ?_
          have p7 := p7 ι7 H7 .refl
          rw [List.append_assoc]
          exact p7
  · have e : i = w.1.1.length := by omega
    subst e
    rw [drop_nil (Nat.le_refl _)] at p2
    obtain ⟨g2, p2⟩ := Po.chk p2
    refine .inl ⟨wk.stop ι2 H2 hp2 s2 h2 g2, ?_⟩
    have z := p2 ι2 H2 s2 h2 D vs hD0 nD2 hD2
    rw [List.append_nil] at z
    exact z r2
theorem dc_rd {K : Frg} {c : Ctx} {t : CT} {s : CI} {cd : CBO} {k e : CE} {σ : L2.St} {H : Hp} {Q : VK} (h : rdE K W0 c (.dcomp k e t s cd) σ H Q) : tDc (rdI K c s) (rdT K c t) (rdF K c cd) (rdE K W0 c k) (rdE K W0 c e) t.slots σ H Q := by
  obtain ⟨ι, ρ, hp, hs, hh, po⟩ := h
  refine ⟨ι, ρ, hp, hs, hh, po.bind.mono fun w ι1 H1 s1 p1 h1 J wk D hD => ?_⟩
  have hs1 := hh.srep s1 hs
  have hD0 : H D = none := s1.was h1 hD
  let f : Tw.D → Heap → R (Option (Tw.D × Tw.D) × Heap) := fun x h => (asg c t x (wipeE ρ t.slots) h).bind fun s => (tvO c cd s.1 s.2).bind fun b => match b.1 with
      | true => (ev c k s.1 b.2).bind fun y => (ev c e s.1 y.2).bind fun z => .ok (some (y.1, z.1), z.2)
      | false => .ok (none, b.2)
  let S : (List (Key × Tw.D) × Heap) → Prop := fun x => Po W0 ι1 H1 (.ok (.ref x.2.length, x.2 ++ [.dct x.1])) (SE K Q)
  have p1 : Po W0 ι1 H1 (mapD w.1.2 f w.1.1 [] w.2) fun r _ _ => S r := po_fix p1
  refine ⟨fun i m H2 => ∃ ι' hp' kvs ws, Step ι1 H1 ι' H2 ∧ HpRep K H2 ι' hp' ∧ H2 D = some (.dK ws) ∧ D ∉ ι' ∧ RepK K H2 ι' kvs ws ∧ m = w.1.1.length - i ∧ i ≤ w.1.1.length ∧
    Po W0 ι1 H1 (mapD w.1.2 f (w.1.1.drop i) kvs hp') fun r _ _ => S r,
    ⟨_, ι1, w.2, [], [], (Step.refl.off hD), h1.laid0 hD, upd_same, h1.notin hD, ⟨rfl, rfl⟩, rfl, Nat.zero_le _, p1⟩, ?_⟩
  rintro i m H2 ⟨ι2, hp2, kvs, ws, s2, h2, hD2, nD2, r2, rfl, hi, p2⟩
  by_cases hl : i < w.1.1.length
  · rw [drop_cons hl] at p2
    obtain ⟨g2, p2⟩ := Po.chk p2
    obtain ⟨q, hq, p2⟩ := nox_ok p2
    obtain ⟨go, yl⟩ := wk.go ι2 H2 hp2 s2 h2 g2 i w.1.1[i] (List.getElem?_eq_getElem hl)
    refine .inr ⟨go, fun H3 => ∃ ι' hp' kvs ws, Step ι1 H1 ι' H3 ∧ HpRep K H3 ι' hp' ∧ H3 D = some (.dK ws) ∧ D ∉ ι' ∧ RepK K H3 ι' kvs ws ∧
      Po W0 ι1 H1 (mapD w.1.2 f (w.1.1.drop (i + 1)) kvs hp') fun r _ _ => S r, fun H3 n3 => ?_, fun x H3 y3 => ?_⟩
    · obtain ⟨ι3, hp3, ys3, vs3, e1, e2, e3, e4, e5, e7⟩ := n3
      exact ⟨w.1.1.length - (i + 1), by omega, ι3, hp3, ys3, vs3, e1, e2, e3, e4, e5, rfl, hl, e7⟩
    · obtain ⟨s3, h3, r3⟩ := yl x H3 y3
      have nin : ∀ {ιb : List Addr} {Hb : Hp}, Step ι2 H2 ιb Hb → D ∉ ιb := fun {ιb Hb} sb hm => by
        rcases sb.new D hm with z | z
        · exact nD2 z
        · rw [hD2] at z; cases z
      refine ⟨ι2, wipeE ρ t.slots, hp2, _, ((h2.srep s3) ((h1.srep s2 hs1).wipe _)), h3, r3, (po_is hq).bind.mono fun st ι4 H4 s4 p4 h4 σ4 ag hs4 => ⟨?_, ?_⟩⟩
      · rw [ag.wipe]
        apply List.ext_getElem?
        intro j
        rw [wipe_get, wipe_get, wipe_length]
        split <;> rfl
      · refine ⟨ι4, st.1, st.2, hs4, h4, p4.bind.mono fun b ι5 H5 s5 p5 h5 => ?_⟩
        have st5 := ((s2.trans s3).trans s4).trans s5
        have sd5 := (s3.trans s4).trans s5
        cases hb : b.1 with
        | false =>
          rw [hb] at p5
          have e5 : q = (none, b.2) := (p5 ι5 H5 .refl).symm
          subst e5
          simp only [Bool.false_eq_true, if_false]
          exact ⟨ι5, b.2, kvs, ws, st5, h5, sd5.kp D _ hD2 nD2, nin sd5, ⟨r2.1, h2.reps sd5 _ _ r2.2⟩, p2⟩
        | true =>
          rw [hb] at p5
          simp only [if_true]
          refine ⟨ι5, st.1, b.2, h4.srep s5 hs4, h5, p5.bind.mono fun y ι6 H6 s6 p6 v h6 rv => ?_⟩
          refine ⟨ι6, st.1, y.2, h5.srep s6 (h4.srep s5 hs4), h6, p6.bind.mono fun z ι7 H7 s7 p7 u h7 ru => ?_⟩
          have e7 : q = (some (y.1, z.1), z.2) := (p7 ι7 H7 .refl).symm
          subst e7
          obtain ⟨hlen, p2⟩ := Po.chk p2
          obtain ⟨acc, ha, p2⟩ := Po.ofO p2
          have hlen := of_decide_eq_true hlen
          obtain ⟨kk, hk, rfl⟩ := Option.map_eq_some_iff.mp ha
          have rv7 := h6.rep s7 _ _ rv
          have ek := keyOf_ok rv7 hk
          have st7 := (st5.trans s6).trans s7
          have sd7 := (sd5.trans s6).trans s7
          have hD7 : H7 D = some (.dK ws) := sd7.kp D _ hD2 nD2
          have r7 : RepK K H7 ι7 kvs ws := ⟨r2.1, h2.reps sd7 _ _ r2.2⟩
          have ho := off_rep (K := K) (ι := ι7) (H := H7) (a := D) (o := .dK (putK ws kk u)) (fun _ z => by rw [hD7] at z; cases z) (fun _ _ z => by rw [hD7] at z; cases z)
          have hlw : ws.length < sizeLine := by
            have e := congrArg List.length r2.1
            rw [List.length_map, List.length_map] at e
            rw [lim_eq, ← e]
            exact hlen
          have rp := putV_ok (k := kk) ru r7
          exact ⟨ws, kk, ek, hD7, hlw, ι7, z.2, putV kvs kk z.1, putK ws kk u, st7.off hD, off_hp h7 (nin sd7) (fun _ z => by rw [hD7] at z; cases z) (fun _ _ z => by rw [hD7] at z; cases z), upd_same, nin sd7, ⟨rp.1, ho.2 _ _ rp.2⟩, p2⟩
  · have e : i = w.1.1.length := by omega
    subst e
    rw [drop_nil (Nat.le_refl _)] at p2
    obtain ⟨g2, p2⟩ := Po.chk p2
    refine .inl ⟨wk.stop ι2 H2 hp2 s2 h2 g2, ?_⟩
    have z : S (kvs, hp2) := p2 ι2 H2 s2
    have nn : Step ι1 H1 (ι2 ++ [D]) H2 := by
      obtain ⟨κ, e⟩ := s2.pre
      refine ⟨⟨κ ++ [D], by rw [e, List.append_assoc]⟩, fun a ha => ?_, s2.kp⟩
      rcases List.mem_append.mp ha with q | q
      · exact s2.new a q
      · rw [List.mem_singleton.mp q]; exact .inr hD
    exact z (ι2 ++ [D]) H2 nn _ (num_ok h2 nD2 ⟨ws, hD2, r2.1, (more_reps h2 D).2 _ _ r2.2⟩) ⟨D, rfl, num_at h2⟩
end Tw
end

section
set_option Elab.async false
set_option linter.all false
set_option maxRecDepth 100000
set_option maxHeartbeats 4000000
/-! enumerate(tuple); walks over a list or a tuple. Own work. -/
namespace Tw
open PySem PySem.Spec PyProof.Rows L2

theorem meets_enumerate_new1 {v : Value} {o : Obj} {H : PySem.Heap → Prop} (B : Begins v o H) :
    Meets (Builtin.«enumerate.__new__» ⟨[.type "enumerate", v], []⟩) (fun _ R s => H s.heap ∧
      R (.ok (.ret (.ref (s.heap.push o).objs.size))) { s with heap := (s.heap.push o).push { cls := .type "enumerate", data := .fields #[.none, .bool false, .ref s.heap.objs.size, rawInt 0, .none, .none] } }) :=
  .of_wp fun prog w A R s h => by
    obtain ⟨hp, g, d, tk, os⟩ := s; obtain ⟨h1, h⟩ := h
    have hsub := sub_enumerate
    have q1 : ∀ {A' : Around} {E : Value → Shared → Prop} {Q : Value → Shared → Prop}, Q (.ref hp.objs.size) ⟨hp.push o, g, d, tk, os⟩ → wpAny (model prog w) A' (pyIter v) Q E ⟨hp, g, d, tk, os⟩ :=
      fun q => B.iter prog w _ _ ⟨hp, g, d, tk, os⟩ _ h1 q
    wp_walk using q1
    refine wpAny_stack_any fun st => wpAny_pure ?_
    split
    · rename_i c _ _ _ _ _
      cases (c == Value.type "enumerate")
      · wp_walk using q1
        exact ⟨_, rfl, h⟩
      · wp_walk using q1
        exact ⟨_, rfl, h⟩
    · wp_walk using q1
      exact ⟨_, rfl, h⟩
section
variable {prog : Program} {w : World} {A : Around} {E : Value → Shared → Prop} {s : Shared}
theorem enum_begins1 {v : Value} {o : Obj} {H : PySem.Heap → Prop} {Q : Value → Shared → Prop} (B : Begins v o H) (h1 : H s.heap)
    (h : ∀ h', IsEnum h' (s.heap.objs.size + 1) s.heap.objs.size 0 .none → h'.get? s.heap.objs.size = some o → h'.objs.size = s.heap.objs.size + 2 →
      (∀ b o, s.heap.get? b = some o → h'.get? b = some o) → Q (.ref (s.heap.objs.size + 1)) { s with heap := h' }) :
    wpAny (model prog w) A (call (.type "enumerate") [v]) Q E s := by
  refine callType_new F.called_enumerate (by decide) (F.typeCall_enumerate_1 _) (F.newCall_enumerate_1 _) (fun obj => F.args_object_init_2 obj _) F.entry_enumerate_new
    (meets_enumerate_new1 B) ⟨h1, ?_⟩
  have hz : (s.heap.push o).objs.size = s.heap.objs.size + 1 := Heap.size_push ..
  show _ ∧ _
  rw [hz]
  have he : IsEnum ((s.heap.push o).push { cls := .type "enumerate", data := .fields #[.none, .bool false, .ref s.heap.objs.size, rawInt 0, .none, .none] }) (s.heap.objs.size + 1) s.heap.objs.size 0 .none := by
    have := Heap.get?_push_size (s.heap.push o) (o := { cls := .type "enumerate", data := .fields #[.none, .bool false, .ref s.heap.objs.size, rawInt 0, .none, .none] }) rfl
    rw [hz] at this; exact this
  refine ⟨⟨_, he, rfl⟩, h _ he ?_ (by rw [Heap.size_push, hz]) fun b o x => Heap.get?_push_of_some _ (Heap.get?_push_of_some _ x)⟩
  exact Heap.get?_push_of_some _ (Heap.get?_push_size _ B.free)
end
/-- the tuple at a, each item in a new pair -/
def IteT (K : Frg) (a : Addr) : It :=
  ⟨fun i H => ∃ (xs : List V) (x : V), SqT K H a xs ∧ xs[i]? = some x, fun i H v H' => ∃ T x, v = .ref T ∧ H T = none ∧ H' = upd H T (.tup [.int (i : Nat), x]) ∧ ∀ xs, SqT K H a xs → xs[i]? = some x, fun i H => ∃ xs : List V, SqT K H a xs ∧ xs.length = i⟩
theorem turn_enumT {P : Program} {w : World} {K : Frg} {elts : List Expr} {kk : Nat} {tpos : Pos} (a e it : Addr) (hat : a ≠ it) (hae : a ≠ e) :
    Turn P w K (.Tuple elts kk tpos) (IteT K a) [e, it] e (fun i h => (∃ old, IsEnum h e it ((i : Nat) : Int) old) ∧ h.IsTupleIter it a i ∧ e ≠ it) where
  mem := by simp
  obj := fun i h st b hb => by
    obtain ⟨⟨old, he⟩, ⟨o, ho, hc, hd⟩, _⟩ := st
    have e' : b = e ∨ b = it := by simpa using hb
    rcases e' with z | z
    · rw [z]; exact ⟨_, he, fun v q => nomatch q⟩
    · rw [z]; exact ⟨o, ho, fun v q => by rw [hd] at q; cases q⟩
  keep := fun i h h' st k => let ⟨⟨old, he⟩, hi, hne⟩ := st; ⟨⟨old, k e (by simp) _ he⟩, hi.at fun o q => k it (by simp) o q, hne⟩
  item := by
    intro X hP hw hK hc i pins s σ H E I hf st hg
    subst hP hw hK
    obtain ⟨⟨old, he⟩, hit, hne⟩ := st
    obtain ⟨xs, x, hq, hx⟩ := hg
    obtain ⟨its, rv, p, hz⟩ := I.tuple hq
    obtain ⟨u, hu, ru⟩ := rv.get hx
    have hel : e < s.heap.objs.size := Heap.lt_size he
    have hil : it < s.heap.objs.size := by obtain ⟨_, q, _⟩ := hit; exact Heap.lt_size q
    have hilt : i < its.toArray.size := by
      have := (List.getElem?_eq_some_iff.mp hu).1
      simpa using this
    have D := Draws.tuple (prog := X.prog) (w := X.w) (A := X.A.in1) (show X.A.in1.handled = none from I.ok.hd hc) it a hat its.toArray
    have hef : e ∉ [it, a] := by
      intro hm
      rcases List.mem_cons.mp hm with z | z
      · exact hne z
      · exact hae (List.mem_singleton.mp z).symm
    refine wpAny_pyNext_enum_itemD D he ⟨hit, p⟩ hilt hne hef fun x' h' tk hP ho hit' hT hsz hk => ?_
    have eu : x' = u := by
      have q : its[i]? = some x' := by simpa using hP
      rw [hu] at q
      exact (Option.some.inj q).symm
    subst eu
    refine ⟨_, rfl, wpAny_letOwnedTupleGo_enum (s := { s with heap := h', toks := tk + 1 }) ho fun h'' he' sb => ?_⟩
    have hT2 : h''.get? s.heap.objs.size = some { cls := .type "tuple", data := .seq #[.int i tk, x'] } := (sb.2 _ (Nat.ne_of_gt hel)).trans hT
    have new : ObjOk X.prog X.w (upd H s.heap.objs.size (.tup [.int (i : Nat), x])) h'' s.heap.objs.size (.tup [.int (i : Nat), x]) :=
      ⟨by show 2 ≤ sizeLine; decide, [.int i tk, x'], .cons ⟨_, rfl⟩ (.cons ru .nil), ⟨_, hT2, rfl, _, rfl⟩⟩
    have I1 : L2.Inv X pins σ (upd H s.heap.objs.size (.tup [.int (i : Nat), x])) { s with heap := h'', toks := tk + 1 } :=
      I.turnedNew (ch := [e, it]) (fun b ob hb q => (sb.2 b (fun z => hb (by simp [z]))).trans (hk b ob (fun z => hb (by simp [z])) (fun z => hb (by simp [z])) q)) hf (Nat.le_refl _) new
    refine ⟨.ref s.heap.objs.size, _, I1, rfl, ⟨_, x, rfl, I.hok.fresh (Nat.le_refl _), rfl, fun ys hy => by rw [I.tuple_inj hy hq]; exact hx⟩, ⟨⟨x', ?_⟩, hit'.1.at fun o q => (sb.2 it (Ne.symm hne)).trans q, hne⟩, fun b hb => ?_⟩
    · have e1 : ((i + 1 : Nat) : Int) = (i : Int) + 1 := by omega
      rw [e1]; exact he'
    · have hb' : b < s.heap.objs.size := by
        have e' : b = e ∨ b = it := by simpa using hb
        rcases e' with z | z
        · rw [z]; exact hel
        · rw [z]; exact hil
      rw [upd_ne (Nat.ne_of_lt hb')]
      exact (hf b hb).1
  done := by
    intro X hP hw hK hc i pins s σ H E I hf st hg
    subst hP hw hK
    obtain ⟨⟨old, he⟩, hit, hne⟩ := st
    obtain ⟨xs, hq, hx⟩ := hg
    obtain ⟨its, rv, p, hz⟩ := I.tuple hq
    obtain ⟨f0, f1, f2, f3, f4, f5⟩ := hf it (by simp)
    have hl := rv.length
    by_cases hi : i = its.toArray.size
    · subst hi
      have D := Draws.tuple (prog := X.prog) (w := X.w) (A := X.A.in1) (show X.A.in1.handled = none from I.ok.hd hc) it a hat its.toArray
      exact wpAny_pyNext_enum_endD D he ⟨hit, p⟩ fun h' eb => ⟨rfl, I.turned (t' := s.toks) (fun b o hb q => eb b o hb q) f0 f1 f3 f4 f5⟩
    · exact absurd (show i = its.toArray.size by rw [List.size_toArray, ← hl, hx]) hi
  self := fun A i s Q E st h => let ⟨⟨_, he⟩, _⟩ := st; wpAny_pyIter_enum he h
section
variable {X : Cx}
theorem fp_two {pins : List (Addr × Obj)} {σ : L2.St} {H1 : Hp} {s1 : Shared} (I1 : L2.Inv X pins σ H1 s1) : ∀ b ∈ [s1.heap.objs.size + 1, s1.heap.objs.size], FpOk X pins H1 b := fun b hb => by
  have e' : b = s1.heap.objs.size + 1 ∨ b = s1.heap.objs.size := by simpa using hb
  have hle : s1.heap.objs.size ≤ b := by
    rcases e' with z | z
    · rw [z]; exact Nat.le_add_right _ _
    · rw [z]; exact Nat.le_refl _
  exact I1.fpOk hle (I1.hok.fresh hle)
/-- a list or a tuple is walked -/
theorem pi_seq {tg l : Expr} {tl : TE} (hl : PE X l tl) : PI X tg l (fun σ H R => tl σ H fun x H1 => (∃ a, x = .ref a ∧ (∃ xs, SqL X.K H1 a xs) ∧ R (Itl X.K a) H1) ∨ ∃ a, x = .ref a ∧ (∃ xs, SqT X.K H1 a xs) ∧ R (Itt X.K a) H1) := by
  refine ⟨fun pins s σ H R I h => ?_⟩
  refine thn (hl.run pins s σ H _ I h) fun v s1 ⟨x, H1, I1, r1, q1⟩ => ?_
  rcases q1 with ⟨a, e, ⟨xs, hq⟩, q⟩ | ⟨a, e, ⟨xs, hq⟩, q⟩
  · subst e
    cases r1
    obtain ⟨its, rv, p, hz⟩ := I1.list hq
    refine wpAny_pyIter_list p.isList ?_
    refine ⟨s1.heap.objs.size, [s1.heap.objs.size], _, _, H1, rfl, I1.kept (t' := s1.toks) fun b o e => Heap.get?_push_of_some _ e, turn_list a _, ⟨_, Heap.get?_push_size _ rfl, rfl, rfl⟩, fun b hb => ?_, q⟩
    have e : b = s1.heap.objs.size := by simpa using hb
    subst e
    exact I1.fpOk (Nat.le_refl _) (I1.hok.fresh (Nat.le_refl _))
  · subst e
    cases r1
    obtain ⟨its, rv, p, hz⟩ := I1.tuple hq
    refine wpAny_pyIter_tuple (show s1.heap.IsTuple a its.toArray from p) ?_
    refine ⟨s1.heap.objs.size, [s1.heap.objs.size], _, _, H1, rfl, I1.kept (t' := s1.toks) fun b o e => Heap.get?_push_of_some _ e, turn_tuple a _, ⟨_, Heap.get?_push_size _ rfl, rfl, rfl⟩, fun b hb => ?_, q⟩
    have e : b = s1.heap.objs.size := by simpa using hb
    subst e
    exact I1.fpOk (Nat.le_refl _) (I1.hok.fresh (Nat.le_refl _))
/-- enumerate of a list or a tuple -/
theorem pi_enum2 {e : Expr} {ta : TA} {p pos tpos : Pos} {elts : List Expr} {kk : Nat} (hg : Gl X "enumerate") (hm : X.mg "enumerate" = none) (ha : PA X [e] ta) (hs : starEach [e] X.env = [(false, eval e X.env)]) :
    PI X (.Tuple elts kk tpos) (.Call (.Name "enumerate" p) [e] [] pos) (fun σ H R => ta σ H fun vs H1 => (∃ a xs, vs = [.ref a] ∧ SqL X.K H1 a xs ∧ R (Ite X.K a) H1) ∨ ∃ a xs, vs = [.ref a] ∧ SqT X.K H1 a xs ∧ R (IteT X.K a) H1) := by
  refine ⟨fun pins s σ H R I h => ?_⟩
  refine Call_ (ld_blt I hg hm boot_enumerate (PyProof.Rows.callWith_type1 (thn (ha.run pos pins s σ H _ I h) fun us s1 ⟨vs, H1, I1, r1, q1⟩ => ?_) hs rfl))
  rcases q1 with ⟨a, xs, ex, hq, q⟩ | ⟨a, xs, ex, hq, q⟩
  · subst ex
    obtain rfl := r1.ref1
    obtain ⟨its, rv, p', hz⟩ := I1.list hq
    refine call_enumerate_list p'.isList fun h' he hit hsz hk => wpAny_pyIter_enum he ?_
    have I2 : L2.Inv X pins σ H1 { s1 with heap := h' } := I1.kept (t' := s1.toks) hk
    exact ⟨s1.heap.objs.size + 1, [s1.heap.objs.size + 1, s1.heap.objs.size], _, _, H1, rfl, I2, turn_enum a (s1.heap.objs.size + 1) s1.heap.objs.size, ⟨⟨.none, he⟩, hit, Nat.succ_ne_self _⟩, fp_two I1, q⟩
  · subst ex
    obtain rfl := r1.ref1
    obtain ⟨its, rv, p', hz⟩ := I1.tuple hq
    have hlt : a < s1.heap.objs.size := by
      obtain ⟨o, ho, _⟩ := p'
      exact Heap.lt_size ho
    refine enum_begins1 (begins_tuple a its.toArray) (show s1.heap.IsTuple a its.toArray from p') fun h' he hit hsz hk => wpAny_pyIter_enum he ?_
    have I2 : L2.Inv X pins σ H1 { s1 with heap := h' } := I1.kept (t' := s1.toks) hk
    exact ⟨s1.heap.objs.size + 1, [s1.heap.objs.size + 1, s1.heap.objs.size], _, _, H1, rfl, I2, turn_enumT a (s1.heap.objs.size + 1) s1.heap.objs.size (Nat.ne_of_lt hlt) (Nat.ne_of_lt (Nat.lt_succ_of_lt hlt)), ⟨⟨.none, he⟩, ⟨_, hit, rfl, rfl⟩, Nat.succ_ne_self _⟩, fp_two I1, q⟩
end
end Tw
end

section
set_option Elab.async false
set_option linter.all false
set_option maxRecDepth 100000
set_option maxHeartbeats 4000000
/-! THE THEOREM: a term that stands for a piece of text tells what the piece does. Own work. -/
namespace Tw
open PySem PySem.Spec PyProof.Rows L2 RZ

theorem kit_ok {K : Frg} {H : Hp} {ι : List Addr} {hp : Heap} {d : D} {x : V} {t : Ty} {b : Bool} (hh : HpRep K H ι hp) (r : Rep K H ι d x) (e : isTy t d hp = some b) :
    ∃ T : String, TyX K H x (.type T) ∧ PySem.W.kitOne K (.type T) (.type (tyX t)) = some b := by
  cases d with
  | non => cases (show x = .non from r); cases e; exact ⟨_, .base .non, kit_ty (by cases t <;> decide +kernel)⟩
  | bl y => cases (show x = .bl y from r); cases e; exact ⟨_, .base (.bl y), kit_ty (by cases t <;> decide +kernel)⟩
  | int y => cases (show x = .int y from r); cases e; exact ⟨_, .base (.int y), kit_ty (by cases t <;> decide +kernel)⟩
  | str y => cases (show x = .str y from r); cases e; exact ⟨_, .base (.str y), kit_ty (by cases t <;> decide +kernel)⟩
  | tup ds =>
    obtain ⟨a, vs, rfl, q, z⟩ := r
    cases e
    refine ⟨"tuple", ?_, kit_ty (by cases t <;> decide +kernel)⟩
    rcases q with (q | ⟨o, q⟩) | ⟨o, its, n, q, c, _⟩
    · exact .base (.tup q)
    · exact .fTuple q
    · exact .kTuple q c
  | seq ds =>
    obtain ⟨a, vs, rfl, q, z⟩ := r
    cases e
    refine ⟨"list", ?_, kit_ty (by cases t <;> decide +kernel)⟩
    rcases q with ⟨o, q⟩ | ⟨o, its, n, q, c, _⟩
    · exact .base (.frz q)
    · exact .kList q c
  | ref n =>
    obtain ⟨a, rfl, ha⟩ := r
    cases hn : hp[n]? with
    | none => simp only [isTy, hn] at e; cases e
    | some o =>
      cases o with
      | lst xs =>
        simp only [isTy, hn] at e
        cases e
        obtain ⟨vs, q, z⟩ := hh.lst hn ha
        exact ⟨"list", .base (.lst q), kit_ty (by cases t <;> decide +kernel)⟩
      | dct kvs => simp only [isTy, hn] at e; cases e

/-! ### what is walked -/
theorem seq_wk {K : Frg} {H : Hp} {ι : List Addr} {hp : Heap} {d : D} {x : V} {w : Walk} (hh : HpRep K H ι hp) (r : Rep K H ι d x) (e : seqOf d hp = some w) :
    (∃ a, x = .ref a ∧ (∃ xs, SqL K H a xs) ∧ isTup d = false ∧ ∀ ι' H' hp', Step ι H ι' H' → HpRep K H' ι' hp' → guards w.2 hp' = true → ∃ xs, SqL K H' a xs ∧ Reps K H' ι' w.1 xs) ∨
    ∃ a, x = .ref a ∧ (∃ xs, SqT K H a xs) ∧ isTup d = true ∧ ∀ ι' H' hp', Step ι H ι' H' → HpRep K H' ι' hp' → guards w.2 hp' = true → ∃ xs, SqT K H' a xs ∧ Reps K H' ι' w.1 xs := by
  cases d with
  | tup ds =>
    obtain ⟨a, vs, rfl, q, z⟩ := r
    cases e
    exact .inr ⟨a, rfl, ⟨vs, q⟩, rfl, fun ι' H' hp' s h' _ => ⟨vs, hh.sqT s q, hh.reps s _ _ z⟩⟩
  | seq ds =>
    obtain ⟨a, vs, rfl, q, z⟩ := r
    cases e
    exact .inl ⟨a, rfl, ⟨vs, q.sq⟩, rfl, fun ι' H' hp' s h' _ => ⟨vs, (hh.sqF s q).sq, hh.reps s _ _ z⟩⟩
  | ref n =>
    obtain ⟨a, rfl, ha⟩ := r
    cases hn : hp[n]? with
    | none => simp only [seqOf, hn] at e; cases e
    | some o =>
      cases o with
      | lst xs =>
        simp only [seqOf, hn] at e
        cases e
        obtain ⟨vs, q, z⟩ := hh.lst hn ha
        refine .inl ⟨a, rfl, ⟨vs, .of q⟩, rfl, fun ι' H' hp' s h' g => ?_⟩
        have g' : hp'[n]? = some (.lst xs) := by
          unfold guards at g
          rw [List.all_cons] at g
          exact of_decide_eq_true (tt g).1
        have ha' : ι'[n]? = some a := by
          obtain ⟨κ, e⟩ := s.pre
          rw [e, List.getElem?_append_left (List.getElem?_eq_some_iff.mp ha).1]
          exact ha
        obtain ⟨vs', q', z'⟩ := h'.lst g' ha'
        exact ⟨vs', .of q', z'⟩
      | dct kvs => simp only [seqOf, hn] at e; cases e
  | _ => cases e
theorem seq_holds {K : Frg} {H : Hp} {ι : List Addr} {hp : Heap} {d : D} {x : V} {w : Walk} (hh : HpRep K H ι hp) (r : Rep K H ι d x) (e : seqOf d hp = some w) : Holds K H ι w.1 x := by
  cases d with
  | tup ds => obtain ⟨a, vs, rfl, q, z⟩ := r; cases e; exact ⟨a, vs, rfl, .inr q, z⟩
  | seq ds => obtain ⟨a, vs, rfl, q, z⟩ := r; cases e; exact ⟨a, vs, rfl, .inl q.sq, z⟩
  | ref n =>
    obtain ⟨a, rfl, ha⟩ := r
    cases hn : hp[n]? with
    | none => simp only [seqOf, hn] at e; cases e
    | some o =>
      cases o with
      | lst xs =>
        simp only [seqOf, hn] at e
        cases e
        obtain ⟨vs, q, z⟩ := hh.lst hn ha
        exact ⟨a, vs, rfl, .inl (.of q), z⟩
      | dct kvs => simp only [seqOf, hn] at e; cases e
  | _ => cases e
theorem wk_list {K : Frg} {a : Addr} {g : List (Nat × O)} {xs : List D} {ι : List Addr} {H : Hp} (h : ∀ ι' H' hp', Step ι H ι' H' → HpRep K H' ι' hp' → guards g hp' = true → ∃ vs, SqL K H' a vs ∧ Reps K H' ι' xs vs) : Wk K (Itl K a) g xs ι H := by
  refine ⟨fun ι' H' hp' s h' g' i d e => ?_, fun ι' H' hp' s h' g' => ?_⟩
  · obtain ⟨vs, q, z⟩ := h ι' H' hp' s h' g'
    obtain ⟨v, hv, rv⟩ := z.get e
    refine ⟨⟨vs, v, q, hv⟩, fun x H2 y => ?_⟩
    obtain ⟨rfl, y⟩ := y
    have ex : x = v := Option.some.inj ((y vs q).symm.trans hv)
    subst ex
    exact ⟨.refl, h', rv⟩
  · obtain ⟨vs, q, z⟩ := h ι' H' hp' s h' g'
    exact ⟨vs, q, by rw [z.length]; exact Nat.le_refl _⟩
theorem wk_tup {K : Frg} {a : Addr} {g : List (Nat × O)} {xs : List D} {ι : List Addr} {H : Hp} (h : ∀ ι' H' hp', Step ι H ι' H' → HpRep K H' ι' hp' → guards g hp' = true → ∃ vs, SqT K H' a vs ∧ Reps K H' ι' xs vs) : Wk K (Itt K a) g xs ι H := by
  refine ⟨fun ι' H' hp' s h' g' i d e => ?_, fun ι' H' hp' s h' g' => ?_⟩
  · obtain ⟨vs, q, z⟩ := h ι' H' hp' s h' g'
    obtain ⟨v, hv, rv⟩ := z.get e
    refine ⟨⟨vs, v, q, hv⟩, fun x H2 y => ?_⟩
    obtain ⟨rfl, y⟩ := y
    have ex : x = v := Option.some.inj ((y vs q).symm.trans hv)
    subst ex
    exact ⟨.refl, h', rv⟩
  · obtain ⟨vs, q, z⟩ := h ι' H' hp' s h' g'
    exact ⟨vs, q, by rw [z.length]; exact Nat.le_refl _⟩
theorem rng_get : ∀ {n : Nat} {lo : Int} {i : Nat} {d : D}, (rngD lo n)[i]? = some d → i < n ∧ d = .int (lo + i)
  | 0, _, _, _, h => by simp [rngD] at h
  | n + 1, lo, 0, d, h => by
    simp [rngD] at h
    exact ⟨Nat.succ_pos _, by rw [← h]; simp⟩
  | n + 1, lo, i + 1, d, h => by
    simp only [rngD, List.getElem?_cons_succ] at h
    obtain ⟨h1, h2⟩ := rng_get h
    refine ⟨by omega, ?_⟩
    rw [h2]
    congr 1
    omega
theorem rng_len : ∀ (n : Nat) (lo : Int), (rngD lo n).length = n
  | 0, _ => rfl
  | n + 1, lo => by simp [rngD, rng_len n]
theorem wk_rng {K : Frg} {lo : Int} {n : Nat} {g : List (Nat × O)} {ι : List Addr} {H : Hp} : Wk K (Itr lo n) g (rngD lo n) ι H := by
  refine ⟨fun ι' H' hp' s h' g' i d e => ?_, fun ι' H' hp' s h' g' => ?_⟩
  · obtain ⟨h1, rfl⟩ := rng_get e
    refine ⟨h1, fun x H2 y => ?_⟩
    obtain ⟨rfl, rfl⟩ := y
    exact ⟨.refl, h', rfl⟩
  · show n ≤ _
    rw [rng_len]
    exact Nat.le_refl _
theorem enum_get : ∀ {xs : List D} {k i : Nat} {d : D}, (enumD k xs)[i]? = some d → ∃ x, xs[i]? = some x ∧ d = .tup [.int ((k + i : Nat) : Int), x]
  | [], _, _, _, h => by simp [enumD] at h
  | x :: xs, k, 0, d, h => by
    simp [enumD] at h
    exact ⟨x, rfl, by rw [← h]; rfl⟩
  | x :: xs, k, i + 1, d, h => by
    simp only [enumD, List.getElem?_cons_succ] at h
    obtain ⟨y, h1, h2⟩ := enum_get h
    refine ⟨y, by simpa using h1, ?_⟩
    rw [h2]
    have e : k + 1 + i = k + (i + 1) := by omega
    rw [e]
theorem enum_len : ∀ (xs : List D) (k : Nat), (enumD k xs).length = xs.length
  | [], _ => rfl
  | x :: xs, k => by simp [enumD, enum_len xs]
theorem zip_get : ∀ {xs ys : List D} {i : Nat} {d : D}, (zipD xs ys)[i]? = some d → ∃ x y, xs[i]? = some x ∧ ys[i]? = some y ∧ d = .tup [x, y]
  | [], ys, _, _, h => by cases ys <;> simp [zipD] at h
  | x :: xs, [], _, _, h => by simp [zipD] at h
  | x :: xs, y :: ys, 0, d, h => by
    simp [zipD] at h
    exact ⟨x, y, rfl, rfl, h.symm⟩
  | x :: xs, y :: ys, i + 1, d, h => by
    simp only [zipD, List.getElem?_cons_succ] at h
    obtain ⟨u, v, h1, h2, h3⟩ := zip_get h
    exact ⟨u, v, by simpa using h1, by simpa using h2, h3⟩
theorem zip_len : ∀ (xs ys : List D), (zipD xs ys).length = min xs.length ys.length
  | [], ys => by cases ys <;> simp [zipD]
  | x :: xs, [] => by simp [zipD]
  | x :: xs, y :: ys => by
    simp only [zipD, List.length_cons, zip_len xs ys]
    omega
theorem wk_enum {K : Frg} {a : Addr} {g : List (Nat × O)} {xs : List D} {ι : List Addr} {H : Hp} (h : ∀ ι' H' hp', Step ι H ι' H' → HpRep K H' ι' hp' → guards g hp' = true → ∃ vs, SqL K H' a vs ∧ Reps K H' ι' xs vs) : Wk K (Ite K a) g (enumD 0 xs) ι H := by
  refine ⟨fun ι' H' hp' s h' g' i d e => ?_, fun ι' H' hp' s h' g' => ?_⟩
  · obtain ⟨vs, q, z⟩ := h ι' H' hp' s h' g'
    obtain ⟨d', e', rfl⟩ := enum_get e
    obtain ⟨v, hv, rv⟩ := z.get e'
    refine ⟨⟨vs, v, q, hv⟩, fun x H2 y => ?_⟩
    obtain ⟨T, x', rfl, nT, rfl, y⟩ := y
    have ex : x' = v := Option.some.inj ((y vs q).symm.trans hv)
    subst ex
    have st := h'.fresh0 nT (ho := .tup [.int (i : Nat), x'])
    refine ⟨st, h'.laid0 nT, T, _, rfl, .of upd_same, Reps.two ?_ (h'.rep st _ _ rv)⟩
    show V.int _ = V.int _
    rw [Nat.zero_add]
  · obtain ⟨vs, q, z⟩ := h ι' H' hp' s h' g'
    exact ⟨vs, q, by rw [enum_len, z.length]; exact Nat.le_refl _⟩
theorem wk_enumT {K : Frg} {a : Addr} {g : List (Nat × O)} {xs : List D} {ι : List Addr} {H : Hp} (h : ∀ ι' H' hp', Step ι H ι' H' → HpRep K H' ι' hp' → guards g hp' = true → ∃ vs, SqT K H' a vs ∧ Reps K H' ι' xs vs) : Wk K (IteT K a) g (enumD 0 xs) ι H := by
  refine ⟨fun ι' H' hp' s h' g' i d e => ?_, fun ι' H' hp' s h' g' => ?_⟩
  · obtain ⟨vs, q, z⟩ := h ι' H' hp' s h' g'
    obtain ⟨d', e', rfl⟩ := enum_get e
    obtain ⟨v, hv, rv⟩ := z.get e'
    refine ⟨⟨vs, v, q, hv⟩, fun x H2 y => ?_⟩
    obtain ⟨T, x', rfl, nT, rfl, y⟩ := y
    have ex : x' = v := Option.some.inj ((y vs q).symm.trans hv)
    subst ex
    have st := h'.fresh0 nT (ho := .tup [.int (i : Nat), x'])
    refine ⟨st, h'.laid0 nT, T, _, rfl, .of upd_same, Reps.two ?_ (h'.rep st _ _ rv)⟩
    show V.int _ = V.int _
    rw [Nat.zero_add]
  · obtain ⟨vs, q, z⟩ := h ι' H' hp' s h' g'
    exact ⟨vs, q, by rw [enum_len, z.length]⟩
theorem guards_app {g g' : List (Nat × O)} {h : Heap} (e : guards (g ++ g') h = true) : guards g h = true ∧ guards g' h = true := by
  unfold guards at e ⊢
  rw [List.all_append] at e
  exact tt e
theorem wk_zip {K : Frg} {a b : Addr} {g g' : List (Nat × O)} {xs ys : List D} {ι : List Addr} {H : Hp} (h : ∀ ι' H' hp', Step ι H ι' H' → HpRep K H' ι' hp' → guards g hp' = true → ∃ vs, SqL K H' a vs ∧ Reps K H' ι' xs vs)
    (k : ∀ ι' H' hp', Step ι H ι' H' → HpRep K H' ι' hp' → guards g' hp' = true → ∃ vs, SqL K H' b vs ∧ Reps K H' ι' ys vs) : Wk K (Itz K a b) (g ++ g') (zipD xs ys) ι H := by
  refine ⟨fun ι' H' hp' s h' g' i d e => ?_, fun ι' H' hp' s h' g' => ?_⟩
  · obtain ⟨g1, g2⟩ := guards_app g'
    obtain ⟨vs, q, z⟩ := h ι' H' hp' s h' g1
    obtain ⟨ws, q2, z2⟩ := k ι' H' hp' s h' g2
    obtain ⟨d1, d2, e1, e2, rfl⟩ := zip_get e
    obtain ⟨v, hv, rv⟩ := z.get e1
    obtain ⟨w, hw, rw2⟩ := z2.get e2
    refine ⟨⟨vs, ws, v, w, q, q2, hv, hw⟩, fun x H2 y => ?_⟩
    obtain ⟨T, x', y', rfl, nT, rfl, y1, y2⟩ := y
    have ex : x' = v := Option.some.inj ((y1 vs q).symm.trans hv)
    have ey : y' = w := Option.some.inj ((y2 ws q2).symm.trans hw)
    subst ex ey
    have st := h'.fresh0 nT (ho := .tup [x', y'])
    exact ⟨st, h'.laid0 nT, T, _, rfl, .of upd_same, Reps.two (h'.rep st _ _ rv) (h'.rep st _ _ rw2)⟩
  · obtain ⟨g1, g2⟩ := guards_app g'
    obtain ⟨vs, q, z⟩ := h ι' H' hp' s h' g1
    obtain ⟨ws, q2, z2⟩ := k ι' H' hp' s h' g2
    refine ⟨vs, ws, q, q2, ?_⟩
    rw [zip_len, ← z.length, ← z2.length]
    omega
theorem wk_zipT {K : Frg} {a b : Addr} {g g' : List (Nat × O)} {xs ys : List D} {ι : List Addr} {H : Hp} (h : ∀ ι' H' hp', Step ι H ι' H' → HpRep K H' ι' hp' → guards g hp' = true → ∃ vs, SqT K H' a vs ∧ Reps K H' ι' xs vs)
    (k : ∀ ι' H' hp', Step ι H ι' H' → HpRep K H' ι' hp' → guards g' hp' = true → ∃ vs, SqT K H' b vs ∧ Reps K H' ι' ys vs) : Wk K (ItzT K a b) (g ++ g') (zipD xs ys) ι H := by
  refine ⟨fun ι' H' hp' s h' g' i d e => ?_, fun ι' H' hp' s h' g' => ?_⟩
  · obtain ⟨g1, g2⟩ := guards_app g'
    obtain ⟨vs, q, z⟩ := h ι' H' hp' s h' g1
    obtain ⟨ws, q2, z2⟩ := k ι' H' hp' s h' g2
    obtain ⟨d1, d2, e1, e2, rfl⟩ := zip_get e
    obtain ⟨v, hv, rv⟩ := z.get e1
    obtain ⟨w, hw, rw2⟩ := z2.get e2
    refine ⟨⟨vs, ws, v, w, q, q2, hv, hw⟩, fun x H2 y => ?_⟩
    obtain ⟨T, x', y', rfl, nT, rfl, y1, y2⟩ := y
    have ex : x' = v := Option.some.inj ((y1 vs q).symm.trans hv)
    have ey : y' = w := Option.some.inj ((y2 ws q2).symm.trans hw)
    subst ex ey
    have st := h'.fresh0 nT (ho := .tup [x', y'])
    exact ⟨st, h'.laid0 nT, T, _, rfl, .of upd_same, Reps.two (h'.rep st _ _ rv) (h'.rep st _ _ rw2)⟩
  · obtain ⟨g1, g2⟩ := guards_app g'
    obtain ⟨vs, q, z⟩ := h ι' H' hp' s h' g1
    obtain ⟨ws, q2, z2⟩ := k ι' H' hp' s h' g2
    refine ⟨vs, ws, q, q2, ?_⟩
    rw [zip_len, ← z.length, ← z2.length]
    omega

/-! ### one construct after another -/
section
variable {G : GI} {c : Ctx} {w : Wh} {X : Cx}
theorem s_var {i : Nat} {x : Str} {pos : Pos} (O : XOk G c w X) (h1 : w.N[i]? = some x) (h2 : visB w.sc x = true) (h3 : nmB x = true) : PE X (.Name x pos) (rdE X.K W0 c (.var i)) := by
  obtain ⟨n1, n2, _⟩ := nm_of h3
  refine (pe_var (i := i) (by rw [O.N]; exact h1) (by rw [O.sc]; exact vis_of h2) n1 n2).imp fun σ H Q ⟨ι, ρ, hp, hs, hh, po⟩ => ?_
  cases e : ρ[i]? with
  | none => simp only [ev, e] at po; exact po.elim
  | some od =>
    cases od with
    | none => simp only [ev, e] at po; exact po.elim
    | some d =>
      simp only [ev, e] at po
      obtain ⟨v, hv, r⟩ := hs.2 i d e
      exact ⟨v, hv, PoE.now po hh r⟩
theorem s_cst {i : Nat} {x : Str} {pos : Pos} (O : XOk G c w X) (h1 : G.cs[i]? = some x) (h2 : glB w.sc x = true) (h3 : nmB x = true) : PE X (.Name x pos) (rdE X.K W0 c (.cst i)) := by
  obtain ⟨n1, n2, _⟩ := nm_of h3
  obtain ⟨d, u, v, e, hm, r, q⟩ := O.cs i x h1
  refine (pe_glob (gl_of O h2) hm r n1).imp fun σ H Q ⟨ι, ρ, hp, hs, hh, po⟩ => ?_
  obtain ⟨d', e', po⟩ := Po.ofO po
  rw [e] at e'
  cases e'
  exact PoE.now po hh (q H ι)
/-- a test as its value's truth -/
theorem tru_rd {K : Frg} {e : CE} {σ : L2.St} {H : Hp} {Q : Bool → Hp → Prop} (h : rdB K W0 c (.val e) σ H Q) : rdE K W0 c e σ H fun x H' => ∃ k, TruV K x H' k ∧ Q k H' := by
  obtain ⟨ι, ρ, hp, hs, hh, po⟩ := h
  refine ⟨ι, ρ, hp, hs, hh, po.bind.mono fun x ι1 H1 s1 p1 v h1 r1 => ?_⟩
  obtain ⟨b, e, p1⟩ := Po.ofO p1
  exact ⟨b, truth_ok h1 r1 e, p1 ι1 H1 .refl h1⟩
theorem and_rd {K : Frg} {a b : CE} {σ : L2.St} {H : Hp} {Q : VK} (h : rdE K W0 c (.and a b) σ H Q) : tAndT K (rdE K W0 c a) (rdE K W0 c b) σ H Q := by
  obtain ⟨ι, ρ, hp, hs, hh, po⟩ := h
  refine ⟨ι, ρ, hp, hs, hh, po.bind.mono fun x ι1 H1 s1 p1 v h1 r1 => ?_⟩
  obtain ⟨k, e, p1⟩ := Po.ofO p1
  refine ⟨k, truth_ok h1 r1 e, ?_⟩
  cases k with
  | true => exact ⟨ι1, ρ, x.2, hh.srep s1 hs, h1, p1⟩
  | false => exact PoE.now p1 h1 r1
theorem or_rd {K : Frg} {a b : CE} {σ : L2.St} {H : Hp} {Q : VK} (h : rdE K W0 c (.or a b) σ H Q) : tOrT K (rdE K W0 c a) (rdE K W0 c b) σ H Q := by
  obtain ⟨ι, ρ, hp, hs, hh, po⟩ := h
  refine ⟨ι, ρ, hp, hs, hh, po.bind.mono fun x ι1 H1 s1 p1 v h1 r1 => ?_⟩
  obtain ⟨k, e, p1⟩ := Po.ofO p1
  refine ⟨k, truth_ok h1 r1 e, ?_⟩
  cases k with
  | true => exact PoE.now p1 h1 r1
  | false => exact ⟨ι1, ρ, x.2, hh.srep s1 hs, h1, p1⟩
theorem andB_rd {K : Frg} {a b : CB} {σ : L2.St} {H : Hp} {Q : Bool → Hp → Prop} (h : rdB K W0 c (.and a b) σ H Q) : tAnd (rdB K W0 c a) (rdB K W0 c b) σ H Q := by
  obtain ⟨ι, ρ, hp, hs, hh, po⟩ := h
  refine ⟨ι, ρ, hp, hs, hh, po.bind.mono fun x ι1 H1 s1 p1 h1 => ?_⟩
  cases hx : x.1 with
  | true => rw [hx] at p1; exact ⟨ι1, ρ, x.2, hh.srep s1 hs, h1, p1⟩
  | false => rw [hx] at p1; exact p1 ι1 H1 .refl h1
theorem orB_rd {K : Frg} {a b : CB} {σ : L2.St} {H : Hp} {Q : Bool → Hp → Prop} (h : rdB K W0 c (.or a b) σ H Q) : tOr (rdB K W0 c a) (rdB K W0 c b) σ H Q := by
  obtain ⟨ι, ρ, hp, hs, hh, po⟩ := h
  refine ⟨ι, ρ, hp, hs, hh, po.bind.mono fun x ι1 H1 s1 p1 h1 => ?_⟩
  cases hx : x.1 with
  | true => rw [hx] at p1; exact p1 ι1 H1 .refl h1
  | false => rw [hx] at p1; exact ⟨ι1, ρ, x.2, hh.srep s1 hs, h1, p1⟩
theorem notB_rd {K : Frg} {a : CB} {σ : L2.St} {H : Hp} {Q : Bool → Hp → Prop} (h : rdB K W0 c (.not a) σ H Q) : tNot (rdB K W0 c a) σ H Q := by
  obtain ⟨ι, ρ, hp, hs, hh, po⟩ := h
  exact ⟨ι, ρ, hp, hs, hh, po.bind.mono fun x ι1 H1 s1 p1 h1 => p1 ι1 H1 .refl h1⟩
theorem notE_rd {K : Frg} {a : CE} {σ : L2.St} {H : Hp} {Q : VK} (h : rdE K W0 c (.not (.val a)) σ H Q) : tNotT K (rdE K W0 c a) σ H Q := by
  obtain ⟨ι, ρ, hp, hs, hh, po⟩ := h
  refine ⟨ι, ρ, hp, hs, hh, po.bind.bind.mono fun x ι1 H1 s1 p1 v h1 r1 => ?_⟩
  obtain ⟨b, e, p1⟩ := Po.ofO p1
  exact ⟨b, truth_ok h1 r1 e, PoE.now (p1 ι1 H1 .refl) h1 rfl⟩
theorem ite_rd {K : Frg} {t : CB} {a b : CE} {σ : L2.St} {H : Hp} {Q : VK} (h : rdE K W0 c (.ite t a b) σ H Q) : tIf (rdB K W0 c t) (rdE K W0 c a) (rdE K W0 c b) σ H Q := by
  obtain ⟨ι, ρ, hp, hs, hh, po⟩ := h
  refine ⟨ι, ρ, hp, hs, hh, po.bind.mono fun x ι1 H1 s1 p1 h1 => ?_⟩
  cases hx : x.1 with
  | true => rw [hx] at p1; exact ⟨ι1, ρ, x.2, hh.srep s1 hs, h1, p1⟩
  | false => rw [hx] at p1; exact ⟨ι1, ρ, x.2, hh.srep s1 hs, h1, p1⟩
theorem ifS_rd {K : Frg} {t : CB} {a b : CSs} {σ : L2.St} {H : Hp} {De : Ends} (h : rdS K c (.ite t a b) De σ H) : tIfS (rdB K W0 c t) (rdSs K c a) (rdSs K c b) De σ H := by
  obtain ⟨ι, ρ, hp, hs, hh, po⟩ := h
  refine ⟨ι, ρ, hp, hs, hh, po.bind.mono fun x ι1 H1 s1 p1 h1 => ?_⟩
  cases hx : x.1 with
  | true => rw [hx] at p1; exact ⟨ι1, ρ, x.2, hh.srep s1 hs, h1, p1⟩
  | false => rw [hx] at p1; exact ⟨ι1, ρ, x.2, hh.srep s1 hs, h1, p1⟩
/-- a list that is made is a value when it gets its number -/
theorem new_rd {K : Frg} {l : CL} {σ : L2.St} {H : Hp} {Q : VK} (h : rdE K W0 c (.new l) σ H Q) : rdL K c l σ H Q := by
  obtain ⟨ι, ρ, hp, hs, hh, po⟩ := h
  refine ⟨ι, ρ, hp, hs, hh, ?_⟩
  have p := po_fix po
  refine p.mono fun x ι1 H1 s1 p1 h1 a vs na ni ha r => ?_
  have nn : Step ι H (ι1 ++ [a]) H1 := by
    obtain ⟨κ, e⟩ := s1.pre
    refine ⟨⟨κ ++ [a], by rw [e, List.append_assoc]⟩, fun b hb => ?_, s1.kp⟩
    rcases List.mem_append.mp hb with q | q
    · exact s1.new b q
    · rw [List.mem_singleton.mp q]; exact .inr na
  exact p1 (ι1 ++ [a]) H1 nn _ (num_ok h1 ni ⟨vs, ha, (more_reps h1 a).2 _ _ r⟩) ⟨a, rfl, num_at h1⟩
/-- a list that is made, taken by a built-in at once -/
theorem tmp_rd {K : Frg} {l : CL} {σ : L2.St} {H : Hp} {Q : VK} (h : rdQ K c (.tmp l) σ H Q) : rdL K c l σ H Q := by
  obtain ⟨ι, ρ, hp, hs, hh, po⟩ := h
  exact ⟨ι, ρ, hp, hs, hh, po.mono fun x ι1 H1 s1 p1 h1 a vs na ni ha r => p1 h1 _ ⟨a, vs, rfl, .inl (.of ha), r⟩⟩
theorem val_rd {K : Frg} {e : CE} {σ : L2.St} {H : Hp} {Q : VK} (h : rdQ K c (.val e) σ H Q) : rdE K W0 c e σ H Q := by
  obtain ⟨ι, ρ, hp, hs, hh, po⟩ := h
  refine ⟨ι, ρ, hp, hs, hh, po.bind.mono fun x ι1 H1 s1 p1 v h1 r1 => ?_⟩
  obtain ⟨w', e, p1⟩ := Po.ofO p1
  exact p1 ι1 H1 .refl h1 v (seq_holds h1 r1 e)
end
end Tw
end

section
set_option Elab.async false
set_option linter.all false
set_option maxRecDepth 100000
set_option maxHeartbeats 4000000
/-! THE THEOREM, piece by piece. Own work. -/
namespace Tw
open PySem PySem.Spec PyProof.Rows L2 RZ

theorem inW_ok {G : GI} {c : Ctx} {w : Wh} {X : Cx} (O : XOk G c w X) (scope : Scope) (hk : scope.kind = .function) (s : Shared) (H : Hp) (C : Addr) (cl : List (Str × Addr)) (fp : List Addr) : XOk G c (inW w scope) (X.blk s H scope (compEnvC scope cl C X.env) fp) where
  N := O.N
  nd := O.nd
  sc := by
    show relabel scope X.env = relS scope w.sc
    rw [← O.sc]
    rfl
  knd := hk
  calm := O.calm
  fn := fun x h => by
    have h : locB scope x = true := h
    unfold locB at h
    split at h
    · rename_i e
      have q : (relS scope w.sc).names.lookup x = some .local := lookup_relS_keep (by decide) e
      exact ⟨.inl q, .inr q⟩
    · rename_i e
      have q : (relS scope w.sc).names.lookup x = some .cell := lookup_relS_keep (by decide) e
      refine ⟨.inr q, .inl ?_⟩
      show (scope.names.lookup x == some .cell) = true
      rw [e] <;> rfl
    · cases h
  hu := O.hu
  bl := O.bl
  cs := O.cs
  ar := O.ar
  fns := O.fns

section
variable {G : GI} {c : Ctx}
theorem own_ix {w : Wh} {is : List Nat} : (ownOf w.N is).map (·.2) = is := by
  unfold ownOf
  rw [List.map_map]
  exact (List.map_congr_left (fun _ _ => rfl)).trans (List.map_id is)
theorem biBoot (b : Bi) : bootBuiltins (Str.ofString (biX b)) = some (biF b) := by cases b <;> decide +kernel
theorem sqBoot (b : Sq) : bootBuiltins (Str.ofString (sqX b)) = some (sqF b) := by cases b <;> decide +kernel
theorem tyBoot (t : Ty) : bootBuiltins (Str.ofString (tyX t)) = some (.type (tyX t)) := by cases t <;> decide +kernel
theorem isiBoot : bootBuiltins (Str.ofString "isinstance") = some (.builtin "isinstance") := by decide +kernel
theorem biN (b : Bi) : Str.ofString (biX b) ≠ "__name__" ∧ (Str.ofString (biX b) == ("__debug__" : Str)) = false := by cases b <;> exact ⟨by decide +kernel, by decide +kernel⟩
theorem sqN (b : Sq) : Str.ofString (sqX b) ≠ "__name__" ∧ (Str.ofString (sqX b) == ("__debug__" : Str)) = false := by cases b <;> exact ⟨by decide +kernel, by decide +kernel⟩
theorem tyN (b : Ty) : Str.ofString (tyX b) ≠ "__name__" ∧ (Str.ofString (tyX b) == ("__debug__" : Str)) = false := by cases b <;> exact ⟨by decide +kernel, by decide +kernel⟩
theorem pe_callF {X : Cx} {x : Str} {p pos : Pos} {e : Expr} {es : List Expr} {t : TA} {f : Value} {r : List V → Hp → VK → Prop} (hf : (∃ id, f = .builtin id) ∨ ∃ T, f = .type T) (hc : CallR X f r) (hg : Gl X x) (hm : X.mg x = none) (hv : bootBuiltins x = some f) (ha : PA X (e :: es) t) (hn : x ≠ "__name__") (hdb : (x == ("__debug__" : Str)) = false)
    (he : starEach (e :: es) X.env = (false, eval e X.env) :: starEach es X.env) (hpl : (backTo pos (starEach es X.env)).any (·.1) = false) : PE X (.Call (.Name x p) (e :: es) [] pos) (tCB r t) := by
  rcases hf with ⟨id, rfl⟩ | ⟨T, rfl⟩
  · exact pe_callB hc hg hm hv ha hn hdb he hpl
  · exact pe_callTy hc hg hm hv ha hn hdb he hpl
theorem biK (b : Bi) : (∃ id, biF b = .builtin id) ∨ ∃ T, biF b = .type T := by cases b <;> first | exact .inl ⟨_, rfl⟩ | exact .inr ⟨_, rfl⟩
theorem sqK (b : Sq) : (∃ id, sqF b = .builtin id) ∨ ∃ T, sqF b = .type T := by cases b <;> first | exact .inl ⟨_, rfl⟩ | exact .inr ⟨_, rfl⟩
/-- a dict display's pairs -/
def trs (K : Frg) (c : Ctx) : CPs → List (TE × TE)
  | .nil => []
  | .cons k v ps => (rdE K W0 c k, rdE K W0 c v) :: trs K c ps
theorem pairs_rd {K : Frg} : ∀ {ps : CPs} {σ : L2.St} {H : Hp} {Q : List (V × V) → Hp → Prop}, (∃ ι ρ hp, SRep K H ι σ ρ ∧ HpRep K H ι hp ∧ Po W0 ι H (evP c ps ρ hp) (Tw.SP K Q)) → tPairs (trs K c ps) σ H Q
  | .nil, σ, H, Q, ⟨ι, ρ, hp, hs, hh, po⟩ => po ι H .refl hh [] rfl rfl
  | .cons k v ps, σ, H, Q, ⟨ι, ρ, hp, hs, hh, po⟩ => by
    refine ⟨ι, ρ, hp, hs, hh, po.bind.mono fun x ι1 H1 s1 p1 u h1 r1 => ?_⟩
    have hs1 := hh.srep s1 hs
    refine ⟨ι1, ρ, x.2, hs1, h1, p1.bind.mono fun y ι2 H2 s2 p2 t h2 r2 => ?_⟩
    refine pairs_rd ⟨ι2, ρ, y.2, h1.srep s2 hs1, h2, p2.bind.mono fun z ι3 H3 s3 p3 h3 qs e1 e2 => ?_⟩
    exact p3 ι3 H3 .refl h3 ((u, t) :: qs) ⟨u, _, rfl, h2.rep s3 _ _ (h1.rep s2 _ _ r1), e1⟩ ⟨t, _, rfl, h2.rep s3 _ _ r2, e2⟩
theorem dbuild_ok {K : Frg} {H : Hp} {ι : List Addr} : ∀ {ps : List (D × D)} {qs : List (V × V)} {acc : List (Key × D)} {ws : List (L2.Key × V)} {kvs : List (Key × D)}, dbuild ps acc = .ok kvs → Reps K H ι (ps.map (·.1)) (qs.map (·.1)) → Reps K H ι (ps.map (·.2)) (qs.map (·.2)) → RepK K H ι acc ws →
    ∃ ks : List (L2.Key × V), qs = ks.map (fun kv => (kV kv.1, kv.2)) ∧ RepK K H ι kvs (mergeK ws ks)
  | [], qs, acc, ws, kvs, h, r1, r2, r => by
    cases h
    have e : qs.map (·.1) = [] := r1
    cases qs with
    | nil => exact ⟨[], rfl, r⟩
    | cons q qs => cases e
  | p :: ps, qs, acc, ws, kvs, h, r1, r2, r => by
    obtain ⟨k, v⟩ := p
    cases qs with
    | nil => obtain ⟨_, _, e, _⟩ := r1; cases e
    | cons q qs =>
      obtain ⟨a, b⟩ := q
      obtain ⟨u, t, e1, h1, h2⟩ := r1
      obtain ⟨u', t', e1', h1', h2'⟩ := r2
      simp only [List.map_cons, List.cons.injEq] at e1 e1'
      obtain ⟨rfl, rfl⟩ := e1
      obtain ⟨rfl, rfl⟩ := e1'
      unfold dbuild at h
      cases hl : decide (acc.length < LIM) with
      | false => rw [hl] at h; cases h
      | true =>
        rw [hl] at h
        cases hd : dputM acc k v with
        | none => simp only [chk, hd, ofO] at h; cases h
        | some acc' =>
          simp only [chk, hd, ofO] at h
          obtain ⟨kk, hk, rfl⟩ := Option.map_eq_some_iff.mp hd
          have ek := keyOf_ok h1 hk
          subst ek
          obtain ⟨ks, e, z⟩ := dbuild_ok h h2 h2' (putV_ok (k := kk) h1' r)
          exact ⟨(kk, _) :: ks, by rw [e]; rfl, z⟩
def CPs.len : CPs → Nat
  | .nil => 0
  | .cons _ _ ps => ps.len + 1
theorem evP_len : ∀ {ps : CPs} {ρ : Env} {hp : Heap} {x : List (D × D) × Heap}, evP c ps ρ hp = .ok x → x.1.length = ps.len
  | .nil, _, _, _, h => by cases h; rfl
  | .cons k v ps, ρ, hp, x, h => by
    unfold evP at h
    cases e1 : ev c k ρ hp with
    | ok a =>
      rw [e1] at h
      simp only [R.bind] at h
      cases e2 : ev c v ρ a.2 with
      | ok b =>
        rw [e2] at h
        simp only [R.bind] at h
        cases e3 : evP c ps ρ b.2 with
        | ok d =>
          rw [e3] at h
          simp only [R.bind] at h
          cases h
          show d.1.length + 1 = _
          rw [evP_len e3]
          rfl
        | _ => rw [e3] at h; cases h
      | _ => rw [e2] at h; cases h
    | _ => rw [e1] at h; cases h
theorem dct_rd {K : Frg} {ps : CPs} {σ : L2.St} {H : Hp} {Q : VK} (hn : ps.len ≤ 15) (h : rdE K W0 c (.dct ps) σ H Q) : tDisp (trs K c ps) σ H Q := by
  obtain ⟨ι, ρ, hp, hs, hh, po⟩ := h
  intro p hp0
  have s0 := hh.fresh0 hp0 (ho := .dK [])
  have h0 : HpRep K (upd H p (.dK [])) ι hp := hh.laid0 hp0
  have p1 : Po W0 ι (upd H p (.dK [])) (evP c ps ρ hp) fun x _ _ => x.1.length = ps.len ∧ Po W0 ι H ((dbuild x.1 []).bind fun kvs => .ok (.ref x.2.length, x.2 ++ [.dct kvs])) (SE K Q) := by
    have q := Po.at (po_fix po) s0
    cases e : evP c ps ρ hp with
    | ok x => rw [e] at q; exact fun ι' H' s => ⟨evP_len e, q ι' H' s⟩
    | exc a b d => rw [e] at q; exact q
    | no => rw [e] at q; exact q
  refine pairs_rd ⟨ι, ρ, hp, hh.srep s0 hs, h0, p1.mono fun x ι1 H1 s1 ⟨lx, q⟩ h1 qs r1 r2 => ?_⟩
  have hD : H1 p = some (.dK []) := s1.kp p _ upd_same (hh.notin hp0)
  have nD : p ∉ ι1 := fun hm => by
    rcases s1.new p hm with z | z
    · exact hh.notin hp0 z
    · rw [upd_same] at z; cases z
  cases hb : dbuild x.1 [] with
  | exc a b d => rw [hb] at q; exact (q ι H .refl).elim
  | no => rw [hb] at q; exact q.elim
  | ok kvs =>
    rw [hb] at q
    obtain ⟨ks, e, z⟩ := dbuild_ok hb r1 r2 (ws := []) ⟨rfl, rfl⟩
    have hlen : ks.length ≤ 15 := by
      have l1 : ks.length = qs.length := by rw [e, List.length_map]
      have l2 := r1.length
      rw [List.length_map, List.length_map] at l2
      omega
    have st : Step ι H ι1 H1 := s0.trans s1
    have ho := off_rep (K := K) (ι := ι1) (H := H1) (a := p) (o := .dK (mergeK [] ks)) (fun _ z => by rw [hD] at z; cases z) (fun _ _ z => by rw [hD] at z; cases z)
    have h2 : HpRep K (upd H1 p (.dK (mergeK [] ks))) ι1 x.2 := off_hp h1 nD (fun _ z => by rw [hD] at z; cases z) (fun _ _ z => by rw [hD] at z; cases z)
    have st2 : Step ι H (ι1 ++ [p]) (upd H1 p (.dK (mergeK [] ks))) := by
      have so := st.off hp0 (o := .dK (mergeK [] ks))
      obtain ⟨κ, e⟩ := so.pre
      refine ⟨⟨κ ++ [p], by rw [e, List.append_assoc]⟩, fun a ha => ?_, so.kp⟩
      rcases List.mem_append.mp ha with q | q
      · exact so.new a q
      · rw [List.mem_singleton.mp q]; exact .inr hp0
    refine ⟨hD, ks, e, hlen, ?_⟩
    exact q (ι1 ++ [p]) _ st2 _ (num_ok h2 nD ⟨_, upd_same, z.1, (more_reps h2 p).2 _ _ (ho.2 _ _ z.2)⟩) ⟨p, rfl, num_at h2⟩
end
end Tw
end

section
set_option Elab.async false
set_option linter.all false
set_option maxRecDepth 100000
set_option maxHeartbeats 8000000
/-! THE THEOREM. Own work. -/
namespace Tw
open PySem PySem.Spec PyProof.Rows L2 RZ
section
variable {G : GI} {c : Ctx}
theorem evs_rd {K : Frg} {e : CE} {es : CEs} {σ : L2.St} {H : Hp} {Q : List V → Hp → Prop} (h : rdA K W0 c (.cons e es) σ H Q) : tCons (rdE K W0 c e) (rdA K W0 c es) σ H Q := by
  obtain ⟨ι, ρ, hp, hs, hh, po⟩ := h
  refine ⟨ι, ρ, hp, hs, hh, po.bind.mono fun x ι1 H1 s1 p1 v h1 r1 => ?_⟩
  refine ⟨ι1, ρ, x.2, hh.srep s1 hs, h1, p1.bind.mono fun y ι2 H2 s2 p2 ws h2 r2 => ?_⟩
  exact p2 ι2 H2 .refl (v :: ws) h2 ⟨v, ws, rfl, h1.rep s2 _ _ r1, r2⟩
/-- some values, then what a call of them does -/
theorem call_rd {K : Frg} {es : CEs} {f : List D → Heap → R (D × Heap)} {σ : L2.St} {H : Hp} {Q : VK} {ι : List Addr} {ρ : Env} {hp : Heap} (hs : SRep K H ι σ ρ) (hh : HpRep K H ι hp) (po : PoE K W0 ι H ((evs c es ρ hp).bind fun x => f x.1 x.2) Q) :
    tCB (rCall K W0 f) (rdA K W0 c es) σ H Q :=
  ⟨ι, ρ, hp, hs, hh, po.bind.mono fun x ι1 H1 s1 p1 vs h1 r1 => ⟨ι1, x.2, x.1, h1, r1, p1⟩⟩
theorem sq_rd {K : Frg} {s : CI} {f : List D → Heap → R (D × Heap)} {σ : L2.St} {H : Hp} {Q : VK} {ι : List Addr} {ρ : Env} {hp : Heap} (hs : SRep K H ι σ ρ) (hh : HpRep K H ι hp) (po : PoE K W0 ι H ((evQ c s ρ hp).bind fun x => f x.1 x.2) Q) :
    tCB (rSq K W0 f) (tCons (rdQ K c s) tNil) σ H Q :=
  ⟨ι, ρ, hp, hs, hh, po.bind.mono fun x ι1 H1 s1 p1 h1 v hv => ⟨ι1, x.2, x.1, v, h1, rfl, hv, p1⟩⟩

theorem ar_len {w : Wh} {X : Cx} {f : Nat} {p : Str × Nat} {K : Frg} {ι : List Addr} {H : Hp} {ds : List D} {vs : List V} {hp : Heap} {Q : VK} (O : XOk G c w X) (hp' : G.fns[f]? = some p) (r : Reps K H ι ds vs) (po : PoE K W0 ι H (c.T f ds hp) Q) : vs.length = p.2 := by
  rw [← r.length]
  apply Classical.byContradiction
  intro n
  rw [O.ar f p hp' ds hp n] at po
  exact po.elim
theorem mL_plain {w : Wh} {l : CL} {x : Expr} (h : mL G w l x = true) : plainE x = true := by
  cases l <;> (simp only [mL] at h; split at h <;> first | rfl | cases h)
theorem mE_plain {w : Wh} {e : CE} {x : Expr} (h : mE G w e x = true) : plainE x = true := by
  cases e
  case new l => simp only [mE] at h; exact mL_plain h
  case call => simp only [mE] at h; split at h <;> first | rfl | cases h
  all_goals (simp only [mE] at h; split at h <;> first | rfl | cases h)
theorem mL_set {w : Wh} {l : CL} {x : Expr} (h : mL G w l x = true) : setE x = true := by
  cases l <;> (simp only [mL] at h; split at h <;> first | rfl | cases h)
theorem sISet {w : Wh} {X : Cx} {s : CI} {x tg : Expr} (h : mI G w s x tg = true) : ∀ v, foldedSetIterable x X.env v = pure v := by
  apply fold_of
  cases s
  case val => simp only [mI] at h; exact (tt h).2
  case tmp => simp only [mI] at h; exact mL_set h
  all_goals (simp only [mI] at h; split at h <;> first | rfl | cases h)
theorem chain_rd {K : Frg} {o1 o2 : COp} {a b d : CE} {σ : L2.St} {H : Hp} {Q : VK} (h : rdE K W0 c (.chain o1 o2 a b d) σ H Q) : tChain (rOp K W0 (opC o1)) (rOp K W0 (opC o2)) (rdE K W0 c a) (rdE K W0 c b) (rdE K W0 c d) σ H Q := by
  obtain ⟨ι, ρ, hp, hs, hh, po⟩ := h
  refine ⟨ι, ρ, hp, hs, hh, po.bind.mono fun x ι1 H1 s1 p1 v h1 r1 => ?_⟩
  have hs1 := hh.srep s1 hs
  refine ⟨ι1, ρ, x.2, hs1, h1, p1.bind.mono fun y ι2 H2 s2 p2 u h2 r2 => ?_⟩
  have hs2 := h1.srep s2 hs1
  refine ⟨ι2, y.2, x.1, y.1, h2, h1.rep s2 _ _ r1, r2, p2.bind.mono fun z ι3 H3 s3 p3 t h3 r3 => ?_⟩
  cases hz : z.1 with
  | bl k =>
    rw [hz] at p3 r3
    refine ⟨k, r3, ?_⟩
    cases k with
    | false => simp only [Bool.false_eq_true, if_false]; exact PoE.now p3 h3 rfl
    | true =>
      simp only [if_true]
      exact ⟨ι3, ρ, z.2, h2.srep s3 hs2, h3, p3.bind.mono fun w4 ι4 H4 s4 p4 v4 h4 r4 => ⟨ι4, w4.2, y.1, w4.1, h4, h3.rep s4 _ _ (h2.rep s3 _ _ r2), r4, p4⟩⟩
  | _ => rw [hz] at p3; exact p3.elim
theorem neg_rd {K : Frg} {a : CE} {σ : L2.St} {H : Hp} {Q : VK} (h : rdE K W0 c (.neg a) σ H Q) : tUn (rU fun i => .int (-i)) (rdE K W0 c a) σ H Q := by
  obtain ⟨ι, ρ, hp, hs, hh, po⟩ := h
  refine ⟨ι, ρ, hp, hs, hh, po.bind.mono fun x ι1 H1 s1 p1 v h1 r1 => ?_⟩
  cases hx : x.1 with
  | int i => rw [hx] at p1 r1; exact ⟨i, r1, PoE.now p1 h1 rfl⟩
  | _ => rw [hx] at p1; exact p1.elim
theorem slc_rd {K : Frg} {a : CE} {lo hi : CO} {σ : L2.St} {H : Hp} {Q : VK} (h : rdE K W0 c (.slc a lo hi) σ H Q) : tSl (fun x lo hi H Q => ∃ ι hp d, HpRep K H ι hp ∧ Rep K H ι d x ∧ PoE K W0 ι H (slcV d lo hi hp) Q) (rdE K W0 c a) (rdO K c lo) (rdO K c hi) σ H Q := by
  obtain ⟨ι, ρ, hp, hs, hh, po⟩ := h
  refine ⟨ι, ρ, hp, hs, hh, po.bind.mono fun x ι1 H1 s1 p1 v h1 r1 => ?_⟩
  have hs1 := hh.srep s1 hs
  refine ⟨ι1, ρ, x.2, hs1, h1, p1.bind.mono fun y ι2 H2 s2 p2 h2 => ?_⟩
  refine ⟨ι2, ρ, y.2, h1.srep s2 hs1, h2, p2.bind.mono fun z ι3 H3 s3 p3 h3 => ?_⟩
  exact ⟨ι3, z.2, x.1, h3, h2.rep s3 _ _ (h1.rep s2 _ _ r1), p3⟩
theorem isLst_ok {K : Frg} {H : Hp} {ι : List Addr} {hp : Heap} {d : D} {v : V} (hh : HpRep K H ι hp) (r : Rep K H ι d v) (e : isLst d hp = true) : ∃ n a xs vs, d = .ref n ∧ v = .ref a ∧ hp[n]? = some (.lst xs) ∧ ι[n]? = some a ∧ H a = some (.lst vs) ∧ Reps K H ι xs vs := by
  cases d with
  | ref n =>
    obtain ⟨a, rfl, ha⟩ := r
    cases hn : hp[n]? with
    | none => simp only [isLst, hn] at e; cases e
    | some o =>
      cases o with
      | lst xs =>
        obtain ⟨vs, q, z⟩ := hh.lst hn ha
        exact ⟨n, a, xs, vs, rfl, rfl, hn, ha, q, z⟩
      | dct kvs => simp only [isLst, hn] at e; cases e
  | _ => cases e
theorem app_rd {K : Frg} {l a : CE} {σ : L2.St} {H : Hp} {Q : VK} (h : rdE K W0 c (.app l a) σ H Q) : tBM K "list" rAppend (rdE K W0 c l) (tCons (rdE K W0 c a) tNil) σ H Q := by
  obtain ⟨ι, ρ, hp, hs, hh, po⟩ := h
  refine ⟨ι, ρ, hp, hs, hh, po.bind.mono fun x ι1 H1 s1 p1 v h1 r1 => ?_⟩
  obtain ⟨hl, p1⟩ := Po.chk p1
  obtain ⟨n, b, xs, vs, ex, rfl, hn, ha, q, z⟩ := isLst_ok h1 r1 hl
  refine ⟨.inl ⟨rfl, vs, .of q⟩, ι1, ρ, x.2, hh.srep s1 hs, h1, p1.bind.mono fun y ι2 H2 s2 p2 u h2 r2 => ?_⟩
  rw [ex] at p2
  cases hn2 : y.2[n]? with
  | none => simp only [appV, hn2] at p2; exact p2.elim
  | some o =>
    cases o with
    | lst ys =>
      simp only [appV, hn2] at p2
      obtain ⟨hlim, p2⟩ := Po.chk p2
      have ha2 : ι2[n]? = some b := by
        obtain ⟨κ, e⟩ := s2.pre
        rw [e, List.getElem?_append_left (List.getElem?_eq_some_iff.mp ha).1]
        exact ha
      obtain ⟨ws, q2, z2⟩ := h2.lst hn2 ha2
      have st : Step ι2 H2 ι2 (upd H2 b (.lst (ws ++ [u]))) := Step.write (List.mem_of_getElem? ha2)
      refine ⟨b, ws, u, rfl, rfl, q2, by rw [lim_eq, ← z2.length]; exact of_decide_eq_true hlim, ?_⟩
      exact p2 ι2 _ st _ (h2.write ha2 ⟨_, upd_same, (h2.reps st _ _ z2).append (Reps.one (h2.rep st _ _ r2))⟩) rfl
    | dct kvs => simp only [appV, hn2] at p2; exact p2.elim
theorem ext_rd {K : Frg} {l : CE} {a : CL} {σ : L2.St} {H : Hp} {Q : VK} (h : rdE K W0 c (.ext l a) σ H Q) : tBM K "list" rExtend (rdE K W0 c l) (tCons (rdL K c a) tNil) σ H Q := by
  obtain ⟨ι, ρ, hp, hs, hh, po⟩ := h
  refine ⟨ι, ρ, hp, hs, hh, po.bind.mono fun x ι1 H1 s1 p1 v h1 r1 => ?_⟩
  obtain ⟨hl, p1⟩ := Po.chk p1
  obtain ⟨n, b, xs, vs, ex, rfl, hn, ha, q, z⟩ := isLst_ok h1 r1 hl
  refine ⟨.inl ⟨rfl, vs, .of q⟩, ι1, ρ, x.2, hh.srep s1 hs, h1, p1.bind.mono fun y ι2 H2 s2 p2 h2 d us nd ni hd r2 => ?_⟩
  rw [ex] at p2
  cases hn2 : y.2[n]? with
  | none => simp only [extV, hn2] at p2; exact p2.elim
  | some o =>
    cases o with
    | lst ys =>
      simp only [extV, hn2] at p2
      obtain ⟨hlim, p2⟩ := Po.chk p2
      have ha2 : ι2[n]? = some b := by
        obtain ⟨κ, e⟩ := s2.pre
        rw [e, List.getElem?_append_left (List.getElem?_eq_some_iff.mp ha).1]
        exact ha
      obtain ⟨ws, q2, z2⟩ := h2.lst hn2 ha2
      have st : Step ι2 H2 ι2 (upd H2 b (.lst (ws ++ us))) := Step.write (List.mem_of_getElem? ha2)
      refine ⟨b, d, ws, us, rfl, rfl, q2, hd, by rw [lim_eq, ← z2.length, ← r2.length]; exact of_decide_eq_true hlim, ?_⟩
      exact p2 ι2 _ st _ (h2.write ha2 ⟨_, upd_same, (h2.reps st _ _ z2).append (h2.reps st _ _ r2)⟩) rfl
    | dct kvs => simp only [extV, hn2] at p2; exact p2.elim
theorem disp_rd {K : Frg} {es : CEs} {σ : L2.St} {H : Hp} {Q : VK} (h : rdL K c (.disp es) σ H Q) : tLst (rdA K W0 c es) σ H Q := by
  obtain ⟨ι, ρ, hp, hs, hh, po⟩ := h
  refine ⟨ι, ρ, hp, hs, hh, po.bind.mono fun y ι1 H1 s1 p1 vs h1 r1 => ?_⟩
  obtain ⟨hl, p1⟩ := Po.chk p1
  refine ⟨by rw [lim_eq, ← r1.length]; exact of_decide_eq_true hl, fun p hn => ?_⟩
  have s2 := h1.fresh0 hn (ho := .lst vs)
  exact p1 ι1 _ s2 (h1.laid0 hn) p vs (s1.was h1 hn) (h1.notin hn) upd_same (h1.reps s2 _ _ r1)
theorem rep_rd {K : Frg} {es : CEs} {n : CE} {σ : L2.St} {H : Hp} {Q : VK} (h : rdL K c (.rep es n) σ H Q) : tOp rRep (tLst (rdA K W0 c es)) (rdE K W0 c n) σ H Q := by
  obtain ⟨ι, ρ, hp, hs, hh, po⟩ := h
  refine ⟨ι, ρ, hp, hs, hh, po.bind.mono fun y ι1 H1 s1 p1 vs h1 r1 => ?_⟩
  obtain ⟨hl, p1⟩ := Po.chk p1
  refine ⟨by rw [lim_eq, ← r1.length]; exact of_decide_eq_true hl, fun p hn => ?_⟩
  have s2 := h1.fresh0 hn (ho := .lst vs)
  have h2 := h1.laid0 hn (ho := .lst vs)
  refine ⟨ι1, ρ, y.2, h1.srep s2 (hh.srep s1 hs), h2, (Po.at p1 s2).bind.mono fun z ι3 H3 s3 p3 u h3 r3 => ?_⟩
  cases hz : z.1 with
  | int k =>
    rw [hz] at p3 r3
    obtain ⟨hk, p3⟩ := Po.chk p3
    obtain ⟨k1, k2⟩ := tt hk
    obtain ⟨k0, k1⟩ := tt k1
    have k0 := of_decide_eq_true k0
    have k1 := of_decide_eq_true k1
    have k2 := of_decide_eq_true k2
    have r3' := h1.reps (s2.trans s3) _ _ r1
    refine ⟨p, k, vs, rfl, r3, s3.kp p _ upd_same (h1.notin hn), by omega, by omega, by rw [lim_eq, ← r1.length]; exact k2, fun q hq => ?_⟩
    have s4 := h3.fresh0 hq (ho := .lst (List.replicate k.toNat vs).flatten)
    exact p3 ι3 _ s4 (h3.laid0 hq) q _ ((s1.trans (s2.trans s3)).was h3 hq) (h3.notin hq) upd_same (h3.reps s4 _ _ (r3'.rep k.toNat))
  | _ => rw [hz] at p3; exact p3.elim
theorem Po.eqn {α : Type} {W : Wish} {ι : List Addr} {H : Hp} {r : R α} {S : α → List Addr → Hp → Prop} (p : Po W ι H r S) : Po W ι H r fun a ι' H' => r = .ok a ∧ S a ι' H' := by
  cases r with
  | ok a => exact fun ι' H' s => ⟨rfl, p ι' H' s⟩
  | exc a b d => exact p
  | no => exact p
theorem inB_bl {n : Bool} {x y : D} {h : Heap} {r : D × Heap} (e : inB n x y h = .ok r) : ∃ k, r.1 = .bl k := by
  unfold inB at e
  split at e
  · cases hk : (Tw.scal x && (_ : List D).all Tw.scal) <;> (rw [hk] at e; first | (cases e; exact ⟨_, rfl⟩) | cases e)
  · cases hk : (Tw.scal x && (_ : List D).all Tw.scal) <;> (rw [hk] at e; first | (cases e; exact ⟨_, rfl⟩) | cases e)
  · split at e
    · cases hk : (Tw.scal x && (_ : List D).all Tw.scal) <;> (rw [hk] at e; first | (cases e; exact ⟨_, rfl⟩) | cases e)
    · cases hk : keyOf x <;> (rw [hk] at e; first | (cases e; exact ⟨_, rfl⟩) | cases e)
    · cases e
  · cases e
theorem opC_bl {o : COp} {x y : D} {h : Heap} {r : D × Heap} (e : opC o x y h = .ok r) : ∃ k, r.1 = .bl k := by
  cases o <;> simp only [opC] at e
  case isin => exact inB_bl e
  case notin => exact inB_bl e
  case eq => cases hk : eqs x y <;> (rw [hk] at e; first | (cases e; exact ⟨_, rfl⟩) | cases e)
  case ne => cases hk : eqs x y <;> (rw [hk] at e; first | (cases e; exact ⟨_, rfl⟩) | cases e)
  all_goals (split at e <;> first | (cases e; exact ⟨_, rfl⟩) | cases e)
theorem bind_ok {α β : Type} {r : R α} {f : α → R β} {b : β} (e : r.bind f = .ok b) : ∃ a, r = .ok a ∧ f a = .ok b := by
  cases r with
  | ok a => exact ⟨a, rfl, e⟩
  | exc a b d => cases e
  | no => cases e
theorem cmp_bl {o : COp} {a b : CE} {ρ : Env} {hp : Heap} {x : D × Heap} (e : ev c (.cmp o a b) ρ hp = .ok x) : ∃ k, x.1 = .bl k := by
  simp only [ev] at e
  obtain ⟨_, _, e⟩ := bind_ok e
  obtain ⟨_, _, e⟩ := bind_ok e
  exact opC_bl e
theorem chain_bl {o1 o2 : COp} {a b d : CE} {ρ : Env} {hp : Heap} {x : D × Heap} (e : ev c (.chain o1 o2 a b d) ρ hp = .ok x) : ∃ k, x.1 = .bl k := by
  simp only [ev] at e
  obtain ⟨_, _, e⟩ := bind_ok e
  obtain ⟨_, _, e⟩ := bind_ok e
  obtain ⟨_, _, e⟩ := bind_ok e
  split at e
  · cases e; exact ⟨_, rfl⟩
  · obtain ⟨_, _, e⟩ := bind_ok e
    exact opC_bl e
  · cases e
/-- a test of what is a bool -/
theorem bl_rd {K : Frg} {e : CE} {σ : L2.St} {H : Hp} {Q : Bool → Hp → Prop} (hb : ∀ ρ hp x, ev c e ρ hp = .ok x → ∃ k, x.1 = .bl k) (h : rdB K W0 c (.val e) σ H Q) : rdE K W0 c e σ H fun x H' => ∃ k, x = .bl k ∧ Q k H' := by
  obtain ⟨ι, ρ, hp, hs, hh, po⟩ := h
  refine ⟨ι, ρ, hp, hs, hh, (Po.eqn po.bind).mono fun x ι1 H1 s1 ⟨e, p1⟩ v h1 r1 => ?_⟩
  obtain ⟨k, ek⟩ := hb _ _ _ e
  rw [ek] at p1 r1
  exact ⟨k, r1, p1 ι1 H1 .refl h1⟩
theorem tst_cmp {K : Frg} {o : COp} {a b : CE} {σ : L2.St} {H : Hp} {Q : Bool → Hp → Prop} (h : rdB K W0 c (.val (.cmp o a b)) σ H Q) : tTest (tOp (rOp K W0 (opC o)) (rdE K W0 c a) (rdE K W0 c b)) σ H Q := by
  obtain ⟨ι, ρ, hp, hs, hh, po⟩ := bl_rd (fun _ _ _ e => cmp_bl e) h
  exact rdE_op hs hh po
theorem tst_chain {K : Frg} {o1 o2 : COp} {a b d : CE} {σ : L2.St} {H : Hp} {Q : Bool → Hp → Prop} (h : rdB K W0 c (.val (.chain o1 o2 a b d)) σ H Q) : tTest (tChain (rOp K W0 (opC o1)) (rOp K W0 (opC o2)) (rdE K W0 c a) (rdE K W0 c b) (rdE K W0 c d)) σ H Q :=
  chain_rd (bl_rd (fun _ _ _ e => chain_bl e) h)
def _root_.Tw.CTs.len : CTs → Nat
  | .nil => 0
  | .cons _ ts => ts.len + 1
theorem asgs_len : ∀ {ts : CTs} {ι : List Addr} {H : Hp} {ds : List D} {ρ : Env} {hp : Heap} {S : Env × Heap → List Addr → Hp → Prop}, Po W0 ι H (asgs c ts ds ρ hp) S → ds.length = ts.len
  | .nil, ι, H, ds, ρ, hp, S, po => by
    cases ds with
    | nil => rfl
    | cons _ _ => exact po.elim
  | .cons t ts, ι, H, ds, ρ, hp, S, po => by
    cases ds with
    | nil => exact po.elim
    | cons d ds =>
      simp only [asgs] at po
      cases e : asg c t d ρ hp with
      | ok s =>
        rw [e] at po
        rw [List.length_cons, asgs_len (ts := ts) po]
        rfl
      | exc a b d => rw [e] at po; exact (po ι H .refl).elim
      | no => rw [e] at po; exact po.elim
theorem sub_asg {X : Cx} {o i : Expr} {pos : Pos} (h : plainE i = true) : ∀ v, assign (.Subscript o i pos) X.env v = (do
      let ov ← holding [v] (eval o X.env)
      let iv ← holding [v, ov] (eval i X.env)
      standAt pos
      holding [v, ov, iv] (setItem ov iv v)
      release [v, ov, iv] []) := by
  intro v
  cases i <;> first | rfl | cases h
theorem blk_kind {N : List Str} {sc scope : Scope} {own : List (Str × Nat)} (h : blkC N sc scope own = true) : scope.kind = .function := (blkOk_by h).kind
theorem pw_of {X : Cx} {op : BoolOp} {es : List Expr} {pos : Pos} {t : TT} (h : PT X (.BoolOp op es pos) t) : PW X (.BoolOp op es pos) t :=
  ⟨fun whole pins s σ H Q I q => h.run pins s σ H Q I q⟩
end
end Tw
end

section
set_option Elab.async false
set_option linter.all false
set_option maxRecDepth 100000
set_option maxHeartbeats 8000000
/-! THE THEOREM. Own work. -/
namespace Tw
open PySem PySem.Spec PyProof.Rows L2 RZ
section
variable {G : GI} {c : Ctx}
mutual
theorem sE : ∀ (e : CE) (w : Wh) (x : Expr) (X : Cx), XOk G c w X → mE G w e x = true → PE X x (rdE X.K W0 c e)
  | .var i, w, x, X, O, h => by
    simp only [mE] at h
    split at h
    · obtain ⟨h, h3⟩ := tt h
      obtain ⟨h1, h2⟩ := tt h
      exact s_var O (of_decide_eq_true h1) h2 h3
    · cases h
  | .int i, w, x, X, O, h => by
    simp only [mE] at h
    split at h
    · cases of_decide_eq_true h
      exact pe_int.imp fun σ H Q ⟨ι, ρ, hp, hs, hh, po⟩ => PoE.now po hh rfl
    · cases h
  | .bl i, w, x, X, O, h => by
    simp only [mE] at h
    split at h
    · cases of_decide_eq_true h
      exact pe_bl.imp fun σ H Q ⟨ι, ρ, hp, hs, hh, po⟩ => PoE.now po hh rfl
    · cases h
  | .non, w, x, X, O, h => by
    simp only [mE] at h
    split at h
    · exact pe_non.imp fun σ H Q ⟨ι, ρ, hp, hs, hh, po⟩ => PoE.now po hh rfl
    · cases h
  | .str i, w, x, X, O, h => by
    simp only [mE] at h
    split at h
    · cases of_decide_eq_true h
      exact pe_str.imp fun σ H Q ⟨ι, ρ, hp, hs, hh, po⟩ => PoE.now po hh rfl
    · cases h
  | .cst i, w, x, X, O, h => by
    simp only [mE] at h
    split at h
    · obtain ⟨h, h3⟩ := tt h
      obtain ⟨h1, h2⟩ := tt h
      exact s_cst O (of_decide_eq_true h1) h2 h3
    · cases h
  | .bin op a b, w, x, X, O, h => by
    simp only [mE] at h
    split at h
    · obtain ⟨h, h3⟩ := tt h
      obtain ⟨h1, h2⟩ := tt h
      rw [op_of h1]
      exact (pe_op (op_B op) (sE a w _ X O h2) (sE b w _ X O h3)).imp fun σ H Q ⟨ι, ρ, hp, hs, hh, po⟩ => rdE_op hs hh po
    · cases h
  | .cmp op a b, w, x, X, O, h => by
    simp only [mE] at h
    split at h
    · obtain ⟨h, h4⟩ := tt h
      obtain ⟨h, h3⟩ := tt h
      obtain ⟨h1, h2⟩ := tt h
      have h4 := Bool.not_eq_true' _ ▸ h4
      rw [cp_of h1] at h4 ⊢
      exact (pe_cmpR (op_C op (hu1 O)) (sE a w _ X O h2) (sE b w _ X O h3) h4).imp fun σ H Q ⟨ι, ρ, hp, hs, hh, po⟩ => rdE_op hs hh po
    · cases h
  | .chain o1 o2 a b d, w, x, X, O, h => by
    simp only [mE] at h
    split at h
    · obtain ⟨h, h6⟩ := tt h
      obtain ⟨h, h5⟩ := tt h
      obtain ⟨h, h4⟩ := tt h
      obtain ⟨h, h3⟩ := tt h
      obtain ⟨h1, h2⟩ := tt h
      have h6 := Bool.not_eq_true' _ ▸ h6
      rw [cp_of h1, cp_of h2] at h6 ⊢
      exact (pe_chain (op_C o1 (hu1 O)) (op_C o2 (hu1 O)) (sE a w _ X O h3) (sE b w _ X O h4) (sE d w _ X O h5) h6).imp fun σ H Q h => chain_rd h
    · cases h
  | .and a b, w, x, X, O, h => by
    simp only [mE] at h
    split at h
    · obtain ⟨h1, h2⟩ := tt h
      exact (pe_andT (sE a w _ X O h1) (pe_one (sE b w _ X O h2))).imp fun σ H Q h => and_rd h
    · obtain ⟨h1, h2⟩ := tt h
      exact (pe_andT (sE a w _ X O h1) (sE b w _ X O h2)).imp fun σ H Q h => and_rd h
    · cases h
  | .or a b, w, x, X, O, h => by
    simp only [mE] at h
    split at h
    · obtain ⟨h1, h2⟩ := tt h
      exact (pe_orT (sE a w _ X O h1) (pe_one (sE b w _ X O h2))).imp fun σ H Q h => or_rd h
    · obtain ⟨h1, h2⟩ := tt h
      exact (pe_orT (sE a w _ X O h1) (sE b w _ X O h2)).imp fun σ H Q h => or_rd h
    · cases h
  | .not a, w, x, X, O, h => by
    simp only [mE] at h
    split at h
    · cases a with
      | val a =>
        simp only [mN] at h
        exact (pe_notT (sE a w _ X O h)).imp fun σ H Q h => notE_rd h
      | _ => simp [mN] at h
    · cases h
  | .neg a, w, x, X, O, h => by
    simp only [mE] at h
    split at h
    · exact (pe_un un_neg (sE a w _ X O h)).imp fun σ H Q h => neg_rd h
    · cases h
  | .ite t a b, w, x, X, O, h => by
    simp only [mE] at h
    split at h
    · obtain ⟨h, h3⟩ := tt h
      obtain ⟨h1, h2⟩ := tt h
      exact (pe_ifExp (sB t w _ X O h1) (sE a w _ X O h2) (sE b w _ X O h3)).imp fun σ H Q h => ite_rd h
    · cases h
  | .idx a i, w, x, X, O, h => by
    simp only [mE] at h
    split at h
    · obtain ⟨h, h3⟩ := tt h
      obtain ⟨h1, h2⟩ := tt h
      exact (pe_ix (ix_V (hu1 O)) (sE a w _ X O h1) (sE i w _ X O h2) (plain_ix h3)).imp fun σ H Q ⟨ι, ρ, hp, hs, hh, po⟩ => rdE_op hs hh po
    · cases h
  | .slc a lo hi, w, x, X, O, h => by
    simp only [mE] at h
    split at h
    · obtain ⟨h, h3⟩ := tt h
      obtain ⟨h1, h2⟩ := tt h
      exact (pe_slice sl_V (sE a w _ X O h1) (sO lo w _ X O h2) (sO hi w _ X O h3)).imp fun σ H Q h => slc_rd h
    · cases h
  | .tup es, w, x, X, O, h => by
    simp only [mE] at h
    split at h
    · exact (pe_tup (sEs es w _ X O h)).imp fun σ H Q ⟨ι, ρ, hp, hs, hh, po⟩ => ⟨ι, ρ, hp, hs, hh, po.bind.mono fun y ι1 H1 s1 p1 vs h1 r1 => by
        obtain ⟨hl, p1⟩ := Po.chk p1
        exact ⟨by rw [lim_eq, ← r1.length]; exact of_decide_eq_true hl, fun p hn => new_tup h1 r1 hn p1⟩⟩
    · cases h
  | .new l, w, x, X, O, h => by
    simp only [mE] at h
    exact (sL l w _ X O h).imp fun σ H Q h => new_rd h
  | .dct ps, w, x, X, O, h => by
    simp only [mE] at h
    split at h
    · obtain ⟨h, h3⟩ := tt h
      obtain ⟨h1, h2⟩ := tt h
      obtain ⟨p1, p2, p3, p4⟩ := sP ps w _ _ _ X O h1
      have h3 := of_decide_eq_true h3
      exact (pe_disp p1 p2 p3 (fun e => by rw [e] at h2; cases h2) h3).imp fun σ H Q h => dct_rd (by rw [← p4]; exact h3) h
    · cases h
  | .dcomp k v t it cd, w, x, X, O, h => by
    simp only [mE] at h
    split at h
    · obtain ⟨h, h7⟩ := tt h
      obtain ⟨h, h6⟩ := tt h
      obtain ⟨h, h5⟩ := tt h
      obtain ⟨h, h4⟩ := tt h
      obtain ⟨h, h3⟩ := tt h
      obtain ⟨hb, h2⟩ := tt h
      have q := fun pos => pe_dc (pos := pos) (own := ownOf w.N t.slots) (g := rdT X.K c t) (tt := rdF X.K c cd) (tk := rdE X.K W0 c k) (tv := rdE X.K W0 c v) O.calm (by rw [O.N]; exact O.nd) (sI it w _ _ X O h3) (by rw [O.N, O.sc]; exact blkOk_by hb) (fun s H C cl fp => sT t (inW w _) _ _ (inW_ok O _ (blk_kind hb) s H C cl fp) h4)
        (fun s H C cl fp => sIf cd (inW w _) _ _ (inW_ok O _ (blk_kind hb) s H C cl fp) h5) (fun s H C cl fp => sE k (inW w _) _ _ (inW_ok O _ (blk_kind hb) s H C cl fp) h6) (fun s H C cl fp => sE v (inW w _) _ _ (inW_ok O _ (blk_kind hb) s H C cl fp) h7) (sISet h3)
      simp only [own_ix] at q
      exact (q _).imp fun σ H Q h => dc_rd h
    · cases h
  | .call f bs, w, x, X, O, h => by
    simp only [mE] at h
    split at h
    · rename_i nm q1 args q2
      split at h
      · rename_i p hp
        have hp' := hp
        obtain ⟨h, h4⟩ := tt h
        obtain ⟨h, h3⟩ := tt h
        obtain ⟨h1, h2⟩ := tt h
        have e := of_decide_eq_true h1
        subst e
        obtain ⟨k, fa, fd, ps, F, hr, hm, hk, hb⟩ := O.fns f p hp
        obtain ⟨n1, n2, n3⟩ := nm_of h3
        have pa := sEs bs w _ X O h4
        have pl := mEs_plain h4
        cases args with
        | nil =>
          exact (pe_call0 F hr (gl_of O h2) hm hk hb Paired.nil pass0 n1).imp fun σ H Q ⟨ι, ρ, hp, hs, hh, po⟩ => by
            cases bs with
            | nil => exact ⟨ar_len O hp' Reps.nil po, ι, _, [], hh, rfl, po⟩
            | cons a b => simp [mEs] at h4
        | cons a args =>
          exact (pe_call F hr (gl_of O h2) hm hk hb Paired.nil pass0 pa n1 (star_cons (pl a List.mem_cons_self)) (star_all (fun e he => pl e (List.mem_cons_of_mem _ he)) _)).imp fun σ H Q ⟨ι, ρ, hp, hs, hh, po⟩ => by
            refine ⟨ι, ρ, hp, hs, hh, po.bind.mono fun y ι1 H1 s1 p1 vs h1 r1 => ?_⟩
            show spT X.K (c.T f) p.2 (vs ++ []) H1 Q E0
            rw [List.append_nil]
            exact ⟨ar_len O hp' r1 p1, ι1, y.2, y.1, h1, r1, p1⟩
      · cases h
    · cases h
  | .bi b bs, w, x, X, O, h => by
    simp only [mE] at h
    split at h
    · rename_i nm q1 args q2
      obtain ⟨h, h3⟩ := tt h
      obtain ⟨h1, h2⟩ := tt h
      obtain ⟨e, hg, hm⟩ := bl_of O h1
      subst e
      have pa := sEs bs w _ X O h2
      have pl := mEs_plain h2
      cases args with
      | nil => cases h3
      | cons a args =>
        exact (pe_callF (biK b) (call_Bi O.calm b) hg hm (biBoot b) pa (biN b).1 (biN b).2 (star_cons (pl a List.mem_cons_self)) (star_all (fun e he => pl e (List.mem_cons_of_mem _ he)) _)).imp fun σ H Q ⟨ι, ρ, hp, hs, hh, po⟩ => call_rd hs hh po
    · cases h
  | .sq b s, w, x, X, O, h => by
    simp only [mE] at h
    split at h
    · obtain ⟨h1, h2⟩ := tt h
      obtain ⟨e, hg, hm⟩ := bl_of O h1
      subst e
      obtain ⟨pq, pl⟩ := sQ s w _ X O h2
      exact (pe_callF (sqK b) (call_Sq O.calm b) hg hm (sqBoot b) (pa_cons pq pa_nil (star_cons pl)) (sqN b).1 (sqN b).2 (star_cons pl) rfl).imp fun σ H Q ⟨ι, ρ, hp, hs, hh, po⟩ => sq_rd hs hh po
    · cases h
  | .isin a t, w, x, X, O, h => by
    simp only [mE] at h
    split at h
    · obtain ⟨h, h3⟩ := tt h
      obtain ⟨h1, h2⟩ := tt h
      obtain ⟨e, hg, hm⟩ := bl_of O h1
      subst e
      obtain ⟨e, hg2, hm2⟩ := bl_of O h3
      subst e
      have pe := sE a w _ X O h2
      have ty : ∀ pos, PE X (.Name (Str.ofString (tyX t)) pos) (tC (.ty (tyX t))) := fun pos => pe_bltn hg2 hm2 (tyBoot t) rfl (tyN t).1 (tyN t).2
      have pl := mE_plain h2
      exact (pe_callF (.inl ⟨_, rfl⟩) call_isi hg hm isiBoot (pa_cons pe (pa_cons (ty _) pa_nil (star_cons rfl)) (star_cons pl)) (by decide +kernel) (by decide +kernel) (star_cons pl) rfl).imp fun σ H Q ⟨ι, ρ, hp, hs, hh, po⟩ => by
        refine ⟨ι, ρ, hp, hs, hh, po.bind.mono fun y ι1 H1 s1 p1 v h1 r1 => ?_⟩
        obtain ⟨b, e, p1⟩ := Po.ofO p1
        obtain ⟨T, h2, h3⟩ := kit_ok h1 r1 e
        exact ⟨v, .ty (tyX t), .type T, .type (tyX t), b, rfl, .ty _, h2, h3, PoE.now p1 h1 rfl⟩
    · cases h
  | .app l a, w, x, X, O, h => by
    simp only [mE] at h
    split at h
    · obtain ⟨h, h5⟩ := tt h
      obtain ⟨h, h4⟩ := tt h
      obtain ⟨h, h3⟩ := tt h
      obtain ⟨h1, h2⟩ := tt h
      have e := of_decide_eq_true h1
      subst e
      have pl := mE_plain h3
      exact (pe_bm PySem.F.plainAttrs_list PySem.F.slot_list_append PySem.F.type_list_append mt_append (sE l w _ X O h2) (pa_cons (sE a w _ X O h3) pa_nil (star_cons pl)) (base_of h4) (by rw [star_cons pl]; rfl) h5 (star_cons pl) rfl).imp fun σ H Q h => app_rd h
    · cases h
  | .ext l a, w, x, X, O, h => by
    simp only [mE] at h
    split at h
    · obtain ⟨h, h5⟩ := tt h
      obtain ⟨h, h4⟩ := tt h
      obtain ⟨h, h3⟩ := tt h
      obtain ⟨h1, h2⟩ := tt h
      have e := of_decide_eq_true h1
      subst e
      have pl := mL_plain h3
      exact (pe_bm PySem.F.plainAttrs_list PySem.F.slot_list_extend PySem.F.type_list_extend mt_extend (sE l w _ X O h2) (pa_cons (sL a w _ X O h3) pa_nil (star_cons pl)) (base_of h4) (by rw [star_cons pl]; rfl) h5 (star_cons pl) rfl).imp fun σ H Q h => ext_rd h
    · cases h
theorem sB : ∀ (e : CB) (w : Wh) (x : Expr) (X : Cx), XOk G c w X → mB G w e x = true → PT X x (rdB X.K W0 c e)
  | .val e, w, x, X, O, h => by
    simp only [mB] at h
    obtain ⟨h1, h2⟩ := tt h
    rcases Bool.or_eq_true_iff.mp h2 with h2 | h2
    · exact (pt_truth (sE e w _ X O h1) (tst_of h2)).imp fun σ H Q h => tru_rd h
    · cases x <;> first | cases h2 | skip
      cases e
      case cmp op a b =>
        simp only [mE] at h1
        split at h1
        · rename_i e
          cases e
          obtain ⟨h, h4⟩ := tt h1
          obtain ⟨h, h3⟩ := tt h
          obtain ⟨h1, h2⟩ := tt h
          have h4 := Bool.not_eq_true' _ ▸ h4
          rw [cp_of h1] at h4 ⊢
          exact (pt_cmpR (op_C op (hu1 O)) (sE a w _ X O h2) (sE b w _ X O h3) h4).imp fun σ H Q h => tst_cmp h
        · cases h1
      case chain o1 o2 a b d =>
        simp only [mE] at h1
        split at h1
        · rename_i e
          cases e
          obtain ⟨h, h6⟩ := tt h1
          obtain ⟨h, h5⟩ := tt h
          obtain ⟨h, h4⟩ := tt h
          obtain ⟨h, h3⟩ := tt h
          obtain ⟨h1, h2⟩ := tt h
          have h6 := Bool.not_eq_true' _ ▸ h6
          rw [cp_of h1, cp_of h2] at h6 ⊢
          exact (pt_chain (op_C o1 (hu1 O)) (op_C o2 (hu1 O)) (sE a w _ X O h3) (sE b w _ X O h4) (sE d w _ X O h5) h6).imp fun σ H Q h => tst_chain h
        · cases h1
      case new l => cases l <;> (simp only [mE, mL] at h1; cases h1)
      all_goals (simp only [mE] at h1; cases h1)
  | .and a b, w, x, X, O, h => by
    simp only [mB] at h
    split at h
    · obtain ⟨h1, h2⟩ := tt h
      exact (pw_and (sB a w _ X O h1) (pw_and1 (sB b w _ X O h2))).pt.imp fun σ H Q h => andB_rd h
    · obtain ⟨h1, h2⟩ := tt h
      exact (pw_and (sB a w _ X O h1) (pw_of (sB b w _ X O h2))).pt.imp fun σ H Q h => andB_rd h
    · cases h
  | .or a b, w, x, X, O, h => by
    simp only [mB] at h
    split at h
    · obtain ⟨h1, h2⟩ := tt h
      exact (pw_or (sB a w _ X O h1) (pw_or1 (sB b w _ X O h2))).pt.imp fun σ H Q h => orB_rd h
    · obtain ⟨h1, h2⟩ := tt h
      exact (pw_or (sB a w _ X O h1) (pw_of (sB b w _ X O h2))).pt.imp fun σ H Q h => orB_rd h
    · cases h
  | .not a, w, x, X, O, h => by
    simp only [mB] at h
    split at h
    · exact (pt_not (sB a w _ X O h)).imp fun σ H Q h => notB_rd h
    · cases h
  | .ite _ _ _, w, x, X, O, h => by simp [mB] at h
theorem sIf : ∀ (e : CBO) (w : Wh) (xs : List Expr) (X : Cx), XOk G c w X → mIf G w e xs = true → PTs X xs (rdF X.K c e)
  | .none, w, xs, X, O, h => by
    simp only [mIf] at h
    split at h
    · exact pts_nil.imp fun σ H Q ⟨ι, ρ, hp, hs, hh, po⟩ => po ι H .refl hh
    · cases h
  | .some a, w, xs, X, O, h => by
    simp only [mIf] at h
    split at h
    · exact (pts_one (sB a w _ X O h)).imp fun σ H Q h => h
    · cases h
theorem sO : ∀ (e : CO) (w : Wh) (x : Option Expr) (X : Cx), XOk G c w X → mO G w e x = true → PO X x (rdO X.K c e)
  | .none, w, xs, X, O, h => by
    simp only [mO] at h
    split at h
    · exact po_none.imp fun σ H Q ⟨ι, ρ, hp, hs, hh, po⟩ => po ι H .refl hh
    · cases h
  | .some a, w, xs, X, O, h => by
    simp only [mO] at h
    split at h
    · refine (po_some (sE a w _ X O h)).imp fun σ H Q ⟨ι, ρ, hp, hs, hh, po⟩ => ⟨ι, ρ, hp, hs, hh, po.bind.mono fun x ι1 H1 s1 p1 v h1 r1 => ?_⟩
      cases hx : x.1 with
      | int i => rw [hx] at p1 r1; exact ⟨i, r1, p1 ι1 H1 .refl h1⟩
      | _ => rw [hx] at p1; exact p1.elim
    · cases h
theorem sEs : ∀ (es : CEs) (w : Wh) (xs : List Expr) (X : Cx), XOk G c w X → mEs G w es xs = true → PA X xs (rdA X.K W0 c es)
  | .nil, w, xs, X, O, h => by
    simp only [mEs] at h
    split at h
    · exact pa_nil.imp fun σ H Q ⟨ι, ρ, hp, hs, hh, po⟩ => po ι H .refl [] hh rfl
    · cases h
  | .cons e es, w, xs, X, O, h => by
    simp only [mEs] at h
    split at h
    · obtain ⟨h, h3⟩ := tt h
      obtain ⟨h1, h2⟩ := tt h
      exact (pa_cons (sE e w _ X O h1) (sEs es w _ X O h3) (star_cons h2)).imp fun σ H Q h => evs_rd h
    · cases h
theorem sP : ∀ (ps : CPs) (w : Wh) (ks : List (Option Expr)) (vs : List Expr) (pos : Pos) (X : Cx), XOk G c w X → mP G w ps ks vs = true → PPs X pos ks vs (trs X.K c ps) ∧ ks.all (·.isSome) = true ∧ ks.length = vs.length ∧ ks.length = ps.len
  | .nil, w, ks, vs, pos, X, O, h => by
    simp only [mP] at h
    split at h
    · exact ⟨pps_nil, rfl, rfl, rfl⟩
    · cases h
  | .cons a b ps, w, ks, vs, pos, X, O, h => by
    simp only [mP] at h
    split at h
    · obtain ⟨h, h3⟩ := tt h
      obtain ⟨h1, h2⟩ := tt h
      obtain ⟨q1, q2, q3, q4⟩ := sP ps w _ _ pos X O h3
      exact ⟨pps_cons (sE a w _ X O h1) (sE b w _ X O h2) q1, by rw [List.all_cons, q2]; rfl, by rw [List.length_cons, List.length_cons, q3], by rw [List.length_cons, q4]; rfl⟩
    · cases h
theorem sL : ∀ (l : CL) (w : Wh) (x : Expr) (X : Cx), XOk G c w X → mL G w l x = true → PE X x (rdL X.K c l)
  | .comp a t it cd, w, x, X, O, h => by
    simp only [mL] at h
    split at h
    · obtain ⟨h, h6⟩ := tt h
      obtain ⟨h, h5⟩ := tt h
      obtain ⟨h, h4⟩ := tt h
      obtain ⟨h, h3⟩ := tt h
      obtain ⟨hb, h2⟩ := tt h
      have q := fun pos => pe_lc (pos := pos) (own := ownOf w.N t.slots) (g := rdT X.K c t) (tt := rdF X.K c cd) (te := rdE X.K W0 c a) O.calm (by rw [O.N]; exact O.nd) (sI it w _ _ X O h3) (by rw [O.N, O.sc]; exact blkOk_by hb) (fun s H C cl fp => sT t (inW w _) _ _ (inW_ok O _ (blk_kind hb) s H C cl fp) h4)
        (fun s H C cl fp => sIf cd (inW w _) _ _ (inW_ok O _ (blk_kind hb) s H C cl fp) h5) (fun s H C cl fp => sE a (inW w _) _ _ (inW_ok O _ (blk_kind hb) s H C cl fp) h6) (sISet h3)
      simp only [own_ix] at q
      exact (q _).imp fun σ H Q h => lc_rd h
    · cases h
  | .disp es, w, x, X, O, h => by
    simp only [mL] at h
    split at h
    · exact (pe_lst (sEs es w _ X O h)).imp fun σ H Q h => disp_rd h
    · cases h
  | .rep es n, w, x, X, O, h => by
    simp only [mL] at h
    split at h
    · obtain ⟨h1, h2⟩ := tt h
      exact (pe_op op_rep (pe_lst (sEs es w _ X O h1)) (sE n w _ X O h2)).imp fun σ H Q h => rep_rd h
    · cases h
theorem sI : ∀ (s : CI) (w : Wh) (x tg : Expr) (X : Cx), XOk G c w X → mI G w s x tg = true → PI X tg x (rdI X.K c s)
  | .val e, w, x, tg, X, O, h => by
    simp only [mI] at h
    obtain ⟨h, h3⟩ := tt h
    obtain ⟨h1, h2⟩ := tt h
    refine (pi_seq (sE e w _ X O h1)).imp fun σ H R ⟨ι, ρ, hp, hs, hh, po⟩ => ⟨ι, ρ, hp, hs, hh, po.bind.mono fun x ι1 H1 s1 p1 v h1 r1 => ?_⟩
    obtain ⟨wk, e, p1⟩ := Po.ofO p1
    rcases seq_wk h1 r1 e with ⟨a, rfl, ex, _, k⟩ | ⟨a, rfl, ex, _, k⟩
    · exact .inl ⟨a, rfl, ex, p1 ι1 H1 .refl h1 _ (wk_list k)⟩
    · exact .inr ⟨a, rfl, ex, p1 ι1 H1 .refl h1 _ (wk_tup k)⟩
  | .tmp l, w, x, tg, X, O, h => by
    simp only [mI] at h
    refine (pi_list (sL l w _ X O h)).imp fun σ H R ⟨ι, ρ, hp, hs, hh, po⟩ => ⟨ι, ρ, hp, hs, hh, po.bind.mono fun x ι1 H1 s1 p1 h1 a vs na ni ha r => ?_⟩
    refine ⟨a, rfl, ⟨vs, .of ha⟩, p1 ι1 H1 .refl h1 _ (wk_list fun ι' H' hp' s h' _ => ⟨vs, .of (s.kp a _ ha ni), h1.reps s _ _ r⟩)⟩
  | .rng1 a, w, x, tg, X, O, h => by
    simp only [mI] at h
    split at h
    · obtain ⟨h, h3⟩ := tt h
      obtain ⟨h1, h2⟩ := tt h
      obtain ⟨e, hg, hm⟩ := bl_of O h1
      subst e
      refine (pi_range1 hg hm (pa_cons (sE a w _ X O h2) pa_nil (star_cons h3)) (star_cons h3)).imp fun σ H R ⟨ι, ρ, hp, hs, hh, po⟩ => ⟨ι, ρ, hp, hs, hh, po.bind.mono fun x ι1 H1 s1 p1 v h1 r1 => ?_⟩
      cases hx : x.1 with
      | int j =>
        rw [hx] at p1 r1
        obtain ⟨k, p1⟩ := Po.chk p1
        obtain ⟨k1, k2⟩ := tt k
        exact ⟨j, by rw [show v = .int j from r1], of_decide_eq_true k1, of_decide_eq_true k2, p1 ι1 H1 .refl h1 _ wk_rng⟩
      | _ => rw [hx] at p1; exact p1.elim
    · cases h
  | .rng2 a b, w, x, tg, X, O, h => by
    simp only [mI] at h
    split at h
    · obtain ⟨h, h5⟩ := tt h
      obtain ⟨h, h4⟩ := tt h
      obtain ⟨h, h3⟩ := tt h
      obtain ⟨h1, h2⟩ := tt h
      obtain ⟨e, hg, hm⟩ := bl_of O h1
      subst e
      refine (pi_range2 hg hm (pa_cons (sE a w _ X O h2) (pa_cons (sE b w _ X O h4) pa_nil (star_cons h5)) (star_cons h3)) (by rw [star_cons h3, star_cons h5]; rfl) (star_cons h5)).imp fun σ H R ⟨ι, ρ, hp, hs, hh, po⟩ => ⟨ι, ρ, hp, hs, hh, po.bind.mono fun x ι1 H1 s1 p1 v h1 r1 => ?_⟩
      refine ⟨ι1, ρ, x.2, hh.srep s1 hs, h1, p1.bind.mono fun y ι2 H2 s2 p2 u h2 r2 => ?_⟩
      have r1 := h1.rep s2 _ _ r1
      cases hx : x.1 with
      | int i =>
        cases hy : y.1 with
        | int j =>
          rw [hx, hy] at p2
          rw [hx] at r1
          rw [hy] at r2
          obtain ⟨k, p2⟩ := Po.chk p2
          obtain ⟨k1, k2⟩ := tt k
          obtain ⟨k1, k1'⟩ := tt k1
          obtain ⟨k2, k2'⟩ := tt k2
          exact ⟨i, j, by rw [show v = .int i from r1, show u = .int j from r2], ⟨of_decide_eq_true k1, of_decide_eq_true k1', of_decide_eq_true k2, of_decide_eq_true k2'⟩, p2 ι2 H2 .refl h2 _ wk_rng⟩
        | _ => rw [hx, hy] at p2; exact p2.elim
      | _ => rw [hx] at p2; exact p2.elim
    · cases h
  | .enum a, w, x, tg, X, O, h => by
    simp only [mI] at h
    split at h
    · obtain ⟨h, h3⟩ := tt h
      obtain ⟨h1, h2⟩ := tt h
      obtain ⟨e, hg, hm⟩ := bl_of O h1
      subst e
      refine (pi_enum2 hg hm (pa_cons (sE a w _ X O h2) pa_nil (star_cons h3)) (star_cons h3)).imp fun σ H R ⟨ι, ρ, hp, hs, hh, po⟩ => ⟨ι, ρ, hp, hs, hh, po.bind.mono fun x ι1 H1 s1 p1 v h1 r1 => ?_⟩
      obtain ⟨wk, e, p1⟩ := Po.ofO p1
      rcases seq_wk h1 r1 e with ⟨a, rfl, ⟨xs, ex⟩, _, k⟩ | ⟨a, rfl, ⟨xs, ex⟩, _, k⟩
      · exact .inl ⟨a, xs, rfl, ex, p1 ι1 H1 .refl h1 _ (wk_enum k)⟩
      · exact .inr ⟨a, xs, rfl, ex, p1 ι1 H1 .refl h1 _ (wk_enumT k)⟩
    · cases h
  | .zip a b, w, x, tg, X, O, h => by
    simp only [mI] at h
    split at h
    · obtain ⟨h, h5⟩ := tt h
      obtain ⟨h, h4⟩ := tt h
      obtain ⟨h, h3⟩ := tt h
      obtain ⟨h1, h2⟩ := tt h
      obtain ⟨e, hg, hm⟩ := bl_of O h1
      subst e
      refine (pi_zipA hg hm (pa_cons (sE a w _ X O h2) (pa_cons (sE b w _ X O h4) pa_nil (star_cons h5)) (star_cons h3)) (star_cons h3) (by rw [star_cons h5]; rfl)).imp fun σ H R ⟨ι, ρ, hp, hs, hh, po⟩ => ⟨ι, ρ, hp, hs, hh, po.bind.mono fun x ι1 H1 s1 p1 v h1 r1 => ?_⟩
      refine ⟨ι1, ρ, x.2, hh.srep s1 hs, h1, p1.bind.mono fun y ι2 H2 s2 p2 u h2 r2 => ?_⟩
      have r1 := h1.rep s2 _ _ r1
      obtain ⟨wk1, e1, p2⟩ := Po.ofO p2
      obtain ⟨wk2, e2, p2⟩ := Po.ofO p2
      obtain ⟨et, p2⟩ := Po.chk p2
      have et := of_decide_eq_true et
      rcases seq_wk h2 r1 e1 with ⟨a, rfl, ⟨xs, ex⟩, t1, k⟩ | ⟨a, rfl, ⟨xs, ex⟩, t1, k⟩
      · rcases seq_wk h2 r2 e2 with ⟨b, rfl, ⟨ys, ey⟩, t2, k2⟩ | ⟨b, rfl, ⟨ys, ey⟩, t2, k2⟩
        · exact ⟨a, b, xs, ys, rfl, .inl ⟨ex, ey, p2 ι2 H2 .refl h2 _ (wk_zip k k2)⟩⟩
        · rw [t1, t2] at et; cases et
      · rcases seq_wk h2 r2 e2 with ⟨b, rfl, ⟨ys, ey⟩, t2, k2⟩ | ⟨b, rfl, ⟨ys, ey⟩, t2, k2⟩
        · rw [t1, t2] at et; cases et
        · exact ⟨a, b, xs, ys, rfl, .inr ⟨ex, ey, p2 ι2 H2 .refl h2 _ (wk_zipT k k2)⟩⟩
    · cases h
theorem sQ : ∀ (s : CI) (w : Wh) (x : Expr) (X : Cx), XOk G c w X → mQ G w s x = true → PE X x (rdQ X.K c s) ∧ plainE x = true
  | .val e, w, x, X, O, h => by
    simp only [mQ] at h
    obtain ⟨h1, h2⟩ := tt h
    exact ⟨(sE e w _ X O h1).imp fun σ H Q h => val_rd h, h2⟩
  | .tmp l, w, x, X, O, h => by
    simp only [mQ] at h
    exact ⟨(sL l w _ X O h).imp fun σ H Q h => tmp_rd h, mL_plain h⟩
  | .rng1 _, w, x, X, O, h => by simp [mQ] at h
  | .rng2 _ _, w, x, X, O, h => by simp [mQ] at h
  | .enum _, w, x, X, O, h => by simp [mQ] at h
  | .zip _ _, w, x, X, O, h => by simp [mQ] at h
theorem sT : ∀ (t : CT) (w : Wh) (x : Expr) (X : Cx), XOk G c w X → mT G w t x = true → PG X x (rdT X.K c t)
  | .name i, w, x, X, O, h => by
    simp only [mT] at h
    split at h
    · obtain ⟨h1, h2⟩ := tt h
      obtain ⟨q1, q2⟩ := O.fn _ h2
      refine (pg_name (i := i) (by rw [O.N]; exact O.nd) (by rw [O.N]; exact of_decide_eq_true h1) (by rw [O.sc]; exact q1) (by rw [O.sc]; exact q2)).imp fun v σ H Q ⟨ι, ρ, hp, d, hs, hh, r, po⟩ => ?_
      exact po ι H .refl hh _ Agr.set (hs.set r i)
    · cases h
  | .tup ts, w, x, X, O, h => by
    simp only [mT] at h
    split at h
    · obtain ⟨q1, q2, q3⟩ := sTs ts w _ X O h
      refine (pg_tup O.calm q1 rfl q2).imp fun v σ H Q ⟨ι, ρ, hp, d, hs, hh, r, po⟩ => ?_
      cases d with
      | tup ds =>
        obtain ⟨a, vs, rfl, q, z⟩ := r
        refine ⟨a, vs, rfl, q, ?_, ι, ρ, hp, ds, hs, hh, z, po⟩
        rw [q3, ← z.length, asgs_len po]
      | _ => exact po.elim
    · cases h
  | .sub o i, w, x, X, O, h => by
    simp only [mT] at h
    split at h
    · obtain ⟨h, h3⟩ := tt h
      obtain ⟨h1, h2⟩ := tt h
      refine (pg_sub (sE o w _ X O h1) (sE i w _ X O h2) (set_V (W := W0) (hu1 O)) ?_).imp fun v σ H Q ⟨ι, ρ, hp, d, hs, hh, r, po⟩ => ?_
      · exact sub_asg h3
      · refine ⟨ι, ρ, hp, hs, hh, po.bind.mono fun x ι1 H1 s1 p1 u h1 r1 => ?_⟩
        have hs1 := hh.srep s1 hs
        refine ⟨ι1, ρ, x.2, hs1, h1, p1.bind.mono fun y ι2 H2 s2 p2 t h2 r2 => ?_⟩
        have hs2 := h1.srep s2 hs1
        refine ⟨ι2, y.2, x.1, y.1, d, h2, h1.rep s2 _ _ r1, r2, h1.rep s2 _ _ (hh.rep s1 _ _ r), p2.bind.mono fun hp3 ι3 H3 s3 p3 h3 => ?_⟩
        exact p3 ι3 H3 .refl h3 σ .refl (h2.srep s3 hs2)
    · cases h
theorem sTs : ∀ (ts : CTs) (w : Wh) (xs : List Expr) (X : Cx), XOk G c w X → mTs G w ts xs = true → PGs X xs (rdTs X.K c ts) ∧ (assignEach xs X.env).findIdx? (·.1) = none ∧ (assignEach xs X.env).length = ts.len
  | .nil, w, xs, X, O, h => by
    simp only [mTs] at h
    split at h
    · refine ⟨pgs_nil.imp fun vs σ H Q ⟨ι, ρ, hp, ds, hs, hh, r, po⟩ => ?_, rfl, rfl⟩
      cases ds with
      | nil => exact ⟨r, po ι H .refl hh σ .refl hs⟩
      | cons _ _ => exact po.elim
    · cases h
  | .cons t ts, w, xs, X, O, h => by
    simp only [mTs] at h
    split at h
    · obtain ⟨h, h3⟩ := tt h
      obtain ⟨h1, h2⟩ := tt h
      obtain ⟨q1, q2, q3⟩ := sTs ts w _ X O h3
      refine ⟨(pgs_cons (sT t w _ X O h1) q1 (by rw [asg_cons h2]; rfl)).imp fun vs σ H Q ⟨ι, ρ, hp, ds, hs, hh, r, po⟩ => ?_, ?_, ?_⟩
      · cases ds with
        | nil => exact po.elim
        | cons d ds =>
          obtain ⟨v, vr, rfl, r1, r2⟩ := r
          refine ⟨v, vr, rfl, ι, ρ, hp, d, hs, hh, r1, po.bind.mono fun st ι1 H1 s1 p1 h1 σ1 ag hs1 => ?_⟩
          refine ⟨ι1, st.1, st.2, ds, hs1, h1, hh.reps s1 _ _ r2, p1.mono fun st2 ι2 H2 s2 p2 h2 σ2 ag2 hs2 => ?_⟩
          exact p2 h2 σ2 (ag.trans ag2) hs2
      · rw [asg_cons h2, List.findIdx?_cons, q2]
        rfl
      · rw [asg_cons h2, List.length_cons, q3]
        rfl
    · cases h
end
end
end Tw
end

section
set_option Elab.async false
set_option linter.all false
set_option maxRecDepth 100000
set_option maxHeartbeats 8000000
/-! Statements, functions, tables of functions. Own work. -/
namespace Tw
open PySem PySem.Spec PyProof.Rows L2 RZ
section
variable {G : GI} {c : Ctx} {X : Cx}
theorem sw_none {e : Expr} {tg : Option Expr} {l : Nat} {env : PySem.Env} (h : compE e = false) : swapsWith e tg l env = pure false := by
  cases e <;> first | rfl | cases h
theorem sw_asg {e tg : Expr} {l : Nat} {env : PySem.Env} (h : swOk e tg = true) : swapsWithSole [tg] e l env = pure false ∧ swappedStores [tg] e env = pure none := by
  cases e
  case ListComp => cases tg <;> first | exact ⟨rfl, rfl⟩ | cases h
  case SetComp => cases tg <;> first | exact ⟨rfl, rfl⟩ | cases h
  case DictComp => cases tg <;> first | exact ⟨rfl, rfl⟩ | cases h
  case Tuple => cases tg <;> first | exact ⟨rfl, rfl⟩ | cases h
  all_goals (cases tg <;> exact ⟨rfl, rfl⟩)
theorem ip_B (op : BOp) : PIp X (opN op) (rOp X.K W0 (opI op)) := by
  intro pins s σ H x y v u Q I rx ry h
  obtain ⟨ι, hp, d1, d2, hh, r1, r2, po⟩ := h
  cases op with
  | add =>
    cases d1 <;> cases d2 <;> first | exact po.elim | skip
    exact iop_add pins s σ H x y v u Q I rx ry ⟨_, _, r1, r2, PoE.now po hh rfl⟩
  | sub =>
    cases d1 <;> cases d2 <;> first | exact po.elim | skip
    exact iop_sub pins s σ H x y v u Q I rx ry ⟨_, _, r1, r2, PoE.now po hh rfl⟩
  | mul =>
    cases d1 <;> cases d2 <;> first | exact po.elim | skip
    obtain ⟨hl, po⟩ := Po.chk po
    exact iop_mul pins s σ H x y v u Q I rx ry ⟨_, _, r1, r2, small_mul hl, PoE.now po hh rfl⟩
  | _ => exact po.elim
theorem seq_rd {K : Frg} {s : CS} {r : CSs} {De : Ends} {σ : L2.St} {H : Hp} (h : rdSs K c (.cons s r) De σ H) : tSeq (rdS K c s) (rdSs K c r) De σ H := by
  obtain ⟨ι, ρ, hp, hs, hh, po⟩ := h
  refine ⟨ι, ρ, hp, hs, hh, po.bind.mono fun x ι1 H1 s1 p1 h1 σ1 hs1 => ?_⟩
  cases hx : x.1 with
  | nx =>
    rw [hx] at p1
    exact ⟨ι1, x.2.1, x.2.2, hs1, h1, p1⟩
  | rt d =>
    rw [hx] at p1
    have q := p1 ι1 H1 .refl h1 σ1 hs1
    rw [hx] at q
    exact q
  | bk =>
    rw [hx] at p1
    have q := p1 ι1 H1 .refl h1 σ1 hs1
    rw [hx] at q
    exact q
  | ct =>
    rw [hx] at p1
    have q := p1 ι1 H1 .refl h1 σ1 hs1
    rw [hx] at q
    exact q
theorem sw_cell {e : Expr} {y : Str} {py : Pos} {l : Nat} {env : PySem.Env} (h : env.scope.names.lookup y = some .cell) : swapsWithSole [.Name y py] e l env = pure false ∧ swappedStores [.Name y py] e env = pure none := by
  refine ⟨?_, by cases e <;> rfl⟩
  show swapsWith e (some (.Name y py)) l env = pure false
  have hk : env.kindOf y = some .cell := h
  unfold swapsWith
  cases e <;> first
    | rfl
    | (simp only [hk]
       have e2 : (some NameKind.cell == some NameKind.local) = false := rfl
       rw [e2, Bool.and_false, Bool.false_and, Bool.false_and])
theorem sw_dict {kx vx : Expr} {gs : List Comprehension} {scope : Scope} {pos py : Pos} {y : Str} {l : Nat} {env : PySem.Env} (hk : env.scope.kind = .function) (hy : env.scope.names.lookup y = some .local) (hl : (py.line == pos.line) = true)
    (ha : (scope.names.any fun (n, k) => n == y && (k == .local || k == .cell)) = false) : swapsWith (.DictComp kx vx gs scope pos) (some (.Name y py)) l env = pure true := by
  have ky : env.kindOf y = some .local := hy
  have hb : env.blockKind = .function := by unfold PySem.Env.blockKind; rw [hk]; rfl
  unfold swapsWith
  simp only [hb, ky, ha, Expr.pos, hl]
  rfl
/-- name = {..} on one line, the name a local -/
theorem ps_setDc {i : Nat} {y : Str} {py : Pos} {kx vx tg iter : Expr} {ifs : List Expr} {scope : Scope} {own : List (Str × Nat)} {pos spos : Pos} {wi : TI} {g : TG} {tt : TT} {tk tv : TE} (hc : X.calm = true) (hN : X.N.Nodup) (hy : X.N[i]? = some y) (hyl : X.env.scope.names.lookup y = some .local)
    (hsw : swapsWith (.DictComp kx vx [⟨tg, iter, ifs, 0⟩] scope pos) (some (.Name y py)) spos.line X.env = pure true) (hi : PI X tg iter wi) (ok : BlkOk X.N X.env.scope scope own)
    (hg : ∀ (s : Shared) (H : Hp) (C : Addr) (cl : List (Str × Addr)) (fp : List Addr), PG (X.blk s H scope (compEnvC scope cl C X.env) fp) tg g) (ht : ∀ (s : Shared) (H : Hp) (C : Addr) (cl : List (Str × Addr)) (fp : List Addr), PTs (X.blk s H scope (compEnvC scope cl C X.env) fp) ifs tt)
    (hk : ∀ (s : Shared) (H : Hp) (C : Addr) (cl : List (Str × Addr)) (fp : List Addr), PE (X.blk s H scope (compEnvC scope cl C X.env) fp) kx tk)
    (he : ∀ (s : Shared) (H : Hp) (C : Addr) (cl : List (Str × Addr)) (fp : List Addr), PE (X.blk s H scope (compEnvC scope cl C X.env) fp) vx tv) (hs : ∀ x, foldedSetIterable iter X.env x = pure x) :
    PS X (.Assign [.Name y py] (.DictComp kx vx [⟨tg, iter, ifs, 0⟩] scope pos) spos) (tAsg (tDc wi g tt tk tv (own.map (·.2))) (gName i)) := by
  refine ⟨fun pins s σ H D I h => ?_⟩
  rw [exec_Assign_Name_used _ _ _ _ hsw]
  refine wpAny_bind (wpAny_standAt (wpAny_bind ?_))
  show wpAny _ X.A (do let _ ← comprehension (.DictComp kx vx [⟨tg, iter, ifs, 0⟩] scope pos) scope X.env (firstIterPos [⟨tg, iter, ifs, 0⟩] pos) newDict false (eval iter X.env) (some (assign (.Name y py) X.env))) _ _ s
  have h : tDc wi g tt tk tv (own.map (·.2)) σ H (fun x H1 => gName i x σ H1 D.nx) := h
  refine wpAny_bind (thn (dc_core (Qf := fun _ s' => L2.SP X pins D .next s') hc hN I hi ok hg ht hk he hs h fun L C s' m H' I' q hn f => ?_) fun _ s' hq => wpAny_pure (wpAny_pure hq))
  show wpAny _ _ (assign (.Name y py) X.env (.ref L)) _ _ _
  refine wpAny_assign_Name (store_ok2 (v := V.ref L) I' hN hy (.inl hyl) rfl (fun s2 I2 ⟨a, sb, ha⟩ => ?_) (.inr hyl))
  obtain ⟨f0, f1, f2, f3, f4, f5⟩ := f
  have haC : C ≠ a := by
    rcases ha with z | z
    · rw [z]; exact f1
    · exact fun e => f4 y a z e.symm
  refine ⟨m, hn.sameBut sb haC, fun h3 sb3 => ?_⟩
  exact ⟨_, H', I2.turned (t' := s2.toks) (fun b o hb e => (sb3.2 b hb).trans e) f0 f1 f3 f4 f5, q⟩
theorem asg_name_rd {K : Frg} {i : Nat} {e : CE} {De : Ends} {σ : L2.St} {H : Hp} (h : rdS K c (.asg (.name i) e) De σ H) : rdE K W0 c e σ H fun v H1 => gName i v σ H1 De.nx := by
  obtain ⟨ι, ρ, hp, hs, hh, po⟩ := h
  exact ⟨ι, ρ, hp, hs, hh, po.bind.mono fun x ι1 H1 s1 p1 v h1 r1 => p1 ι1 H1 .refl h1 _ ((hh.srep s1 hs).set r1 i)⟩
mutual
theorem sS : ∀ (s : CS) (w : Wh) (x : Stmt) (X : Cx), XOk G c w X → PassesOwn (model X.prog X.w) X.A X.env X.xe → mS G w s x = true → PS X x (rdS X.K c s)
  | .asg t e, w, x, X, O, P, h => by
    simp only [mS] at h
    split at h
    · rename_i tg ex sp
      obtain ⟨h, h4⟩ := tt h
      obtain ⟨h, h3⟩ := tt h
      obtain ⟨h1, h2⟩ := tt h
      have gen : swapsWithSole [tg] ex sp.line X.env = pure false ∧ swappedStores [tg] ex X.env = pure none → PS X (.Assign [tg] ex sp) (rdS X.K c (.asg t e)) := fun ⟨q1, q2⟩ => (ps_asg (sE e w _ X O h2) (sT t w _ X O h1) q1 q2 (by rw [asg_cons h3]; rfl)).imp fun De σ H ⟨ι, ρ, hp, hs, hh, po⟩ =>
        ⟨ι, ρ, hp, hs, hh, po.bind.mono fun x ι1 H1 s1 p1 v h1 r1 => ⟨ι1, ρ, x.2, x.1, hh.srep s1 hs, h1, r1, p1.bind.mono fun st ι2 H2 s2 p2 h2 σ2 _ hs2 => p2 ι2 H2 .refl h2 σ2 hs2⟩⟩
      rcases Bool.or_eq_true_iff.mp h4 with h4 | h4
      · exact gen (sw_asg h4)
      · unfold swB at h4
        split at h4
        · skip
          split at h4
          · rename_i hy
            obtain ⟨l1, l2⟩ := tt h4
            cases t with
            | name i =>
              simp only [mT] at h1
              obtain ⟨h1, _⟩ := tt h1
              cases e with
              | new l =>
                cases l with
                | comp a t it cd =>
                  simp only [mE, mL] at h2
                  split at h2
                  · rename_i ee
                    cases ee
                    obtain ⟨h, h6⟩ := tt h2
                    obtain ⟨h, h5⟩ := tt h
                    obtain ⟨h, h4⟩ := tt h
                    obtain ⟨h, h3⟩ := tt h
                    obtain ⟨hb, h2⟩ := tt h
                    have q := fun spos => ps_setLc (i := i) (spos := spos) (own := ownOf w.N t.slots) (g := rdT X.K c t) (tt := rdF X.K c cd) (te := rdE X.K W0 c a) O.calm (by rw [O.N]; exact O.nd) (by rw [O.N]; exact of_decide_eq_true h1) (by rw [O.sc]; exact hy)
                      (sw_true O.knd (by rw [O.sc]; exact hy) l1 (by simpa using l2)) (sI it w _ _ X O h3) (by rw [O.N, O.sc]; exact blkOk_by hb) (fun s H C cl fp => sT t (inW w _) _ _ (inW_ok O _ (blk_kind hb) s H C cl fp) h4)
                      (fun s H C cl fp => sIf cd (inW w _) _ _ (inW_ok O _ (blk_kind hb) s H C cl fp) h5) (fun s H C cl fp => sE a (inW w _) _ _ (inW_ok O _ (blk_kind hb) s H C cl fp) h6) (sISet h3)
                    simp only [own_ix] at q
                    exact (q _).imp fun De σ H h => lc_rd (new_rd (asg_name_rd h))
                  · cases h2
                | _ => simp only [mE, mL] at h2; cases h2
              | _ => simp only [mE] at h2; cases h2
            | _ => simp only [mT] at h1; cases h1
          · rename_i hy
            exact gen (sw_cell (by rw [O.sc]; exact hy))
          · cases h4
        · skip
          split at h4
          · rename_i hy
            obtain ⟨l1, l2⟩ := tt h4
            cases t with
            | name i =>
              simp only [mT] at h1
              obtain ⟨h1, _⟩ := tt h1
              cases e with
              | new l => cases l <;> (simp only [mE, mL] at h2; cases h2)
              | dcomp k v t it cd =>
                simp only [mE] at h2
                split at h2
                · rename_i ee
                  cases ee
                  obtain ⟨h, h7⟩ := tt h2
                  obtain ⟨h, h6⟩ := tt h
                  obtain ⟨h, h5⟩ := tt h
                  obtain ⟨h, h4⟩ := tt h
                  obtain ⟨h, h3⟩ := tt h
                  obtain ⟨hb, h2⟩ := tt h
                  have q := fun spos => ps_setDc (i := i) (spos := spos) (own := ownOf w.N t.slots) (g := rdT X.K c t) (tt := rdF X.K c cd) (tk := rdE X.K W0 c k) (tv := rdE X.K W0 c v) O.calm (by rw [O.N]; exact O.nd) (by rw [O.N]; exact of_decide_eq_true h1) (by rw [O.sc]; exact hy)
                    (sw_dict O.knd (by rw [O.sc]; exact hy) l1 (by simpa using l2)) (sI it w _ _ X O h3) (by rw [O.N, O.sc]; exact blkOk_by hb) (fun s H C cl fp => sT t (inW w _) _ _ (inW_ok O _ (blk_kind hb) s H C cl fp) h4)
                    (fun s H C cl fp => sIf cd (inW w _) _ _ (inW_ok O _ (blk_kind hb) s H C cl fp) h5) (fun s H C cl fp => sE k (inW w _) _ _ (inW_ok O _ (blk_kind hb) s H C cl fp) h6) (fun s H C cl fp => sE v (inW w _) _ _ (inW_ok O _ (blk_kind hb) s H C cl fp) h7) (sISet h3)
                  simp only [own_ix] at q
                  exact (q _).imp fun De σ H h => dc_rd (asg_name_rd h)
                · cases h2
              | _ => simp only [mE] at h2; cases h2
            | _ => simp only [mT] at h1; cases h1
          · rename_i hy
            exact gen (sw_cell (by rw [O.sc]; exact hy))
          · cases h4
        · cases h4
    · cases h
  | .aug i op e, w, x, X, O, P, h => by
    simp only [mS] at h
    split at h
    · obtain ⟨h, h6⟩ := tt h
      obtain ⟨h, h5⟩ := tt h
      obtain ⟨h, h4⟩ := tt h
      obtain ⟨h, h3⟩ := tt h
      obtain ⟨h1, h2⟩ := tt h
      rw [op_of h1]
      obtain ⟨q1, q2⟩ := O.fn _ h3
      exact (ps_aug (i := i) (by rw [O.N]; exact O.nd) (by rw [O.N]; exact of_decide_eq_true h2) (by rw [O.sc]; exact q1) (sE e w _ X O h6) (ip_B op) (by rw [O.sc]; exact q2)).imp fun De σ H ⟨ι, ρ, hp, hs, hh, po⟩ => by
        cases e1 : ρ[i]? with
        | none => simp only [exec, e1] at po; exact po.elim
        | some od =>
          cases od with
          | none => simp only [exec, e1] at po; exact po.elim
          | some d =>
            simp only [exec, e1] at po
            obtain ⟨v, hv, r⟩ := hs.2 i d e1
            refine ⟨v, hv, ι, ρ, hp, hs, hh, po.bind.mono fun x ι1 H1 s1 p1 u h1 r1 => ?_⟩
            refine ⟨ι1, x.2, d, x.1, h1, hh.rep s1 _ _ r, r1, p1.bind.mono fun y ι2 H2 s2 p2 z h2 r2 => ?_⟩
            exact p2 ι2 H2 .refl h2 _ ((h1.srep s2 (hh.srep s1 hs)).set r2 i)
    · cases h
  | .ex e, w, x, X, O, P, h => by
    simp only [mS] at h
    split at h
    · obtain ⟨h1, h2⟩ := tt h
      exact (ps_expr (sE e w _ X O h1) (sw_none (by simpa using h2))).imp fun De σ H ⟨ι, ρ, hp, hs, hh, po⟩ =>
        ⟨ι, ρ, hp, hs, hh, po.bind.mono fun x ι1 H1 s1 p1 v h1 r1 => p1 ι1 H1 .refl h1 σ (hh.srep s1 hs)⟩
    · cases h
  | .ret e, w, x, X, O, P, h => by
    simp only [mS] at h
    split at h
    · exact (ps_ret (sE e w _ X O h)).imp fun De σ H ⟨ι, ρ, hp, hs, hh, po⟩ =>
        ⟨ι, ρ, hp, hs, hh, po.bind.mono fun x ι1 H1 s1 p1 v h1 r1 => p1 ι1 H1 .refl h1 σ (hh.srep s1 hs) v r1⟩
    · cases h
  | .retN, w, x, X, O, P, h => by
    simp only [mS] at h
    split at h
    · exact ps_retN.imp fun De σ H ⟨ι, ρ, hp, hs, hh, po⟩ => po ι H .refl hh σ hs _ rfl
    · cases h
  | .ite t a b, w, x, X, O, P, h => by
    simp only [mS] at h
    split at h
    · obtain ⟨h, h3⟩ := tt h
      obtain ⟨h1, h2⟩ := tt h
      exact (ps_if (sB t w _ X O h1) (sSs a w _ X O P h2) (sSs b w _ X O P h3)).imp fun De σ H h => ifS_rd h
    · cases h
  | .loop t s b, w, x, X, O, P, h => by
    simp only [mS] at h
    split at h
    · obtain ⟨h, h3⟩ := tt h
      obtain ⟨h1, h2⟩ := tt h
      exact (ps_for P O.calm (sI s w _ _ X O h2) (sT t w _ X O h1) (sSs b w _ X O P h3) (sISet h2)).imp fun De σ H h => for_rd h
    · cases h
  | .wh t b, w, x, X, O, P, h => by
    simp only [mS] at h
    split at h
    · obtain ⟨h1, h2⟩ := tt h
      exact (ps_while P (sB t w _ X O h1) (sSs b w _ X O P h2)).imp fun De σ H h => while_rd h
    · cases h
  | .brk, w, x, X, O, P, h => by
    simp only [mS] at h
    split at h
    · exact ps_break.imp fun De σ H ⟨ι, ρ, hp, hs, hh, po⟩ => po ι H .refl hh σ hs
    · cases h
  | .cnt, w, x, X, O, P, h => by
    simp only [mS] at h
    split at h
    · exact ps_continue.imp fun De σ H ⟨ι, ρ, hp, hs, hh, po⟩ => po ι H .refl hh σ hs
    · cases h
  | .pass, w, x, X, O, P, h => by
    simp only [mS] at h
    split at h
    · exact ps_pass.imp fun De σ H ⟨ι, ρ, hp, hs, hh, po⟩ => po ι H .refl hh σ hs
    · cases h
  | .raise, w, x, X, O, P, h => ps_never.imp fun De σ H ⟨ι, ρ, hp, hs, hh, po⟩ => po.elim
theorem sSs : ∀ (s : CSs) (w : Wh) (x : List Stmt) (X : Cx), XOk G c w X → PassesOwn (model X.prog X.w) X.A X.env X.xe → mSs G w s x = true → PSs X x (rdSs X.K c s)
  | .nil, w, x, X, O, P, h => by
    simp only [mSs] at h
    split at h
    · exact pss_nil.imp fun De σ H ⟨ι, ρ, hp, hs, hh, po⟩ => po ι H .refl hh σ hs
    · cases h
  | .cons s r, w, x, X, O, P, h => by
    simp only [mSs] at h
    split at h
    · obtain ⟨h1, h2⟩ := tt h
      exact (pss_cons (sS s w _ X O P h1) (sSs r w _ X O P h2)).imp fun De σ H h => seq_rd h
    · cases h
end
end

/-! ### tables -/
/-- what a function's text must show -/
structure Txt where
  params : Arguments
  body : List Stmt
  scope : Scope
def plainArgs (a : Arguments) : Bool := match a with
  | { posonlyargs := [], args := as, vararg := none, kwonlyargs := [], kw_defaults := [], kwarg := none, defaults := [] } => decide (as.map (·.arg)).Nodup
  | _ => false
def namesOf (a : Arguments) : List Str := a.args.map fun x => x.arg
def scopeB (N ps : List Str) (sc : Scope) : Bool :=
  (match sc.kind with | .function => true | _ => false) && !sc.isCoroutine && !sc.isGenerator && decide N.Nodup && decide (N.take ps.length = ps) && (ps.all fun x => locB sc x) && (sc.names.all fun y => match y.2 with | .free => false | _ => true)
def mFn (G : GI) (fn : Fn) (t : Txt) : Bool := plainArgs t.params && decide (namesOf t.params = fn.ps) && scopeB fn.N fn.ps t.scope && mSs G ⟨fn.N, t.scope, t.scope⟩ fn.body t.body
theorem scope_ok {N ps : List Str} {sc : Scope} (h : scopeB N ps sc = true) : FnScope N ps sc := by
  unfold scopeB at h
  obtain ⟨h, h7⟩ := tt h
  obtain ⟨h, h6⟩ := tt h
  obtain ⟨h, h5⟩ := tt h
  obtain ⟨h, h4⟩ := tt h
  obtain ⟨h, h3⟩ := tt h
  obtain ⟨h1, h2⟩ := tt h
  refine ⟨?_, by simpa using h2, by simpa using h3, of_decide_eq_true h4, of_decide_eq_true h5, fun x hx => ?_, fun y hy e => ?_⟩
  · split at h1
    · assumption
    · cases h1
  · have q := List.all_eq_true.mp h6 x hx
    unfold locB at q
    split at q
    · exact .inl (by assumption)
    · exact .inr (by assumption)
    · cases q
  · have q := List.all_eq_true.mp h7 y hy
    rw [e] at q
    cases q
theorem zip_some : ∀ {ns : List Str} {us : List Value} {n : Str}, us.length = ns.length → n ∈ ns → ((ns.zip us).lookup n).isNone = false
  | [], _, _, _, h => nomatch h
  | a :: ns, [], _, e, _ => nomatch e
  | a :: ns, u :: us, n, e, h => by
    rw [List.zip_cons_cons, List.lookup_cons]
    by_cases q : n == a
    · simp [q]
    · simp only [q]
      have : n ∈ ns := by
        rcases List.mem_cons.mp h with z | z
        · exact absurd (beq_iff_eq.mpr z) q
        · exact z
      exact zip_some (by simpa using e) this
theorem filterMap_same {α β : Type} {f g : α → Option β} : ∀ {l : List α}, (∀ a ∈ l, f a = g a) → l.filterMap f = l.filterMap g
  | [], _ => rfl
  | a :: l, h => by
    rw [List.filterMap_cons, List.filterMap_cons, h a List.mem_cons_self, filterMap_same fun b hb => h b (List.mem_cons_of_mem _ hb)]
theorem zip_look : ∀ {ns : List Str} {us : List Value}, ns.Nodup → us.length = ns.length → ns.filterMap (fun n => Option.map (fun x => (n, x)) ((ns.zip us).lookup n)) = ns.zip us
  | [], _, _, _ => rfl
  | a :: ns, [], _, e => nomatch e
  | a :: ns, u :: us, nd, e => by
    obtain ⟨h1, h2⟩ := List.nodup_cons.mp nd
    rw [List.zip_cons_cons, List.filterMap_cons]
    simp only [List.lookup_cons, beq_self_eq_true, Option.map_some]
    congr 1
    rw [← zip_look (us := us) h2 (by simpa using e)]
    rw [zip_look (us := us) h2 (by simpa using e)]
    refine (filterMap_same fun n hn => ?_).trans (zip_look (us := us) h2 (by simpa using e))
    have : (n == a) = false := by
      apply Bool.eq_false_iff.mpr
      intro q
      exact h1 (beq_iff_eq.mp q ▸ hn)
    simp only [this]
theorem bind_all {x qual : Str} {as : List Arg} {body : List Stmt} {scope : Scope} (kV doc pm : Value) (an : Option Addr) (cdv ct : Value) (us : List Value) (nd : (as.map (·.arg)).Nodup) (hl : us.length = as.length) :
    bindArgs (PySem.W.fnOf x qual { posonlyargs := [], args := as, vararg := none, kwonlyargs := [], kw_defaults := [], kwarg := none, defaults := [] } body scope .none kV doc pm an cdv ct) ⟨us, []⟩ = pure ((as.map (·.arg)).zip us) := by
  have hm : ∀ k, (((as.map (·.arg)).take k).filter fun n => (((as.map (·.arg)).zip us).lookup n).isNone) = [] := fun k => by
    rw [List.filter_eq_nil_iff]
    intro n hn
    rw [zip_some (by simpa using hl) (List.mem_of_mem_take hn)]
    exact Bool.false_ne_true
  have hz : seqItems? Value.none = pure none := rfl
  unfold bindArgs PySem.W.fnOf
  simp only [List.map_nil, List.nil_append, hz, hl, List.length_map, List.forIn_nil, pure_bind, Option.getD_none, Nat.lt_irrefl, decide_false, Bool.false_and, if_false, Bool.false_eq_true, gt_iff_lt, List.drop_nil, List.length_nil, Nat.sub_zero, hm, List.isEmpty_nil, Bool.not_true, List.zip_nil_right, List.append_nil]
  rw [zip_look nd (by simpa using hl)]
theorem binds_ok {params : Arguments} (h : plainArgs params = true) {x qual : Str} {body : List Stmt} {scope : Scope} (kV doc pm : Value) (an : Option Addr) (cdv ct : Value) (us : List Value) (hl : us.length = (namesOf params).length) :
    bindArgs (PySem.W.fnOf x qual params body scope .none kV doc pm an cdv ct) ⟨us, []⟩ = pure ((namesOf params).zip us) := by
  unfold plainArgs at h
  split at h
  · exact bind_all kV doc pm an cdv ct us (of_decide_eq_true h) (by simpa [namesOf] using hl)
  · cases h
theorem start_rep {K : Frg} {H : Hp} {ι : List Addr} {ds : List D} {vs : List V} {N ps : List Str} (hl : ds.length = ps.length) (r : Reps K H ι ds vs) (hN : ps.length ≤ N.length) : SRep K H ι (L2.start N vs) (startE N.length ds) := by
  have e := r.length
  refine ⟨?_, fun i d h => ?_⟩
  · unfold L2.start startE
    rw [List.length_append, List.length_append, List.length_map, List.length_map, List.length_replicate, List.length_replicate]
    omega
  · unfold startE at h
    by_cases hi : i < ds.length
    · rw [List.getElem?_append_left (by simpa using hi), List.getElem?_map] at h
      cases q : ds[i]? with
      | none => rw [q] at h; cases h
      | some d' =>
        rw [q] at h
        cases h
        obtain ⟨v, hv, rv⟩ := r.get q
        refine ⟨v, ?_, rv⟩
        unfold L2.start
        rw [List.getElem?_append_left (by rw [List.length_map]; omega), List.getElem?_map, hv]
        rfl
    · rw [List.getElem?_append_right (by simpa using hi), List.getElem?_replicate] at h
      split at h <;> cases h

/-! ### a call's end -/
mutual
theorem low_rep {K : Frg} {H : Hp} {ι : List Addr} (n : Nat) : ∀ (d : D) (v : V), d.low n = true → Rep K H ι d v → Rep K H (ι.take n) d v
  | .non, v, _, r => r
  | .bl b, v, _, r => r
  | .int i, v, _, r => r
  | .str x, v, _, r => r
  | .tup ds, v, h, r => by
    obtain ⟨a, vs, e, q, r⟩ := r
    exact ⟨a, vs, e, q, low_reps n ds vs h r⟩
  | .seq ds, v, h, r => by
    obtain ⟨a, vs, e, q, r⟩ := r
    exact ⟨a, vs, e, q, low_reps n ds vs h r⟩
  | .ref m, v, h, r => by
    obtain ⟨a, e, q⟩ := r
    exact ⟨a, e, by rw [List.getElem?_take_of_lt (of_decide_eq_true h)]; exact q⟩
theorem low_reps {K : Frg} {H : Hp} {ι : List Addr} (n : Nat) : ∀ (ds : List D) (vs : List V), D.lows n ds = true → Reps K H ι ds vs → Reps K H (ι.take n) ds vs
  | [], _, _, r => r
  | d :: ds, _, h, r => by
    obtain ⟨v, w, e, r1, r2⟩ := r
    simp only [D.lows] at h
    obtain ⟨h1, h2⟩ := tt h
    exact ⟨v, w, e, low_rep n d v h1 r1, low_reps n ds w h2 r2⟩
end
mutual
/-- what stands in a heap that is held has numbers of that heap -/
theorem rep_low {K : Frg} {H : Hp} {ι : List Addr} : ∀ (d : D) (v : V), Rep K H ι d v → d.low ι.length = true
  | .non, v, _ => rfl
  | .bl b, v, _ => rfl
  | .int i, v, _ => rfl
  | .str x, v, _ => rfl
  | .tup ds, v, r => by
    obtain ⟨a, vs, e, q, r⟩ := r
    exact reps_low ds vs r
  | .seq ds, v, r => by
    obtain ⟨a, vs, e, q, r⟩ := r
    exact reps_low ds vs r
  | .ref m, v, r => by
    obtain ⟨a, e, q⟩ := r
    exact decide_eq_true (List.getElem?_eq_some_iff.mp q).1
theorem reps_low {K : Frg} {H : Hp} {ι : List Addr} : ∀ (ds : List D) (vs : List V), Reps K H ι ds vs → D.lows ι.length ds = true
  | [], _, _ => rfl
  | d :: ds, _, r => by
    obtain ⟨v, w, e, r1, r2⟩ := r
    simp only [D.lows, rep_low d v r1, reps_low ds w r2, Bool.and_self]
end
theorem ook_low {K : Frg} {H : Hp} {ι : List Addr} {a : Addr} {o : O} (x : OOk K H ι a o) : o.low ι.length = true := by
  cases o with
  | lst xs => obtain ⟨vs, _, r⟩ := x; exact reps_low _ _ r
  | dct kvs => obtain ⟨ws, _, _, r⟩ := x; exact reps_low _ _ r
theorem ook_take {K : Frg} {H : Hp} {ι : List Addr} {a : Addr} {o : O} {n : Nat} (h : o.low n = true) (x : OOk K H ι a o) : OOk K H (ι.take n) a o := by
  cases o with
  | lst xs => obtain ⟨vs, q, r⟩ := x; exact ⟨vs, q, low_reps n _ _ h r⟩
  | dct kvs => obtain ⟨ws, q, r1, r2⟩ := x; exact ⟨ws, q, r1, low_reps n _ _ h r2⟩
theorem tidy_ok {K : Frg} {H H' : Hp} {ι ι' : List Addr} {hp : Heap} {r : D × Heap} {v : V} {Q : VK} (hh : HpRep K H ι hp) (s : Step ι H ι' H') (h' : HpRep K H' ι' r.2) (q : Rep K H' ι' r.1 v) (p : SE K Q (tidy hp r) ι' H') (p2 : SE K Q (tidy hp r) ι H') : Q v H' := by
  unfold tidy at p p2
  split at p
  · rename_i hc
    rw [if_pos hc] at p2
    obtain ⟨c1, c2, c3⟩ := hc
    obtain ⟨κ, e⟩ := s.pre
    have et : ι'.take hp.length = ι := by rw [e, ← hh.len, List.take_left]
    have hh' : HpRep K H' ι (r.2.take hp.length) := by
      refine ⟨by rw [List.length_take, hh.len]; omega, hh.nd, fun n o a h1 h2 => ?_⟩
      have hn : n < hp.length := hh.len ▸ (List.getElem?_eq_some_iff.mp h2).1
      rw [List.getElem?_take_of_lt hn] at h1
      have h2' : ι'[n]? = some a := by
        rw [e, List.getElem?_append_left (by rw [hh.len]; exact hn)]
        exact h2
      have x := h'.ok n o a h1 h2'
      have lo : o.low hp.length = true := by
        rcases c3 n hn with z | ⟨o', z, l⟩
        · rw [z] at h1
          have := ook_low (hh.ok n o a h1 h2)
          rw [hh.len] at this
          exact this
        · rw [z] at h1
          cases h1
          exact l
      have y := ook_take lo x
      rw [et] at y
      exact y
    have y := low_rep hp.length _ _ c1 q
    rw [et] at y
    exact p2 v hh' y
  · rename_i hc
    exact p v h' q

/-- the step where the new numbers are forgotten -/
theorem Step.forget {ι ι' : List Addr} {H H' : Hp} (s : Step ι H ι' H') : Step ι H ι H' := ⟨⟨[], by simp⟩, fun a h => .inl h, s.kp⟩

/-- what the module's heap shows of the table -/
structure TabOk (P : Pg) (G : GI) (txt : List Txt) (K : Frg) (mg : Str → Option Value) : Prop where
  len : txt.length = P.fns.length
  gfn : G.fns = P.fns.map fun f => (f.name, f.ps.length)
  at_ : ∀ (i : Nat) (fn : Fn) (t : Txt), P.fns[i]? = some fn → txt[i]? = some t → mFn G fn t = true ∧ ∃ (f : Addr) (fd : FuncData) (qual : Str), FunD K fn.name qual t.params t.body t.scope [] [] f fd ∧ mg fn.name = some (.ref f)
  bl : ∀ x ∈ G.bl, mg x = none
  cs : ∀ (i : Nat) (x : Str), G.cs[i]? = some x → ∃ d u v, P.cs[i]? = some d ∧ mg x = some u ∧ RelV v u ∧ ∀ H ι, Rep K H ι d v

theorem table {P : Pg} {G : GI} {txt : List Txt} {K : Frg} {mg : Str → Option Value} (T : TabOk P G txt K mg) {prog : Program} {w : World} {base : PySem.Heap} : ∀ (k : Nat) (i : Nat) (fn : Fn) (t : Txt) (qual : Str) (f : Addr) (fd : FuncData), P.fns[i]? = some fn → txt[i]? = some t →
    FunD K fn.name qual t.params t.body t.scope [] [] f fd → FnOk prog w K mg base CX0 k f fd fn.ps (spT K (callI P k i) fn.ps.length)
  | 0, i, fn, t, qual, f, fd, hi, ht, F => ⟨fun vs H Q E h => h.1, fun A outer s H args us vs Q E hr he hb hv ⟨_, ι, hp, ds, hh, r, po⟩ => po.elim⟩
  | k + 1, i, fn, t, qual, f, fd, hi, ht, F => by
    obtain ⟨hm, _⟩ := T.at_ i fn t hi ht
    unfold mFn at hm
    obtain ⟨hm, m4⟩ := tt hm
    obtain ⟨hm, m3⟩ := tt hm
    obtain ⟨m1, m2⟩ := tt hm
    have S := scope_ok m3
    refine F.ok S (fun vs H Q E h => h.1) fun cdv A outer s H vs Q E hr ⟨hl, ι, hp, ds, hh, r, po⟩ => ⟨rdSs K ⟨callI P k, P.cs⟩ fn.body, PSs.nox (sSs (G := G) (c := ⟨callI P k, P.cs⟩) fn.body ⟨fn.N, t.scope, t.scope⟩ t.body _ ?_ PassesOwn.never m4), ?_⟩
    · refine ⟨rfl, S.nd, rfl, S.kind, rfl, fun x hx => ?_, ?_, T.bl, T.cs, fun j p hp' ds hp ne => ?_, fun j p hp' => ?_⟩
      · unfold locB at hx
        split at hx
        · exact ⟨.inl (by assumption), .inl rfl⟩
        · exact ⟨.inr (by assumption), .inl rfl⟩
        · cases hx
      · have := hr.un
        show A.units + 3 + 64 < cLine
        have e : (A.deeper (envOfC qual t.scope s.heap.objs.size f cdv)).units = A.units + 3 := rfl
        omega
      · rw [T.gfn, List.getElem?_map] at hp'
        cases e : P.fns[j]? with
        | none => rw [e] at hp'; cases hp'
        | some g =>
          rw [e] at hp'
          cases hp'
          cases k with
          | zero => rfl
          | succ k =>
            show ofO P.fns[j]? _ = _
            rw [e]
            show chk (decide (ds.length = g.ps.length)) _ = _
            rw [decide_eq_false ne]
            rfl
      · rw [T.gfn, List.getElem?_map] at hp'
        cases e : P.fns[j]? with
        | none => rw [e] at hp'; cases hp'
        | some g =>
          rw [e] at hp'
          cases hp'
          have hj : j < txt.length := T.len ▸ (List.getElem?_eq_some_iff.mp e).1
          have et : txt[j]? = some txt[j] := List.getElem?_eq_getElem hj
          obtain ⟨gm, ga, gd, gq, GF, gmg⟩ := T.at_ j g txt[j] e et
          refine ⟨k, ga, gd, g.ps, table T k j g txt[j] gq ga gd e et GF, hr, gmg, GF.kp, ?_⟩
          unfold mFn at gm
          obtain ⟨gm, _⟩ := tt gm
          obtain ⟨gm, _⟩ := tt gm
          obtain ⟨g1, g2⟩ := tt gm
          have g2 := of_decide_eq_true g2
          rw [← g2]
          refine GF.bindsN fun kV doc pm an cdv ct us hus => binds_ok g1 kV doc pm an cdv ct us hus
    · have hN : fn.ps.length ≤ fn.N.length := by
        have := congrArg List.length S.pre
        rw [List.length_take] at this
        omega
      have po : PoE K W0 ι H (ofO P.fns[i]? fun fn => chk (decide (ds.length = fn.ps.length)) ((execs ⟨callI P k, P.cs⟩ fn.body (startE fn.N.length ds) hp).bind (fin hp))) Q := po
      rw [hi] at po
      obtain ⟨hlen, po⟩ := Po.chk po
      have hlen := of_decide_eq_true hlen
      refine ⟨ι, startE fn.N.length ds, hp, start_rep hlen r hN, hh, (po_fix po).mono fun st ι1 H1 s1 p1 h1 σ1 hs1 => ?_⟩
      cases hf : st.1 with
      | rt d =>
        intro v rv
        unfold fin at p1
        rw [hf] at p1
        exact tidy_ok hh s1 h1 rv (p1 ι1 H1 s1) (p1 ι H1 s1.forget)
      | nx =>
        unfold fin at p1
        rw [hf] at p1
        exact tidy_ok (r := (.non, st.2.2)) hh s1 h1 rfl (p1 ι1 H1 s1) (p1 ι H1 s1.forget)
      | bk => unfold fin at p1; rw [hf] at p1; exact p1.elim
      | ct => unfold fin at p1; rw [hf] at p1; exact p1.elim
end Tw
end

section
set_option Elab.async false
set_option linter.all false
set_option maxRecDepth 100000
set_option maxHeartbeats 4000000
/-! From what the top has left to a law's end. Own work. -/
namespace Tw
open PySem PySem.Spec PyProof.Rows L2 RZ
/-! ### constants of the module -/
mutual
def repB (K : Frg) : D → Value → Bool
  | .non, v => (match v with
    | .none => true
    | _ => false)
  | .bl b, v => (match v with
    | .bool c => decide (b = c)
    | _ => false)
  | .int i, v => (match v with
    | .int j _ => decide (i = j)
    | _ => false)
  | .str x, v => (match v with
    | .str y _ => decide (x = y)
    | _ => false)
  | .tup ds, v => (match v with
    | .ref a => (match K.lookup a with
      | some ⟨.type c, _, .seq its _, _⟩ => decide (c = "tuple") && decide (its.size ≤ sizeLine) && repsB K ds its.toList
      | _ => false)
    | _ => false)
  | .seq ds, v => (match v with
    | .ref a => (match K.lookup a with
      | some ⟨.type c, none, .seq its _, _⟩ => decide (c = "list") && decide (its.size ≤ sizeLine) && repsB K ds its.toList
      | _ => false)
    | _ => false)
  | .ref _, _ => false
def repsB (K : Frg) : List D → List Value → Bool
  | [], vs => (match vs with
    | [] => true
    | _ => false)
  | d :: ds, vs => (match vs with
    | v :: vs => repB K d v && repsB K ds vs
    | _ => false)
end
mutual
theorem repB_ok {K : Frg} : ∀ (d : D) (u : Value), repB K d u = true → ∃ v, RelV v u ∧ ∀ H ι, Rep K H ι d v
  | .non, u, h => by
    simp only [repB] at h
    split at h
    · exact ⟨.non, rfl, fun _ _ => rfl⟩
    · cases h
  | .bl b, u, h => by
    simp only [repB] at h
    split at h
    · cases of_decide_eq_true h
      exact ⟨.bl b, rfl, fun _ _ => rfl⟩
    · cases h
  | .int b, u, h => by
    simp only [repB] at h
    split at h
    · cases of_decide_eq_true h
      exact ⟨.int b, ⟨_, rfl⟩, fun _ _ => rfl⟩
    · cases h
  | .str b, u, h => by
    simp only [repB] at h
    split at h
    · cases of_decide_eq_true h
      exact ⟨.str b, ⟨_, rfl⟩, fun _ _ => rfl⟩
    · cases h
  | .tup ds, u, h => by
    simp only [repB] at h
    split at h
    · split at h
      · rename_i q
        obtain ⟨h, h3⟩ := tt h
        obtain ⟨h1, h2⟩ := tt h
        obtain ⟨vs, r, z⟩ := repsB_ok ds _ h3
        exact ⟨.ref _, rfl, fun H ι => ⟨_, vs, rfl, .inr ⟨_, _, _, q, congrArg Value.type (of_decide_eq_true h1), rfl, of_decide_eq_true h2, r⟩, z H ι⟩⟩
      · cases h
    · cases h
  | .seq ds, u, h => by
    simp only [repB] at h
    split at h
    · split at h
      · rename_i q
        obtain ⟨h, h3⟩ := tt h
        obtain ⟨h1, h2⟩ := tt h
        obtain ⟨vs, r, z⟩ := repsB_ok ds _ h3
        exact ⟨.ref _, rfl, fun H ι => ⟨_, vs, rfl, .inr ⟨_, _, _, q, congrArg Value.type (of_decide_eq_true h1), rfl, rfl, of_decide_eq_true h2, r⟩, z H ι⟩⟩
      · cases h
    · cases h
  | .ref _, u, h => by simp [repB] at h
theorem repsB_ok {K : Frg} : ∀ (ds : List D) (us : List Value), repsB K ds us = true → ∃ vs, Vals vs us ∧ ∀ H ι, Reps K H ι ds vs
  | [], us, h => by
    simp only [repsB] at h
    split at h
    · exact ⟨[], .nil, fun _ _ => rfl⟩
    · cases h
  | d :: ds, us, h => by
    simp only [repsB] at h
    split at h
    · obtain ⟨h1, h2⟩ := tt h
      obtain ⟨v, r, z⟩ := repB_ok d _ h1
      obtain ⟨vs, rs, zs⟩ := repsB_ok ds _ h2
      exact ⟨v :: vs, .cons r rs, fun H ι => ⟨v, vs, rfl, z H ι, zs H ι⟩⟩
    · cases h
end
def cstB (K : Frg) (p : Str × D) : Bool := match PySem.W.nsIn K mainGlobals p.1 with
  | some (some v) => repB K p.2 v
  | _ => false
/-! ### the hook -/
abbrev AlT : Type := He.AlD × Bool
def obsT (fa : List He.Fa) (fn : List He.DefD) (ct : List (Str × D)) (K : Frg) : AlT := (He.obsD fa fn K, ct.all (cstB K))
def valT (fn : List He.DefD) : AlT := (He.valD fn, true)
def SaysT (fa : List He.Fa) (fn : List He.DefD) (ct : List (Str × D)) (K : Frg) : Prop := obsT fa fn ct K = valT fn
def obsTG (n : Nat) (fa : List He.Fa) (fn : List He.DefD) (ct : List (Str × D)) (g : Addr → Option Obj) : AlT := obsT fa fn ct (He.frG g (He.asD g n))
def hookT (n : Nat) (fa : List He.Fa) (fn : List He.DefD) (ct : List (Str × D)) : PySem.W.Hook where
  α := AlT
  obs := fun s => obsTG n fa fn ct s.heap.get?
  val := fun _ => valT fn
  says := fun _ h => ∃ K : Frg, K.In h ∧ SaysT fa fn ct K
  of := fun _ _ e => ⟨_, He.frG_in, e⟩
  keeps := fun _ _ _ ⟨K, hK, c⟩ k => ⟨K, PySem.W.Frag.In.keeps hK k, c⟩
theorem obsTG_eq {n : Nat} {fa : List He.Fa} {fn : List He.DefD} {ct : List (Str × D)} {g : Addr → Option Obj} {s : Shared} (h : ∀ a, g a = s.heap.get? a) : obsTG n fa fn ct g = (hookT n fa fn ct).obs s := by
  have e : g = s.heap.get? := funext h
  rw [e] <;> rfl

def fnD (P : Pg) (txt : List Txt) : List He.DefD := (P.fns.zip txt).map fun p => ⟨(p.1.name, none), p.1.name, p.1.name, p.2.params, p.2.body, p.2.scope, [], []⟩
def faD (P : Pg) (G : GI) : List He.Fa := P.fns.map (fun f => .glo f.name) ++ G.bl.map .free
theorem tab_of {P : Pg} {G : GI} {txt : List Txt} {K : Frg} {h : PySem.Heap} {mg : Str → Option Value} (X : K.In h) (N : h.Ns mainGlobals mg) (c : SaysT (faD P G) (fnD P txt) (G.cs.zip P.cs) K)
    (len : txt.length = P.fns.length) (gfn : G.fns = P.fns.map fun f => (f.name, f.ps.length)) (hm : (P.fns.zip txt).all (fun p => mFn G p.1 p.2) = true) (hcs : G.cs.length = P.cs.length) : TabOk P G txt K mg := by
  have c1 : He.SaysD (faD P G) (fnD P txt) K := congrArg (fun z : AlT => z.1) c
  have c2 : (G.cs.zip P.cs).all (cstB K) = true := congrArg (fun z : AlT => z.2) c
  refine ⟨len, gfn, fun i fn t hi ht => ?_, fun x hx => ?_, fun i x hx => ?_⟩
  · have hz : (P.fns.zip txt)[i]? = some (fn, t) := by
      rw [List.getElem?_zip_eq_some]
      exact ⟨hi, ht⟩
    refine ⟨List.all_eq_true.mp hm _ (List.mem_of_getElem? hz), ?_⟩
    have hd : (fnD P txt)[i]? = some ⟨(fn.name, none), fn.name, fn.name, t.params, t.body, t.scope, [], []⟩ := by
      unfold fnD
      rw [List.getElem?_map, hz]
      rfl
    obtain ⟨fd, F⟩ := He.SaysD.def_ c1 i hd
    refine ⟨_, fd, fn.name, F, ?_⟩
    have hf : (faD P G)[i]? = some (.glo fn.name) := by
      unfold faD
      rw [List.getElem?_append_left (by rw [List.length_map]; exact (List.getElem?_eq_some_iff.mp hi).1), List.getElem?_map, hi]
      rfl
    exact He.glo_ok X N (He.SaysD.fact c1 i hf)
  · obtain ⟨i, hi, e⟩ := List.getElem_of_mem hx
    have hf : (faD P G)[P.fns.length + i]? = some (.free x) := by
      unfold faD
      rw [List.getElem?_append_right (by rw [List.length_map]; omega), List.length_map, Nat.add_sub_cancel_left, List.getElem?_map, List.getElem?_eq_getElem hi, e]
      rfl
    exact He.free_ok X N (He.SaysD.fact c1 _ hf)
  · have hl : i < P.cs.length := hcs ▸ (List.getElem?_eq_some_iff.mp hx).1
    have hz : (G.cs.zip P.cs)[i]? = some (x, P.cs[i]) := by
      rw [List.getElem?_zip_eq_some]
      exact ⟨hx, List.getElem?_eq_getElem hl⟩
    have q := List.all_eq_true.mp c2 _ (List.mem_of_getElem? hz)
    unfold cstB at q
    split at q
    · rename_i v e
      obtain ⟨w, r, z⟩ := repB_ok _ _ q
      exact ⟨P.cs[i], v, w, List.getElem?_eq_getElem hl, PySem.W.mg_of X N e, r, z⟩
    · cases q

/-- the script as data -/
theorem script_rep {K : Frg} {H : Hp} {a : Addr} {ns : List Int} (hO : Only H) (hS : SqL K H a (ns.map V.int)) : Reps K H [] [.seq (ns.map D.int)] [.ref a] := by
  refine Reps.one ⟨a, ns.map V.int, rfl, ?_, ?_⟩
  · rcases hS with (h | ⟨o, h⟩) | h
    · rcases hO a with z | ⟨o, xs, z⟩ <;> (rw [h] at z; cases z)
    · exact .inl ⟨o, h⟩
    · exact .inr h
  · clear hS
    induction ns with
    | nil => exact rfl
    | cons n ns ih => exact ⟨.int n, _, rfl, rfl, ih⟩
/-- the law's end: what the core language says of it -/
theorem law_end {P : Pg} {G : GI} {txt : List Txt} {K : Frg} {mg : Str → Option Value} {fa : Addr} {prog : Program} {w : World} {n k i : Nat} {fn : Fn} {t : Txt} {x : Str} (T : TabOk P G txt K mg) (hi : P.fns[i]? = some fn) (ht : txt[i]? = some t) (hn : mg fn.name = some (.ref fa)) (hps : fn.ps = [x])
    (law : ∀ ns : List Int, ns.length ≤ n → ∃ h, callI P k i [.seq (ns.map D.int)] [] = .ok (.bl true, h)) :
    ∃ (fd : FuncData) (sp : Sp), (∀ (s : Shared) (u : Value), BindsTo s fd ⟨[u], []⟩ [(x, u)]) ∧
        (∀ (H : Hp) (a : Addr) (ns : List Int), ns.length ≤ n → Only H → SqL K H a (ns.map V.int) → sp [.ref a] H (fun v _ => v = .bl true) fun _ _ _ => False) ∧
        ∀ base : PySem.Heap, FnOk prog w K mg base CX0 k fa fd [x] sp := by
  obtain ⟨hm, f, fd, qual, F, hg⟩ := T.at_ i fn t hi ht
  cases hn.symm.trans hg
  refine ⟨fd, spT K (callI P k i) 1, fun s u => ?_, fun H a ns hl hO hS => ⟨rfl, [], [], [.seq (ns.map D.int)], ⟨rfl, List.nodup_nil, fun n o a h _ => by simp at h⟩, script_rep hO hS, ?_⟩, fun base => ?_⟩
  · unfold mFn at hm
    obtain ⟨hm, _⟩ := tt hm
    obtain ⟨hm, _⟩ := tt hm
    obtain ⟨g1, g2⟩ := tt hm
    have g2 := of_decide_eq_true g2
    have b := FunD.bindsA (ps := [x]) F (fun kV doc pm an cdv ct us hus => by
      have := binds_ok g1 (x := fn.name) (qual := qual) (body := t.body) (scope := t.scope) kV doc pm an cdv ct us (by rw [g2, hps]; exact hus)
      rw [g2, hps] at this
      exact this)
    exact b s [u] rfl
  · obtain ⟨h, e⟩ := law ns hl
    rw [e]
    exact fun ι' H' s v h' r => r
  · have q := table T (prog := prog) (w := w) (base := base) k i fn t qual _ fd hi ht F
    rw [hps] at q
    exact q
end Tw
end

section
set_option Elab.async false
set_option linter.all false
set_option maxRecDepth 100000
set_option maxHeartbeats 1000000
/-! Reckoning with the core language: loops, rows, heaps. Own work. -/
namespace Tw
open PySem (Str)

/-! ### loops -/
theorem whL_run {c : Env → Heap → R (Bool × Heap)} {f : Env → Heap → R St} (Inv : Nat → Env → Heap → Prop) (Q : Env → Heap → Prop)
    (step : ∀ m ρ h, Inv m ρ h → (c ρ h = .ok (false, h) ∧ Q ρ h) ∨ (c ρ h = .ok (true, h) ∧ ∃ m' ρ' h', m' < m ∧ f ρ h = .ok (.nx, ρ', h') ∧ Inv m' ρ' h')) :
    ∀ n m ρ h, Inv m ρ h → m < n → ∃ ρ' h', whL c f n ρ h = .ok (.nx, ρ', h') ∧ Q ρ' h'
  | 0, m, ρ, h, _, hm => absurd hm (Nat.not_lt_zero _)
  | n + 1, m, ρ, h, hi, hm => by
    rcases step m ρ h hi with ⟨e, q⟩ | ⟨e, m', ρ', h', hl, ef, hi'⟩
    · exact ⟨ρ, h, by simp only [whL, e, R.bind], q⟩
    · obtain ⟨ρ2, h2, e2, q2⟩ := whL_run Inv Q step n m' ρ' h' hi' (by omega)
      exact ⟨ρ2, h2, by simp only [whL, e, R.bind, ef, e2], q2⟩
theorem forL_run {g : List (Nat × O)} {f : D → Env → Heap → R St} (Inv : Nat → Env → Heap → Prop) : ∀ (xs : List D) (k : Nat) (ρ : Env) (h : Heap),
    (∀ i ρ h, k ≤ i → i ≤ k + xs.length → Inv i ρ h → guards g h = true) →
    (∀ (i : Nat) (x : D) ρ h, xs[i]? = some x → Inv (k + i) ρ h → ∃ ρ' h', f x ρ h = .ok (.nx, ρ', h') ∧ Inv (k + i + 1) ρ' h') →
    Inv k ρ h → ∃ ρ' h', forL g f xs ρ h = .ok (.nx, ρ', h') ∧ Inv (k + xs.length) ρ' h'
  | [], k, ρ, h, hg, _, hi => ⟨ρ, h, by simp only [forL, hg k ρ h (Nat.le_refl _) (Nat.le_refl _) hi, chk], hi⟩
  | x :: xs, k, ρ, h, hg, hf, hi => by
    obtain ⟨ρ1, h1, e1, i1⟩ := hf 0 x ρ h rfl hi
    obtain ⟨ρ2, h2, e2, i2⟩ := forL_run Inv xs (k + 1) ρ1 h1 (fun i ρ h a b => hg i ρ h (by omega) (by simp only [List.length_cons]; omega)) (fun i y ρ h e q => by
      have z := hf (i + 1) y ρ h (by simpa using e) (by rw [show k + (i + 1) = k + 1 + i by omega]; exact q)
      rw [show k + (i + 1) + 1 = k + 1 + i + 1 by omega] at z
      exact z) i1
    refine ⟨ρ2, h2, ?_, by rw [List.length_cons, show k + (xs.length + 1) = k + 1 + xs.length by omega]; exact i2⟩
    simp only [forL, hg k ρ h (Nat.le_refl _) (Nat.le_add_right _ _) hi, chk, e1, R.bind, e2]
theorem rngD_len : ∀ (n : Nat) (lo : Int), (rngD lo n).length = n
  | 0, _ => rfl
  | n + 1, lo => by simp [rngD, rngD_len n]
theorem rngD_get : ∀ {n : Nat} {lo : Int} {i : Nat} {d : D}, (rngD lo n)[i]? = some d → i < n ∧ d = .int (lo + i)
  | 0, _, _, _, h => by simp [rngD] at h
  | n + 1, lo, 0, d, h => by
    simp [rngD] at h
    exact ⟨Nat.succ_pos _, by rw [← h]; simp⟩
  | n + 1, lo, i + 1, d, h => by
    simp only [rngD, List.getElem?_cons_succ] at h
    obtain ⟨h1, h2⟩ := rngD_get h
    refine ⟨by omega, ?_⟩
    rw [h2]
    congr 1
    omega
/-- for k in range(n) -/
theorem for_rng {f : D → Env → Heap → R St} (n : Nat) (Inv : Nat → Env → Heap → Prop) {ρ : Env} {h : Heap} (h0 : Inv 0 ρ h)
    (hf : ∀ (i : Nat) ρ h, i < n → Inv i ρ h → ∃ ρ' h', f (.int i) ρ h = .ok (.nx, ρ', h') ∧ Inv (i + 1) ρ' h') :
    ∃ ρ' h', forL [] f (rngD 0 n) ρ h = .ok (.nx, ρ', h') ∧ Inv n ρ' h' := by
  obtain ⟨ρ', h', e, q⟩ := forL_run (g := []) (f := f) Inv (rngD 0 n) 0 ρ h (fun _ _ _ _ _ _ => rfl) (fun i x ρ h e q => by
    obtain ⟨h1, rfl⟩ := rngD_get e
    rw [Nat.zero_add] at q ⊢
    have z := hf i ρ h h1 q
    rwa [Int.zero_add]) h0
  rw [rngD_len, Nat.zero_add] at q
  exact ⟨ρ', h', e, q⟩
/-- for x in items -/
theorem for_items {f : D → Env → Heap → R St} (xs : List D) (Inv : Nat → Env → Heap → Prop) {ρ : Env} {h : Heap} (h0 : Inv 0 ρ h)
    (hf : ∀ (i : Nat) (x : D) ρ h, xs[i]? = some x → Inv i ρ h → ∃ ρ' h', f x ρ h = .ok (.nx, ρ', h') ∧ Inv (i + 1) ρ' h') :
    ∃ ρ' h', forL [] f xs ρ h = .ok (.nx, ρ', h') ∧ Inv xs.length ρ' h' := by
  obtain ⟨ρ', h', e, q⟩ := forL_run (g := []) (f := f) Inv xs 0 ρ h (fun _ _ _ _ _ _ => rfl) (fun i x ρ h e q => by
    rw [Nat.zero_add] at q ⊢
    exact hf i x ρ h e q) h0
  rw [Nat.zero_add] at q
  exact ⟨ρ', h', e, q⟩
/-! ### comprehensions -/
theorem mapL_all {β : Type} {f : D → Heap → R (Option β × Heap)} (G : Nat → β) {h : Heap} : ∀ (xs : List D) (k : Nat), (∀ (i : Nat) (x : D), xs[i]? = some x → f x h = .ok (some (G (k + i)), h)) →
    mapL [] f xs h = .ok ((List.range xs.length).map fun i => G (k + i), h)
  | [], k, _ => rfl
  | x :: xs, k, hf => by
    have e := mapL_all G xs (k + 1) (fun i y hy => by
      have z := hf (i + 1) y (by simpa using hy)
      rwa [show k + (i + 1) = k + 1 + i by omega] at z)
    have e0 := hf 0 x rfl
    rw [Nat.add_zero] at e0
    simp only [mapL, guards, List.all_nil, chk, e0, R.nox, R.bind, e]
    rw [List.length_cons, List.range_succ_eq_map, List.map_cons, List.map_map]
    congr 3
    apply List.map_congr_left
    intro i _
    show G (k + 1 + i) = G (k + (i + 1))
    rw [show k + (i + 1) = k + 1 + i by omega]
/-- [e for k in range(n)] -/
theorem lc_rng {β : Type} {f : D → Heap → R (Option β × Heap)} (n : Nat) (G : Nat → β) {h : Heap} (hf : ∀ i, i < n → f (.int (i : Nat)) h = .ok (some (G i), h)) :
    mapL [] f (rngD 0 n) h = .ok ((List.range n).map G, h) := by
  have e := mapL_all (f := f) G (h := h) (rngD 0 n) 0 (fun i x hx => by
    obtain ⟨h1, rfl⟩ := rngD_get hx
    rw [Nat.zero_add, Int.zero_add]
    exact hf i h1)
  rw [rngD_len] at e
  simpa using e
theorem lc_items {β : Type} {f : D → Heap → R (Option β × Heap)} (xs : List D) (G : Nat → β) {h : Heap} (hf : ∀ (i : Nat) (x : D), xs[i]? = some x → f x h = .ok (some (G i), h)) :
    mapL [] f xs h = .ok ((List.range xs.length).map G, h) := by
  have e := mapL_all (f := f) G (h := h) xs 0 (fun i x hx => by
    rw [Nat.zero_add]
    exact hf i x hx)
  simpa using e

/-! ### rows -/
/-- the intz f 0 .. f (n - 1) -/
def intz (n : Nat) (f : Nat → Int) : List D := (List.range n).map fun i => .int (f i)
abbrev row (n : Nat) (f : Nat → Int) : D := .tup (intz n f)
theorem ints_len (n : Nat) (f : Nat → Int) : (intz n f).length = n := by simp [intz]
theorem ints_get {n : Nat} {f : Nat → Int} {i : Nat} (h : i < n) : (intz n f)[i]? = some (.int (f i)) := by simp [intz, h]
theorem ints_nth {n : Nat} {f : Nat → Int} {i : Int} (h0 : 0 ≤ i) (h : i < n) : nth (intz n f) i = some (.int (f i.toNat)) := by
  unfold nth
  rw [if_pos h0]
  exact ints_get (by omega)
theorem ints_at {n : Nat} {f : Nat → Int} {i : Nat} (h : i < n) : nth (intz n f) (i : Int) = some (.int (f i)) := by
  rw [ints_nth (by omega) (by omega)]
  simp
theorem ints_neg {n : Nat} {f : Nat → Int} {i : Int} (h0 : i < 0) (h : -(n : Int) ≤ i) : nth (intz n f) i = some (.int (f (i + n).toNat)) := by
  unfold nth
  rw [if_neg (by omega), ints_len, if_pos h]
  exact ints_get (by omega)
theorem ints_some {n : Nat} {f : Nat → Int} {i : Nat} {d : D} (h : (intz n f)[i]? = some d) : i < n ∧ d = .int (f i) := by
  unfold intz at h
  rw [List.getElem?_map] at h
  by_cases hi : i < n
  · simp [hi] at h
    exact ⟨hi, h.symm⟩
  · simp [hi] at h
theorem ints_congr {n : Nat} {f g : Nat → Int} (h : ∀ i, i < n → f i = g i) : intz n f = intz n g := by
  unfold intz
  apply List.map_congr_left
  intro i hi
  rw [h i (List.mem_range.mp hi)]
theorem ints_succ (n : Nat) (f : Nat → Int) : intz (n + 1) f = intz n f ++ [.int (f n)] := by
  unfold intz
  rw [List.range_succ, List.map_append]
  rfl
theorem ints_zero (f : Nat → Int) : intz 0 f = [] := rfl
theorem map_ints (n : Nat) (f : Nat → Int) : (List.range n).map (fun i => D.int (f i)) = intz n f := rfl
theorem intsOf_map (l : List Int) : intsOf (l.map D.int) = some l := by
  induction l with
  | nil => rfl
  | cons a l ih => simp [intsOf, ih]
/-- f 0 + .. + f (n - 1) -/
def sm : Nat → (Nat → Int) → Int
  | 0, _ => 0
  | n + 1, f => sm n f + f n
theorem sum_append (a b : List Int) : (a ++ b).sum = a.sum + b.sum := by
  induction a with
  | nil => simp
  | cons x a ih => rw [List.cons_append, List.sum_cons, List.sum_cons, ih, Int.add_assoc]
theorem ints_sum (n : Nat) (f : Nat → Int) : ∃ l, intsOf (intz n f) = some l ∧ l.sum = sm n f := by
  refine ⟨(List.range n).map f, ?_, ?_⟩
  · rw [show intz n f = ((List.range n).map f).map D.int by rw [List.map_map]; rfl]
    exact intsOf_map _
  · induction n with
    | zero => rfl
    | succ n ih =>
      rw [List.range_succ, List.map_append, sum_append, ih]
      simp [sm]
theorem sum_ints (n : Nat) (f : Nat → Int) (h : Heap) : sqV .sum (intz n f) h = .ok (.int (sm n f), h) := by
  obtain ⟨l, e, s⟩ := ints_sum n f
  simp only [sqV, e, ofO, s]
theorem lows_ints (k n : Nat) (f : Nat → Int) : D.lows k (intz n f) = true := by
  have : ∀ l : List Nat, D.lows k (l.map fun i => D.int (f i)) = true := by
    intro l
    induction l with
    | nil => rfl
    | cons a l ih => simp [D.lows, D.low, ih]
  exact this _
theorem low_row (k n : Nat) (f : Nat → Int) : (row n f).low k = true := lows_ints k n f

/-! ### a call's end -/
theorem tidy_id (h : Heap) (d : D) : tidy h (d, h) = (d, h) := by
  unfold tidy
  split
  · simp
  · rfl
theorem tidy_app (h g : Heap) (d : D) (hd : d.low h.length = true) : tidy h (d, h ++ g) = (d, h) := by
  unfold tidy
  rw [if_pos ⟨hd, by simp, fun i hi => .inl (List.getElem?_append_left hi)⟩]
  simp
theorem tidy_head (a b : O) (t g : Heap) (d : D) (hd : d.low (t.length + 1) = true) (hb : b.low (t.length + 1) = true) : tidy (a :: t) (d, b :: (t ++ g)) = (d, b :: t) := by
  unfold tidy
  rw [if_pos]
  · simp
  · refine ⟨hd, by simp, fun i hi => ?_⟩
    cases i with
    | zero => exact .inr ⟨b, rfl, hb⟩
    | succ i =>
      refine .inl ?_
      simp only [List.length_cons] at hi
      simp only [List.getElem?_cons_succ]
      rw [List.getElem?_append_left (by omega)]
theorem get_app (h l : Heap) (k : Nat) : (h ++ l)[h.length + k]? = l[k]? := by
  rw [List.getElem?_append_right (by omega)]
  congr 1
  omega
theorem get_app0 (h l : Heap) : (h ++ l)[h.length]? = l[0]? := get_app h l 0
theorem set_app (h l : Heap) (k : Nat) (o : O) : (h ++ l).set (h.length + k) o = h ++ l.set k o := by
  have e := List.set_append_right (s := h) (t := l) (h.length + k) o (by omega)
  rw [show h.length + k - h.length = k by omega] at e
  exact e
theorem set_app0 (h l : Heap) (o : O) : (h ++ l).set h.length o = h ++ l.set 0 o := set_app h l 0 o

/-! ### texts -/
theorem str_eq (a b : String) : (Str.ofString a = Str.ofString b) ↔ a = b := by
  constructor
  · intro h
    rw [Str.ofString_eq_toList, Str.ofString_eq_toList] at h
    have h1 : (a.toList.map Char.toNat) = (b.toList.map Char.toNat) := by
      have := congrArg (fun s : Str => s.cps.toList) h
      simpa using this
    have inj : ∀ {l m : List Char}, l.map Char.toNat = m.map Char.toNat → l = m := by
      intro l
      induction l with
      | nil => intro m h; cases m <;> simp at h ⊢
      | cons x l ih =>
        intro m h
        cases m with
        | nil => simp at h
        | cons y m =>
          simp only [List.map_cons, List.cons.injEq] at h
          obtain ⟨h1, h2⟩ := h
          rw [Char.ext (UInt32.toNat_inj.mp h1), ih h2]
    exact String.ext (inj h1)
  · rintro rfl
    rfl
theorem small_of {i : Int} (h1 : -18446744073709551616 < i) (h2 : i < 18446744073709551616) : small i = true := by
  unfold small
  rw [decide_eq_true h1, decide_eq_true h2]
  rfl
end Tw
end

section
set_option Elab.async false
set_option linter.all false
set_option maxRecDepth 100000
set_option maxHeartbeats 1000000
/-! The core language's evaluation as simp lemmas; statement by statement. Own work. -/
namespace Tw
open PySem (Str)
section
variable {α β : Type} {c : Ctx} {ρ : Env} {h : Heap}
theorem c_bind {x y : R α} {f : α → R β} (e : x = y) : x.bind f = y.bind f := by rw [e]
theorem c_ofO {x y : Option α} {f : α → R β} (e : x = y) : ofO x f = ofO y f := by rw [e]
theorem c_chk {x y : Bool} {r : R β} (e : x = y) : chk x r = chk y r := by rw [e]
@[simp] theorem z_bind (a : α) (f : α → R β) : (R.ok a).bind f = f a := (rfl)
@[simp] theorem z_assoc {γ : Type} (x : R α) (f : α → R β) (g : β → R γ) : (x.bind f).bind g = x.bind fun a => (f a).bind g := by cases x <;> rfl
@[simp] theorem z_nox (a : α) : (R.ok a).nox = .ok a := (rfl)
@[simp] theorem z_ofO (a : α) (f : α → R β) : ofO (some a) f = f a := (rfl)
@[simp] theorem z_chk (r : R β) : chk true r = r := (rfl)
def getV : Option (Option D) → Heap → R (D × Heap)
  | some (some d), h => .ok (d, h)
  | _, _ => .no
@[simp] theorem z_getV (d : D) : getV (some (some d)) h = .ok (d, h) := (rfl)
@[simp] theorem z_var (i : Nat) : ev c (.var i) ρ h = getV ρ[i]? h := by
  rw [ev]
  unfold getV
  split <;> simp_all
@[simp] theorem z_int (i : Int) : ev c (.int i) ρ h = .ok (.int i, h) := by rw [ev]
@[simp] theorem z_bl (i : Bool) : ev c (.bl i) ρ h = .ok (.bl i, h) := by rw [ev]
@[simp] theorem z_non : ev c .non ρ h = .ok (.non, h) := by rw [ev]
@[simp] theorem z_str (i : Str) : ev c (.str i) ρ h = .ok (.str i, h) := by rw [ev]
@[simp] theorem z_cst (i : Nat) : ev c (.cst i) ρ h = ofO c.cs[i]? fun d => .ok (d, h) := by rw [ev]
@[simp] theorem z_bin (op : BOp) (a b : CE) : ev c (.bin op a b) ρ h = (ev c a ρ h).bind fun x => (ev c b ρ x.2).bind fun y => opB op x.1 y.1 y.2 := by rw [ev]
@[simp] theorem z_cmp (op : COp) (a b : CE) : ev c (.cmp op a b) ρ h = (ev c a ρ h).bind fun x => (ev c b ρ x.2).bind fun y => opC op x.1 y.1 y.2 := by rw [ev]
def andV (b : Bool) (x : D × Heap) (r : R (D × Heap)) : R (D × Heap) := if b = true then r else .ok x
def iteV {γ : Type} (b : Bool) (r s : R γ) : R γ := if b = true then r else s
theorem c_andV {x y : Bool} {d : D × Heap} {r : R (D × Heap)} (e : x = y) : andV x d r = andV y d r := by rw [e]
theorem c_iteV {γ : Type} {x y : Bool} {r s : R γ} (e : x = y) : iteV x r s = iteV y r s := by rw [e]
@[simp] theorem z_andT (x : D × Heap) (r : R (D × Heap)) : andV true x r = r := (rfl)
@[simp] theorem z_andF (x : D × Heap) (r : R (D × Heap)) : andV false x r = .ok x := (rfl)
@[simp] theorem z_iteT {γ : Type} (r s : R γ) : iteV true r s = r := (rfl)
@[simp] theorem z_iteF {γ : Type} (r s : R γ) : iteV false r s = s := (rfl)
@[simp] theorem z_and (a b : CE) : ev c (.and a b) ρ h = (ev c a ρ h).bind fun x => ofO (truth x.1 x.2) fun t => andV t x (ev c b ρ x.2) := by
  rw [ev]
  congr 1; funext x; congr 1; funext t; cases t <;> rfl
@[simp] theorem z_not (a : CB) : ev c (.not a) ρ h = (tv c a ρ h).bind fun x => .ok (.bl (!x.1), x.2) := by rw [ev]
def negV : D × Heap → R (D × Heap)
  | (.int i, h) => .ok (.int (-i), h)
  | _ => .no
@[simp] theorem z_negV (i : Int) : negV (.int i, h) = .ok (.int (-i), h) := (rfl)
@[simp] theorem z_neg (a : CE) : ev c (.neg a) ρ h = (ev c a ρ h).bind negV := by
  rw [ev]
  congr 1; funext x; rcases x with ⟨x, h⟩; cases x <;> rfl
@[simp] theorem z_itE (t : CB) (a b : CE) : ev c (.ite t a b) ρ h = (tv c t ρ h).bind fun x => iteV x.1 (ev c a ρ x.2) (ev c b ρ x.2) := by
  rw [ev]
  congr 1; funext x; rcases x with ⟨x, h⟩; cases x <;> rfl
@[simp] theorem z_idx (a i : CE) : ev c (.idx a i) ρ h = (ev c a ρ h).bind fun x => (ev c i ρ x.2).bind fun y => idxV x.1 y.1 y.2 := by rw [ev]
@[simp] theorem z_slc (a : CE) (lo hi : CO) : ev c (.slc a lo hi) ρ h = (ev c a ρ h).bind fun x => (evO c lo ρ x.2).bind fun l => (evO c hi ρ l.2).bind fun u => slcV x.1 l.1 u.1 u.2 := by rw [ev]
@[simp] theorem z_tup (es : CEs) : ev c (.tup es) ρ h = (evs c es ρ h).bind fun x => chk (decide (x.1.length ≤ LIM)) (.ok (.tup x.1, x.2)) := by rw [ev]
@[simp] theorem z_new (l : CL) : ev c (.new l) ρ h = (evL c l ρ h).bind fun x => .ok (.ref x.2.length, x.2 ++ [.lst x.1]) := by rw [ev]
@[simp] theorem z_dct (ps : CPs) : ev c (.dct ps) ρ h = (evP c ps ρ h).bind fun x => (dbuild x.1 []).bind fun kvs => .ok (.ref x.2.length, x.2 ++ [.dct kvs]) := by rw [ev]
@[simp] theorem z_call (f : Nat) (as : CEs) : ev c (.call f as) ρ h = (evs c as ρ h).bind fun x => c.T f x.1 x.2 := by rw [ev]
@[simp] theorem z_bi (b : Bi) (as : CEs) : ev c (.bi b as) ρ h = (evs c as ρ h).bind fun x => biV b x.1 x.2 := by rw [ev]
@[simp] theorem z_sq (b : Sq) (s : CI) : ev c (.sq b s) ρ h = (evQ c s ρ h).bind fun x => sqV b x.1 x.2 := by rw [ev]
@[simp] theorem z_isin (e : CE) (t : Ty) : ev c (.isin e t) ρ h = (ev c e ρ h).bind fun x => ofO (isTy t x.1 x.2) fun b => .ok (.bl b, x.2) := by rw [ev]
@[simp] theorem z_app (l e : CE) : ev c (.app l e) ρ h = (ev c l ρ h).bind fun x => chk (isLst x.1 x.2) ((ev c e ρ x.2).bind fun y => appV x.1 y.1 y.2) := by rw [ev]
@[simp] theorem z_ext (l : CE) (s : CL) : ev c (.ext l s) ρ h = (ev c l ρ h).bind fun x => chk (isLst x.1 x.2) ((evL c s ρ x.2).bind fun y => extV x.1 y.1 y.2) := by rw [ev]
@[simp] theorem z_tval (e : CE) : tv c (.val e) ρ h = (ev c e ρ h).bind fun x => ofO (truth x.1 x.2) fun b => .ok (b, x.2) := by rw [tv]
@[simp] theorem z_tand (a b : CB) : tv c (.and a b) ρ h = (tv c a ρ h).bind fun x => iteV x.1 (tv c b ρ x.2) (.ok (false, x.2)) := by
  rw [tv]
  congr 1; funext x; rcases x with ⟨x, h⟩; cases x <;> rfl
@[simp] theorem z_tor (a b : CB) : tv c (.or a b) ρ h = (tv c a ρ h).bind fun x => iteV x.1 (.ok (true, x.2)) (tv c b ρ x.2) := by
  rw [tv]
  congr 1; funext x; rcases x with ⟨x, h⟩; cases x <;> rfl
@[simp] theorem z_tnot (a : CB) : tv c (.not a) ρ h = (tv c a ρ h).bind fun x => .ok (!x.1, x.2) := by rw [tv]
@[simp] theorem z_evO0 : evO c .none ρ h = .ok (none, h) := by rw [evO]
def evOV : D × Heap → R (Option Int × Heap)
  | (.int i, h) => .ok (some i, h)
  | _ => .no
@[simp] theorem z_evOV (i : Int) : evOV (.int i, h) = .ok (some i, h) := (rfl)
@[simp] theorem z_evO1 (e : CE) : evO c (.some e) ρ h = (ev c e ρ h).bind evOV := by
  rw [evO]
  congr 1; funext x; rcases x with ⟨x, h⟩; cases x <;> rfl
@[simp] theorem z_evs0 : evs c .nil ρ h = .ok ([], h) := by rw [evs]
@[simp] theorem z_evs1 (e : CE) (es : CEs) : evs c (.cons e es) ρ h = (ev c e ρ h).bind fun x => (evs c es ρ x.2).bind fun y => .ok (x.1 :: y.1, y.2) := by rw [evs]
@[simp] theorem z_evP0 : evP c .nil ρ h = .ok ([], h) := by rw [evP]
@[simp] theorem z_evP1 (k v : CE) (es : CPs) : evP c (.cons k v es) ρ h = (ev c k ρ h).bind fun x => (ev c v ρ x.2).bind fun y => (evP c es ρ y.2).bind fun z => .ok ((x.1, y.1) :: z.1, z.2) := by rw [evP]
@[simp] theorem z_disp (es : CEs) : evL c (.disp es) ρ h = (evs c es ρ h).bind fun x => chk (decide (x.1.length ≤ LIM)) (.ok x) := by rw [evL]
def repV (xs : List D) : D × Heap → R (List D × Heap)
  | (.int k, h) => chk (rngOk k && decide (xs.length * k.toNat ≤ LIM)) (.ok ((List.replicate k.toNat xs).flatten, h))
  | _ => .no
@[simp] theorem z_repV (xs : List D) (k : Int) : repV xs (.int k, h) = chk (rngOk k && decide (xs.length * k.toNat ≤ LIM)) (.ok ((List.replicate k.toNat xs).flatten, h)) := (rfl)
@[simp] theorem z_rep (es : CEs) (n : CE) : evL c (.rep es n) ρ h = (evs c es ρ h).bind fun x => chk (decide (x.1.length ≤ LIM)) ((ev c n ρ x.2).bind (repV x.1)) := by
  rw [evL]
  congr 1; funext x; congr 2; funext y; rcases y with ⟨y, h⟩; cases y <;> rfl
@[simp] theorem z_ival (e : CE) : evI c (.val e) ρ h = (ev c e ρ h).bind fun x => ofO (seqOf x.1 x.2) fun w => .ok (w, x.2) := by rw [evI]
@[simp] theorem z_itmp (e : CL) : evI c (.tmp e) ρ h = (evL c e ρ h).bind fun x => .ok ((x.1, []), x.2) := by rw [evI]
def rngV : D × Heap → R (Walk × Heap)
  | (.int j, h) => chk (rngOk j) (.ok ((rngD 0 j.toNat, []), h))
  | _ => .no
@[simp] theorem z_rngV (j : Int) : rngV (.int j, h) = chk (rngOk j) (.ok ((rngD 0 j.toNat, []), h)) := (rfl)
@[simp] theorem z_rng1 (a : CE) : evI c (.rng1 a) ρ h = (ev c a ρ h).bind rngV := by
  rw [evI]
  congr 1; funext x; rcases x with ⟨x, h⟩; cases x <;> rfl
def rngV2 : D → D × Heap → R (Walk × Heap)
  | .int i, (.int j, h) => chk (rngOk i && rngOk j) (.ok ((rngD i (j - i).toNat, []), h))
  | _, _ => .no
@[simp] theorem z_rngV2 (i j : Int) : rngV2 (.int i) (.int j, h) = chk (rngOk i && rngOk j) (.ok ((rngD i (j - i).toNat, []), h)) := (rfl)
@[simp] theorem z_rng2 (a b : CE) : evI c (.rng2 a b) ρ h = (ev c a ρ h).bind fun x => (ev c b ρ x.2).bind (rngV2 x.1) := by
  rw [evI]
  congr 1; funext x; congr 1; funext y; rcases x with ⟨x, h⟩; rcases y with ⟨y, h'⟩; cases x <;> cases y <;> rfl
@[simp] theorem z_enum (e : CE) : evI c (.enum e) ρ h = (ev c e ρ h).bind fun x => ofO (seqOf x.1 x.2) fun w => .ok ((enumD 0 w.1, w.2), x.2) := by rw [evI]
@[simp] theorem z_zip (a b : CE) : evI c (.zip a b) ρ h = (ev c a ρ h).bind fun x => (ev c b ρ x.2).bind fun y => ofO (seqOf x.1 y.2) fun w => ofO (seqOf y.1 y.2) fun w' => chk (decide (isTup x.1 = isTup y.1)) (.ok ((zipD w.1 w'.1, w.2 ++ w'.2), y.2)) := by rw [evI]
@[simp] theorem z_qval (e : CE) : evQ c (.val e) ρ h = (ev c e ρ h).bind fun x => ofO (seqOf x.1 x.2) fun w => .ok (w.1, x.2) := by rw [evQ]
@[simp] theorem z_qtmp (l : CL) : evQ c (.tmp l) ρ h = evL c l ρ h := by rw [evQ]
@[simp] theorem z_name (i : Nat) (d : D) : asg c (.name i) d ρ h = .ok (ρ.set i (some d), h) := by rw [asg]
@[simp] theorem z_ttup (ts : CTs) (ds : List D) : asg c (.tup ts) (.tup ds) ρ h = asgs c ts ds ρ h := by rw [asg]
@[simp] theorem z_tsub (o i : CE) (d : D) : asg c (.sub o i) d ρ h = (ev c o ρ h).bind fun x => (ev c i ρ x.2).bind fun y => (storeV x.1 y.1 d y.2).bind fun h => .ok (ρ, h) := by rw [asg]
@[simp] theorem z_asg0 : asgs c .nil [] ρ h = .ok (ρ, h) := by rw [asgs]
@[simp] theorem z_asg1 (t : CT) (ts : CTs) (d : D) (ds : List D) : asgs c (.cons t ts) (d :: ds) ρ h = (asg c t d ρ h).bind fun s => asgs c ts ds s.1 s.2 := by rw [asgs]
@[simp] theorem z_xasg (t : CT) (e : CE) : exec c (.asg t e) ρ h = (ev c e ρ h).bind fun x => (asg c t x.1 ρ x.2).bind fun s => .ok (.nx, s.1, s.2) := by rw [exec]
def augV (c : Ctx) (i : Nat) (op : BOp) (e : CE) (ρ : Env) (h : Heap) : Option (Option D) → R St
  | some (some d) => (ev c e ρ h).bind fun x => (opI op d x.1 x.2).bind fun y => .ok (.nx, ρ.set i (some y.1), y.2)
  | _ => .no
@[simp] theorem z_augV (i : Nat) (op : BOp) (e : CE) (d : D) : augV c i op e ρ h (some (some d)) = (ev c e ρ h).bind fun x => (opI op d x.1 x.2).bind fun y => .ok (.nx, ρ.set i (some y.1), y.2) := (rfl)
@[simp] theorem z_aug (i : Nat) (op : BOp) (e : CE) : exec c (.aug i op e) ρ h = augV c i op e ρ h ρ[i]? := by
  rw [exec]
  rfl
@[simp] theorem z_ex (e : CE) : exec c (.ex e) ρ h = (ev c e ρ h).bind fun x => .ok (.nx, ρ, x.2) := by rw [exec]
@[simp] theorem z_ret (e : CE) : exec c (.ret e) ρ h = (ev c e ρ h).bind fun x => .ok (.rt x.1, ρ, x.2) := by rw [exec]
@[simp] theorem z_retN : exec c .retN ρ h = .ok (.rt .non, ρ, h) := by rw [exec]
@[simp] theorem z_xite (t : CB) (a b : CSs) : exec c (.ite t a b) ρ h = (tv c t ρ h).bind fun x => iteV x.1 (execs c a ρ x.2) (execs c b ρ x.2) := by
  rw [exec]
  congr 1; funext x; rcases x with ⟨x, h⟩; cases x <;> rfl
@[simp] theorem z_xs0 : execs c .nil ρ h = .ok (.nx, ρ, h) := by rw [execs]
def nxV (c : Ctx) (r : CSs) : St → R St
  | (.nx, ρ, h) => execs c r ρ h
  | s => .ok s
@[simp] theorem z_nx (r : CSs) : nxV c r (.nx, ρ, h) = execs c r ρ h := (rfl)
@[simp] theorem z_nrt (r : CSs) (d : D) : nxV c r (.rt d, ρ, h) = .ok (.rt d, ρ, h) := (rfl)
@[simp] theorem z_nbk (r : CSs) : nxV c r (.bk, ρ, h) = .ok (.bk, ρ, h) := (rfl)
@[simp] theorem z_nct (r : CSs) : nxV c r (.ct, ρ, h) = .ok (.ct, ρ, h) := (rfl)
@[simp] theorem z_xs1 (s : CS) (r : CSs) : execs c (.cons s r) ρ h = (exec c s ρ h).bind (nxV c r) := by
  rw [execs]
  congr 1; funext x; rcases x with ⟨x, ρ, h⟩; cases x <;> rfl
@[simp] theorem z_finR (h0 : Heap) (d : D) : fin h0 (.rt d, ρ, h) = .ok (tidy h0 (d, h)) := (rfl)
@[simp] theorem z_finN (h0 : Heap) : fin h0 (.nx, ρ, h) = .ok (tidy h0 (.non, h)) := (rfl)
@[simp] theorem z_tidy (h : Heap) (d : D) : tidy h (d, h) = (d, h) := tidy_id h d
/-! ### operations -/
@[simp] theorem z_add (i j : Int) : opB .add (.int i) (.int j) h = .ok (.int (i + j), h) := (rfl)
@[simp] theorem z_sub (i j : Int) : opB .sub (.int i) (.int j) h = .ok (.int (i - j), h) := (rfl)
@[simp] theorem z_mul (i j : Int) : opB .mul (.int i) (.int j) h = chk (small i || small j) (.ok (.int (i * j), h)) := (rfl)
@[simp] theorem z_mod (i j : Int) : opB .mod (.int i) (.int j) h = chk (decide (0 < j)) (.ok (.int (i % j), h)) := (rfl)
@[simp] theorem z_fdiv (i j : Int) : opB .fdiv (.int i) (.int j) h = chk (decide (0 < j) && decide (j < 1073741824)) (.ok (.int (i / j), h)) := (rfl)
@[simp] theorem z_iadd (i j : Int) : opI .add (.int i) (.int j) h = .ok (.int (i + j), h) := (rfl)
@[simp] theorem z_isub (i j : Int) : opI .sub (.int i) (.int j) h = .ok (.int (i - j), h) := (rfl)
@[simp] theorem z_imul (i j : Int) : opI .mul (.int i) (.int j) h = chk (small i || small j) (.ok (.int (i * j), h)) := (rfl)
@[simp] theorem z_ceq (x y : D) : opC .eq x y h = ofO (eqs x y) fun b => .ok (.bl b, h) := (rfl)
@[simp] theorem z_cne (x y : D) : opC .ne x y h = ofO (eqs x y) fun b => .ok (.bl (!b), h) := (rfl)
@[simp] theorem z_clt (i j : Int) : opC .lt (.int i) (.int j) h = .ok (.bl (decide (i < j)), h) := (rfl)
@[simp] theorem z_cle (i j : Int) : opC .le (.int i) (.int j) h = .ok (.bl (decide (i ≤ j)), h) := (rfl)
@[simp] theorem z_cgt (i j : Int) : opC .gt (.int i) (.int j) h = .ok (.bl (decide (j < i)), h) := (rfl)
@[simp] theorem z_cge (i j : Int) : opC .ge (.int i) (.int j) h = .ok (.bl (decide (j ≤ i)), h) := (rfl)
@[simp] theorem z_cin (x y : D) : opC .isin x y h = inB false x y h := (rfl)
@[simp] theorem z_cnin (x y : D) : opC .notin x y h = inB true x y h := (rfl)
@[simp] theorem z_eqi (i j : Int) : eqs (.int i) (.int j) = some (decide (i = j)) := (rfl)
@[simp] theorem z_eqb (i j : Bool) : eqs (.bl i) (.bl j) = some (decide (i = j)) := (rfl)
@[simp] theorem z_eqs (i j : Str) : eqs (.str i) (.str j) = some (decide (i = j)) := (rfl)
@[simp] theorem z_tb (b : Bool) : truth (.bl b) h = some b := (rfl)
@[simp] theorem z_ti (i : Int) : truth (.int i) h = some (decide (i ≠ 0)) := (rfl)
@[simp] theorem z_ix (ds : List D) (i : Int) : idxV (.tup ds) (.int i) h = ofO (nth ds i) fun d => .ok (d, h) := (rfl)
@[simp] theorem z_ixs (ds : List D) (i : Int) : idxV (.seq ds) (.int i) h = ofO (nth ds i) fun d => .ok (d, h) := (rfl)
def ixV (h : Heap) : Option O → D → R (D × Heap)
  | some (.lst xs), .int i => ofO (nth xs i) fun d => .ok (d, h)
  | some (.dct kvs), i => ofO (keyOf i) fun k => ofO (findV kvs k) fun d => .ok (d, h)
  | _, _ => .no
@[simp] theorem z_ixV1 (xs : List D) (i : Int) : ixV h (some (.lst xs)) (.int i) = ofO (nth xs i) fun d => .ok (d, h) := (rfl)
@[simp] theorem z_ixV2 (kvs : List (Key × D)) (i : D) : ixV h (some (.dct kvs)) i = ofO (keyOf i) fun k => ofO (findV kvs k) fun d => .ok (d, h) := by cases i <;> rfl
@[simp] theorem z_ixr (n : Nat) (i : D) : idxV (.ref n) i h = ixV h h[n]? i := by
  cases e : h[n]? with
  | none => simp [idxV, ixV, e]
  | some o => cases o <;> cases i <;> simp [idxV, ixV, e]
def stV (h : Heap) (n : Nat) (v : D) : Option O → D → R Heap
  | some (.lst xs), .int i => ofO (nix xs.length i) fun j => .ok (h.set n (.lst (xs.set j v)))
  | some (.dct kvs), i => ofO (keyOf i) fun k => chk (decide (kvs.length < LIM)) (.ok (h.set n (.dct (putV kvs k v))))
  | _, _ => .no
@[simp] theorem z_stV1 (n : Nat) (v : D) (xs : List D) (i : Int) : stV h n v (some (.lst xs)) (.int i) = ofO (nix xs.length i) fun j => .ok (h.set n (.lst (xs.set j v))) := (rfl)
@[simp] theorem z_stV2 (n : Nat) (v : D) (kvs : List (Key × D)) (i : D) : stV h n v (some (.dct kvs)) i = ofO (keyOf i) fun k => chk (decide (kvs.length < LIM)) (.ok (h.set n (.dct (putV kvs k v)))) := by cases i <;> rfl
@[simp] theorem z_st (n : Nat) (i v : D) : storeV (.ref n) i v h = stV h n v h[n]? i := by
  cases e : h[n]? with
  | none => simp [storeV, stV, e]
  | some o => cases o <;> cases i <;> simp [storeV, stV, e]
@[simp] theorem z_biint (i : Int) : biV .int [.int i] h = .ok (.int i, h) := (rfl)
@[simp] theorem z_bibl (b : Bool) : biV .int [.bl b] h = .ok (.int (if b then 1 else 0), h) := (rfl)
@[simp] theorem z_bimin (i j : Int) : biV .min2 [.int i, .int j] h = .ok (.int (if j < i then j else i), h) := (rfl)
@[simp] theorem z_len (ds : List D) : sqV .len ds h = .ok (.int ds.length, h) := (rfl)
@[simp] theorem z_tuple (ds : List D) : sqV .tuple ds h = .ok (.tup ds, h) := (rfl)
@[simp] theorem z_sum (n : Nat) (f : Nat → Int) : sqV .sum (intz n f) h = .ok (.int (sm n f), h) := sum_ints n f h
@[simp] theorem z_seqt (ds : List D) : seqOf (.tup ds) h = some (ds, []) := (rfl)
@[simp] theorem z_seqs (ds : List D) : seqOf (.seq ds) h = some (ds, []) := (rfl)
def seV (n : Nat) : Option O → Option Walk
  | some (.lst xs) => some (xs, [(n, .lst xs)])
  | _ => none
@[simp] theorem z_seV (n : Nat) (xs : List D) : seV n (some (.lst xs)) = some (xs, [(n, .lst xs)]) := (rfl)
@[simp] theorem z_seqr (n : Nat) : seqOf (.ref n) h = seV n h[n]? := by
  unfold seqOf seV
  rfl
def ilV : Option O → Bool
  | some (.lst _) => true
  | _ => false
@[simp] theorem z_ilV (xs : List D) : ilV (some (.lst xs)) = true := (rfl)
@[simp] theorem z_isl (n : Nat) : isLst (.ref n) h = ilV h[n]? := (rfl)
def apV (h : Heap) (n : Nat) (v : D) : Option O → R (D × Heap)
  | some (.lst xs) => chk (decide (xs.length < LIM)) (.ok (.non, h.set n (.lst (xs ++ [v]))))
  | _ => .no
@[simp] theorem z_apV (n : Nat) (v : D) (xs : List D) : apV h n v (some (.lst xs)) = chk (decide (xs.length < LIM)) (.ok (.non, h.set n (.lst (xs ++ [v])))) := (rfl)
@[simp] theorem z_appV (n : Nat) (v : D) : appV (.ref n) v h = apV h n v h[n]? := (rfl)
def exV (h : Heap) (n : Nat) (vs : List D) : Option O → R (D × Heap)
  | some (.lst xs) => chk (decide (xs.length + vs.length ≤ LIM)) (.ok (.non, h.set n (.lst (xs ++ vs))))
  | _ => .no
@[simp] theorem z_exV (n : Nat) (vs : List D) (xs : List D) : exV h n vs (some (.lst xs)) = chk (decide (xs.length + vs.length ≤ LIM)) (.ok (.non, h.set n (.lst (xs ++ vs)))) := (rfl)
@[simp] theorem z_extV (n : Nat) (vs : List D) : extV (.ref n) vs h = exV h n vs h[n]? := (rfl)
@[simp] theorem z_wipe0 : wipeE ρ [] = ρ := (rfl)
@[simp] theorem z_wipe1 (v : Nat) (vs : List Nat) : wipeE ρ (v :: vs) = (wipeE ρ vs).set v none := (rfl)
@[simp] theorem z_sl1 (i : Nat) : CT.slots (.name i) = [i] := by rw [CT.slots]
@[simp] theorem z_sl2 (ts : CTs) : CT.slots (.tup ts) = ts.slots := by rw [CT.slots]
@[simp] theorem z_sl3 : CTs.slots .nil = [] := by rw [CTs.slots]
@[simp] theorem z_sl4 (t : CT) (ts : CTs) : CTs.slots (.cons t ts) = t.slots ++ ts.slots := by rw [CTs.slots]
@[simp] theorem z_hap (l : Heap) (k : Nat) : (h ++ l)[h.length + k]? = l[k]? := get_app h l k
@[simp] theorem z_hap0 (l : Heap) : (h ++ l)[h.length]? = l[0]? := get_app0 h l
@[simp] theorem z_hst (l : Heap) (k : Nat) (o : O) : (h ++ l).set (h.length + k) o = h ++ l.set k o := set_app h l k o
@[simp] theorem z_hst0 (l : Heap) (o : O) : (h ++ l).set h.length o = h ++ l.set 0 o := set_app0 h l o
@[simp] theorem z_nlen (n : Nat) (f : Nat → Int) : (intz n f).length = n := ints_len n f
@[simp] theorem z_trow (g : Heap) (n : Nat) (f : Nat → Int) : tidy h (.tup (intz n f), h ++ g) = (.tup (intz n f), h) := tidy_app h g _ (low_row _ n f)
@[simp] theorem z_tint (g : Heap) (i : Int) : tidy h (.int i, h ++ g) = (.int i, h) := tidy_app h g _ rfl
@[simp] theorem z_tbool (g : Heap) (i : Bool) : tidy h (.bl i, h ++ g) = (.bl i, h) := tidy_app h g _ rfl
end
/-- a row's item at x, counted around -/
def cy (n : Nat) (f : Nat → Int) (x : Int) : Int := f (x % n).toNat
theorem z_cy {n : Nat} (hn : 0 < n) (f : Nat → Int) (x : Int) : nth (intz n f) (x % (n : Int)) = some (.int (cy n f x)) := by
  have h0 : 0 ≤ x % (n : Int) := Int.emod_nonneg _ (by omega)
  have h1 : x % (n : Int) < n := Int.emod_lt_of_pos _ (by omega)
  exact ints_nth h0 h1
theorem rok {n : Nat} (h : n < 1000000) : rngOk (n : Int) = true := by
  unfold rngOk
  rw [decide_eq_true (by omega), decide_eq_true (by omega)]
  rfl
/-! ### comprehensions -/
theorem comp_rng {c : Ctx} {ρ : Env} {h : Heap} {e : CE} {i : Nat} {it : CI} (n : Nat) (G : Nat → D) (hit : evI c it ρ h = .ok ((rngD 0 n, []), h)) (hn : n < LIM)
    (hf : ∀ j, j < n → ev c e ((ρ.set i none).set i (some (.int (j : Nat)))) h = .ok (G j, h)) :
    evL c (.comp e (.name i) it .none) ρ h = .ok ((List.range n).map G, h) := by
  rw [evL, hit]
  show chk (decide ((rngD 0 n).length < LIM)) _ = _
  rw [rngD_len, decide_eq_true hn]
  refine lc_rng n G (fun j hj => ?_)
  simp only [asg, CT.slots, wipeE, R.bind, tvO, hf j hj]
theorem comp_items {c : Ctx} {ρ : Env} {h : Heap} {e : CE} {i : Nat} {it : CI} (xs : List D) (G : Nat → D) (hit : evI c it ρ h = .ok ((xs, []), h)) (hn : xs.length < LIM)
    (hf : ∀ j x, xs[j]? = some x → ev c e ((ρ.set i none).set i (some x)) h = .ok (G j, h)) :
    evL c (.comp e (.name i) it .none) ρ h = .ok ((List.range xs.length).map G, h) := by
  rw [evL, hit]
  show chk (decide (xs.length < LIM)) _ = _
  rw [decide_eq_true hn]
  refine lc_items xs G (fun j x hj => ?_)
  simp only [asg, CT.slots, wipeE, R.bind, tvO, hf j x hj]
theorem zipI_get : ∀ {n : Nat} {f g : Nat → Int} {j : Nat} {x : D}, (zipD (intz n f) (intz n g))[j]? = some x → j < n ∧ x = .tup [.int (f j), .int (g j)] := by
  have key : ∀ (l : List Nat) (f g : Nat → Int), zipD (l.map fun i => D.int (f i)) (l.map fun i => D.int (g i)) = l.map fun i => D.tup [.int (f i), .int (g i)] := by
    intro l f g
    induction l with
    | nil => rfl
    | cons a l ih => simp only [List.map_cons, zipD, ih]
  intro n f g j x h
  unfold intz at h
  rw [key, List.getElem?_map] at h
  by_cases hi : j < n
  · simp [hi] at h
    exact ⟨hi, h.symm⟩
  · simp [hi] at h
theorem zipI_len (n : Nat) (f g : Nat → Int) : (zipD (intz n f) (intz n g)).length = n := by
  have key : ∀ (l : List Nat) (f g : Nat → Int), zipD (l.map fun i => D.int (f i)) (l.map fun i => D.int (g i)) = l.map fun i => D.tup [.int (f i), .int (g i)] := by
    intro l f g
    induction l with
    | nil => rfl
    | cons a l ih => simp only [List.map_cons, zipD, ih]
  unfold intz
  rw [key]
  simp
theorem enumI_get {n : Nat} {f : Nat → Int} {j : Nat} {x : D} (h : (enumD 0 (intz n f))[j]? = some x) : j < n ∧ x = .tup [.int (j : Nat), .int (f j)] := by
  have key : ∀ (l : List D) (k j : Nat), (enumD k l)[j]? = (l[j]?).map fun d => D.tup [.int ((k + j : Nat) : Int), d] := by
    intro l
    induction l with
    | nil => intro k j; simp [enumD]
    | cons a l ih =>
      intro k j
      cases j with
      | zero => simp [enumD]
      | succ j =>
        simp only [enumD, List.getElem?_cons_succ, ih]
        rw [show k + 1 + j = k + (j + 1) by omega]
  rw [key] at h
  by_cases hi : j < n
  · rw [ints_get hi] at h
    simp at h
    exact ⟨hi, by rw [← h]⟩
  · have : (intz n f)[j]? = none := by simp [intz]; omega
    rw [this] at h
    simp at h
theorem enumD_len (l : List D) (k : Nat) : (enumD k l).length = l.length := by
  induction l generalizing k with
  | nil => rfl
  | cons a l ih => simp [enumD, ih]
theorem comp_ints {c : Ctx} {ρ : Env} {h : Heap} {e : CE} {i : Nat} {it : CI} (n : Nat) (g : Nat → Int) (hit : evI c it ρ h = .ok ((rngD 0 n, []), h)) (hn : n < LIM)
    (hf : ∀ j, j < n → ev c e ((ρ.set i none).set i (some (.int (j : Nat)))) h = .ok (.int (g j), h)) :
    evL c (.comp e (.name i) it .none) ρ h = .ok (intz n g, h) := comp_rng n (fun j => .int (g j)) hit hn hf
theorem comp_row {c : Ctx} {ρ : Env} {h : Heap} {e : CE} {i : Nat} {it : CI} (n : Nat) (f g : Nat → Int) (hit : evI c it ρ h = .ok ((intz n f, []), h)) (hn : n < LIM)
    (hf : ∀ j, j < n → ev c e ((ρ.set i none).set i (some (.int (f j)))) h = .ok (.int (g j), h)) :
    evL c (.comp e (.name i) it .none) ρ h = .ok (intz n g, h) := by
  rw [comp_items (intz n f) (fun j => .int (g j)) hit (by rwa [ints_len]) (fun j x hx => by
    obtain ⟨h1, rfl⟩ := ints_some hx
    exact hf j h1), ints_len]
  rfl
theorem comp_pair {c : Ctx} {ρ : Env} {h : Heap} {e : CE} {t : CT} {it : CI} (xs : List D) (G : Nat → D) (hit : evI c it ρ h = .ok ((xs, []), h)) (hn : xs.length < LIM)
    (hf : ∀ j x, xs[j]? = some x → ((asg c t x (wipeE ρ t.slots) h).bind fun s => (ev c e s.1 s.2).bind fun y => .ok (some y.1, y.2)) = .ok (some (G j), h)) :
    evL c (.comp e t it .none) ρ h = .ok ((List.range xs.length).map G, h) := by
  rw [evL, hit]
  show chk (decide (xs.length < LIM)) _ = _
  rw [decide_eq_true hn]
  refine lc_items xs G (fun j x hj => ?_)
  rw [← hf j x hj]
  simp only [tvO, R.bind]
theorem comp_zip {c : Ctx} {ρ : Env} {h : Heap} {e : CE} {t : CT} {it : CI} (n : Nat) (f f' g : Nat → Int) (hit : evI c it ρ h = .ok ((zipD (intz n f) (intz n f'), []), h)) (hn : n < LIM)
    (hf : ∀ j, j < n → ((asg c t (.tup [.int (f j), .int (f' j)]) (wipeE ρ t.slots) h).bind fun s => (ev c e s.1 s.2).bind fun y => .ok (some y.1, y.2)) = .ok (some (.int (g j)), h)) :
    evL c (.comp e t it .none) ρ h = .ok (intz n g, h) := by
  rw [comp_pair (zipD (intz n f) (intz n f')) (fun j => .int (g j)) hit (by rwa [zipI_len]) (fun j x hx => by
    obtain ⟨h1, rfl⟩ := zipI_get hx
    exact hf j h1), zipI_len]
  rfl
theorem comp_enum {c : Ctx} {ρ : Env} {h : Heap} {e : CE} {t : CT} {it : CI} (n : Nat) (f g : Nat → Int) (hit : evI c it ρ h = .ok ((enumD 0 (intz n f), []), h)) (hn : n < LIM)
    (hf : ∀ j : Nat, j < n → ((asg c t (.tup [.int j, .int (f j)]) (wipeE ρ t.slots) h).bind fun s => (ev c e s.1 s.2).bind fun y => .ok (some y.1, y.2)) = .ok (some (.int (g j)), h)) :
    evL c (.comp e t it .none) ρ h = .ok (intz n g, h) := by
  rw [comp_pair (enumD 0 (intz n f)) (fun j => .int (g j)) hit (by rwa [enumD_len, ints_len]) (fun j x hx => by
    obtain ⟨h1, rfl⟩ := enumI_get hx
    exact hf j h1), enumD_len, ints_len]
  rfl
/-! ### statements -/
theorem loop_rng {c : Ctx} {ρ : Env} {h h1 : Heap} {t : CT} {it : CI} {b : CSs} (n : Nat) (hit : evI c it ρ h = .ok ((rngD 0 n, []), h1)) (Inv : Nat → Env → Heap → Prop) (h0 : Inv 0 ρ h1)
    (hf : ∀ (i : Nat) ρ h, i < n → Inv i ρ h → ∃ ρ' h', ((asg c t (.int i) ρ h).bind fun s => execs c b s.1 s.2) = .ok (.nx, ρ', h') ∧ Inv (i + 1) ρ' h') :
    ∃ ρ' h', exec c (.loop t it b) ρ h = .ok (.nx, ρ', h') ∧ Inv n ρ' h' := by
  rw [exec, hit]
  exact for_rng n Inv h0 hf
theorem loop_items {c : Ctx} {ρ : Env} {h h1 : Heap} {t : CT} {it : CI} {b : CSs} (xs : List D) (hit : evI c it ρ h = .ok ((xs, []), h1)) (Inv : Nat → Env → Heap → Prop) (h0 : Inv 0 ρ h1)
    (hf : ∀ (i : Nat) (x : D) ρ h, xs[i]? = some x → Inv i ρ h → ∃ ρ' h', ((asg c t x ρ h).bind fun s => execs c b s.1 s.2) = .ok (.nx, ρ', h') ∧ Inv (i + 1) ρ' h') :
    ∃ ρ' h', exec c (.loop t it b) ρ h = .ok (.nx, ρ', h') ∧ Inv xs.length ρ' h' := by
  rw [exec, hit]
  exact for_items xs Inv h0 hf
theorem while_run {c : Ctx} {ρ : Env} {h : Heap} {t : CB} {b : CSs} (Inv : Nat → Env → Heap → Prop) (Q : Env → Heap → Prop) (m : Nat) (hm : m < FUEL) (h0 : Inv m ρ h)
    (step : ∀ m ρ h, Inv m ρ h → (tv c t ρ h = .ok (false, h) ∧ Q ρ h) ∨ (tv c t ρ h = .ok (true, h) ∧ ∃ m' ρ' h', m' < m ∧ execs c b ρ h = .ok (.nx, ρ', h') ∧ Inv m' ρ' h')) :
    ∃ ρ' h', exec c (.wh t b) ρ h = .ok (.nx, ρ', h') ∧ Q ρ' h' := by
  rw [exec]
  exact whL_run Inv Q step FUEL m ρ h h0 hm
theorem go_rng {β : Type} {P : R β → Prop} {F : St → R β} {c : Ctx} {ρ : Env} {h h1 : Heap} {t : CT} {it : CI} {b : CSs} (n : Nat) (Inv : Nat → Env → Heap → Prop) (hit : evI c it ρ h = .ok ((rngD 0 n, []), h1)) (h0 : Inv 0 ρ h1)
    (hf : ∀ (i : Nat) ρ h, i < n → Inv i ρ h → ∃ ρ' h', ((asg c t (.int i) ρ h).bind fun s => execs c b s.1 s.2) = .ok (.nx, ρ', h') ∧ Inv (i + 1) ρ' h')
    (next : ∀ ρ' h', Inv n ρ' h' → P (F (.nx, ρ', h'))) : P ((exec c (.loop t it b) ρ h).bind F) := by
  obtain ⟨ρ', h', e, q⟩ := loop_rng (b := b) (t := t) n hit Inv h0 hf
  rw [e]
  exact next ρ' h' q
theorem go_items {β : Type} {P : R β → Prop} {F : St → R β} {c : Ctx} {ρ : Env} {h h1 : Heap} {t : CT} {it : CI} {b : CSs} (xs : List D) (Inv : Nat → Env → Heap → Prop) (hit : evI c it ρ h = .ok ((xs, []), h1)) (h0 : Inv 0 ρ h1)
    (hf : ∀ (i : Nat) (x : D) ρ h, xs[i]? = some x → Inv i ρ h → ∃ ρ' h', ((asg c t x ρ h).bind fun s => execs c b s.1 s.2) = .ok (.nx, ρ', h') ∧ Inv (i + 1) ρ' h')
    (next : ∀ ρ' h', Inv xs.length ρ' h' → P (F (.nx, ρ', h'))) : P ((exec c (.loop t it b) ρ h).bind F) := by
  obtain ⟨ρ', h', e, q⟩ := loop_items (b := b) (t := t) xs hit Inv h0 hf
  rw [e]
  exact next ρ' h' q
theorem go_while {β : Type} {P : R β → Prop} {F : St → R β} {c : Ctx} {ρ : Env} {h : Heap} {t : CB} {b : CSs} (m : Nat) (Inv : Nat → Env → Heap → Prop) (Q : Env → Heap → Prop) (hm : m < FUEL) (h0 : Inv m ρ h)
    (step : ∀ m ρ h, Inv m ρ h → (tv c t ρ h = .ok (false, h) ∧ Q ρ h) ∨ (tv c t ρ h = .ok (true, h) ∧ ∃ m' ρ' h', m' < m ∧ execs c b ρ h = .ok (.nx, ρ', h') ∧ Inv m' ρ' h'))
    (next : ∀ ρ' h', Q ρ' h' → P (F (.nx, ρ', h'))) : P ((exec c (.wh t b) ρ h).bind F) := by
  obtain ⟨ρ', h', e, q⟩ := while_run (t := t) (b := b) Inv Q m hm h0 step
  rw [e]
  exact next ρ' h' q
theorem go_rngE {β : Type} {X : R β} {F : St → R β} {c : Ctx} {ρ : Env} {h h1 : Heap} {t : CT} {it : CI} {b : CSs} (n : Nat) (Inv : Nat → Env → Heap → Prop) (hit : evI c it ρ h = .ok ((rngD 0 n, []), h1)) (h0 : Inv 0 ρ h1)
    (hf : ∀ (i : Nat) ρ h, i < n → Inv i ρ h → ∃ ρ' h', ((asg c t (.int i) ρ h).bind fun s => execs c b s.1 s.2) = .ok (.nx, ρ', h') ∧ Inv (i + 1) ρ' h')
    (next : ∀ ρ' h', Inv n ρ' h' → F (.nx, ρ', h') = X) : (exec c (.loop t it b) ρ h).bind F = X := go_rng (P := fun r => r = X) n Inv hit h0 hf next
theorem go_itemsE {β : Type} {X : R β} {F : St → R β} {c : Ctx} {ρ : Env} {h h1 : Heap} {t : CT} {it : CI} {b : CSs} (xs : List D) (Inv : Nat → Env → Heap → Prop) (hit : evI c it ρ h = .ok ((xs, []), h1)) (h0 : Inv 0 ρ h1)
    (hf : ∀ (i : Nat) (x : D) ρ h, xs[i]? = some x → Inv i ρ h → ∃ ρ' h', ((asg c t x ρ h).bind fun s => execs c b s.1 s.2) = .ok (.nx, ρ', h') ∧ Inv (i + 1) ρ' h')
    (next : ∀ ρ' h', Inv xs.length ρ' h' → F (.nx, ρ', h') = X) : (exec c (.loop t it b) ρ h).bind F = X := go_items (P := fun r => r = X) xs Inv hit h0 hf next
theorem go_whileE {β : Type} {X : R β} {F : St → R β} {c : Ctx} {ρ : Env} {h : Heap} {t : CB} {b : CSs} (m : Nat) (Inv : Nat → Env → Heap → Prop) (Q : Env → Heap → Prop) (hm : m < FUEL) (h0 : Inv m ρ h)
    (step : ∀ m ρ h, Inv m ρ h → (tv c t ρ h = .ok (false, h) ∧ Q ρ h) ∨ (tv c t ρ h = .ok (true, h) ∧ ∃ m' ρ' h', m' < m ∧ execs c b ρ h = .ok (.nx, ρ', h') ∧ Inv m' ρ' h'))
    (next : ∀ ρ' h', Q ρ' h' → F (.nx, ρ', h') = X) : (exec c (.wh t b) ρ h).bind F = X := go_while (P := fun r => r = X) m Inv Q hm h0 step next
theorem xs_nx {c : Ctx} {s : CS} {r : CSs} {ρ ρ' : Env} {h h' : Heap} (e : exec c s ρ h = .ok (.nx, ρ', h')) : execs c (.cons s r) ρ h = execs c r ρ' h' := by
  rw [z_xs1, e]
  rfl
end Tw
end

section
set_option Elab.async false
set_option linter.all false
set_option maxRecDepth 100000
set_option maxHeartbeats 4000000
namespace K89
open Tw
open PySem (Str)
def N : Nat := 45
abbrev f_power_of : Nat := 0
abbrev f_inverse_of : Nat := 1
abbrev f_root_row : Nat := 2
abbrev f_added : Nat := 3
abbrev f_lessened : Nat := 4
abbrev f_scaled : Nat := 5
abbrev f_multiplied : Nat := 6
abbrev f_shifted : Nat := 7
abbrev f_mirrored : Nat := 8
abbrev f_stretched : Nat := 9
abbrev f_kept : Nat := 10
abbrev f_sloped : Nat := 11
abbrev f_done : Nat := 12
abbrev f_is_form : Nat := 13
abbrev f_values_of : Nat := 14
abbrev f_coefficients_of : Nat := 15
abbrev f_turned_over : Nat := 16
abbrev f_in_form : Nat := 17
abbrev f_root_sum : Nat := 18
abbrev f_moment : Nat := 19
abbrev f_energy : Nat := 20
abbrev f_energy_of_values : Nat := 21
abbrev f_energies_agree : Nat := 22
abbrev f_middle_value : Nat := 23
abbrev f_folded_half : Nat := 24
abbrev f_window_sums : Nat := 25
abbrev f_window_by_product : Nat := 26
abbrev f_running_sums : Nat := 27
abbrev f_step_row : Nat := 28
abbrev f_named_deeds : Nat := 29
abbrev f_extra_of : Nat := 30
abbrev f_coefficients_along : Nat := 31
abbrev f_answers_of : Nat := 32
abbrev f_law_pond : Nat := 33
abbrev f_law_fish : Nat := 34
abbrev f_law_equal : Nat := 35
abbrev f_law_some_field : Nat := 36
abbrev f_law_some_row : Nat := 37
abbrev f_law_root_power : Nat := 38
abbrev f_law_values : Nat := 39
abbrev f_law_sums_asked : Nat := 40
abbrev f_law_rows_asked : Nat := 41
abbrev f_law_program_asked : Nat := 42
abbrev f_law_hand : Nat := 43
abbrev f_law : Nat := 44
def b_power_of : CSs := (.cons (.asg (.name 3) (.bin .mod (.bi .int (.cons (.int 1) .nil)) (.var 0))) (.cons (.asg (.name 4) (.bin .mod (.bi .int (.cons (.var 1) .nil)) (.var 0))) (.cons (.asg (.name 5) (.var 2)) (.cons (.wh (.val (.cmp .gt (.var 5) (.int 0))) (.cons (.ite (.val (.cmp .eq (.bin .mod (.bi .int (.cons (.var 5) .nil)) (.int 2)) (.int 1))) (.cons (.asg (.name 3) (.bin .mod (.bi .int (.cons (.bin .mul (.var 3) (.var 4)) .nil)) (.var 0))) .nil) .nil) (.cons (.asg (.name 4) (.bin .mod (.bi .int (.cons (.bin .mul (.var 4) (.var 4)) .nil)) (.var 0))) (.cons (.asg (.name 5) (.bin .fdiv (.var 5) (.int 2))) .nil)))) (.cons (.ret (.var 3)) .nil)))))
def c_power_of : Fn := ⟨"power_of", ["p", "residue", "times"], ["p", "residue", "times", "told", "square", "left"], b_power_of⟩
def b_inverse_of : CSs := (.cons (.ite (.val (.cmp .eq (.bin .mod (.bi .int (.cons (.var 1) .nil)) (.var 0)) (.int 0))) (.cons .raise .nil) .nil) (.cons (.ret (.call f_power_of (.cons (.var 0) (.cons (.var 1) (.cons (.bin .sub (.var 0) (.int 2)) .nil))))) .nil))
def c_inverse_of : Fn := ⟨"inverse_of", ["p", "residue"], ["p", "residue"], b_inverse_of⟩
def b_root_row : CSs := (.cons (.asg (.tup (.cons (.name 2) (.cons (.name 3) (.cons (.name 4) .nil)))) (.var 0)) (.cons (.asg (.name 1) (.new (.disp (.cons (.bin .mod (.bi .int (.cons (.int 1) .nil)) (.var 2)) .nil)))) (.cons (.wh (.val (.cmp .lt (.sq .len (.val (.var 1))) (.var 3))) (.cons (.ex (.app (.var 1) (.bin .mod (.bi .int (.cons (.bin .mul (.idx (.var 1) (.neg (.int 1))) (.var 4)) .nil)) (.var 2)))) .nil)) (.cons (.ret (.sq .tuple (.val (.var 1)))) .nil))))
def c_root_row : Fn := ⟨"root_row", ["field"], ["field", "told", "p", "n", "w"], b_root_row⟩
def b_added : CSs := (.cons (.ret (.sq .tuple (.tmp (.comp (.bin .mod (.bi .int (.cons (.bin .add (.var 3) (.var 4)) .nil)) (.idx (.var 0) (.int 0))) (.tup (.cons (.name 3) (.cons (.name 4) .nil))) (.zip (.var 1) (.var 2)) .none)))) .nil)
def c_added : Fn := ⟨"added", ["field", "one", "other"], ["field", "one", "other", "first", "second"], b_added⟩
def b_lessened : CSs := (.cons (.ret (.sq .tuple (.tmp (.comp (.bin .mod (.bi .int (.cons (.bin .sub (.var 3) (.var 4)) .nil)) (.idx (.var 0) (.int 0))) (.tup (.cons (.name 3) (.cons (.name 4) .nil))) (.zip (.var 1) (.var 2)) .none)))) .nil)
def c_lessened : Fn := ⟨"lessened", ["field", "one", "other"], ["field", "one", "other", "first", "second"], b_lessened⟩
def b_scaled : CSs := (.cons (.ret (.sq .tuple (.tmp (.comp (.bin .mod (.bi .int (.cons (.bin .mul (.var 3) (.var 2)) .nil)) (.idx (.var 0) (.int 0))) (.name 3) (.val (.var 1)) .none)))) .nil)
def c_scaled : Fn := ⟨"scaled", ["field", "row", "residue"], ["field", "row", "residue", "part"], b_scaled⟩
def b_multiplied : CSs := (.cons (.asg (.tup (.cons (.name 5) (.cons (.name 6) (.cons (.name 7) .nil)))) (.var 0)) (.cons (.ite (.val (.cmp .eq (.var 1) (.str "V"))) (.cons (.ret (.sq .tuple (.tmp (.comp (.bin .mod (.bi .int (.cons (.bin .mul (.var 9) (.var 11)) .nil)) (.var 5)) (.tup (.cons (.name 9) (.cons (.name 11) .nil))) (.zip (.var 2) (.var 3)) .none)))) .nil) .nil) (.cons (.asg (.name 4) (.new (.rep (.cons (.int 0) .nil) (.var 6)))) (.cons (.loop (.tup (.cons (.name 8) (.cons (.name 9) .nil))) (.enum (.var 2)) (.cons (.loop (.tup (.cons (.name 10) (.cons (.name 11) .nil))) (.enum (.var 3)) (.cons (.asg (.name 12) (.bin .mod (.bi .int (.cons (.bin .add (.var 8) (.var 10)) .nil)) (.var 6))) (.cons (.asg (.sub (.var 4) (.var 12)) (.bin .mod (.bi .int (.cons (.bin .add (.idx (.var 4) (.var 12)) (.bin .mul (.var 9) (.var 11))) .nil)) (.var 5))) .nil))) .nil)) (.cons (.ret (.sq .tuple (.val (.var 4)))) .nil)))))
def c_multiplied : Fn := ⟨"multiplied", ["field", "form", "one", "other"], ["field", "form", "one", "other", "told", "p", "n", "_", "i", "first", "j", "second", "at"], b_multiplied⟩
def b_shifted : CSs := (.cons (.asg (.tup (.cons (.name 5) (.cons (.name 6) (.cons (.name 7) .nil)))) (.var 0)) (.cons (.ite (.val (.cmp .eq (.var 1) (.str "C"))) (.cons (.ret (.sq .tuple (.tmp (.comp (.idx (.var 2) (.bin .mod (.bi .int (.cons (.bin .sub (.var 9) (.var 3)) .nil)) (.var 6))) (.name 9) (.rng1 (.var 6)) .none)))) .nil) .nil) (.cons (.asg (.name 4) (.call f_root_row (.cons (.var 0) .nil))) (.cons (.ret (.sq .tuple (.tmp (.comp (.bin .mod (.bi .int (.cons (.bin .mul (.idx (.var 2) (.var 8)) (.idx (.var 4) (.bin .mod (.bi .int (.cons (.bin .mul (.var 8) (.var 3)) .nil)) (.var 6)))) .nil)) (.var 5)) (.name 8) (.rng1 (.var 6)) .none)))) .nil))))
def c_shifted : Fn := ⟨"shifted", ["field", "form", "row", "k"], ["field", "form", "row", "k", "roots", "p", "n", "_", "j", "at"], b_shifted⟩
def b_mirrored : CSs := (.cons (.asg (.name 2) (.idx (.var 0) (.int 1))) (.cons (.ret (.sq .tuple (.tmp (.comp (.idx (.var 1) (.bin .mod (.bi .int (.cons (.bin .sub (.int 0) (.var 3)) .nil)) (.var 2))) (.name 3) (.rng1 (.var 2)) .none)))) .nil))
def c_mirrored : Fn := ⟨"mirrored", ["field", "row"], ["field", "row", "n", "at"], b_mirrored⟩
def b_stretched : CSs := (.cons (.asg (.name 4) (.idx (.var 0) (.int 1))) (.cons (.asg (.name 5) (.new (.rep (.cons (.int 0) .nil) (.var 4)))) (.cons (.loop (.name 6) (.rng1 (.var 4)) (.cons (.ite (.val (.cmp .eq (.var 1) (.str "C"))) (.cons (.asg (.sub (.var 5) (.bin .mod (.bi .int (.cons (.bin .mul (.var 6) (.var 3)) .nil)) (.var 4))) (.idx (.var 2) (.var 6))) .nil) (.cons (.asg (.sub (.var 5) (.var 6)) (.idx (.var 2) (.bin .mod (.bi .int (.cons (.bin .mul (.var 6) (.var 3)) .nil)) (.var 4)))) .nil)) .nil)) (.cons (.ret (.sq .tuple (.val (.var 5)))) .nil))))
def c_stretched : Fn := ⟨"stretched", ["field", "form", "row", "k"], ["field", "form", "row", "k", "n", "told", "at"], b_stretched⟩
def b_kept : CSs := (.cons (.ret (.sq .tuple (.tmp (.comp (.ite (.val (.cmp .isin (.var 3) (.var 2))) (.idx (.var 1) (.var 3)) (.int 0)) (.name 3) (.rng1 (.idx (.var 0) (.int 1))) .none)))) .nil)
def c_kept : Fn := ⟨"kept", ["field", "row", "places"], ["field", "row", "places", "at"], b_kept⟩
def b_sloped : CSs := (.cons (.ret (.sq .tuple (.tmp (.comp (.bin .mod (.bi .int (.cons (.bin .mul (.var 2) (.var 3)) .nil)) (.idx (.var 0) (.int 0))) (.tup (.cons (.name 2) (.cons (.name 3) .nil))) (.enum (.var 1)) .none)))) .nil)
def c_sloped : Fn := ⟨"sloped", ["field", "row"], ["field", "row", "at", "part"], b_sloped⟩
def b_done : CSs := (.cons (.ite (.val (.cmp .eq (.var 2) (.str "add"))) (.cons (.ret (.call f_added (.cons (.var 0) (.cons (.idx (.var 3) (.int 0)) (.cons (.idx (.var 3) (.int 1)) .nil))))) .nil) .nil) (.cons (.ite (.val (.cmp .eq (.var 2) (.str "less"))) (.cons (.ret (.call f_lessened (.cons (.var 0) (.cons (.idx (.var 3) (.int 0)) (.cons (.idx (.var 3) (.int 1)) .nil))))) .nil) .nil) (.cons (.ite (.val (.cmp .eq (.var 2) (.str "times"))) (.cons (.ret (.call f_multiplied (.cons (.var 0) (.cons (.var 1) (.cons (.idx (.var 3) (.int 0)) (.cons (.idx (.var 3) (.int 1)) .nil)))))) .nil) .nil) (.cons (.ite (.val (.cmp .eq (.var 2) (.str "scale"))) (.cons (.ret (.call f_scaled (.cons (.var 0) (.cons (.idx (.var 3) (.int 0)) (.cons (.var 4) .nil))))) .nil) .nil) (.cons (.ite (.val (.cmp .eq (.var 2) (.str "shift"))) (.cons (.ret (.call f_shifted (.cons (.var 0) (.cons (.var 1) (.cons (.idx (.var 3) (.int 0)) (.cons (.var 4) .nil)))))) .nil) .nil) (.cons (.ite (.val (.cmp .eq (.var 2) (.str "mirror"))) (.cons (.ret (.call f_mirrored (.cons (.var 0) (.cons (.idx (.var 3) (.int 0)) .nil)))) .nil) .nil) (.cons (.ite (.val (.cmp .eq (.var 2) (.str "stretch"))) (.cons (.ret (.call f_stretched (.cons (.var 0) (.cons (.var 1) (.cons (.idx (.var 3) (.int 0)) (.cons (.var 4) .nil)))))) .nil) .nil) (.cons (.ite (.or (.and (.val (.cmp .eq (.var 2) (.str "keep"))) (.val (.cmp .eq (.var 1) (.str "C")))) (.and (.val (.cmp .eq (.var 2) (.str "hold"))) (.val (.cmp .eq (.var 1) (.str "V"))))) (.cons (.ret (.call f_kept (.cons (.var 0) (.cons (.idx (.var 3) (.int 0)) (.cons (.var 4) .nil))))) .nil) .nil) (.cons (.ite (.and (.val (.cmp .eq (.var 2) (.str "slope"))) (.val (.cmp .eq (.var 1) (.str "C")))) (.cons (.ret (.call f_sloped (.cons (.var 0) (.cons (.idx (.var 3) (.int 0)) .nil)))) .nil) .nil) (.cons .raise .nil))))))))))
def c_done : Fn := ⟨"done", ["field", "form", "word", "rows", "extra"], ["field", "form", "word", "rows", "extra"], b_done⟩
def b_is_form : CSs := (.cons (.ret (.and (.isin (.var 0) .str) (.cmp .isin (.var 0) (.cst 0)))) .nil)
def c_is_form : Fn := ⟨"is_form", ["thing"], ["thing"], b_is_form⟩
def b_values_of : CSs := (.cons (.asg (.tup (.cons (.name 5) (.cons (.name 6) (.cons (.name 7) .nil)))) (.var 0)) (.cons (.asg (.name 2) (.call f_root_row (.cons (.var 0) .nil))) (.cons (.asg (.name 3) (.new (.disp .nil))) (.cons (.loop (.name 4) (.rng1 (.var 6)) (.cons (.ex (.app (.var 3) (.bin .mod (.bi .int (.cons (.sq .sum (.tmp (.comp (.bin .mul (.idx (.var 1) (.var 8)) (.idx (.var 2) (.bin .mod (.bi .int (.cons (.bin .mul (.var 8) (.var 4)) .nil)) (.var 6)))) (.name 8) (.rng1 (.var 6)) .none))) .nil)) (.var 5)))) .nil)) (.cons (.ret (.sq .tuple (.val (.var 3)))) .nil)))))
def c_values_of : Fn := ⟨"values_of", ["field", "row"], ["field", "row", "roots", "told", "j", "p", "n", "_", "i"], b_values_of⟩
def b_coefficients_of : CSs := (.cons (.asg (.tup (.cons (.name 6) (.cons (.name 7) (.cons (.name 8) .nil)))) (.var 0)) (.cons (.asg (.name 2) (.call f_root_row (.cons (.var 0) .nil))) (.cons (.asg (.name 3) (.call f_inverse_of (.cons (.var 6) (.cons (.var 7) .nil)))) (.cons (.asg (.name 4) (.new (.disp .nil))) (.cons (.loop (.name 5) (.rng1 (.var 7)) (.cons (.asg (.name 9) (.sq .sum (.tmp (.comp (.bin .mul (.idx (.var 1) (.var 10)) (.idx (.var 2) (.bin .mod (.bi .int (.cons (.bin .sub (.int 0) (.bin .mul (.var 5) (.var 10))) .nil)) (.var 7)))) (.name 10) (.rng1 (.var 7)) .none)))) (.cons (.ex (.app (.var 4) (.bin .mod (.bi .int (.cons (.bin .mul (.var 9) (.var 3)) .nil)) (.var 6)))) .nil))) (.cons (.ret (.sq .tuple (.val (.var 4)))) .nil))))))
def c_coefficients_of : Fn := ⟨"coefficients_of", ["field", "row"], ["field", "row", "roots", "part", "told", "i", "p", "n", "_", "total", "j"], b_coefficients_of⟩
def b_turned_over : CSs := (.cons (.ite (.not (.val (.call f_is_form (.cons (.var 2) .nil)))) (.cons .raise .nil) .nil) (.cons (.ret (.ite (.val (.cmp .eq (.var 2) (.str "C"))) (.call f_values_of (.cons (.var 0) (.cons (.var 1) .nil))) (.call f_coefficients_of (.cons (.var 0) (.cons (.var 1) .nil))))) .nil))
def c_turned_over : Fn := ⟨"turned_over", ["field", "row", "form"], ["field", "row", "form"], b_turned_over⟩
def b_in_form : CSs := (.cons (.loop (.name 4) (.val (.tup (.cons (.var 2) (.cons (.var 3) .nil)))) (.cons (.ite (.not (.val (.call f_is_form (.cons (.var 4) .nil)))) (.cons .raise .nil) .nil) .nil)) (.cons (.ret (.ite (.val (.cmp .eq (.var 2) (.var 3))) (.var 1) (.call f_turned_over (.cons (.var 0) (.cons (.var 1) (.cons (.var 2) .nil)))))) .nil))
def c_in_form : Fn := ⟨"in_form", ["field", "row", "form", "wanted"], ["field", "row", "form", "wanted", "one"], b_in_form⟩
def b_root_sum : CSs := (.cons (.ret (.bin .mod (.bi .int (.cons (.sq .sum (.tmp (.comp (.call f_power_of (.cons (.idx (.var 0) (.int 0)) (.cons (.var 2) (.cons (.var 1) .nil)))) (.name 2) (.val (.call f_root_row (.cons (.var 0) .nil))) .none))) .nil)) (.idx (.var 0) (.int 0)))) .nil)
def c_root_sum : Fn := ⟨"root_sum", ["field", "k"], ["field", "k", "root"], b_root_sum⟩
def b_moment : CSs := (.cons (.ret (.bin .mod (.bi .int (.cons (.sq .sum (.tmp (.comp (.bin .mul (.var 4) (.call f_power_of (.cons (.idx (.var 0) (.int 0)) (.cons (.var 3) (.cons (.var 2) .nil))))) (.tup (.cons (.name 3) (.cons (.name 4) .nil))) (.enum (.var 1)) .none))) .nil)) (.idx (.var 0) (.int 0)))) .nil)
def c_moment : Fn := ⟨"moment", ["field", "row", "k"], ["field", "row", "k", "at", "residue"], b_moment⟩
def b_energy : CSs := (.cons (.asg (.name 2) (.idx (.var 0) (.int 1))) (.cons (.ret (.bin .mod (.bi .int (.cons (.sq .sum (.tmp (.comp (.bin .mul (.idx (.var 1) (.var 3)) (.idx (.var 1) (.bin .mod (.bi .int (.cons (.bin .sub (.int 0) (.var 3)) .nil)) (.var 2)))) (.name 3) (.rng1 (.var 2)) .none))) .nil)) (.idx (.var 0) (.int 0)))) .nil))
def c_energy : Fn := ⟨"energy", ["field", "row"], ["field", "row", "n", "at"], b_energy⟩
def b_energy_of_values : CSs := (.cons (.ret (.bin .mod (.bi .int (.cons (.sq .sum (.tmp (.comp (.bin .mul (.var 2) (.var 2)) (.name 2) (.val (.call f_values_of (.cons (.var 0) (.cons (.var 1) .nil)))) .none))) .nil)) (.idx (.var 0) (.int 0)))) .nil)
def c_energy_of_values : Fn := ⟨"energy_of_values", ["field", "row"], ["field", "row", "value"], b_energy_of_values⟩
def b_energies_agree : CSs := (.cons (.ret (.cmp .eq (.bin .mod (.bi .int (.cons (.bin .mul (.call f_energy (.cons (.var 0) (.cons (.var 1) .nil))) (.idx (.var 0) (.int 1))) .nil)) (.idx (.var 0) (.int 0))) (.call f_energy_of_values (.cons (.var 0) (.cons (.var 1) .nil))))) .nil)
def c_energies_agree : Fn := ⟨"energies_agree", ["field", "row"], ["field", "row"], b_energies_agree⟩
def b_middle_value : CSs := (.cons (.ret (.bin .mod (.bi .int (.cons (.sq .sum (.val (.var 1))) .nil)) (.idx (.var 0) (.int 0)))) .nil)
def c_middle_value : Fn := ⟨"middle_value", ["field", "row"], ["field", "row"], b_middle_value⟩
def b_folded_half : CSs := (.cons (.asg (.name 2) (.idx (.var 0) (.int 1))) (.cons (.ret (.sq .tuple (.tmp (.comp (.bin .mod (.bi .int (.cons (.bin .add (.idx (.var 1) (.var 3)) (.idx (.var 1) (.bin .mod (.bi .int (.cons (.bin .add (.var 3) (.bin .fdiv (.var 2) (.int 2))) .nil)) (.var 2)))) .nil)) (.idx (.var 0) (.int 0))) (.name 3) (.rng1 (.var 2)) .none)))) .nil))
def c_folded_half : Fn := ⟨"folded_half", ["field", "row"], ["field", "row", "n", "at"], b_folded_half⟩
def b_window_sums : CSs := (.cons (.asg (.name 3) (.idx (.var 0) (.int 1))) (.cons (.ret (.sq .tuple (.tmp (.comp (.bin .mod (.bi .int (.cons (.sq .sum (.tmp (.comp (.idx (.var 1) (.bin .mod (.bi .int (.cons (.bin .add (.var 4) (.var 5)) .nil)) (.var 3))) (.name 5) (.rng1 (.var 2)) .none))) .nil)) (.idx (.var 0) (.int 0))) (.name 4) (.rng1 (.var 3)) .none)))) .nil))
def c_window_sums : Fn := ⟨"window_sums", ["field", "row", "width"], ["field", "row", "width", "n", "at", "k"], b_window_sums⟩
def b_window_by_product : CSs := (.cons (.asg (.name 3) (.idx (.var 0) (.int 1))) (.cons (.asg (.name 4) (.new (.rep (.cons (.int 0) .nil) (.var 3)))) (.cons (.loop (.name 5) (.rng1 (.var 2)) (.cons (.asg (.sub (.var 4) (.bin .mod (.bi .int (.cons (.bin .sub (.int 0) (.var 5)) .nil)) (.var 3))) (.bin .mod (.bi .int (.cons (.bin .add (.idx (.var 4) (.bin .mod (.bi .int (.cons (.bin .sub (.int 0) (.var 5)) .nil)) (.var 3))) (.int 1)) .nil)) (.idx (.var 0) (.int 0)))) .nil)) (.cons (.ret (.call f_multiplied (.cons (.var 0) (.cons (.str "C") (.cons (.sq .tuple (.val (.var 4))) (.cons (.var 1) .nil)))))) .nil))))
def c_window_by_product : Fn := ⟨"window_by_product", ["field", "row", "width"], ["field", "row", "width", "n", "window", "k"], b_window_by_product⟩
def b_running_sums : CSs := (.cons (.asg (.name 2) (.new (.disp .nil))) (.cons (.asg (.name 3) (.int 0)) (.cons (.loop (.name 4) (.val (.var 1)) (.cons (.asg (.name 3) (.bin .mod (.bi .int (.cons (.bin .add (.var 3) (.var 4)) .nil)) (.idx (.var 0) (.int 0)))) (.cons (.ex (.app (.var 2) (.var 3))) .nil))) (.cons (.ret (.sq .tuple (.val (.var 2)))) .nil))))
def c_running_sums : Fn := ⟨"running_sums", ["field", "row"], ["field", "row", "told", "total", "residue"], b_running_sums⟩
def b_step_row : CSs := (.cons (.asg (.name 2) (.idx (.var 0) (.int 1))) (.cons (.ret (.sq .tuple (.tmp (.comp (.bin .mod (.bi .int (.cons (.bin .sub (.idx (.var 1) (.var 3)) (.idx (.var 1) (.bin .mod (.bi .int (.cons (.bin .sub (.var 3) (.int 1)) .nil)) (.var 2)))) .nil)) (.idx (.var 0) (.int 0))) (.name 3) (.rng1 (.var 2)) .none)))) .nil))
def c_step_row : Fn := ⟨"step_row", ["field", "row"], ["field", "row", "n", "at"], b_step_row⟩
def b_named_deeds : CSs := (.cons (.ite (.val (.cmp .eq (.idx (.var 0) (.int 0)) (.str "take"))) (.cons (.ret (.tup .nil)) .nil) .nil) (.cons (.ret (.ite (.val (.cmp .isin (.idx (.var 0) (.int 0)) (.cst 1))) (.slc (.var 0) (.some (.int 1)) (.some (.int 3))) (.slc (.var 0) (.some (.int 1)) (.some (.int 2))))) .nil))
def c_named_deeds : Fn := ⟨"named_deeds", ["deed"], ["deed"], b_named_deeds⟩
def b_extra_of : CSs := (.cons (.ite (.or (.val (.cmp .eq (.idx (.var 0) (.int 0)) (.str "take"))) (.or (.val (.cmp .isin (.idx (.var 0) (.int 0)) (.cst 1))) (.val (.cmp .eq (.sq .len (.val (.var 0))) (.int 2))))) (.cons (.ret .non) .nil) .nil) (.cons (.ret (.idx (.var 0) (.int 2))) .nil))
def c_extra_of : Fn := ⟨"extra_of", ["deed"], ["deed"], b_extra_of⟩
def b_coefficients_along : CSs := (.cons (.asg (.name 3) (.dcomp (.var 6) (.var 7) (.tup (.cons (.name 6) (.cons (.name 7) .nil))) (.val (.var 2)) .none)) (.cons (.asg (.name 4) (.new (.disp .nil))) (.cons (.loop (.name 5) (.val (.idx (.var 1) (.int 0))) (.cons (.ite (.val (.cmp .eq (.idx (.var 5) (.int 0)) (.str "take"))) (.cons (.ex (.app (.var 4) (.call f_in_form (.cons (.var 0) (.cons (.idx (.var 3) (.idx (.var 5) (.int 1))) (.cons (.idx (.var 5) (.int 2)) (.cons (.str "C") .nil))))))) .nil) (.cons (.ite (.val (.cmp .eq (.idx (.var 5) (.int 0)) (.str "hold"))) (.cons (.asg (.name 8) (.call f_done (.cons (.var 0) (.cons (.str "V") (.cons (.str "hold") (.cons (.new (.disp (.cons (.call f_in_form (.cons (.var 0) (.cons (.idx (.var 4) (.idx (.var 5) (.int 1))) (.cons (.str "C") (.cons (.str "V") .nil))))) .nil))) (.cons (.idx (.var 5) (.int 2)) .nil))))))) (.cons (.ex (.app (.var 4) (.call f_in_form (.cons (.var 0) (.cons (.var 8) (.cons (.str "V") (.cons (.str "C") .nil))))))) .nil)) (.cons (.ex (.app (.var 4) (.call f_done (.cons (.var 0) (.cons (.str "C") (.cons (.idx (.var 5) (.int 0)) (.cons (.new (.comp (.idx (.var 4) (.var 9)) (.name 9) (.val (.call f_named_deeds (.cons (.var 5) .nil))) .none)) (.cons (.call f_extra_of (.cons (.var 5) .nil)) .nil)))))))) .nil)) .nil)) .nil)) (.cons (.ret (.sq .tuple (.val (.var 4)))) .nil))))
def c_coefficients_along : Fn := ⟨"coefficients_along", ["field", "program", "inputs"], ["field", "program", "inputs", "rows", "told", "deed", "name", "row", "held", "one"], b_coefficients_along⟩
def b_answers_of : CSs := (.cons (.asg (.name 3) (.call f_coefficients_along (.cons (.var 0) (.cons (.var 1) (.cons (.var 2) .nil))))) (.cons (.asg (.name 4) (.new (.disp .nil))) (.cons (.loop (.tup (.cons (.name 5) (.cons (.name 6) (.cons (.name 7) .nil)))) (.val (.idx (.var 1) (.int 1))) (.cons (.ex (.app (.var 4) (.idx (.call f_in_form (.cons (.var 0) (.cons (.idx (.var 3) (.var 5)) (.cons (.str "C") (.cons (.var 6) .nil))))) (.var 7)))) .nil)) (.cons (.ret (.sq .tuple (.val (.var 4)))) .nil))))
def c_answers_of : Fn := ⟨"answers_of", ["field", "program", "inputs"], ["field", "program", "inputs", "rows", "told", "number", "form", "place"], b_answers_of⟩
def b_law_pond : CSs := (.cons (.asg (.name 1) (.int 89017)) (.cons (.loop (.name 2) (.val (.var 0)) (.cons (.asg (.name 1) (.bin .mod (.bi .int (.cons (.bin .add (.bin .add (.bin .mul (.var 1) (.int 50021)) (.bin .mod (.bi .int (.cons (.var 2) .nil)) (.int 999983))) (.int 31)) .nil)) (.int 4294967231))) .nil)) (.cons (.ret (.dct (.cons (.str "water") (.var 1) (.cons (.str "casts") (.int 0) .nil)))) .nil)))
def c_law_pond : Fn := ⟨"_law_pond", ["script"], ["script", "water", "cell"], b_law_pond⟩
def b_law_fish : CSs := (.cons (.asg (.sub (.var 0) (.str "casts")) (.bin .add (.idx (.var 0) (.str "casts")) (.int 1))) (.cons (.asg (.sub (.var 0) (.str "water")) (.bin .mod (.bi .int (.cons (.bin .add (.bin .add (.bin .mul (.idx (.var 0) (.str "water")) (.int 22695477)) (.bin .mul (.idx (.var 0) (.str "casts")) (.int 90001))) (.int 5)) .nil)) (.int 4294967231))) (.cons (.ret (.bin .mod (.bin .fdiv (.idx (.var 0) (.str "water")) (.int 83)) (.var 1))) .nil)))
def c_law_fish : Fn := ⟨"_law_fish", ["pond", "many"], ["pond", "many"], b_law_fish⟩
def b_law_equal : CSs := (.cons (.ite (.val (.isin (.var 1) .bool)) (.cons (.ret (.and (.isin (.var 0) .bool) (.cmp .eq (.var 0) (.var 1)))) .nil) .nil) (.cons (.ite (.val (.isin (.var 1) .int)) (.cons (.ret (.and (.isin (.var 0) .int) (.and (.not (.val (.isin (.var 0) .bool))) (.cmp .eq (.var 0) (.var 1))))) .nil) .nil) (.cons (.ite (.or (.not (.val (.isin (.var 0) .tuple))) (.val (.cmp .ne (.sq .len (.val (.var 0))) (.sq .len (.val (.var 1)))))) (.cons (.ret (.bl false)) .nil) .nil) (.cons (.ret (.cmp .eq (.sq .len (.tmp (.comp (.var 2) (.name 2) (.rng1 (.sq .len (.val (.var 1)))) (.some (.not (.val (.call f_law_equal (.cons (.idx (.var 0) (.var 2)) (.cons (.idx (.var 1) (.var 2)) .nil))))))))) (.int 0))) .nil))))
def c_law_equal : Fn := ⟨"_law_equal", ["told", "due"], ["told", "due", "at"], b_law_equal⟩
def b_law_some_field : CSs := (.cons (.asg (.name 1) (.new (.disp (.cons (.tup (.cons (.int 2) (.cons (.int 1) (.cons (.int 1) .nil)))) (.cons (.tup (.cons (.int 3) (.cons (.int 1) (.cons (.int 1) .nil)))) (.cons (.tup (.cons (.int 3) (.cons (.int 2) (.cons (.int 2) .nil)))) (.cons (.tup (.cons (.int 5) (.cons (.int 2) (.cons (.int 4) .nil)))) (.cons (.tup (.cons (.int 5) (.cons (.int 4) (.cons (.int 3) .nil)))) (.cons (.tup (.cons (.int 7) (.cons (.int 3) (.cons (.int 4) .nil)))) (.cons (.tup (.cons (.int 7) (.cons (.int 6) (.cons (.int 3) .nil)))) (.cons (.tup (.cons (.int 13) (.cons (.int 6) (.cons (.int 4) .nil)))) (.cons (.tup (.cons (.int 29) (.cons (.int 7) (.cons (.int 16) .nil)))) (.cons (.tup (.cons (.int 41) (.cons (.int 8) (.cons (.int 27) .nil)))) (.cons (.tup (.cons (.int 37) (.cons (.int 9) (.cons (.int 7) .nil)))) .nil)))))))))))))) (.cons (.ite (.val (.cmp .eq (.call f_law_fish (.cons (.var 0) (.cons (.int 11) .nil))) (.int 4))) (.cons (.ret (.idx (.new (.disp (.cons (.tup (.cons (.int 13) (.cons (.int 12) (.cons (.int 2) .nil)))) (.cons (.tup (.cons (.int 997) (.cons (.int 12) (.cons (.int 252) .nil)))) (.cons (.tup (.cons (.int 61) (.cons (.int 10) (.cons (.int 27) .nil)))) .nil))))) (.call f_law_fish (.cons (.var 0) (.cons (.int 3) .nil))))) .nil) .nil) (.cons (.ret (.idx (.var 1) (.call f_law_fish (.cons (.var 0) (.cons (.sq .len (.val (.var 1))) .nil))))) .nil)))
def c_law_some_field : Fn := ⟨"_law_some_field", ["pond"], ["pond", "fields"], b_law_some_field⟩
def b_law_some_row : CSs := (.cons (.asg (.name 2) (.bin .sub (.idx (.var 1) (.int 0)) (.int 1))) (.cons (.asg (.name 3) (.call f_law_fish (.cons (.var 0) (.cons (.int 5) .nil)))) (.cons (.asg (.name 4) (.new (.disp .nil))) (.cons (.loop (.name 5) (.rng1 (.idx (.var 1) (.int 1))) (.cons (.asg (.name 6) (.call f_law_fish (.cons (.var 0) (.cons (.idx (.var 1) (.int 0)) .nil)))) (.cons (.ex (.app (.var 4) (.idx (.new (.disp (.cons (.var 6) (.cons (.var 2) (.cons (.bin .mod (.var 5) (.idx (.var 1) (.int 0))) (.cons (.bin .mul (.var 6) (.bi .int (.cons (.cmp .eq (.bin .mod (.var 6) (.int 3)) (.int 0)) .nil))) (.cons (.var 6) .nil))))))) (.var 3)))) .nil))) (.cons (.ret (.sq .tuple (.val (.var 4)))) .nil)))))
def c_law_some_row : Fn := ⟨"_law_some_row", ["pond", "field"], ["pond", "field", "most", "habit", "told", "at", "free"], b_law_some_row⟩
def b_law_root_power : CSs := (.cons (.asg (.name 2) (.int 1)) (.cons (.loop (.name 3) (.rng1 (.bin .mod (.var 1) (.idx (.var 0) (.int 1)))) (.cons (.asg (.name 2) (.bin .mod (.bin .mul (.var 2) (.idx (.var 0) (.int 2))) (.idx (.var 0) (.int 0)))) .nil)) (.cons (.ret (.var 2)) .nil)))
def c_law_root_power : Fn := ⟨"_law_root_power", ["field", "times"], ["field", "times", "told", "turn"], b_law_root_power⟩
def b_law_values : CSs := (.cons (.asg (.name 2) (.new (.disp .nil))) (.cons (.loop (.name 3) (.rng1 (.idx (.var 0) (.int 1))) (.cons (.asg (.name 4) (.int 0)) (.cons (.loop (.name 5) (.rng1 (.idx (.var 0) (.int 1))) (.cons (.aug 4 .add (.bin .mul (.idx (.var 1) (.var 5)) (.call f_law_root_power (.cons (.var 0) (.cons (.bin .mul (.var 5) (.var 3)) .nil))))) .nil)) (.cons (.ex (.app (.var 2) (.bin .mod (.var 4) (.idx (.var 0) (.int 0))))) .nil)))) (.cons (.ret (.sq .tuple (.val (.var 2)))) .nil)))
def c_law_values : Fn := ⟨"_law_values", ["field", "row"], ["field", "row", "told", "place", "total", "at"], b_law_values⟩
def b_law_sums_asked : CSs := (.cons (.asg (.tup (.cons (.name 9) (.cons (.name 10) (.cons (.name 11) .nil)))) (.var 1)) (.cons (.asg (.name 3) (.call f_law_values (.cons (.var 1) (.cons (.var 2) .nil)))) (.cons (.ite (.not (.val (.call f_law_equal (.cons (.tup (.cons (.call f_values_of (.cons (.var 1) (.cons (.var 2) .nil))) (.cons (.call f_middle_value (.cons (.var 1) (.cons (.var 2) .nil))) .nil))) (.cons (.tup (.cons (.var 3) (.cons (.idx (.var 3) (.int 0)) .nil))) .nil))))) (.cons (.ret (.bl false)) .nil) .nil) (.cons (.loop (.name 4) (.tmp (.disp (.cons (.call f_law_fish (.cons (.var 0) (.cons (.bin .add (.bin .mul (.int 3) (.var 10)) (.int 1)) .nil))) (.cons (.var 10) (.cons (.int 0) .nil))))) (.cons (.ite (.not (.val (.call f_law_equal (.cons (.call f_root_sum (.cons (.var 1) (.cons (.var 4) .nil))) (.cons (.bin .mod (.sq .sum (.tmp (.comp (.call f_law_root_power (.cons (.var 1) (.cons (.bin .mul (.var 6) (.var 4)) .nil))) (.name 6) (.rng1 (.var 10)) .none))) (.var 9)) .nil))))) (.cons (.ret (.bl false)) .nil) .nil) .nil)) (.cons (.asg (.name 4) (.call f_law_fish (.cons (.var 0) (.cons (.int 6) .nil)))) (.cons (.asg (.name 5) (.int 0)) (.cons (.loop (.name 6) (.rng1 (.var 10)) (.cons (.asg (.name 12) (.idx (.var 2) (.var 6))) (.cons (.loop (.name 13) (.rng1 (.var 4)) (.cons (.asg (.name 12) (.bin .mul (.var 12) (.var 6))) .nil)) (.cons (.aug 5 .add (.var 12)) .nil)))) (.cons (.ite (.not (.val (.call f_law_equal (.cons (.call f_moment (.cons (.var 1) (.cons (.var 2) (.cons (.var 4) .nil)))) (.cons (.bin .mod (.var 5) (.var 9)) .nil))))) (.cons (.ret (.bl false)) .nil) .nil) (.cons (.asg (.name 7) (.bin .mod (.sq .sum (.tmp (.comp (.bin .mul (.idx (.var 2) (.var 6)) (.idx (.var 2) (.bin .mod (.bin .sub (.var 10) (.var 6)) (.var 10)))) (.name 6) (.rng1 (.var 10)) .none))) (.var 9))) (.cons (.asg (.name 8) (.bin .mod (.sq .sum (.tmp (.comp (.bin .mul (.var 14) (.var 14)) (.name 14) (.val (.var 3)) .none))) (.var 9))) (.cons (.ite (.val (.cmp .ne (.var 8) (.bin .mod (.bin .mul (.var 10) (.var 7)) (.var 9)))) (.cons (.ret (.bl false)) .nil) .nil) (.cons (.ret (.call f_law_equal (.cons (.tup (.cons (.call f_energy (.cons (.var 1) (.cons (.var 2) .nil))) (.cons (.call f_energy_of_values (.cons (.var 1) (.cons (.var 2) .nil))) (.cons (.call f_energies_agree (.cons (.var 1) (.cons (.var 2) .nil))) .nil)))) (.cons (.tup (.cons (.var 7) (.cons (.var 8) (.cons (.bl true) .nil)))) .nil)))) .nil))))))))))))
def c_law_sums_asked : Fn := ⟨"_law_sums_asked", ["pond", "field", "row"], ["pond", "field", "row", "values", "times", "total", "at", "crossed", "squares", "p", "n", "w", "part", "turn", "one"], b_law_sums_asked⟩
def b_law_rows_asked : CSs := (.cons (.asg (.tup (.cons (.name 8) (.cons (.name 9) (.cons (.name 10) .nil)))) (.var 1)) (.cons (.asg (.name 3) (.new (.disp .nil))) (.cons (.loop (.name 4) (.val (.var 2)) (.cons (.ex (.app (.var 3) (.bin .mod (.bin .add (.sq .sum (.val (.slc (.var 3) (.some (.neg (.int 1))) .none))) (.var 4)) (.var 8)))) .nil)) (.cons (.asg (.name 5) (.sq .tuple (.tmp (.comp (.bin .mod (.bin .sub (.idx (.var 2) (.var 12)) (.idx (.var 2) (.bin .sub (.var 12) (.int 1)))) (.var 8)) (.name 12) (.rng1 (.var 9)) .none)))) (.cons (.ite (.not (.val (.call f_law_equal (.cons (.tup (.cons (.call f_running_sums (.cons (.var 1) (.cons (.var 2) .nil))) (.cons (.call f_step_row (.cons (.var 1) (.cons (.var 2) .nil))) .nil))) (.cons (.tup (.cons (.sq .tuple (.val (.var 3))) (.cons (.var 5) .nil))) .nil))))) (.cons (.ret (.bl false)) .nil) .nil) (.cons (.loop (.name 6) (.tmp (.disp (.cons (.call f_law_fish (.cons (.var 0) (.cons (.bin .add (.var 9) (.int 1)) .nil))) (.cons (.int 1) (.cons (.bin .add (.var 9) (.call f_law_fish (.cons (.var 0) (.cons (.int 4) .nil)))) .nil))))) (.cons (.asg (.name 11) (.sq .tuple (.tmp (.comp (.bin .mod (.sq .sum (.tmp (.comp (.idx (.var 2) (.bin .mod (.bin .add (.var 12) (.var 13)) (.var 9))) (.name 13) (.rng1 (.var 6)) .none))) (.var 8)) (.name 12) (.rng1 (.var 9)) .none)))) (.cons (.ite (.not (.val (.call f_law_equal (.cons (.tup (.cons (.call f_window_sums (.cons (.var 1) (.cons (.var 2) (.cons (.var 6) .nil)))) (.cons (.call f_window_by_product (.cons (.var 1) (.cons (.var 2) (.cons (.var 6) .nil)))) .nil))) (.cons (.tup (.cons (.var 11) (.cons (.var 11) .nil))) .nil))))) (.cons (.ret (.bl false)) .nil) .nil) .nil))) (.cons (.asg (.name 7) (.bin .fdiv (.var 9) (.int 2))) (.cons (.ite (.val (.cmp .ne (.bin .mul (.int 2) (.var 7)) (.var 9))) (.cons (.ret (.bl true)) .nil) .nil) (.cons (.ret (.call f_law_equal (.cons (.call f_folded_half (.cons (.var 1) (.cons (.var 2) .nil))) (.cons (.sq .tuple (.tmp (.comp (.bin .mod (.bin .add (.idx (.var 2) (.var 12)) (.idx (.var 2) (.bin .mod (.bin .add (.var 12) (.var 7)) (.var 9)))) (.var 8)) (.name 12) (.rng1 (.var 9)) .none))) .nil)))) .nil)))))))))
def c_law_rows_asked : Fn := ⟨"_law_rows_asked", ["pond", "field", "row"], ["pond", "field", "row", "sums", "one", "steps", "width", "half", "p", "n", "w", "due", "at", "more"], b_law_rows_asked⟩
def b_law_program_asked : CSs := (.cons (.asg (.tup (.cons (.name 15) (.cons (.name 16) (.cons (.name 17) .nil)))) (.var 1)) (.cons (.asg (.name 3) (.idx (.new (.disp (.cons (.str "C") (.cons (.str "V") .nil)))) (.call f_law_fish (.cons (.var 0) (.cons (.int 2) .nil))))) (.cons (.asg (.name 4) (.new (.disp (.cons (.tup (.cons (.str "take") (.cons (.str "row") (.cons (.var 3) .nil)))) (.cons (.tup (.cons (.str "times") (.cons (.int 0) (.cons (.int 0) .nil)))) (.cons (.tup (.cons (.str "shift") (.cons (.int 0) (.cons (.idx (.new (.disp (.cons (.int 0) (.cons (.int 1) .nil)))) (.bi .int (.cons (.cmp .gt (.var 16) (.int 1)) .nil))) .nil)))) (.cons (.tup (.cons (.str "less") (.cons (.int 0) (.cons (.int 2) .nil)))) (.cons (.tup (.cons (.str "slope") (.cons (.int 0) .nil))) .nil)))))))) (.cons (.asg (.name 5) (.bin .add (.int 1) (.call f_law_fish (.cons (.var 0) (.cons (.bi .min2 (.cons (.var 16) (.cons (.int 5) .nil))) .nil))))) (.cons (.asg (.name 6) (.int 0)) (.cons (.loop (.name 7) (.rng2 (.int 1) (.var 5)) (.cons (.ex (.ext (.var 4) (.disp (.cons (.tup (.cons (.str "shift") (.cons (.int 0) (.cons (.bin .mod (.bin .sub (.var 16) (.var 7)) (.var 16)) .nil)))) (.cons (.tup (.cons (.str "add") (.cons (.var 6) (.cons (.sq .len (.val (.var 4))) .nil)))) .nil))))) (.cons (.asg (.name 6) (.bin .sub (.sq .len (.val (.var 4))) (.int 1))) .nil))) (.cons (.asg (.name 8) (.call f_law_fish (.cons (.var 0) (.cons (.var 16) .nil)))) (.cons (.asg (.name 9) (.tup (.cons (.tup (.cons (.int 1) (.cons (.str "C") (.cons (.int 0) .nil)))) (.cons (.tup (.cons (.int 0) (.cons (.str "V") (.cons (.int 0) .nil)))) (.cons (.tup (.cons (.int 3) (.cons (.str "C") (.cons (.var 8) .nil)))) (.cons (.tup (.cons (.int 4) (.cons (.str "V") (.cons (.int 0) .nil)))) (.cons (.tup (.cons (.var 6) (.cons (.str "C") (.cons (.var 8) .nil)))) (.cons (.tup (.cons (.int 1) (.cons (.str "V") (.cons (.var 8) .nil)))) .nil)))))))) (.cons (.asg (.name 10) (.idx (.call f_law_values (.cons (.var 1) (.cons (.var 2) .nil))) (.var 8))) (.cons (.asg (.name 11) (.new (.disp (.cons (.sq .sum (.tmp (.comp (.bin .mul (.idx (.var 2) (.var 19)) (.idx (.var 2) (.bin .mod (.bin .sub (.var 16) (.var 19)) (.var 16)))) (.name 19) (.rng1 (.var 16)) .none))) (.cons (.sq .sum (.val (.var 2))) (.cons (.bin .sub (.idx (.var 2) (.var 8)) (.idx (.var 2) (.bin .sub (.var 8) (.int 1)))) .nil)))))) (.cons (.ex (.ext (.var 11) (.disp (.cons (.sq .sum (.tmp (.comp (.bin .mul (.idx (.var 2) (.var 19)) (.var 19)) (.name 19) (.rng1 (.var 16)) .none))) (.cons (.sq .sum (.tmp (.comp (.idx (.var 2) (.bin .mod (.bin .add (.var 8) (.var 7)) (.var 16))) (.name 7) (.rng1 (.var 5)) .none))) (.cons (.bin .mul (.var 10) (.var 10)) .nil)))))) (.cons (.asg (.name 12) (.var 2)) (.cons (.ite (.val (.cmp .eq (.var 3) (.str "V"))) (.cons (.asg (.name 12) (.call f_law_values (.cons (.var 1) (.cons (.var 2) .nil)))) .nil) .nil) (.cons (.asg (.name 11) (.sq .tuple (.tmp (.comp (.bin .mod (.var 18) (.var 15)) (.name 18) (.val (.var 11)) .none)))) (.cons (.asg (.name 13) (.call f_answers_of (.cons (.var 1) (.cons (.tup (.cons (.sq .tuple (.val (.var 4))) (.cons (.var 9) .nil))) (.cons (.tup (.cons (.tup (.cons (.str "row") (.cons (.var 12) .nil))) .nil)) .nil))))) (.cons (.ite (.not (.val (.call f_law_equal (.cons (.var 13) (.cons (.var 11) .nil))))) (.cons (.ret (.bl false)) .nil) .nil) (.cons (.asg (.name 14) (.tup (.cons (.call f_energy (.cons (.var 1) (.cons (.var 2) .nil))) (.cons (.call f_middle_value (.cons (.var 1) (.cons (.var 2) .nil))) (.cons (.idx (.call f_step_row (.cons (.var 1) (.cons (.var 2) .nil))) (.var 8)) (.cons (.call f_moment (.cons (.var 1) (.cons (.var 2) (.cons (.int 1) .nil)))) (.cons (.idx (.call f_window_sums (.cons (.var 1) (.cons (.var 2) (.cons (.var 5) .nil)))) (.var 8)) .nil))))))) (.cons (.ret (.call f_law_equal (.cons (.var 14) (.cons (.slc (.var 11) .none (.some (.int 5))) .nil)))) .nil))))))))))))))))))
def c_law_program_asked : Fn := ⟨"_law_program_asked", ["pond", "field", "row"], ["pond", "field", "row", "form", "deeds", "width", "last", "more", "place", "tells", "value", "due", "given", "told", "looked", "p", "n", "w", "one", "at"], b_law_program_asked⟩
def b_law_hand : CSs := (.cons (.asg (.name 0) (.tup (.cons (.int 5) (.cons (.int 4) (.cons (.int 2) .nil))))) (.cons (.asg (.name 1) (.tup (.cons (.int 1) (.cons (.int 2) (.cons (.int 0) (.cons (.int 0) .nil)))))) (.cons (.asg (.name 2) (.tup (.cons (.call f_root_sum (.cons (.var 0) (.cons (.int 4) .nil))) (.cons (.call f_root_sum (.cons (.var 0) (.cons (.int 2) .nil))) (.cons (.call f_moment (.cons (.var 0) (.cons (.var 1) (.cons (.int 1) .nil)))) (.cons (.call f_energy (.cons (.var 0) (.cons (.var 1) .nil))) (.cons (.call f_energy_of_values (.cons (.var 0) (.cons (.var 1) .nil))) (.cons (.call f_moment (.cons (.var 0) (.cons (.tup (.cons (.int 3) (.cons (.int 1) (.cons (.int 0) (.cons (.int 0) .nil))))) (.cons (.int 0) .nil)))) .nil)))))))) (.cons (.ite (.not (.val (.call f_law_equal (.cons (.var 2) (.cons (.tup (.cons (.int 4) (.cons (.int 0) (.cons (.int 2) (.cons (.int 1) (.cons (.int 4) (.cons (.int 4) .nil))))))) .nil))))) (.cons (.ret (.bl false)) .nil) .nil) (.cons (.asg (.name 2) (.tup (.cons (.call f_folded_half (.cons (.var 0) (.cons (.tup (.cons (.int 1) (.cons (.int 2) (.cons (.int 3) (.cons (.int 4) .nil))))) .nil))) (.cons (.call f_window_sums (.cons (.var 0) (.cons (.var 1) (.cons (.int 2) .nil)))) (.cons (.call f_running_sums (.cons (.var 0) (.cons (.tup (.cons (.int 1) (.cons (.int 2) (.cons (.int 3) (.cons (.int 4) .nil))))) .nil))) (.cons (.call f_step_row (.cons (.var 0) (.cons (.var 1) .nil))) (.cons (.call f_values_of (.cons (.var 0) (.cons (.var 1) .nil))) .nil))))))) (.cons (.ret (.call f_law_equal (.cons (.var 2) (.cons (.tup (.cons (.tup (.cons (.int 4) (.cons (.int 1) (.cons (.int 4) (.cons (.int 1) .nil))))) (.cons (.tup (.cons (.int 3) (.cons (.int 2) (.cons (.int 0) (.cons (.int 1) .nil))))) (.cons (.tup (.cons (.int 1) (.cons (.int 3) (.cons (.int 1) (.cons (.int 0) .nil))))) (.cons (.tup (.cons (.int 1) (.cons (.int 1) (.cons (.int 3) (.cons (.int 0) .nil))))) (.cons (.tup (.cons (.int 3) (.cons (.int 0) (.cons (.int 4) (.cons (.int 2) .nil))))) .nil)))))) .nil)))) .nil))))))
def c_law_hand : Fn := ⟨"_law_hand", [], ["field", "row", "told"], b_law_hand⟩
def b_law : CSs := (.cons (.asg (.name 1) (.call f_law_pond (.cons (.var 0) .nil))) (.cons (.ite (.not (.val (.call f_law_hand .nil))) (.cons (.ret (.bl false)) .nil) .nil) (.cons (.loop (.name 2) (.rng1 (.int 3)) (.cons (.asg (.name 3) (.call f_law_some_field (.cons (.var 1) .nil))) (.cons (.asg (.name 4) (.call f_law_some_row (.cons (.var 1) (.cons (.var 3) .nil)))) (.cons (.ite (.or (.not (.val (.call f_law_sums_asked (.cons (.var 1) (.cons (.var 3) (.cons (.var 4) .nil)))))) (.or (.not (.val (.call f_law_rows_asked (.cons (.var 1) (.cons (.var 3) (.cons (.var 4) .nil)))))) (.not (.val (.call f_law_program_asked (.cons (.var 1) (.cons (.var 3) (.cons (.var 4) .nil)))))))) (.cons (.ret (.bl false)) .nil) .nil) .nil)))) (.cons (.ret (.bl true)) .nil))))
def c_law : Fn := ⟨"law", ["script"], ["script", "pond", "lap", "field", "row"], b_law⟩
def pg : Pg := ⟨[c_power_of, c_inverse_of, c_root_row, c_added, c_lessened, c_scaled, c_multiplied, c_shifted, c_mirrored, c_stretched, c_kept, c_sloped, c_done, c_is_form, c_values_of, c_coefficients_of, c_turned_over, c_in_form, c_root_sum, c_moment, c_energy, c_energy_of_values, c_energies_agree, c_middle_value, c_folded_half, c_window_sums, c_window_by_product, c_running_sums, c_step_row, c_named_deeds, c_extra_of, c_coefficients_along, c_answers_of, c_law_pond, c_law_fish, c_law_equal, c_law_some_field, c_law_some_row, c_law_root_power, c_law_values, c_law_sums_asked, c_law_rows_asked, c_law_program_asked, c_law_hand, c_law], [(.tup [(.str "C"), (.str "V")]), (.tup [(.str "add"), (.str "less"), (.str "times")])]⟩
def gi : GI := ⟨[(Str.ofString "power_of", 3), (Str.ofString "inverse_of", 2), (Str.ofString "root_row", 1), (Str.ofString "added", 3), (Str.ofString "lessened", 3), (Str.ofString "scaled", 3), (Str.ofString "multiplied", 4), (Str.ofString "shifted", 4), (Str.ofString "mirrored", 2), (Str.ofString "stretched", 4), (Str.ofString "kept", 3), (Str.ofString "sloped", 2), (Str.ofString "done", 5), (Str.ofString "is_form", 1), (Str.ofString "values_of", 2), (Str.ofString "coefficients_of", 2), (Str.ofString "turned_over", 3), (Str.ofString "in_form", 4), (Str.ofString "root_sum", 2), (Str.ofString "moment", 3), (Str.ofString "energy", 2), (Str.ofString "energy_of_values", 2), (Str.ofString "energies_agree", 2), (Str.ofString "middle_value", 2), (Str.ofString "folded_half", 2), (Str.ofString "window_sums", 3), (Str.ofString "window_by_product", 3), (Str.ofString "running_sums", 2), (Str.ofString "step_row", 2), (Str.ofString "named_deeds", 1), (Str.ofString "extra_of", 1), (Str.ofString "coefficients_along", 3), (Str.ofString "answers_of", 3), (Str.ofString "_law_pond", 1), (Str.ofString "_law_fish", 2), (Str.ofString "_law_equal", 2), (Str.ofString "_law_some_field", 1), (Str.ofString "_law_some_row", 2), (Str.ofString "_law_root_power", 2), (Str.ofString "_law_values", 2), (Str.ofString "_law_sums_asked", 3), (Str.ofString "_law_rows_asked", 3), (Str.ofString "_law_program_asked", 3), (Str.ofString "_law_hand", 0), (Str.ofString "law", 1)], ["FORMS", "PAIRED"], ["bool", "enumerate", "int", "isinstance", "len", "min", "range", "str", "sum", "tuple", "zip"]⟩
theorem u_power_of (k : Nat) (x0 x1 x2 : D) (h : Heap) : callI pg (k + 1) f_power_of [x0, x1, x2] h = (execs ⟨callI pg k, pg.cs⟩ b_power_of [some x0, some x1, some x2, none, none, none] h).bind (fin h) := callI_eq (fn := c_power_of) rfl rfl
theorem u_inverse_of (k : Nat) (x0 x1 : D) (h : Heap) : callI pg (k + 1) f_inverse_of [x0, x1] h = (execs ⟨callI pg k, pg.cs⟩ b_inverse_of [some x0, some x1] h).bind (fin h) := callI_eq (fn := c_inverse_of) rfl rfl
theorem u_root_row (k : Nat) (x0 : D) (h : Heap) : callI pg (k + 1) f_root_row [x0] h = (execs ⟨callI pg k, pg.cs⟩ b_root_row [some x0, none, none, none, none] h).bind (fin h) := callI_eq (fn := c_root_row) rfl rfl
theorem u_added (k : Nat) (x0 x1 x2 : D) (h : Heap) : callI pg (k + 1) f_added [x0, x1, x2] h = (execs ⟨callI pg k, pg.cs⟩ b_added [some x0, some x1, some x2, none, none] h).bind (fin h) := callI_eq (fn := c_added) rfl rfl
theorem u_lessened (k : Nat) (x0 x1 x2 : D) (h : Heap) : callI pg (k + 1) f_lessened [x0, x1, x2] h = (execs ⟨callI pg k, pg.cs⟩ b_lessened [some x0, some x1, some x2, none, none] h).bind (fin h) := callI_eq (fn := c_lessened) rfl rfl
theorem u_scaled (k : Nat) (x0 x1 x2 : D) (h : Heap) : callI pg (k + 1) f_scaled [x0, x1, x2] h = (execs ⟨callI pg k, pg.cs⟩ b_scaled [some x0, some x1, some x2, none] h).bind (fin h) := callI_eq (fn := c_scaled) rfl rfl
theorem u_multiplied (k : Nat) (x0 x1 x2 x3 : D) (h : Heap) : callI pg (k + 1) f_multiplied [x0, x1, x2, x3] h = (execs ⟨callI pg k, pg.cs⟩ b_multiplied [some x0, some x1, some x2, some x3, none, none, none, none, none, none, none, none, none] h).bind (fin h) := callI_eq (fn := c_multiplied) rfl rfl
theorem u_shifted (k : Nat) (x0 x1 x2 x3 : D) (h : Heap) : callI pg (k + 1) f_shifted [x0, x1, x2, x3] h = (execs ⟨callI pg k, pg.cs⟩ b_shifted [some x0, some x1, some x2, some x3, none, none, none, none, none, none] h).bind (fin h) := callI_eq (fn := c_shifted) rfl rfl
theorem u_mirrored (k : Nat) (x0 x1 : D) (h : Heap) : callI pg (k + 1) f_mirrored [x0, x1] h = (execs ⟨callI pg k, pg.cs⟩ b_mirrored [some x0, some x1, none, none] h).bind (fin h) := callI_eq (fn := c_mirrored) rfl rfl
theorem u_stretched (k : Nat) (x0 x1 x2 x3 : D) (h : Heap) : callI pg (k + 1) f_stretched [x0, x1, x2, x3] h = (execs ⟨callI pg k, pg.cs⟩ b_stretched [some x0, some x1, some x2, some x3, none, none, none] h).bind (fin h) := callI_eq (fn := c_stretched) rfl rfl
theorem u_kept (k : Nat) (x0 x1 x2 : D) (h : Heap) : callI pg (k + 1) f_kept [x0, x1, x2] h = (execs ⟨callI pg k, pg.cs⟩ b_kept [some x0, some x1, some x2, none] h).bind (fin h) := callI_eq (fn := c_kept) rfl rfl
theorem u_sloped (k : Nat) (x0 x1 : D) (h : Heap) : callI pg (k + 1) f_sloped [x0, x1] h = (execs ⟨callI pg k, pg.cs⟩ b_sloped [some x0, some x1, none, none] h).bind (fin h) := callI_eq (fn := c_sloped) rfl rfl
theorem u_done (k : Nat) (x0 x1 x2 x3 x4 : D) (h : Heap) : callI pg (k + 1) f_done [x0, x1, x2, x3, x4] h = (execs ⟨callI pg k, pg.cs⟩ b_done [some x0, some x1, some x2, some x3, some x4] h).bind (fin h) := callI_eq (fn := c_done) rfl rfl
theorem u_is_form (k : Nat) (x0 : D) (h : Heap) : callI pg (k + 1) f_is_form [x0] h = (execs ⟨callI pg k, pg.cs⟩ b_is_form [some x0] h).bind (fin h) := callI_eq (fn := c_is_form) rfl rfl
theorem u_values_of (k : Nat) (x0 x1 : D) (h : Heap) : callI pg (k + 1) f_values_of [x0, x1] h = (execs ⟨callI pg k, pg.cs⟩ b_values_of [some x0, some x1, none, none, none, none, none, none, none] h).bind (fin h) := callI_eq (fn := c_values_of) rfl rfl
theorem u_coefficients_of (k : Nat) (x0 x1 : D) (h : Heap) : callI pg (k + 1) f_coefficients_of [x0, x1] h = (execs ⟨callI pg k, pg.cs⟩ b_coefficients_of [some x0, some x1, none, none, none, none, none, none, none, none, none] h).bind (fin h) := callI_eq (fn := c_coefficients_of) rfl rfl
theorem u_turned_over (k : Nat) (x0 x1 x2 : D) (h : Heap) : callI pg (k + 1) f_turned_over [x0, x1, x2] h = (execs ⟨callI pg k, pg.cs⟩ b_turned_over [some x0, some x1, some x2] h).bind (fin h) := callI_eq (fn := c_turned_over) rfl rfl
theorem u_in_form (k : Nat) (x0 x1 x2 x3 : D) (h : Heap) : callI pg (k + 1) f_in_form [x0, x1, x2, x3] h = (execs ⟨callI pg k, pg.cs⟩ b_in_form [some x0, some x1, some x2, some x3, none] h).bind (fin h) := callI_eq (fn := c_in_form) rfl rfl
theorem u_root_sum (k : Nat) (x0 x1 : D) (h : Heap) : callI pg (k + 1) f_root_sum [x0, x1] h = (execs ⟨callI pg k, pg.cs⟩ b_root_sum [some x0, some x1, none] h).bind (fin h) := callI_eq (fn := c_root_sum) rfl rfl
theorem u_moment (k : Nat) (x0 x1 x2 : D) (h : Heap) : callI pg (k + 1) f_moment [x0, x1, x2] h = (execs ⟨callI pg k, pg.cs⟩ b_moment [some x0, some x1, some x2, none, none] h).bind (fin h) := callI_eq (fn := c_moment) rfl rfl
theorem u_energy (k : Nat) (x0 x1 : D) (h : Heap) : callI pg (k + 1) f_energy [x0, x1] h = (execs ⟨callI pg k, pg.cs⟩ b_energy [some x0, some x1, none, none] h).bind (fin h) := callI_eq (fn := c_energy) rfl rfl
theorem u_energy_of_values (k : Nat) (x0 x1 : D) (h : Heap) : callI pg (k + 1) f_energy_of_values [x0, x1] h = (execs ⟨callI pg k, pg.cs⟩ b_energy_of_values [some x0, some x1, none] h).bind (fin h) := callI_eq (fn := c_energy_of_values) rfl rfl
theorem u_energies_agree (k : Nat) (x0 x1 : D) (h : Heap) : callI pg (k + 1) f_energies_agree [x0, x1] h = (execs ⟨callI pg k, pg.cs⟩ b_energies_agree [some x0, some x1] h).bind (fin h) := callI_eq (fn := c_energies_agree) rfl rfl
theorem u_middle_value (k : Nat) (x0 x1 : D) (h : Heap) : callI pg (k + 1) f_middle_value [x0, x1] h = (execs ⟨callI pg k, pg.cs⟩ b_middle_value [some x0, some x1] h).bind (fin h) := callI_eq (fn := c_middle_value) rfl rfl
theorem u_folded_half (k : Nat) (x0 x1 : D) (h : Heap) : callI pg (k + 1) f_folded_half [x0, x1] h = (execs ⟨callI pg k, pg.cs⟩ b_folded_half [some x0, some x1, none, none] h).bind (fin h) := callI_eq (fn := c_folded_half) rfl rfl
theorem u_window_sums (k : Nat) (x0 x1 x2 : D) (h : Heap) : callI pg (k + 1) f_window_sums [x0, x1, x2] h = (execs ⟨callI pg k, pg.cs⟩ b_window_sums [some x0, some x1, some x2, none, none, none] h).bind (fin h) := callI_eq (fn := c_window_sums) rfl rfl
theorem u_window_by_product (k : Nat) (x0 x1 x2 : D) (h : Heap) : callI pg (k + 1) f_window_by_product [x0, x1, x2] h = (execs ⟨callI pg k, pg.cs⟩ b_window_by_product [some x0, some x1, some x2, none, none, none] h).bind (fin h) := callI_eq (fn := c_window_by_product) rfl rfl
theorem u_running_sums (k : Nat) (x0 x1 : D) (h : Heap) : callI pg (k + 1) f_running_sums [x0, x1] h = (execs ⟨callI pg k, pg.cs⟩ b_running_sums [some x0, some x1, none, none, none] h).bind (fin h) := callI_eq (fn := c_running_sums) rfl rfl
theorem u_step_row (k : Nat) (x0 x1 : D) (h : Heap) : callI pg (k + 1) f_step_row [x0, x1] h = (execs ⟨callI pg k, pg.cs⟩ b_step_row [some x0, some x1, none, none] h).bind (fin h) := callI_eq (fn := c_step_row) rfl rfl
theorem u_named_deeds (k : Nat) (x0 : D) (h : Heap) : callI pg (k + 1) f_named_deeds [x0] h = (execs ⟨callI pg k, pg.cs⟩ b_named_deeds [some x0] h).bind (fin h) := callI_eq (fn := c_named_deeds) rfl rfl
theorem u_extra_of (k : Nat) (x0 : D) (h : Heap) : callI pg (k + 1) f_extra_of [x0] h = (execs ⟨callI pg k, pg.cs⟩ b_extra_of [some x0] h).bind (fin h) := callI_eq (fn := c_extra_of) rfl rfl
theorem u_coefficients_along (k : Nat) (x0 x1 x2 : D) (h : Heap) : callI pg (k + 1) f_coefficients_along [x0, x1, x2] h = (execs ⟨callI pg k, pg.cs⟩ b_coefficients_along [some x0, some x1, some x2, none, none, none, none, none, none, none] h).bind (fin h) := callI_eq (fn := c_coefficients_along) rfl rfl
theorem u_answers_of (k : Nat) (x0 x1 x2 : D) (h : Heap) : callI pg (k + 1) f_answers_of [x0, x1, x2] h = (execs ⟨callI pg k, pg.cs⟩ b_answers_of [some x0, some x1, some x2, none, none, none, none, none] h).bind (fin h) := callI_eq (fn := c_answers_of) rfl rfl
theorem u_law_pond (k : Nat) (x0 : D) (h : Heap) : callI pg (k + 1) f_law_pond [x0] h = (execs ⟨callI pg k, pg.cs⟩ b_law_pond [some x0, none, none] h).bind (fin h) := callI_eq (fn := c_law_pond) rfl rfl
theorem u_law_fish (k : Nat) (x0 x1 : D) (h : Heap) : callI pg (k + 1) f_law_fish [x0, x1] h = (execs ⟨callI pg k, pg.cs⟩ b_law_fish [some x0, some x1] h).bind (fin h) := callI_eq (fn := c_law_fish) rfl rfl
theorem u_law_equal (k : Nat) (x0 x1 : D) (h : Heap) : callI pg (k + 1) f_law_equal [x0, x1] h = (execs ⟨callI pg k, pg.cs⟩ b_law_equal [some x0, some x1, none] h).bind (fin h) := callI_eq (fn := c_law_equal) rfl rfl
theorem u_law_some_field (k : Nat) (x0 : D) (h : Heap) : callI pg (k + 1) f_law_some_field [x0] h = (execs ⟨callI pg k, pg.cs⟩ b_law_some_field [some x0, none] h).bind (fin h) := callI_eq (fn := c_law_some_field) rfl rfl
theorem u_law_some_row (k : Nat) (x0 x1 : D) (h : Heap) : callI pg (k + 1) f_law_some_row [x0, x1] h = (execs ⟨callI pg k, pg.cs⟩ b_law_some_row [some x0, some x1, none, none, none, none, none] h).bind (fin h) := callI_eq (fn := c_law_some_row) rfl rfl
theorem u_law_root_power (k : Nat) (x0 x1 : D) (h : Heap) : callI pg (k + 1) f_law_root_power [x0, x1] h = (execs ⟨callI pg k, pg.cs⟩ b_law_root_power [some x0, some x1, none, none] h).bind (fin h) := callI_eq (fn := c_law_root_power) rfl rfl
theorem u_law_values (k : Nat) (x0 x1 : D) (h : Heap) : callI pg (k + 1) f_law_values [x0, x1] h = (execs ⟨callI pg k, pg.cs⟩ b_law_values [some x0, some x1, none, none, none, none] h).bind (fin h) := callI_eq (fn := c_law_values) rfl rfl
theorem u_law_sums_asked (k : Nat) (x0 x1 x2 : D) (h : Heap) : callI pg (k + 1) f_law_sums_asked [x0, x1, x2] h = (execs ⟨callI pg k, pg.cs⟩ b_law_sums_asked [some x0, some x1, some x2, none, none, none, none, none, none, none, none, none, none, none, none] h).bind (fin h) := callI_eq (fn := c_law_sums_asked) rfl rfl
theorem u_law_rows_asked (k : Nat) (x0 x1 x2 : D) (h : Heap) : callI pg (k + 1) f_law_rows_asked [x0, x1, x2] h = (execs ⟨callI pg k, pg.cs⟩ b_law_rows_asked [some x0, some x1, some x2, none, none, none, none, none, none, none, none, none, none, none] h).bind (fin h) := callI_eq (fn := c_law_rows_asked) rfl rfl
theorem u_law_program_asked (k : Nat) (x0 x1 x2 : D) (h : Heap) : callI pg (k + 1) f_law_program_asked [x0, x1, x2] h = (execs ⟨callI pg k, pg.cs⟩ b_law_program_asked [some x0, some x1, some x2, none, none, none, none, none, none, none, none, none, none, none, none, none, none, none, none, none] h).bind (fin h) := callI_eq (fn := c_law_program_asked) rfl rfl
theorem u_law_hand (k : Nat) (h : Heap) : callI pg (k + 1) f_law_hand [] h = (execs ⟨callI pg k, pg.cs⟩ b_law_hand [none, none, none] h).bind (fin h) := callI_eq (fn := c_law_hand) rfl rfl
theorem u_law (k : Nat) (x0 : D) (h : Heap) : callI pg (k + 1) f_law [x0] h = (execs ⟨callI pg k, pg.cs⟩ b_law [some x0, none, none, none, none] h).bind (fin h) := callI_eq (fn := c_law) rfl rfl
def tops : List Nat := [7, 8, 10, 12, 13, 14, 15, 16, 17, 18, 19, 20, 21, 24, 25, 26, 27, 28, 30, 31, 32, 33, 34, 35, 36, 37, 38, 39, 40, 43, 44, 46, 47, 49, 50, 51, 52, 53, 54, 55, 56, 57, 58, 59, 60]
def loose0 : List Str := ["FormError", "AskError", "CallError", "NoSuch", "BadCall", "power_of", "inverse_of", "root_row", "added", "lessened", "scaled", "multiplied", "shifted", "mirrored", "stretched", "kept", "sloped", "done", "FORMS", "is_form", "values_of", "coefficients_of", "turned_over", "in_form", "root_sum", "moment", "energy", "energy_of_values", "energies_agree", "middle_value"]
def loose1 : List Str := ["folded_half", "window_sums", "window_by_product", "running_sums", "step_row", "PAIRED", "named_deeds", "extra_of", "coefficients_along", "answers_of", "_law_pond", "_law_fish", "_law_equal", "_law_some_field", "_law_some_row", "_law_root_power", "_law_values", "_law_sums_asked", "_law_rows_asked", "_law_program_asked", "_law_hand"]
def loose : List Str := loose0 ++ loose1
def lawAt : Nat := 60
end K89
end

section
set_option Elab.async false
set_option linter.all false
set_option maxRecDepth 100000
set_option maxHeartbeats 200000
namespace K89
open Tw
open PySem (Str)
@[simp] theorem pgcs : pg.cs = [(.tup [(.str "C"), (.str "V")]), (.tup [(.str "add"), (.str "less"), (.str "times")])] := rfl
theorem sm1 {i : Int} {p : Int} (h0 : 0 ≤ i) (h1 : i < p) (hp : p < 100000) : small i = true := small_of (by omega) (by omega)
theorem pw_even (b : Int) (m : Nat) : (b * b) ^ m = b ^ (2 * m) := by
  rw [Int.pow_mul]
  congr 1
  grind
theorem mod_pow (a p : Int) (n : Nat) : (a % p) ^ n % p = a ^ n % p := by
  induction n with
  | zero => simp
  | succ n ih =>
    rw [Int.pow_succ, Int.pow_succ, Int.mul_emod, ih, Int.emod_emod, ← Int.mul_emod]
theorem mod_mul_l (a b p : Int) : (a % p * b) % p = (a * b) % p := by rw [Int.mul_emod, Int.emod_emod, ← Int.mul_emod]
theorem mod_mul_r (a b p : Int) : (a * (b % p)) % p = (a * b) % p := by rw [Int.mul_emod, Int.emod_emod, ← Int.mul_emod]
theorem s_power_of {p r : Int} {t : Nat} (hp : 0 < p) (hp2 : p < 100000) (ht : t < 1000) (k : Nat) (h : Heap) :
    callI pg (k + 1) f_power_of [.int p, .int r, .int t] h = .ok (.int (r ^ t % p), h) := by
  rw [u_power_of, b_power_of]
  simp [hp]
  refine go_whileE t (fun m ρ h1 => h1 = h ∧ ∃ a b : Int, ρ = [some (.int p), some (.int r), some (.int t), some (.int a), some (.int b), some (.int m)] ∧ 0 ≤ a ∧ a < p ∧ 0 ≤ b ∧ b < p ∧ (a * b ^ m) % p = r ^ t % p)
    (fun ρ h1 => h1 = h ∧ ∃ b l : Int, ρ = [some (.int p), some (.int r), some (.int t), some (.int (r ^ t % p)), some (.int b), some (.int l)])
    (by unfold FUEL; omega) ⟨rfl, 1 % p, r % p, rfl, Int.emod_nonneg _ (by omega), Int.emod_lt_of_pos _ hp, Int.emod_nonneg _ (by omega), Int.emod_lt_of_pos _ hp, by rw [mod_mul_l, Int.one_mul, mod_pow]⟩ ?_ ?_
  · rintro m ρ h1 ⟨rfl, a, b, rfl, ha, ha', hb, hb', e⟩
    by_cases hm : m = 0
    · subst hm
      left
      refine ⟨by simp, rfl, b, 0, ?_⟩
      rw [Int.pow_zero, Int.mul_one, Int.emod_eq_of_lt ha ha'] at e
      simp [e]
    · right
      have hb2 : (b * b) % p < p := Int.emod_lt_of_pos _ hp
      have hb3 : 0 ≤ (b * b) % p := Int.emod_nonneg _ (by omega)
      have hab2 : (a * b) % p < p := Int.emod_lt_of_pos _ hp
      have hab3 : 0 ≤ (a * b) % p := Int.emod_nonneg _ (by omega)
      refine ⟨by simp; omega, m / 2, ?_⟩
      have hd : ((m : Int) / 2) = ((m / 2 : Nat) : Int) := by omega
      by_cases ho : m % 2 = 1
      · refine ⟨[some (.int p), some (.int r), some (.int t), some (.int ((a * b) % p)), some (.int ((b * b) % p)), some (.int (m / 2 : Nat))], h1, by omega, ?_, rfl, (a * b) % p, (b * b) % p, rfl, hab3, hab2, hb3, hb2, ?_⟩
        · have : ((m : Int) % 2 = 1) := by omega
          simp [this, hp, sm1 ha ha' hp2, sm1 hb hb' hp2]
        · rw [mod_mul_l, ← e, Int.mul_emod, mod_pow, ← Int.mul_emod, pw_even, Int.mul_assoc, ← Int.pow_succ', show 2 * (m / 2) + 1 = m by omega]
      · refine ⟨[some (.int p), some (.int r), some (.int t), some (.int a), some (.int ((b * b) % p)), some (.int (m / 2 : Nat))], h1, by omega, ?_, rfl, a, (b * b) % p, rfl, ha, ha', hb3, hb2, ?_⟩
        · have : ¬ ((m : Int) % 2 = 1) := by omega
          simp [this, hp, sm1 ha ha' hp2, sm1 hb hb' hp2]
        · rw [← e, Int.mul_emod, mod_pow, ← Int.mul_emod, pw_even, show 2 * (m / 2) = m by omega]
  · rintro ρ' h' ⟨rfl, b, l, rfl⟩
    simp
/-- a field: a prime p, n, a root w of order n -/
structure Fld (p : Int) (n : Nat) (w : Int) : Prop where
  p2 : 2 ≤ p
  pU : p < 1000
  n1 : 1 ≤ n
  nU : n < 13
  w0 : 0 ≤ w
  wU : w < p
  wn : w ^ n % p = 1
  orth : ∀ i, i < n → 0 < i → sm n (fun j => w ^ (i * j % n)) % p = 0
  inv : ((n : Int) * (n : Int) ^ (p - 2).toNat) % p = 1
  np : (n : Int) % p ≠ 0
abbrev fl (p : Int) (n : Nat) (w : Int) : D := .tup [.int p, .int (n : Int), .int w]
/-- the roots -/
def rr (p w : Int) (i : Nat) : Int := w ^ i % p
theorem rr_small {p w : Int} {n : Nat} (F : Fld p n w) (x : Int) : small (cy n (rr p w) x) = true := by
  have h1 : 0 ≤ cy n (rr p w) x := Int.emod_nonneg _ (by have := F.p2; omega)
  have h2 : cy n (rr p w) x < p := Int.emod_lt_of_pos _ (by have := F.p2; omega)
  have := F.pU
  exact small_of (by omega) (by omega)
theorem ints_last (n : Nat) (f : Nat → Int) (hn : 0 < n) : nth (intz n f) (-1) = some (.int (f (n - 1))) := by
  rw [ints_neg (by omega) (by omega), show ((-1 : Int) + n).toNat = n - 1 by omega]
theorem s_root_row {p w : Int} {n : Nat} (F : Fld p n w) (k : Nat) (h : Heap) : callI pg (k + 1) f_root_row [fl p n w] h = .ok (row n (rr p w), h) := by
  obtain ⟨p2, pU, n1, nU, w0, wU⟩ := F
  have hp : 0 < p := by omega
  rw [u_root_row, b_root_row]
  simp [hp, LIM]
  refine go_whileE (n - 1) (fun m ρ h1 => ∃ l, 1 ≤ l ∧ m + l = n ∧ h1 = h ++ [.lst (intz l (rr p w))] ∧ ρ = [some (fl p n w), some (.ref h.length), some (.int p), some (.int n), some (.int w)])
    (fun ρ h1 => h1 = h ++ [.lst (intz n (rr p w))] ∧ ρ = [some (fl p n w), some (.ref h.length), some (.int p), some (.int n), some (.int w)]) (by unfold FUEL; omega) ⟨1, by omega, by omega, by simp [intz, rr], rfl⟩ ?_ ?_
  · rintro m ρ h1 ⟨l, l1, ml, rfl, rfl⟩
    by_cases hm : m = 0
    · left
      have : l = n := by omega
      subst this
      simp
    · right
      have h0 := sm1 w0 wU (by omega)
      have : l < 16777216 := by omega
      refine ⟨by simp; omega, m - 1, _, _, by omega, ?_, l + 1, by omega, by omega, rfl, rfl⟩
      simp [ints_last _ _ (show 0 < l by omega), h0, hp, LIM, this]
      rw [ints_succ]
      simp [rr]
      rw [mod_mul_l, ← Int.pow_succ, show (l - 1).succ = l by omega]
  · rintro ρ' h' ⟨rfl, rfl⟩
    simp

theorem s_added {p w : Int} {n : Nat} (F : Fld p n w) (a b : Nat → Int) (k : Nat) (h : Heap) : callI pg (k + 1) f_added [fl p n w, row n a, row n b] h = .ok (row n fun i => (a i + b i) % p, h) := by
  obtain ⟨p2, pU, n1, nU, w0, wU⟩ := F
  have hp : 0 < p := by omega
  rw [u_added, b_added]
  simp
  rw [comp_zip n a b (fun i => (a i + b i) % p) (by simp [isTup]) (by unfold LIM; omega) (by intro j hj; simp [nth, hp])]
  simp
theorem s_lessened {p w : Int} {n : Nat} (F : Fld p n w) (a b : Nat → Int) (k : Nat) (h : Heap) : callI pg (k + 1) f_lessened [fl p n w, row n a, row n b] h = .ok (row n fun i => (a i - b i) % p, h) := by
  obtain ⟨p2, pU, n1, nU, w0, wU⟩ := F
  have hp : 0 < p := by omega
  rw [u_lessened, b_lessened]
  simp
  rw [comp_zip n a b (fun i => (a i - b i) % p) (by simp [isTup]) (by unfold LIM; omega) (by intro j hj; simp [nth, hp])]
  simp
theorem ne_VC : ¬ Str.ofString "V" = Str.ofString "C" := by simp [str_eq]
theorem s_shifted {p w : Int} {n : Nat} (F : Fld p n w) (a : Nat → Int) (s : Int) (k : Nat) (h : Heap) : callI pg (k + 1) f_shifted [fl p n w, .str "C", row n a, .int s] h = .ok (row n fun i => cy n a (i - s), h) := by
  obtain ⟨p2, pU, n1, nU, w0, wU⟩ := F
  have hn : 0 < n := by omega
  rw [u_shifted, b_shifted]
  simp [LIM]
  rw [comp_ints n (fun i => cy n a (i - s)) (by simp [rok (show n < 1000000 by omega)]) (by unfold LIM; omega) (by intro j hj; simp [z_cy, hn])]
  simp
theorem s_sloped {p w : Int} {n : Nat} (F : Fld p n w) (a : Nat → Int) (k : Nat) (h : Heap) : callI pg (k + 1) f_sloped [fl p n w, row n a] h = .ok (row n fun i => (i * a i) % p, h) := by
  obtain ⟨p2, pU, n1, nU, w0, wU⟩ := F
  have hp : 0 < p := by omega
  rw [u_sloped, b_sloped]
  simp
  rw [comp_enum n a (fun i => (i * a i) % p) (by simp) (by unfold LIM; omega) (by
    intro j hj
    have : small (j : Int) = true := small_of (by omega) (by omega)
    simp [nth, hp, this])]
  simp
theorem s_middle_value {p w : Int} {n : Nat} (F : Fld p n w) (a : Nat → Int) (k : Nat) (h : Heap) : callI pg (k + 1) f_middle_value [fl p n w, row n a] h = .ok (.int (sm n a % p), h) := by
  obtain ⟨p2, pU, n1, nU, w0, wU⟩ := F
  have hp : 0 < p := by omega
  rw [u_middle_value, b_middle_value]
  simp [nth, hp]
theorem s_step_row {p w : Int} {n : Nat} (F : Fld p n w) (a : Nat → Int) (k : Nat) (h : Heap) : callI pg (k + 1) f_step_row [fl p n w, row n a] h = .ok (row n fun i => (a i - cy n a (i - 1)) % p, h) := by
  obtain ⟨p2, pU, n1, nU, w0, wU⟩ := F
  have hn : 0 < n := by omega
  have hp : 0 < p := by omega
  rw [u_step_row, b_step_row]
  simp [nth]
  rw [comp_ints n (fun i => (a i - cy n a (i - 1)) % p) (by simp [rok (show n < 1000000 by omega)]) (by unfold LIM; omega) (by
    intro j hj
    simp [z_cy, hn, ints_at hj, hp]
    simp [nth, hp])]
  simp
theorem s_folded_half {p w : Int} {n : Nat} (F : Fld p n w) (a : Nat → Int) (k : Nat) (h : Heap) : callI pg (k + 1) f_folded_half [fl p n w, row n a] h = .ok (row n fun i => (a i + cy n a (i + (n : Int) / 2)) % p, h) := by
  obtain ⟨p2, pU, n1, nU, w0, wU⟩ := F
  have hn : 0 < n := by omega
  have hp : 0 < p := by omega
  rw [u_folded_half, b_folded_half]
  simp [nth]
  rw [comp_ints n (fun i => (a i + cy n a (i + (n : Int) / 2)) % p) (by simp [rok (show n < 1000000 by omega)]) (by unfold LIM; omega) (by
    intro j hj
    simp [z_cy, hn, ints_at hj, hp]
    simp [nth, hp])]
  simp
theorem s_energy {p w : Int} {n : Nat} (F : Fld p n w) (a : Nat → Int) (ha : ∀ i, small (a i) = true) (k : Nat) (h : Heap) : callI pg (k + 1) f_energy [fl p n w, row n a] h = .ok (.int (sm n (fun i => a i * cy n a (-i)) % p), h) := by
  obtain ⟨p2, pU, n1, nU, w0, wU⟩ := F
  have hn : 0 < n := by omega
  have hp : 0 < p := by omega
  rw [u_energy, b_energy]
  simp [nth]
  rw [comp_ints n (fun i => a i * cy n a (-i)) (by simp [rok (show n < 1000000 by omega)]) (by unfold LIM; omega) (by
    intro j hj
    simp [z_cy, hn, ints_at hj, hp, ha])]
  simp [hp]
theorem s_window_sums {p w : Int} {n : Nat} (F : Fld p n w) (a : Nat → Int) (m : Nat) (hm : m < 1000) (k : Nat) (h : Heap) : callI pg (k + 1) f_window_sums [fl p n w, row n a, .int m] h = .ok (row n fun i => sm m (fun j => cy n a (i + j)) % p, h) := by
  obtain ⟨p2, pU, n1, nU, w0, wU⟩ := F
  have hn : 0 < n := by omega
  have hp : 0 < p := by omega
  rw [u_window_sums, b_window_sums]
  simp [nth]
  rw [comp_ints n (fun i => sm m (fun j => cy n a (i + j)) % p) (by simp [rok (show n < 1000000 by omega)]) (by unfold LIM; omega) (by
    intro i hi
    simp
    rw [comp_ints m (fun j => cy n a (i + j)) (by simp [rok (show m < 1000000 by omega)]) (by unfold LIM; omega) (by
      intro j hj
      simp [z_cy, hn])]
    simp [nth, hp])]
  simp
/-- the values of a row -/
def vs (p w : Int) (n : Nat) (a : Nat → Int) (j : Nat) : Int := sm n (fun i => a i * cy n (rr p w) (i * j)) % p
/-- the row of values -/
def cs (p w : Int) (n : Nat) (a : Nat → Int) (i : Nat) : Int := (sm n (fun j => a j * cy n (rr p w) (-(i * j))) * ((n : Int) ^ (p - 2).toNat % p)) % p
theorem s_values_of {p w : Int} {n : Nat} (F : Fld p n w) (a : Nat → Int) (k : Nat) (h : Heap) : callI pg (k + 2) f_values_of [fl p n w, row n a] h = .ok (row n (vs p w n a), h) := by
  have hr := rr_small F
  have e := s_root_row F k h
  obtain ⟨p2, pU, n1, nU, w0, wU⟩ := F
  have hn : 0 < n := by omega
  have hp : 0 < p := by omega
  rw [u_values_of, b_values_of]
  simp [LIM, e]
  refine go_rngE (h1 := h ++ [.lst []]) n (fun i ρ h1 => h1 = h ++ [.lst (intz i (vs p w n a))] ∧ ∃ x y, ρ = [some (fl p n w), some (row n a), some (row n (rr p w)), some (.ref h.length), x, some (.int p), some (.int n), some (.int w), y]) (by simp [rok (show n < 1000000 by omega)]) ⟨by simp [intz], _, _, rfl⟩ ?_ ?_
  · rintro i ρ h1 hi ⟨rfl, x, y, rfl⟩
    have hl : i < LIM := by unfold LIM; omega
    refine ⟨_, _, ?_, rfl, some (.int i), y, rfl⟩
    simp
    rw [comp_ints n (fun j => a j * cy n (rr p w) (j * i)) (by simp [rok (show n < 1000000 by omega)]) (by unfold LIM; omega) (by
      intro j hj
      have : small (j : Int) = true := small_of (by omega) (by omega)
      simp [z_cy, hn, ints_at hj, hr, this])]
    simp [hp, hl, ints_succ, vs]
  · rintro ρ' h' ⟨rfl, x, y, rfl⟩
    simp
theorem s_coefficients_of {p w : Int} {n : Nat} (F : Fld p n w) (a : Nat → Int) (k : Nat) (h : Heap) : callI pg (k + 3) f_coefficients_of [fl p n w, row n a] h = .ok (row n (cs p w n a), h) := by
  have hr := rr_small F
  have e := s_root_row F (k + 1) h
  obtain ⟨p2, pU, n1, nU, w0, wU, _, _, _, np⟩ := F
  have hn : 0 < n := by omega
  have hp : 0 < p := by omega
  have e2 := s_power_of (p := p) (r := n) (t := (p - 2).toNat) hp (by omega) (by omega) k h
  rw [show (((p - 2).toNat : Nat) : Int) = p - 2 by omega] at e2
  have e3 : callI pg (k + 2) f_inverse_of [.int p, .int n] h = .ok (.int ((n : Int) ^ (p - 2).toNat % p), h) := by
    rw [u_inverse_of, b_inverse_of]
    simp [hp, np, e2]
  rw [u_coefficients_of, b_coefficients_of]
  simp [LIM, e, e3]
  have hq : small ((n : Int) ^ (p - 2).toNat % p) = true := sm1 (Int.emod_nonneg _ (by omega)) (Int.emod_lt_of_pos _ hp) (by omega)
  refine go_rngE (h1 := h ++ [.lst []]) n (fun i ρ h1 => h1 = h ++ [.lst (intz i (cs p w n a))] ∧ ∃ x y z, ρ = [some (fl p n w), some (row n a), some (row n (rr p w)), some (.int ((n : Int) ^ (p - 2).toNat % p)), some (.ref h.length), x, some (.int p), some (.int n), some (.int w), y, z]) (by simp [rok (show n < 1000000 by omega)]) ⟨by simp [intz], _, _, _, rfl⟩ ?_ ?_
  · rintro i ρ h1 hi ⟨rfl, x, y, z, rfl⟩
    have hl : i < LIM := by unfold LIM; omega
    refine ⟨_, _, ?_, rfl, some (.int i), some (.int (sm n (fun j => a j * cy n (rr p w) (-(i * j))))), z, rfl⟩
    simp
    rw [comp_ints n (fun j => a j * cy n (rr p w) (-(i * j))) (by simp [rok (show n < 1000000 by omega)]) (by unfold LIM; omega) (by
      intro j hj
      have : small (j : Int) = true := small_of (by omega) (by omega)
      simp [z_cy, hn, ints_at hj, hr, this])]
    simp [hp, hl, ints_succ, cs, hq]
  · rintro ρ' h' ⟨rfl, x, y, z, rfl⟩
    simp
end K89
end

section
set_option Elab.async false
set_option linter.all false
set_option maxRecDepth 100000
set_option maxHeartbeats 400000
namespace K89
open Tw
open PySem (Str)
theorem ints_set {n : Nat} {f : Nat → Int} {i : Nat} (v : Int) : (intz n f).set i (.int v) = intz n (fun t => if t = i then v else f t) := by
  apply List.ext_getElem?
  intro t
  rw [List.getElem?_set]
  by_cases h : t < n
  · rw [ints_get h, ints_get h, ints_len]
    by_cases e : i = t
    · subst e
      simp [h]
    · rw [if_neg e, if_neg (fun q => e q.symm)]
  · have h1 : (intz n f)[t]? = none := by simp [intz]; omega
    have h2 : (intz n fun t => if t = i then v else f t)[t]? = none := by simp [intz]; omega
    rw [h1, h2, ints_len]
    by_cases e : i = t
    · subst e
      simp [h]
    · rw [if_neg e]
theorem nix_cy {n : Nat} (hn : 0 < n) (x : Int) : nix n (x % (n : Int)) = some (x % (n : Int)).toNat := by
  have h0 : 0 ≤ x % (n : Int) := Int.emod_nonneg _ (by omega)
  have h1 : x % (n : Int) < n := Int.emod_lt_of_pos _ (by omega)
  unfold nix
  rw [if_pos h0, if_pos h1]
theorem sm_congr {n : Nat} {f g : Nat → Int} (h : ∀ i, i < n → f i = g i) : sm n f = sm n g := by
  induction n with
  | zero => rfl
  | succ n ih =>
    show sm n f + f n = sm n g + g n
    rw [ih (fun i hi => h i (by omega)), h n (by omega)]
theorem sm_zero (n : Nat) : sm n (fun _ => 0) = 0 := by
  induction n with
  | zero => rfl
  | succ n ih =>
    show sm n (fun _ => 0) + 0 = 0
    rw [ih]
    rfl
theorem sm_delta {n : Nat} (x : Nat → Int) (t : Nat) (ht : t < n) : sm n (fun j => if j = t then x j else 0) = x t := by
  induction n with
  | zero => omega
  | succ n ih =>
    show sm n (fun j => if j = t then x j else 0) + (if n = t then x n else 0) = x t
    by_cases e : n = t
    · subst e
      rw [if_pos rfl, sm_congr (g := fun _ => 0) (fun i hi => if_neg (by omega)), sm_zero]
      simp
    · rw [if_neg e, ih (by omega)]
      simp
/-- around: the product of two rows of coefficients -/
def cv (p : Int) (n : Nat) (a b : Nat → Int) (t : Nat) : Int := sm n (fun i => a i * cy n b (t - i)) % p
def mS (n : Nat) (a b : Nat → Int) (i j t : Nat) : Int := sm i (fun i' => sm n (fun j' => if (i' + j') % n = t then a i' * b j' else 0)) + sm j (fun j' => if (i + j') % n = t then a i * b j' else 0)
theorem add_iff {n i j t : Nat} (ht : t < n) (hj : j < n) : (i + j) % n = t ↔ j = ((t - i : Int) % n).toNat := by
  have h0 : 0 ≤ (t - i : Int) % n := Int.emod_nonneg _ (by omega)
  have h1 : (t - i : Int) % n < n := Int.emod_lt_of_pos _ (by omega)
  have hc : (((i + j) % n : Nat) : Int) = ((i : Int) + j) % n := by simp
  constructor
  · intro e
    have e1 : (t : Int) = ((i : Int) + j) % n := by omega
    have : (t - i : Int) % n = j := by
      rw [e1, Int.emod_sub_emod, show (i : Int) + j - i = j by omega]
      exact Int.emod_eq_of_lt (by omega) (by omega)
    omega
  · intro e
    have e1 : (j : Int) = (t - i : Int) % n := by omega
    have : ((i : Int) + j) % n = t := by
      rw [e1, Int.add_emod_emod, show (i : Int) + (t - i) = t by omega]
      exact Int.emod_eq_of_lt (by omega) (by omega)
    omega
theorem mS_end {n : Nat} (a b : Nat → Int) (t : Nat) (ht : t < n) (p : Int) : mS n a b n 0 t % p = cv p n a b t := by
  unfold mS cv
  show (sm n _ + 0) % p = _
  rw [Int.add_zero]
  congr 1
  apply sm_congr
  intro i hi
  rw [sm_congr (g := fun j => if j = ((t - i : Int) % n).toNat then a i * b j else 0) (fun j hj => by
    by_cases e : (i + j) % n = t
    · rw [if_pos e, if_pos ((add_iff ht hj).mp e)]
    · rw [if_neg e, if_neg (fun q => e ((add_iff ht hj).mpr q))])]
  have h1 : (t - i : Int) % n < n := Int.emod_lt_of_pos _ (by omega)
  have h0 : 0 ≤ (t - i : Int) % n := Int.emod_nonneg _ (by omega)
  exact sm_delta (fun j => a i * b j) _ (by omega)
theorem mS_next (n : Nat) (a b : Nat → Int) (i t : Nat) : mS n a b i n t = mS n a b (i + 1) 0 t := by
  unfold mS
  show _ = (sm i _ + sm n _) + 0
  rw [Int.add_zero]
theorem mS_step (n : Nat) (a b : Nat → Int) (i j t : Nat) : mS n a b i (j + 1) t = mS n a b i j t + if (i + j) % n = t then a i * b j else 0 := by
  unfold mS
  show _ + (_ + _) = _
  rw [Int.add_assoc]
theorem s_multiplied {p w : Int} {n : Nat} (F : Fld p n w) (a b : Nat → Int) (ha : ∀ i, small (a i) = true) (k : Nat) (h : Heap) : callI pg (k + 1) f_multiplied [fl p n w, .str "C", row n a, row n b] h = .ok (row n (cv p n a b), h) := by
  obtain ⟨p2, pU, n1, nU, w0, wU, _, _, _, np⟩ := F
  have hn : 0 < n := by omega
  have hp : 0 < p := by omega
  have hr : List.replicate n (D.int 0) = intz n (fun t => mS n a b 0 0 t % p) := by
    apply List.ext_getElem?
    intro t
    by_cases ht : t < n
    · rw [ints_get ht]
      simp [ht, mS, sm]
    · simp [ht, intz]
  rw [u_multiplied, b_multiplied]
  simp [str_eq, rok (show n < 1000000 by omega), LIM, show n ≤ 16777216 by omega, hr]
  refine go_itemsE (h1 := h ++ [.lst (intz n fun t => mS n a b 0 0 t % p)]) (enumD 0 (intz n a)) (fun i ρ h1 => h1 = h ++ [.lst (intz n fun t => mS n a b i 0 t % p)] ∧ ∃ x1 x2 x3 x4 x5, ρ = [some (fl p n w), some (.str "C"), some (row n a), some (row n b), some (.ref h.length), some (.int p), some (.int n), some (.int w), x1, x2, x3, x4, x5]) (by simp) ⟨rfl, _, _, _, _, _, rfl⟩ ?_ ?_
  · rintro i x ρ h1 hx ⟨rfl, x1, x2, x3, x4, x5, rfl⟩
    obtain ⟨hi, rfl⟩ := enumI_get hx
    simp
    obtain ⟨ρ', h', e, q⟩ := loop_items (c := ⟨callI pg k, [(.tup [(.str "C"), (.str "V")]), (.tup [(.str "add"), (.str "less"), (.str "times")])]⟩) (t := .tup (.cons (.name 10) (.cons (.name 11) .nil))) (it := .enum (.var 3))
      (b := (.cons (.asg (.name 12) (.bin .mod (.bi .int (.cons (.bin .add (.var 8) (.var 10)) .nil)) (.var 6))) (.cons (.asg (.sub (.var 4) (.var 12)) (.bin .mod (.bi .int (.cons (.bin .add (.idx (.var 4) (.var 12)) (.bin .mul (.var 9) (.var 11))) .nil)) (.var 5))) .nil)))
      (ρ := [some (fl p n w), some (.str "C"), some (row n a), some (row n b), some (.ref h.length), some (.int p), some (.int n), some (.int w), some (.int i), some (.int (a i)), x3, x4, x5]) (h := h ++ [.lst (intz n fun t => mS n a b i 0 t % p)]) (h1 := h ++ [.lst (intz n fun t => mS n a b i 0 t % p)])
      (enumD 0 (intz n b)) (by simp) (fun j ρ h1 => h1 = h ++ [.lst (intz n fun t => mS n a b i j t % p)] ∧ ∃ x3 x4 x5, ρ = [some (fl p n w), some (.str "C"), some (row n a), some (row n b), some (.ref h.length), some (.int p), some (.int n), some (.int w), some (.int i), some (.int (a i)), x3, x4, x5]) ⟨rfl, _, _, _, rfl⟩ (by
        rintro j x ρ h1 hx ⟨rfl, x3, x4, x5, rfl⟩
        obtain ⟨hj, rfl⟩ := enumI_get hx
        refine ⟨_, _, ?_, rfl, some (.int j), some (.int (b j)), some (.int (((i : Int) + j) % n)), rfl⟩
        simp [hn, z_cy hn, nix_cy hn, hp, ha, ints_set]
        apply ints_congr
        intro t ht
        rw [mS_step]
        have hd : (((i + j) % n : Nat) : Int) = ((i : Int) + j) % n := by simp
        have hc : t = (((i : Int) + j) % n).toNat ↔ (i + j) % n = t := by omega
        by_cases e : (i + j) % n = t
        · rw [if_pos (hc.mpr e), if_pos e]
          unfold cy
          rw [show (((i : Int) + j) % n).toNat = t by omega]
          rw [Int.emod_add_emod]
        · rw [if_neg (fun q => e (hc.mp q)), if_neg e, Int.add_zero])
    rw [e]
    obtain ⟨rfl, x3, x4, x5, rfl⟩ := q
    refine ⟨_, _, rfl, ?_, _, _, _, _, _, rfl⟩
    rw [enumD_len, ints_len]
    congr 3
    apply ints_congr
    intro t ht
    rw [mS_next]
  · rintro ρ' h' ⟨rfl, x1, x2, x3, x4, x5, rfl⟩
    rw [enumD_len, ints_len]
    rw [ints_congr (fun t ht => mS_end a b t ht p)]
    simp

/-- how often the window of m reaches place t, mod p -/
def wn (p : Int) (n : Nat) : Nat → Nat → Int
  | 0, _ => 0
  | m + 1, t => if t = ((-(m : Int)) % n).toNat then (wn p n m t + 1) % p else wn p n m t
theorem wn_small {p : Int} (hp : 0 < p) (hp2 : p < 1000) (n : Nat) : ∀ m t, small (wn p n m t) = true := by
  have key : ∀ m t, 0 ≤ wn p n m t ∧ wn p n m t < p := by
    intro m
    induction m with
    | zero => intro t; exact ⟨Int.le_refl _, hp⟩
    | succ m ih =>
      intro t
      unfold wn
      split
      · exact ⟨Int.emod_nonneg _ (by omega), Int.emod_lt_of_pos _ hp⟩
      · exact ih t
  intro m t
  have := key m t
  exact small_of (by omega) (by omega)
theorem rep_zero (n : Nat) (f : Nat → Int) (hf : ∀ t, f t = 0) : List.replicate n (D.int 0) = intz n f := by
  apply List.ext_getElem?
  intro t
  by_cases ht : t < n
  · rw [ints_get ht]
    simp [ht, hf]
  · simp [ht, intz]
theorem s_window_by_product {p w : Int} {n : Nat} (F : Fld p n w) (a : Nat → Int) (m : Nat) (hm : m < 1000) (k : Nat) (h : Heap) : callI pg (k + 2) f_window_by_product [fl p n w, row n a, .int m] h = .ok (row n (cv p n (wn p n m) a), h) := by
  have F' := F
  obtain ⟨p2, pU, n1, nU, w0, wU, _, _, _, np⟩ := F
  have hn : 0 < n := by omega
  have hp : 0 < p := by omega
  have hr : List.replicate n (D.int 0) = intz n (wn p n 0) := rep_zero n _ (fun _ => rfl)
  rw [u_window_by_product, b_window_by_product]
  simp [nth, rok (show n < 1000000 by omega), LIM, show n ≤ 16777216 by omega, hr]
  refine go_rngE (h1 := h ++ [.lst (intz n (wn p n 0))]) m (fun i ρ h1 => h1 = h ++ [.lst (intz n (wn p n i))] ∧ ∃ x, ρ = [some (fl p n w), some (row n a), some (.int m), some (.int n), some (.ref h.length), x]) (by simp [rok (show m < 1000000 by omega)]) ⟨rfl, _, rfl⟩ ?_ ?_
  · rintro i ρ h1 hi ⟨rfl, x, rfl⟩
    refine ⟨_, _, ?_, rfl, some (.int i), rfl⟩
    simp [hn, z_cy hn, nix_cy hn, hp, ints_set]
    simp [nth, hp, ints_set, nix_cy hn]
    apply ints_congr
    intro t ht
    unfold cy
    rw [wn]
    by_cases e : t = ((-(i : Int)) % n).toNat
    · rw [if_pos e, if_pos e, ← e]
    · rw [if_neg e, if_neg e]
  · rintro ρ' h' ⟨rfl, x, rfl⟩
    simp [s_multiplied F' (wn p n m) a (wn_small hp pU n m)]
theorem s_running_sums {p w : Int} {n : Nat} (F : Fld p n w) (a : Nat → Int) (k : Nat) (h : Heap) : callI pg (k + 1) f_running_sums [fl p n w, row n a] h = .ok (row n (fun i => sm (i + 1) a % p), h) := by
  obtain ⟨p2, pU, n1, nU, w0, wU, _, _, _, np⟩ := F
  have hp : 0 < p := by omega
  rw [u_running_sums, b_running_sums]
  simp
  refine go_itemsE (h1 := h ++ [.lst []]) (intz n a) (fun i ρ h1 => h1 = h ++ [.lst (intz i (fun i => sm (i + 1) a % p))] ∧ i ≤ n ∧ ∃ x, ρ = [some (fl p n w), some (row n a), some (.ref h.length), some (.int (sm i a % p)), x]) (by simp) ⟨rfl, by omega, _, by simp [sm]; rfl⟩ ?_ ?_
  · rintro i x ρ h1 hx ⟨rfl, hi', x1, rfl⟩
    obtain ⟨hi, rfl⟩ := ints_some hx
    refine ⟨_, _, ?_, rfl, by omega, some (.int (a i)), rfl⟩
    have hl : i < LIM := by unfold LIM; omega
    simp [nth, hp, hl, ints_succ, sm]
  · rintro ρ' h' ⟨rfl, _, x, rfl⟩
    simp
theorem rr_in {p w : Int} (hp : 0 < p) (i : Nat) : 0 ≤ rr p w i ∧ rr p w i < p := ⟨Int.emod_nonneg _ (by omega), Int.emod_lt_of_pos _ hp⟩
theorem s_root_sum {p w : Int} {n : Nat} (F : Fld p n w) (t : Nat) (ht : t < 1000) (k : Nat) (h : Heap) : callI pg (k + 2) f_root_sum [fl p n w, .int t] h = .ok (.int (sm n (fun i => rr p w i ^ t % p) % p), h) := by
  have e := s_root_row F k h
  obtain ⟨p2, pU, n1, nU, w0, wU, _, _, _, np⟩ := F
  have hp : 0 < p := by omega
  rw [u_root_sum, b_root_sum]
  simp
  rw [comp_row n (rr p w) (fun i => rr p w i ^ t % p) (by simp [e]) (by unfold LIM; omega) (by
    intro j hj
    simp [nth, s_power_of (r := rr p w j) (t := t) hp (by omega) ht])]
  simp [nth, hp]
theorem s_moment {p w : Int} {n : Nat} (F : Fld p n w) (a : Nat → Int) (t : Nat) (ht : t < 1000) (k : Nat) (h : Heap) : callI pg (k + 2) f_moment [fl p n w, row n a, .int t] h = .ok (.int (sm n (fun i => a i * ((i : Int) ^ t % p)) % p), h) := by
  obtain ⟨p2, pU, n1, nU, w0, wU, _, _, _, np⟩ := F
  have hp : 0 < p := by omega
  rw [u_moment, b_moment]
  simp
  rw [comp_enum n a (fun i => a i * ((i : Int) ^ t % p)) (by simp) (by unfold LIM; omega) (by
    intro j hj
    have : small ((j : Int) ^ t % p) = true := sm1 (Int.emod_nonneg _ (by omega)) (Int.emod_lt_of_pos _ hp) (by omega)
    simp [nth, s_power_of (r := j) (t := t) hp (by omega) ht, this])]
  simp [nth, hp]
theorem vs_in {p w : Int} (hp : 0 < p) (n : Nat) (a : Nat → Int) (j : Nat) : 0 ≤ vs p w n a j ∧ vs p w n a j < p := ⟨Int.emod_nonneg _ (by omega), Int.emod_lt_of_pos _ hp⟩
theorem vs_small {p w : Int} (hp : 0 < p) (hU : p < 1000) (n : Nat) (a : Nat → Int) (j : Nat) : small (vs p w n a j) = true := by
  have := vs_in (w := w) hp n a j
  exact small_of (by omega) (by omega)
theorem s_energy_of_values {p w : Int} {n : Nat} (F : Fld p n w) (a : Nat → Int) (k : Nat) (h : Heap) : callI pg (k + 3) f_energy_of_values [fl p n w, row n a] h = .ok (.int (sm n (fun i => vs p w n a i * vs p w n a i) % p), h) := by
  have e := s_values_of F a k h
  obtain ⟨p2, pU, n1, nU, w0, wU, _, _, _, np⟩ := F
  have hp : 0 < p := by omega
  rw [u_energy_of_values, b_energy_of_values]
  simp
  rw [comp_row n (vs p w n a) (fun i => vs p w n a i * vs p w n a i) (by simp [e]) (by unfold LIM; omega) (by
    intro j hj
    simp [vs_small hp pU])]
  simp [nth, hp]
theorem s_energies_agree {p w : Int} {n : Nat} (F : Fld p n w) (a : Nat → Int) (ha : ∀ i, small (a i) = true) (k : Nat) (h : Heap) : callI pg (k + 4) f_energies_agree [fl p n w, row n a] h = .ok (.bl (decide ((sm n (fun i => a i * cy n a (-i)) % p * n) % p = sm n (fun i => vs p w n a i * vs p w n a i) % p)), h) := by
  have e := s_energy_of_values F a k h
  have e2 := s_energy F a ha (k + 2) h
  obtain ⟨p2, pU, n1, nU, w0, wU, _, _, _, np⟩ := F
  have hp : 0 < p := by omega
  rw [u_energies_agree, b_energies_agree]
  have hs : small (n : Int) = true := small_of (by omega) (by omega)
  simp [e, e2, nth, hp, hs]
theorem s_is_form_C (k : Nat) (h : Heap) : callI pg (k + 1) f_is_form [.str "C"] h = .ok (.bl true, h) := by
  rw [u_is_form, b_is_form]
  simp [isTy, inB, scal, eqf, str_eq]
theorem s_is_form_V (k : Nat) (h : Heap) : callI pg (k + 1) f_is_form [.str "V"] h = .ok (.bl true, h) := by
  rw [u_is_form, b_is_form]
  simp [isTy, inB, scal, eqf, str_eq]
theorem s_turned_C {p w : Int} {n : Nat} (F : Fld p n w) (a : Nat → Int) (k : Nat) (h : Heap) : callI pg (k + 3) f_turned_over [fl p n w, row n a, .str "C"] h = .ok (row n (vs p w n a), h) := by
  rw [u_turned_over, b_turned_over]
  simp [s_is_form_C, s_values_of F]
theorem s_turned_V {p w : Int} {n : Nat} (F : Fld p n w) (a : Nat → Int) (k : Nat) (h : Heap) : callI pg (k + 4) f_turned_over [fl p n w, row n a, .str "V"] h = .ok (row n (cs p w n a), h) := by
  rw [u_turned_over, b_turned_over]
  simp [s_is_form_V, s_coefficients_of F, str_eq]
def isF (s : Str) : Prop := s = "C" ∨ s = "V"
theorem in_formL {d0 d1 : D} {s t : Str} (hs : isF s) (ht : isF t) (k : Nat) (h : Heap) (cs : List D) : ∃ x, exec ⟨callI pg (k + 1), cs⟩ (.loop (.name 4) (.val (.tup (.cons (.var 2) (.cons (.var 3) .nil)))) (.cons (.ite (.not (.val (.call f_is_form (.cons (.var 4) .nil)))) (.cons .raise .nil) .nil) .nil)) [some d0, some d1, some (.str s), some (.str t), none] h = .ok (.nx, [some d0, some d1, some (.str s), some (.str t), x], h) := by
  have e : ∀ s, isF s → callI pg (k + 1) f_is_form [.str s] h = .ok (.bl true, h) := by
    rintro s (rfl | rfl)
    · exact s_is_form_C k h
    · exact s_is_form_V k h
  rw [exec]
  simp [LIM, forL, guards, e s hs, e t ht]
theorem s_in_form_same {s : Str} (hs : isF s) (d0 d1 : D) (k : Nat) (h : Heap) : callI pg (k + 2) f_in_form [d0, d1, .str s, .str s] h = .ok (d1, h) := by
  obtain ⟨x, e⟩ := in_formL (d0 := d0) (d1 := d1) hs hs k h pg.cs
  rw [u_in_form, b_in_form]
  rw [z_xs1, e]
  simp
theorem s_in_form_CV {p w : Int} {n : Nat} (F : Fld p n w) (a : Nat → Int) (k : Nat) (h : Heap) : callI pg (k + 4) f_in_form [fl p n w, row n a, .str "C", .str "V"] h = .ok (row n (vs p w n a), h) := by
  obtain ⟨x, e⟩ := in_formL (d0 := fl p n w) (d1 := row n a) (s := "C") (t := "V") (.inl rfl) (.inr rfl) (k + 2) h pg.cs
  rw [u_in_form, b_in_form]
  rw [z_xs1, e]
  simp [str_eq, s_turned_C F]
theorem s_in_form_VC {p w : Int} {n : Nat} (F : Fld p n w) (a : Nat → Int) (k : Nat) (h : Heap) : callI pg (k + 5) f_in_form [fl p n w, row n a, .str "V", .str "C"] h = .ok (row n (cs p w n a), h) := by
  obtain ⟨x, e⟩ := in_formL (d0 := fl p n w) (d1 := row n a) (s := "V") (t := "C") (.inr rfl) (.inl rfl) (k + 3) h pg.cs
  rw [u_in_form, b_in_form]
  rw [z_xs1, e]
  simp [str_eq, s_turned_V F]
end K89
end

section
set_option Elab.async false
set_option linter.all false
set_option maxRecDepth 100000
set_option maxHeartbeats 400000
namespace K89
open Tw
open PySem (Str)
abbrev pd (w c : Int) : O := .dct [(.inr "water", .int w), (.inr "casts", .int c)]
theorem tidy_pd (w c w' c' : Int) (t g : Heap) (d : D) (hd : d.low (t.length + 1) = true) : tidy (pd w c :: t) (d, pd w' c' :: (t ++ g)) = (d, pd w' c' :: t) := tidy_head _ _ t g d hd rfl
theorem tidy_pd0 (w c w' c' : Int) (t : Heap) (d : D) (hd : d.low (t.length + 1) = true) : tidy (pd w c :: t) (d, pd w' c' :: t) = (d, pd w' c' :: t) := by
  have := tidy_pd w c w' c' t [] d hd
  rwa [List.append_nil] at this
theorem s_fish {m : Int} (hm : 0 < m) (w c : Int) (t : Heap) : ∃ v w' c', 0 ≤ v ∧ v < m ∧ ∀ k, callI pg (k + 1) f_law_fish [.ref 0, .int m] (pd w c :: t) = .ok (.int v, pd w' c' :: t) := by
  refine ⟨((w * 22695477 + (c + 1) * 90001 + 5) % 4294967231 / 83) % m, (w * 22695477 + (c + 1) * 90001 + 5) % 4294967231, c + 1, Int.emod_nonneg _ (by omega), Int.emod_lt_of_pos _ hm, fun k => ?_⟩
  have s1 : small 22695477 = true := rfl
  have s2 : small 90001 = true := rfl
  rw [u_law_fish, b_law_fish]
  simp [keyOf, findV, putV, str_eq, LIM, s1, s2, hm]
  exact tidy_pd0 _ _ _ _ _ _ rfl
theorem s_pond (ns : List Int) : ∃ w, ∀ k, callI pg (k + 1) f_law_pond [.seq (ns.map D.int)] [] = .ok (.ref 0, [pd w 0]) := by
  have key : ∃ w, ∀ k, ∃ x, exec ⟨callI pg k, pg.cs⟩ (.loop (.name 2) (.val (.var 0)) (.cons (.asg (.name 1) (.bin .mod (.bi .int (.cons (.bin .add (.bin .add (.bin .mul (.var 1) (.int 50021)) (.bin .mod (.bi .int (.cons (.var 2) .nil)) (.int 999983))) (.int 31)) .nil)) (.int 4294967231))) .nil)) [some (.seq (ns.map D.int)), some (.int 89017), none] [] = .ok (.nx, [some (.seq (ns.map D.int)), some (.int w), x], []) := by
    have s1 : small 50021 = true := rfl
    have : ∀ (l : List Int) (w0 : Int), ∃ w, ∀ k x, ∃ x', forL [] (fun y ρ h => (asg ⟨callI pg k, pg.cs⟩ (.name 2) y ρ h).bind fun s => execs ⟨callI pg k, pg.cs⟩ (.cons (.asg (.name 1) (.bin .mod (.bi .int (.cons (.bin .add (.bin .add (.bin .mul (.var 1) (.int 50021)) (.bin .mod (.bi .int (.cons (.var 2) .nil)) (.int 999983))) (.int 31)) .nil)) (.int 4294967231))) .nil) s.1 s.2) (l.map D.int) [some (.seq (ns.map D.int)), some (.int w0), x] [] = .ok (.nx, [some (.seq (ns.map D.int)), some (.int w), x'], []) := by
      intro l
      induction l with
      | nil => exact fun w0 => ⟨w0, fun k x => ⟨x, rfl⟩⟩
      | cons a l ih =>
        intro w0
        obtain ⟨w, hw⟩ := ih ((w0 * 50021 + a % 999983 + 31) % 4294967231)
        refine ⟨w, fun k x => ?_⟩
        obtain ⟨x', hx⟩ := hw k (some (.int a))
        refine ⟨x', ?_⟩
        rw [← hx, List.map_cons, forL]
        simp [guards, s1]
    obtain ⟨w, hw⟩ := this ns 89017
    refine ⟨w, fun k => ?_⟩
    obtain ⟨x, hx⟩ := hw k none
    refine ⟨x, ?_⟩
    rw [← hx, exec]
    simp
  obtain ⟨w, hw⟩ := key
  refine ⟨w, fun k => ?_⟩
  obtain ⟨x, hx⟩ := hw k
  rw [u_law_pond, b_law_pond]
  rw [z_xs1]
  simp only [z_xasg, z_int, z_bind, z_name, List.set_cons_succ, List.set_cons_zero, z_nx]
  rw [z_xs1, hx]
  simp [dbuild, dputM, keyOf, putV, LIM, str_eq]
  rfl
/-- of intz, bools, tuples -/
def nice : Nat → D → Prop
  | _, .int _ => True
  | _, .bl _ => True
  | k + 1, .tup ds => ds.length < 1000 ∧ ∀ (i : Nat) (d : D), ds[i]? = some d → nice k d
  | _, _ => False
theorem nice_row (k n : Nat) (a : Nat → Int) (hn : n < 1000) : nice (k + 1) (row n a) := by
  refine ⟨by rwa [ints_len], fun i d h => ?_⟩
  obtain ⟨_, rfl⟩ := ints_some h
  cases k <;> trivial
theorem comp_skip {c : Ctx} {ρ : Env} {h : Heap} {e : CE} {i : Nat} {it : CI} {cd : CB} (n : Nat) (hit : evI c it ρ h = .ok ((rngD 0 n, []), h)) (hn : n < LIM)
    (hf : ∀ j, j < n → tv c cd ((ρ.set i none).set i (some (.int (j : Nat)))) h = .ok (false, h)) :
    evL c (.comp e (.name i) it (.some cd)) ρ h = .ok ([], h) := by
  rw [evL, hit]
  show chk (decide ((rngD 0 n).length < LIM)) _ = _
  rw [rngD_len, decide_eq_true hn]
  have key : ∀ (xs : List D), (∀ x ∈ xs, ∃ j, j < n ∧ x = .int (j : Nat)) → mapL [] (fun x h => (asg c (.name i) x (wipeE ρ (CT.slots (.name i))) h).bind fun s => (tvO c (.some cd) s.1 s.2).bind fun b => match b.1 with
      | true => (ev c e s.1 b.2).bind fun y => .ok (some y.1, y.2)
      | false => .ok (none, b.2)) xs h = .ok ([], h) := by
    intro xs
    induction xs with
    | nil => exact fun _ => rfl
    | cons x xs ih =>
      intro hx
      obtain ⟨j, hj, rfl⟩ := hx x (List.mem_cons_self ..)
      rw [mapL]
      have e1 : tvO c (.some cd) ((ρ.set i none).set i (some (.int (j : Nat)))) h = .ok (false, h) := by
        rw [tvO]
        exact hf j hj
      simp only [guards, List.all_nil, chk, asg, CT.slots, wipeE, R.bind, e1, R.nox]
      simp only [asg, CT.slots, wipeE, R.bind] at ih
      rw [ih (fun y hy => hx y (List.mem_cons_of_mem _ hy))]
  refine key _ (fun x hx => ?_)
  obtain ⟨j, hj⟩ := List.getElem?_of_mem hx
  obtain ⟨h1, rfl⟩ := rngD_get hj
  exact ⟨j, h1, by rw [Int.zero_add]⟩
theorem s_equal : ∀ (k : Nat) (d : D) (h : Heap), nice k d → callI pg (k + 1) f_law_equal [d, d] h = .ok (.bl true, h)
  | k, .int i, h, _ => by
    rw [u_law_equal, b_law_equal]
    simp [isTy]
  | k, .bl i, h, _ => by
    rw [u_law_equal, b_law_equal]
    simp [isTy]
  | 0, .tup ds, h, q => q.elim
  | k + 1, .tup ds, h, q => by
    obtain ⟨hl, hd⟩ := q
    rw [u_law_equal, b_law_equal]
    simp [isTy]
    rw [comp_skip ds.length (by simp [rok (show ds.length < 1000000 by omega)]) (by unfold LIM; omega) (by
      intro j hj
      have e := s_equal k ds[j] h (hd j _ (List.getElem?_eq_getElem hj))
      have e2 : nth ds (j : Int) = some ds[j] := by
        unfold nth
        rw [if_pos (by omega)]
        simp [hj]
      simp [e2, e])]
    simp
  | k, .non, _, q => by cases k <;> exact q.elim
  | k, .str _, _, q => by cases k <;> exact q.elim
  | k, .seq _, _, q => by cases k <;> exact q.elim
  | k, .ref _, _, q => by cases k <;> exact q.elim
theorem s_root_power {p w : Int} {n : Nat} (F : Fld p n w) (x : Int) (k : Nat) (h : Heap) : callI pg (k + 1) f_law_root_power [fl p n w, .int x] h = .ok (.int (cy n (rr p w) x), h) := by
  obtain ⟨p2, pU, n1, nU, w0, wU, _, _, _, np⟩ := F
  have hn : 0 < n := by omega
  have hp : 0 < p := by omega
  have h0 : 0 ≤ x % (n : Int) := Int.emod_nonneg _ (by omega)
  have h1 : x % (n : Int) < n := Int.emod_lt_of_pos _ (by omega)
  have hr : rngOk (x % (n : Int)) = true := by
    have := rok (n := (x % (n : Int)).toNat) (by omega)
    rwa [show (((x % (n : Int)).toNat : Nat) : Int) = x % n by omega] at this
  have s := sm1 w0 wU (by omega)
  have h1p : (1 : Int) % p = 1 := Int.emod_eq_of_lt (by omega) (by omega)
  rw [u_law_root_power, b_law_root_power]
  simp
  refine go_rngE (h1 := h) (x % (n : Int)).toNat (fun i ρ h1 => h1 = h ∧ ∃ y, ρ = [some (fl p n w), some (.int x), some (.int (rr p w i)), y]) (by
    simp
    simp [nth, hn, hr]) ⟨rfl, none, by simp [rr, h1p]⟩ ?_ ?_
  · rintro i ρ h1 hi ⟨rfl, y, rfl⟩
    refine ⟨_, _, ?_, rfl, some (.int i), rfl⟩
    simp
    simp [nth, hp, s]
    unfold rr
    rw [mod_mul_l, ← Int.pow_succ]
  · rintro ρ' h' ⟨rfl, x, rfl⟩
    simp [cy]
theorem s_law_values {p w : Int} {n : Nat} (F : Fld p n w) (a : Nat → Int) (k : Nat) (h : Heap) : callI pg (k + 2) f_law_values [fl p n w, row n a] h = .ok (row n (vs p w n a), h) := by
  have F' := F
  obtain ⟨p2, pU, n1, nU, w0, wU, _, _, _, np⟩ := F
  have hn : 0 < n := by omega
  have hp : 0 < p := by omega
  have hro := rok (show n < 1000000 by omega)
  rw [u_law_values, b_law_values]
  simp
  refine go_rngE (h1 := h ++ [.lst []]) n (fun i ρ h1 => h1 = h ++ [.lst (intz i (vs p w n a))] ∧ ∃ x y z, ρ = [some (fl p n w), some (row n a), some (.ref h.length), x, y, z]) (by
    simp
    simp [nth, hro]) ⟨rfl, _, _, _, rfl⟩ ?_ ?_
  · rintro i ρ h1 hi ⟨rfl, x, y, z, rfl⟩
    simp
    have hl : i < LIM := by unfold LIM; omega
    obtain ⟨ρ', h', e, q⟩ := loop_rng (c := ⟨callI pg (k + 1), [(.tup [(.str "C"), (.str "V")]), (.tup [(.str "add"), (.str "less"), (.str "times")])]⟩) (t := .name 5) (it := .rng1 (.idx (.var 0) (.int 1))) (b := .cons (.aug 4 .add (.bin .mul (.idx (.var 1) (.var 5)) (.call f_law_root_power (.cons (.var 0) (.cons (.bin .mul (.var 5) (.var 3)) .nil))))) .nil)
      (ρ := [some (fl p n w), some (row n a), some (.ref h.length), some (.int i), some (.int 0), z]) (h := h ++ [.lst (intz i (vs p w n a))]) (h1 := h ++ [.lst (intz i (vs p w n a))]) n (by
        simp
        simp [nth, hro]) (fun j ρ h1 => h1 = h ++ [.lst (intz i (vs p w n a))] ∧ ∃ z, ρ = [some (fl p n w), some (row n a), some (.ref h.length), some (.int i), some (.int (sm j (fun j => a j * cy n (rr p w) (j * i)))), z]) ⟨rfl, _, rfl⟩ (by
        rintro j ρ h1 hj ⟨rfl, z, rfl⟩
        refine ⟨_, _, ?_, rfl, some (.int j), rfl⟩
        have s2 : small (j : Int) = true := small_of (by omega) (by omega)
        simp [ints_at hj, s2, s_root_power F', rr_small F', sm])
    obtain ⟨rfl, z, rfl⟩ := q
    rw [e]
    refine ⟨_, _, ?_, rfl, some (.int i), some (.int (sm n (fun j => a j * cy n (rr p w) (j * i)))), z, rfl⟩
    simp
    simp [nth, hp, hl, ints_succ, vs]
  · rintro ρ' h' ⟨rfl, x, y, z, rfl⟩
    simp
end K89
end

section
set_option Elab.async false
set_option linter.all false
set_option maxRecDepth 100000
set_option maxHeartbeats 400000
namespace K89
open Tw
open PySem (Str)
def fldB (p : Int) (n : Nat) (w : Int) : Bool :=
  decide (2 ≤ p) && decide (p < 1000) && decide (1 ≤ n) && decide (n < 13) && decide (0 ≤ w) && decide (w < p) && decide (w ^ n % p = 1) && ((List.range n).all fun i => !decide (0 < i) || decide (sm n (fun j => w ^ (i * j % n)) % p = 0)) && decide (((n : Int) * (n : Int) ^ (p - 2).toNat) % p = 1) && decide ((n : Int) % p ≠ 0)
theorem fld_of {p w : Int} {n : Nat} (h : fldB p n w = true) : Fld p n w := by
  unfold fldB at h
  simp only [Bool.and_eq_true, decide_eq_true_eq, List.all_eq_true, List.mem_range, Bool.or_eq_true, Bool.not_eq_true', decide_eq_false_iff_not] at h
  obtain ⟨⟨⟨⟨⟨⟨⟨⟨⟨a1, a2⟩, a3⟩, a4⟩, a5⟩, a6⟩, a7⟩, a8⟩, a9⟩, a10⟩ := h
  exact ⟨a1, a2, a3, a4, a5, a6, a7, fun i hi h0 => (a8 i hi).resolve_left (fun q => q h0), a9, a10⟩
theorem nth_mem {ds : List D} {v : Int} (h0 : 0 ≤ v) (h1 : v < ds.length) : ∃ d, d ∈ ds ∧ nth ds v = some d := by
  unfold nth
  rw [if_pos h0]
  exact ⟨ds[v.toNat]'(by omega), List.getElem_mem _, List.getElem?_eq_getElem (by omega)⟩
theorem low_fl (k : Nat) (p : Int) (n : Nat) (w : Int) : (fl p n w).low k = true := rfl
theorem fields1 (d : D) (h : d ∈ [D.tup [.int 13, .int 12, .int 2], .tup [.int 997, .int 12, .int 252], .tup [.int 61, .int 10, .int 27]]) : ∃ p n w, Fld p n w ∧ d = fl p n w := by
  simp only [List.mem_cons, List.not_mem_nil, or_false] at h
  rcases h with rfl | rfl | rfl
  · exact ⟨13, 12, 2, fld_of (by decide +kernel), rfl⟩
  · exact ⟨997, 12, 252, fld_of (by decide +kernel), rfl⟩
  · exact ⟨61, 10, 27, fld_of (by decide +kernel), rfl⟩
theorem fields2 (d : D) (h : d ∈ [D.tup [.int 2, .int 1, .int 1], .tup [.int 3, .int 1, .int 1], .tup [.int 3, .int 2, .int 2], .tup [.int 5, .int 2, .int 4], .tup [.int 5, .int 4, .int 3], .tup [.int 7, .int 3, .int 4], .tup [.int 7, .int 6, .int 3], .tup [.int 13, .int 6, .int 4], .tup [.int 29, .int 7, .int 16], .tup [.int 41, .int 8, .int 27], .tup [.int 37, .int 9, .int 7]]) : ∃ p n w, Fld p n w ∧ d = fl p n w := by
  simp only [List.mem_cons, List.not_mem_nil, or_false] at h
  rcases h with rfl | rfl | rfl | rfl | rfl | rfl | rfl | rfl | rfl | rfl | rfl
  · exact ⟨2, 1, 1, fld_of (by decide +kernel), rfl⟩
  · exact ⟨3, 1, 1, fld_of (by decide +kernel), rfl⟩
  · exact ⟨3, 2, 2, fld_of (by decide +kernel), rfl⟩
  · exact ⟨5, 2, 4, fld_of (by decide +kernel), rfl⟩
  · exact ⟨5, 4, 3, fld_of (by decide +kernel), rfl⟩
  · exact ⟨7, 3, 4, fld_of (by decide +kernel), rfl⟩
  · exact ⟨7, 6, 3, fld_of (by decide +kernel), rfl⟩
  · exact ⟨13, 6, 4, fld_of (by decide +kernel), rfl⟩
  · exact ⟨29, 7, 16, fld_of (by decide +kernel), rfl⟩
  · exact ⟨41, 8, 27, fld_of (by decide +kernel), rfl⟩
  · exact ⟨37, 9, 7, fld_of (by decide +kernel), rfl⟩
theorem s_some_field (w c : Int) (t : Heap) : ∃ p n r w' c', Fld p n r ∧ ∀ k, callI pg (k + 2) f_law_some_field [.ref 0] (pd w c :: t) = .ok (fl p n r, pd w' c' :: t) := by
  obtain ⟨v, w1, c1, v0, v1, e1⟩ := s_fish (m := 11) (by decide) w c (t ++ [.lst [D.tup [.int 2, .int 1, .int 1], .tup [.int 3, .int 1, .int 1], .tup [.int 3, .int 2, .int 2], .tup [.int 5, .int 2, .int 4], .tup [.int 5, .int 4, .int 3], .tup [.int 7, .int 3, .int 4], .tup [.int 7, .int 6, .int 3], .tup [.int 13, .int 6, .int 4], .tup [.int 29, .int 7, .int 16], .tup [.int 41, .int 8, .int 27], .tup [.int 37, .int 9, .int 7]]])
  by_cases hv : v = 4
  · obtain ⟨v', w2, c2, v0', v1', e2⟩ := s_fish (m := 3) (by decide) w1 c1 (t ++ [.lst [D.tup [.int 2, .int 1, .int 1], .tup [.int 3, .int 1, .int 1], .tup [.int 3, .int 2, .int 2], .tup [.int 5, .int 2, .int 4], .tup [.int 5, .int 4, .int 3], .tup [.int 7, .int 3, .int 4], .tup [.int 7, .int 6, .int 3], .tup [.int 13, .int 6, .int 4], .tup [.int 29, .int 7, .int 16], .tup [.int 41, .int 8, .int 27], .tup [.int 37, .int 9, .int 7]], .lst [D.tup [.int 13, .int 12, .int 2], .tup [.int 997, .int 12, .int 252], .tup [.int 61, .int 10, .int 27]]])
    obtain ⟨d, hd, ed⟩ := nth_mem (ds := [D.tup [.int 13, .int 12, .int 2], .tup [.int 997, .int 12, .int 252], .tup [.int 61, .int 10, .int 27]]) v0' v1'
    obtain ⟨p, n, r, F, rfl⟩ := fields1 d hd
    refine ⟨p, n, r, w2, c2, F, fun k => ?_⟩
    rw [u_law_some_field, b_law_some_field]
    simp [LIM, e1, hv, e2, ed]
    exact tidy_pd _ _ _ _ _ _ _ rfl
  · obtain ⟨v', w2, c2, v0', v1', e2⟩ := s_fish (m := 11) (by decide) w1 c1 (t ++ [.lst [D.tup [.int 2, .int 1, .int 1], .tup [.int 3, .int 1, .int 1], .tup [.int 3, .int 2, .int 2], .tup [.int 5, .int 2, .int 4], .tup [.int 5, .int 4, .int 3], .tup [.int 7, .int 3, .int 4], .tup [.int 7, .int 6, .int 3], .tup [.int 13, .int 6, .int 4], .tup [.int 29, .int 7, .int 16], .tup [.int 41, .int 8, .int 27], .tup [.int 37, .int 9, .int 7]]])
    obtain ⟨d, hd, ed⟩ := nth_mem (ds := [D.tup [.int 2, .int 1, .int 1], .tup [.int 3, .int 1, .int 1], .tup [.int 3, .int 2, .int 2], .tup [.int 5, .int 2, .int 4], .tup [.int 5, .int 4, .int 3], .tup [.int 7, .int 3, .int 4], .tup [.int 7, .int 6, .int 3], .tup [.int 13, .int 6, .int 4], .tup [.int 29, .int 7, .int 16], .tup [.int 41, .int 8, .int 27], .tup [.int 37, .int 9, .int 7]]) v0' v1'
    obtain ⟨p, n, r, F, rfl⟩ := fields2 d hd
    refine ⟨p, n, r, w2, c2, F, fun k => ?_⟩
    rw [u_law_some_field, b_law_some_field]
    simp [LIM, e1, hv, e2, ed]
    exact tidy_pd _ _ _ _ _ _ _ rfl
theorem s_some_row {p r : Int} {n : Nat} (F : Fld p n r) (w c : Int) (t : Heap) (k : Nat) : ∃ a w' c', (∀ i : Nat, 0 ≤ a i ∧ a i < p) ∧ callI pg (k + 2) f_law_some_row [.ref 0, fl p n r] (pd w c :: t) = .ok (row n a, pd w' c' :: t) := by
  obtain ⟨p2, pU, n1, nU, w0, wU, _, _, _, np⟩ := F
  have hp : 0 < p := by omega
  have hro := rok (show n < 1000000 by omega)
  obtain ⟨v, w1, c1, v0, v1, e1⟩ := s_fish (m := 5) (by decide) w c t
  suffices H : ∀ Q : R (D × Heap) → Prop, (∀ (a : Nat → Int) (w' c' : Int), (∀ i : Nat, 0 ≤ a i ∧ a i < p) → Q (.ok (row n a, pd w' c' :: t))) → Q (callI pg (k + 2) f_law_some_row [.ref 0, fl p n r] (pd w c :: t)) by
    exact H (fun x => ∃ a w' c', (∀ i : Nat, 0 ≤ a i ∧ a i < p) ∧ x = .ok (row n a, pd w' c' :: t)) (fun a w' c' ha => ⟨a, w', c', ha, rfl⟩)
  intro Q hQ
  rw [u_law_some_row, b_law_some_row]
  simp [e1]
  simp [nth, e1]
  refine go_rng (P := Q) (h1 := pd w1 c1 :: (t ++ [.lst []])) n (fun i ρ h1 => ∃ w2 c2 a g, (∀ i : Nat, 0 ≤ a i ∧ a i < p) ∧ h1 = pd w2 c2 :: (t ++ .lst (intz i a) :: g) ∧ ∃ x y, ρ = [some (.ref 0), some (fl p n r), some (.int (p - 1)), some (.int v), some (.ref (t.length + 1)), x, y]) ?_ ⟨w1, c1, fun _ => 0, [], fun _ => ⟨Int.le_refl _, hp⟩, rfl, _, _, rfl⟩ ?_ ?_
  · simp [nth, hro]
  · rintro i ρ h1 hi ⟨w2, c2, a, g, ha, rfl, x, y, rfl⟩
    obtain ⟨f, w3, c3, f0, f1, e3⟩ := s_fish (m := p) hp w2 c2 (t ++ .lst (intz i a) :: g)
    have hs : ∀ b : Bool, small (if b = true then 1 else 0) = true := by
      intro b
      cases b <;> rfl
    have hl : i < LIM := by unfold LIM; omega
    have hm : 0 ≤ (i : Int) % p ∧ (i : Int) % p < p := ⟨Int.emod_nonneg _ (by omega), Int.emod_lt_of_pos _ hp⟩
    have hq : 0 ≤ f * (if decide (f % 3 = 0) = true then 1 else 0) ∧ f * (if decide (f % 3 = 0) = true then 1 else 0) < p := by
      split <;> omega
    obtain ⟨z, hz, hz2⟩ : ∃ z, (0 ≤ z ∧ z < p) ∧ nth [D.int f, .int (p - 1), .int ((i : Int) % p), .int (f * (if decide (f % 3 = 0) = true then 1 else 0)), .int f] v = some (.int z) := by
      have : v = 0 ∨ v = 1 ∨ v = 2 ∨ v = 3 ∨ v = 4 := by omega
      rcases this with rfl | rfl | rfl | rfl | rfl
      · exact ⟨_, ⟨f0, f1⟩, rfl⟩
      · exact ⟨_, ⟨by omega, by omega⟩, rfl⟩
      · exact ⟨_, hm, rfl⟩
      · exact ⟨_, hq, rfl⟩
      · exact ⟨_, ⟨f0, f1⟩, rfl⟩
    refine ⟨[some (.ref 0), some (fl p n r), some (.int (p - 1)), some (.int v), some (.ref (t.length + 1)), some (.int i), some (.int f)], pd w3 c3 :: (t ++ .lst (intz (i + 1) (fun j => if j = i then z else a j)) :: (g ++ [.lst [D.int f, .int (p - 1), .int ((i : Int) % p), .int (f * (if decide (f % 3 = 0) = true then 1 else 0)), .int f]])), ?_, w3, c3, _, _, ?_, rfl, _, _, rfl⟩
    · have n0 : nth [D.int p, .int (n : Int), .int r] 0 = some (.int p) := rfl
      have s3 : small (if f % 3 = 0 then 1 else 0) = true := by
        split <;> rfl
      simp [n0, e3, LIM, hp, s3]
      simp only [decide_eq_true_eq] at hz2
      have e4 : intz (i + 1) (fun j => if j = i then z else a j) = intz i a ++ [.int z] := by
        rw [ints_succ, if_pos rfl, ints_congr (g := a) (fun j hj => if_neg (Nat.ne_of_lt hj))]
      simp [hz2, hl, e4]
    · intro j
      split
      · exact hz
      · exact ha j
  · rintro ρ' h' ⟨w2, c2, a, g, ha, rfl, x, y, rfl⟩
    have e := hQ a w2 c2 ha
    rw [← tidy_pd w c w2 c2 t (.lst (intz n a) :: g) (row n a) (low_row _ _ _)] at e
    simp
    exact e
end K89
end

section
set_option Elab.async false
set_option linter.all false
set_option maxRecDepth 100000
set_option maxHeartbeats 400000
namespace K89
open Tw
open PySem (Str)
theorem md_mul {p x y x' y' : Int} (h1 : x % p = x' % p) (h2 : y % p = y' % p) : (x * y) % p = (x' * y') % p := by rw [Int.mul_emod, h1, h2, ← Int.mul_emod]
theorem md_add {p x y x' y' : Int} (h1 : x % p = x' % p) (h2 : y % p = y' % p) : (x + y) % p = (x' + y') % p := by rw [Int.add_emod, h1, h2, ← Int.add_emod]
theorem sm_mod {p : Int} {n : Nat} {f g : Nat → Int} (h : ∀ i, i < n → f i % p = g i % p) : sm n f % p = sm n g % p := by
  induction n with
  | zero => rfl
  | succ n ih => exact md_add (ih fun i hi => h i (by omega)) (h n (by omega))
theorem sm_add (n : Nat) (f g : Nat → Int) : sm n (fun i => f i + g i) = sm n f + sm n g := by
  induction n with
  | zero => rfl
  | succ n ih =>
    show sm n (fun i => f i + g i) + (f n + g n) = sm n f + f n + (sm n g + g n)
    rw [ih]
    omega
theorem sm_mul (n : Nat) (c : Int) (f : Nat → Int) : c * sm n f = sm n (fun i => c * f i) := by
  induction n with
  | zero => exact Int.mul_zero c
  | succ n ih =>
    show c * (sm n f + f n) = sm n (fun i => c * f i) + c * f n
    rw [Int.mul_add, ih]
theorem sm_mul' (n : Nat) (c : Int) (f : Nat → Int) : sm n f * c = sm n (fun i => f i * c) := by
  rw [Int.mul_comm, sm_mul]
  exact sm_congr fun i _ => Int.mul_comm _ _
theorem sm_comm (m n : Nat) (f : Nat → Nat → Int) : sm m (fun i => sm n (fun j => f i j)) = sm n (fun j => sm m (fun i => f i j)) := by
  induction m with
  | zero => exact (sm_zero n).symm
  | succ m ih =>
    show sm m (fun i => sm n (fun j => f i j)) + sm n (fun j => f m j) = _
    rw [ih, ← sm_add]
    rfl
theorem sm_slide (n : Nat) (g : Int → Int) : sm n (fun t => g ((t : Int) + 1)) + g 0 = sm n (fun t => g t) + g n := by
  induction n with
  | zero => rfl
  | succ n ih =>
    show sm n (fun t => g ((t : Int) + 1)) + g ((n : Int) + 1) + g 0 = sm n (fun t => g t) + g n + g ((n + 1 : Nat) : Int)
    rw [show ((n + 1 : Nat) : Int) = (n : Int) + 1 by omega]
    omega
theorem sm_turn {n : Nat} (g : Int → Int) (hg : ∀ x, g (x + n) = g x) (i : Nat) : sm n (fun t => g ((t : Int) - i)) = sm n (fun t => g t) := by
  induction i with
  | zero => exact sm_congr fun t _ => congrArg g (by omega)
  | succ i ih =>
    have e := sm_slide n (fun x => g (x - ((i + 1 : Nat) : Int)))
    have e1 : g ((n : Int) - ((i + 1 : Nat) : Int)) = g (0 - ((i + 1 : Nat) : Int)) := by
      rw [← hg (0 - ((i + 1 : Nat) : Int))]
      exact congrArg g (by omega)
    rw [sm_congr (f := fun t => g ((t : Int) + 1 - ((i + 1 : Nat) : Int))) (g := fun t => g ((t : Int) - i)) (fun t _ => congrArg g (by omega)), ih] at e
    simp only [e1] at e
    omega
theorem cy_nat {n : Nat} (f : Nat → Int) {i : Nat} (h : i < n) : cy n f i = f i := by
  unfold cy
  rw [Int.emod_eq_of_lt (by omega) (by omega)]
  rfl
theorem cy_per (n : Nat) (f : Nat → Int) (x : Int) : cy n f (x + n) = cy n f x := by
  unfold cy
  rw [Int.add_emod_right]
theorem cy_mod {n : Nat} (f : Nat → Int) {x y : Int} (h : x % n = y % n) : cy n f x = cy n f y := by
  unfold cy
  rw [h]
section
variable {p w : Int} {n : Nat} (F : Fld p n w)
include F
theorem pw_red (m : Nat) : w ^ (m % n) % p = w ^ m % p := by
  have e : w ^ m = (w ^ n) ^ (m / n) * w ^ (m % n) := by
    rw [← Int.pow_mul, ← Int.pow_add, Nat.div_add_mod]
  have e1 : (w ^ n) ^ (m / n) % p = 1 % p := by
    rw [← mod_pow, F.wn, Int.one_pow]
  have e2 := md_mul (x := (w ^ n) ^ (m / n)) (y := w ^ (m % n)) (x' := 1) (y' := w ^ (m % n)) e1 rfl
  rw [← e, Int.one_mul] at e2
  exact e2.symm
theorem W_nat (m : Nat) : cy n (rr p w) (m : Int) = w ^ m % p := by
  unfold cy rr
  rw [show ((m : Int) % (n : Int)).toNat = m % n by omega]
  exact pw_red F m
theorem W_add (x y : Int) : cy n (rr p w) (x + y) % p = (cy n (rr p w) x * cy n (rr p w) y) % p := by
  have hn := F.n1
  have hx0 : 0 ≤ x % (n : Int) := Int.emod_nonneg _ (by omega)
  have hy0 : 0 ≤ y % (n : Int) := Int.emod_nonneg _ (by omega)
  have ex : cy n (rr p w) x = w ^ (x % n).toNat % p := rfl
  have ey : cy n (rr p w) y = w ^ (y % n).toNat % p := rfl
  have exy : cy n (rr p w) (x + y) = cy n (rr p w) (((x % n).toNat + (y % n).toNat : Nat) : Int) := by
    apply cy_mod
    rw [show (((x % n).toNat + (y % n).toNat : Nat) : Int) = x % n + y % n by omega]
    exact Int.add_emod x y n
  rw [exy, W_nat F, ex, ey, Int.emod_emod, Int.pow_add, ← Int.mul_emod]
theorem W_zero : cy n (rr p w) 0 = 1 := by
  have := W_nat F 0
  rw [Int.pow_zero] at this
  rw [show (0 : Int) = ((0 : Nat) : Int) from rfl, this]
  exact Int.emod_eq_of_lt (by decide) (by have := F.p2; omega)
theorem W_orth (k : Int) : sm n (fun j => cy n (rr p w) (k * j)) % p = (if k % n = 0 then (n : Int) else 0) % p := by
  have hn := F.n1
  have hk0 : 0 ≤ k % (n : Int) := Int.emod_nonneg _ (by omega)
  have hk1 : k % (n : Int) < n := Int.emod_lt_of_pos _ (by omega)
  by_cases h : k % n = 0
  · rw [if_pos h]
    have : ∀ m : Nat, sm m (fun j => cy n (rr p w) (k * j)) = m := by
      intro m
      induction m with
      | zero => rfl
      | succ m ih =>
        show sm m (fun j => cy n (rr p w) (k * j)) + cy n (rr p w) (k * m) = _
        rw [ih, cy_mod (y := 0) (rr p w) (by rw [Int.mul_emod, h]; simp), W_zero F]
        omega
    rw [this]
  · rw [if_neg h]
    have e := F.orth (k % n).toNat (by omega) (by omega)
    rw [sm_mod (g := fun j => w ^ ((k % n).toNat * j % n)) (fun j hj => ?_), e]
    · rfl
    · have : cy n (rr p w) (k * j) = cy n (rr p w) (((k % n).toNat * j : Nat) : Int) := by
        apply cy_mod
        rw [show (((k % n).toNat * j : Nat) : Int) = (k % n) * j by
          rw [Int.natCast_mul, show ((k % n).toNat : Int) = k % n by omega]]
        exact (mod_mul_l _ _ _).symm
      rw [this, W_nat F, Int.emod_emod, pw_red F]

theorem cy_mul_per (x j : Int) : cy n (rr p w) ((x + n) * j) = cy n (rr p w) (x * j) := by
  apply cy_mod
  rw [Int.add_mul, Int.add_mul_emod_self_left]
/-- the product of coefficients is the product of values -/
theorem conv_thm (a b : Nat → Int) (j : Nat) : vs p w n (cv p n a b) j = (vs p w n a j * vs p w n b j) % p := by
  have e1 : vs p w n (cv p n a b) j = sm n (fun t => sm n (fun i => a i * cy n b (t - i)) * cy n (rr p w) (t * j)) % p := by
    unfold vs
    exact sm_mod fun t ht => by
      unfold cv
      exact mod_mul_l _ _ _
  rw [e1]
  have e2 : sm n (fun t => sm n (fun i => a i * cy n b (t - i)) * cy n (rr p w) (t * j)) = sm n (fun i => sm n (fun t => a i * cy n b (t - i) * cy n (rr p w) (t * j))) := by
    rw [sm_comm]
    exact sm_congr fun t _ => sm_mul' _ _ _
  rw [e2]
  have e3 : ∀ i, i < n → sm n (fun t => a i * cy n b (t - i) * cy n (rr p w) (t * j)) % p = (a i * cy n (rr p w) (i * j) * sm n (fun u => b u * cy n (rr p w) (u * j))) % p := by
    intro i hi
    have e4 : sm n (fun u => b u * cy n (rr p w) (u * j)) = sm n (fun t => cy n b ((t : Int) - i) * cy n (rr p w) (((t : Int) - i) * j)) := by
      rw [sm_turn (fun x => cy n b x * cy n (rr p w) (x * j)) (fun x => by
        rw [cy_per, cy_mul_per F]) i]
      exact sm_congr fun u hu => by rw [cy_nat b hu]
    rw [e4, sm_mul]
    apply sm_mod
    intro t ht
    have h1 := W_add F (i * j) (((t : Int) - i) * j)
    rw [show (i : Int) * j + ((t : Int) - i) * j = t * j by rw [← Int.add_mul]; congr 1; omega] at h1
    have h2 := md_mul (x := a i * cy n b (t - i)) (x' := a i * cy n b (t - i)) rfl h1
    rw [h2]
    congr 1
    grind
  rw [sm_mod e3, ← sm_mul']
  unfold vs
  rw [← Int.mul_emod]
/-- Parseval's law, and more -/
theorem pars (a b : Nat → Int) : sm n (fun j => vs p w n a j * vs p w n b j) % p = ((n : Int) * sm n (fun i => a i * cy n b (-i))) % p := by
  have hn := F.n1
  have e1 : sm n (fun j => vs p w n a j * vs p w n b j) % p = sm n (fun j => sm n (fun i => sm n (fun k => a i * b k * cy n (rr p w) ((i + k) * j)))) % p := by
    apply sm_mod
    intro j hj
    unfold vs
    rw [← Int.mul_emod, sm_mul']
    apply sm_mod
    intro i hi
    rw [sm_mul]
    apply sm_mod
    intro k hk
    have h1 := W_add F (i * j) (k * j)
    rw [← Int.add_mul] at h1
    rw [md_mul (x := a i * b k) (x' := a i * b k) rfl h1]
    congr 1
    grind
  rw [e1, sm_comm]
  have e2 : ∀ i, i < n → sm n (fun j => sm n (fun k => a i * b k * cy n (rr p w) ((i + k) * j))) % p = ((n : Int) * (a i * cy n b (-i))) % p := by
    intro i hi
    rw [sm_comm]
    have h0 : 0 ≤ (((0 : Nat) : Int) - i) % n := Int.emod_nonneg _ (by omega)
    have h1 : (((0 : Nat) : Int) - i) % n < n := Int.emod_lt_of_pos _ (by omega)
    have e3 : ∀ k, k < n → sm n (fun j => a i * b k * cy n (rr p w) ((i + k) * j)) % p = (if k = ((((0 : Nat) : Int) - i) % n).toNat then (n : Int) * (a i * b k) else 0) % p := by
      intro k hk
      rw [← sm_mul, md_mul (x := a i * b k) (x' := a i * b k) rfl (W_orth F (i + k))]
      have hc : ((i : Int) + k) % n = 0 ↔ k = ((((0 : Nat) : Int) - i) % n).toNat := by
        rw [← add_iff (by omega) hk]
        have : (((i + k) % n : Nat) : Int) = ((i : Int) + k) % n := by simp
        omega
      by_cases h : ((i : Int) + k) % n = 0
      · rw [if_pos h, if_pos (hc.mp h)]
        congr 1
        grind
      · rw [if_neg h, if_neg (fun q => h (hc.mpr q)), Int.mul_zero]
    rw [sm_mod e3, sm_delta (fun k => (n : Int) * (a i * b k)) _ (by omega)]
    unfold cy
    rw [show (((0 : Nat) : Int) - i) = -(i : Int) by omega]
  rw [sm_mod e2, sm_mul]
/-- from values back to coefficients -/
theorem inv_thm (a : Nat → Int) (i : Nat) (hi : i < n) : cs p w n (vs p w n a) i = a i % p := by
  have hn := F.n1
  unfold cs
  rw [mod_mul_r]
  have e1 : sm n (fun j => vs p w n a j * cy n (rr p w) (-(i * j))) % p = sm n (fun j => sm n (fun k => a k * cy n (rr p w) ((k - i) * j))) % p := by
    apply sm_mod
    intro j hj
    unfold vs
    rw [mod_mul_l, sm_mul']
    apply sm_mod
    intro k hk
    have h1 := W_add F (k * j) (-(i * j))
    rw [show (k : Int) * j + -(i * j) = (k - i) * j by rw [Int.sub_mul]; omega] at h1
    rw [md_mul (x := a k) (x' := a k) rfl h1]
    congr 1
    grind
  have e2 : ∀ k, k < n → sm n (fun j => a k * cy n (rr p w) ((k - i) * j)) % p = (if k = i then (n : Int) * a k else 0) % p := by
    intro k hk
    rw [← sm_mul, md_mul (x := a k) (x' := a k) rfl (W_orth F (k - i))]
    by_cases h : k = i
    · subst h
      rw [if_pos (by simp), if_pos rfl, Int.mul_comm]
    · rw [if_neg h, if_neg, Int.mul_zero]
      intro q
      have : (k : Int) % n = (i : Int) % n := by
        exact Int.emod_eq_emod_iff_emod_sub_eq_zero.mpr q
      rw [Int.emod_eq_of_lt (by omega) (by omega), Int.emod_eq_of_lt (by omega) (by omega)] at this
      omega
  rw [sm_comm, sm_mod e2, sm_delta (fun k => (n : Int) * a k) i hi] at e1
  rw [md_mul e1 rfl]
  have h := md_mul (x := a i) (x' := a i) rfl (F.inv.trans (Int.emod_eq_of_lt (show (0 : Int) ≤ 1 by decide) (by have := F.p2; omega)).symm)
  rw [Int.mul_one] at h
  rw [← h]
  congr 1
  grind
end
end K89
end

section
set_option Elab.async false
set_option linter.all false
set_option maxRecDepth 100000
set_option maxHeartbeats 400000
namespace K89
open Tw
open PySem (Str)
theorem at0 {n : Nat} (hn : 0 < n) (f : Nat → Int) : nth (intz n f) 0 = some (.int (f 0)) := ints_at hn
theorem vs0 {p w : Int} {n : Nat} (F : Fld p n w) (a : Nat → Int) : vs p w n a 0 = sm n a % p := by
  unfold vs
  rw [sm_congr (g := a) (fun i _ => by
    rw [show (i : Int) * ((0 : Nat) : Int) = 0 by simp, W_zero F, Int.mul_one])]
theorem cy_back (n : Nat) (f : Nat → Int) (i : Int) : cy n f ((n : Int) - i) = cy n f (-i) := by
  rw [← cy_per n f (-i)]
  congr 1
  omega
theorem root_sum_eq {p w : Int} {n : Nat} (F : Fld p n w) (t : Nat) : sm n (fun i => rr p w i ^ t % p) = sm n (fun i => cy n (rr p w) (i * t)) := by
  apply sm_congr
  intro i hi
  rw [show (i : Int) * (t : Int) = ((i * t : Nat) : Int) by simp, W_nat F]
  unfold rr
  rw [mod_pow, ← Int.pow_mul]
theorem moment_eq (p : Int) (n : Nat) (a : Nat → Int) (t : Nat) : sm n (fun i => a i * ((i : Int) ^ t % p)) % p = sm n (fun i => a i * (i : Int) ^ t) % p := sm_mod fun i _ => mod_mul_r _ _ _
theorem s_sums_asked {p r : Int} {n : Nat} (F : Fld p n r) (a : Nat → Int) (ha : ∀ i, 0 ≤ a i ∧ a i < p) (w c : Int) (t : Heap) (k : Nat) : ∃ w' c', callI pg (k + 8) f_law_sums_asked [.ref 0, fl p n r, row n a] (pd w c :: t) = .ok (.bl true, pd w' c' :: t) := by
  have F' := F
  have hr := rr_small F
  obtain ⟨p2, pU, n1, nU, w0, wU, _, _, _, np⟩ := F
  have hn : 0 < n := by omega
  have hp : 0 < p := by omega
  have hro := rok (show n < 1000000 by omega)
  have sa : ∀ i, small (a i) = true := fun i => small_of (by have := ha i; omega) (by have := ha i; omega)
  have n0 : nth [D.int p, .int (n : Int), .int r] 0 = some (.int p) := rfl
  have n1 : nth [D.int p, .int (n : Int), .int r] 1 = some (.int n) := rfl
  have n2 : nth [D.int p, .int (n : Int), .int r] 2 = some (.int r) := rfl
  obtain ⟨v, w1, c1, v0, v1, e1⟩ := s_fish (m := 3 * n + 1) (by omega) w c t
  obtain ⟨u, w2, c2, u0, u1, e2⟩ := s_fish (m := 6) (by decide) w1 c1 t
  have eq1 : ∀ (h : Heap), callI pg (k + 7) f_law_equal [.tup [row n (vs p r n a), .int (sm n a % p)], .tup [row n (vs p r n a), .int (sm n a % p)]] h = .ok (.bl true, h) := fun h => s_equal (k + 6) _ h ⟨by simp, fun i d hd => by
    match i, hd with
    | 0, hd => cases hd; exact nice_row _ _ _ (by omega)
    | 1, hd => cases hd; trivial⟩
  have eqi : ∀ (h : Heap) (i : Int), callI pg (k + 7) f_law_equal [.int i, .int i] h = .ok (.bl true, h) := fun h i => s_equal (k + 6) _ h trivial
  have s3 : small 3 = true := rfl
  suffices H : ∀ Q : R (D × Heap) → Prop, (∀ (w' c' : Int), Q (.ok (.bl true, pd w' c' :: t))) → Q (callI pg (k + 8) f_law_sums_asked [.ref 0, fl p n r, row n a] (pd w c :: t)) by
    exact H (fun x => ∃ w' c', x = .ok (.bl true, pd w' c' :: t)) (fun w' c' => ⟨w', c', rfl⟩)
  intro Q hQ
  rw [u_law_sums_asked, b_law_sums_asked]
  simp [LIM, s_law_values F', s_values_of F', s_middle_value F', at0 hn, vs0 F', eq1]
  refine go_items (P := Q) (h1 := pd w1 c1 :: t) [.int v, .int n, .int 0] (fun i ρ h1 => h1 = pd w1 c1 :: t ∧ ∃ x y, ρ = [some (.ref 0), some (fl p n r), some (row n a), some (row n (vs p r n a)), x, none, y, none, none, some (.int p), some (.int n), some (.int r), none, none, none]) ?_ ⟨rfl, _, _, rfl⟩ ?_ ?_
  · simp [s3, e1, LIM]
  · rintro i x ρ h1 hx ⟨rfl, x0, y0, rfl⟩
    obtain ⟨m, hm, rfl⟩ : ∃ m : Nat, m < 1000 ∧ x = .int (m : Int) := by
      match i, hx with
      | 0, hx => cases hx; exact ⟨v.toNat, by omega, by rw [show ((v.toNat : Nat) : Int) = v by omega]⟩
      | 1, hx => cases hx; exact ⟨n, by omega, rfl⟩
      | 2, hx => cases hx; exact ⟨0, by omega, rfl⟩
    refine ⟨_, _, ?_, rfl, some (.int m), y0, rfl⟩
    simp [s_root_sum F' m hm]
    rw [comp_ints n (fun j => cy n (rr p r) (j * m)) (by simp [hro]) (by unfold LIM; omega) (by
      intro j hj
      have : small (j : Int) = true := small_of (by omega) (by omega)
      simp [this, s_root_power F'])]
    simp [hp, root_sum_eq F', eqi]
  · rintro ρ' h' ⟨rfl, x0, y0, rfl⟩
    simp [e2]
    refine go_rng (P := Q) (h1 := pd w2 c2 :: t) n (fun i ρ h1 => h1 = pd w2 c2 :: t ∧ ∃ y z1 z2, ρ = [some (.ref 0), some (fl p n r), some (row n a), some (row n (vs p r n a)), some (.int u), some (.int (sm i fun j => a j * (j : Int) ^ u.toNat)), y, none, none, some (.int p), some (.int n), some (.int r), z1, z2, none]) ?_ ⟨rfl, _, _, _, rfl⟩ ?_ ?_
    · simp [hro]
    · rintro i ρ h1 hi ⟨rfl, y, z1, z2, rfl⟩
      simp [ints_at hi]
      have hu := rok (show u.toNat < 1000000 by omega)
      rw [show ((u.toNat : Nat) : Int) = u by omega] at hu
      have hi2 : small (i : Int) = true := small_of (by omega) (by omega)
      refine go_rng (P := fun (x : R St) => ∃ (ρ' : Env) (h' : Heap), x = .ok (.nx, ρ', h') ∧ h' = pd w2 c2 :: t ∧ ∃ y z1 z2, ρ' = [some (.ref 0), some (fl p n r), some (row n a), some (row n (vs p r n a)), some (.int u), some (.int (sm (i + 1) fun j => a j * (j : Int) ^ u.toNat)), y, none, none, some (.int p), some (.int n), some (.int r), z1, z2, none]) (h1 := pd w2 c2 :: t) u.toNat
        (fun j ρ h1 => h1 = pd w2 c2 :: t ∧ ∃ z2, ρ = [some (.ref 0), some (fl p n r), some (row n a), some (row n (vs p r n a)), some (.int u), some (.int (sm i fun j => a j * (j : Int) ^ u.toNat)), some (.int i), none, none, some (.int p), some (.int n), some (.int r), some (.int (a i * (i : Int) ^ j)), z2, none]) ?_ ⟨rfl, z2, by rw [Int.pow_zero, Int.mul_one]⟩ ?_ ?_
      · simp [hu]
      · rintro j ρ h1 hj ⟨rfl, z2, rfl⟩
        refine ⟨_, _, ?_, rfl, some (.int j), rfl⟩
        simp [hi2]
        rw [Int.pow_succ, Int.mul_assoc]
      · rintro ρ' h' ⟨rfl, z2, rfl⟩
        refine ⟨_, _, ?_, rfl, some (.int i), some (.int (a i * (i : Int) ^ u.toNat)), z2, rfl⟩
        simp [sm]
    · rintro ρ' h' ⟨rfl, y, z1, z2, rfl⟩
      have em : ∀ k, callI pg (k + 2) f_moment [fl p n r, row n a, .int u] (pd w2 c2 :: t) = .ok (.int (sm n (fun i => a i * (i : Int) ^ u.toNat) % p), pd w2 c2 :: t) := by
        intro k
        have := s_moment F' a u.toNat (by omega) k (pd w2 c2 :: t)
        rw [moment_eq, show ((u.toNat : Nat) : Int) = u by omega] at this
        exact this
      have hs : small (n : Int) = true := small_of (by omega) (by omega)
      have hpars : sm n (fun j => vs p r n a j * vs p r n a j) % p = ((n : Int) * (sm n (fun i => a i * cy n a (-i)) % p)) % p := by
        rw [pars F' a a, mod_mul_r]
      have hpars2 : (sm n (fun i => a i * cy n a (-i)) % p * (n : Int)) % p = sm n (fun j => vs p r n a j * vs p r n a j) % p := by
        rw [hpars, Int.mul_comm]
      have eq3 : ∀ (h : Heap) (i j : Int), callI pg (k + 7) f_law_equal [.tup [.int i, .int j, .bl true], .tup [.int i, .int j, .bl true]] h = .ok (.bl true, h) := fun h i j => s_equal (k + 6) _ h ⟨by simp, fun i d hd => by
        match i, hd with
        | 0, hd => cases hd; trivial
        | 1, hd => cases hd; trivial
        | 2, hd => cases hd; trivial⟩
      simp [em, hp, eqi]
      rw [comp_ints n (fun i => a i * cy n a (-i)) (by simp [hro]) (by unfold LIM; omega) (by
        intro j hj
        simp [hn, ints_at hj, z_cy hn, sa, cy_back])]
      simp [hp]
      rw [comp_row n (vs p r n a) (fun i => vs p r n a i * vs p r n a i) (by simp) (by unfold LIM; omega) (by
        intro j hj
        simp [vs_small hp pU])]
      simp [hp, hs]
      simp [← hpars, LIM, s_energy F' a sa, s_energy_of_values F', s_energies_agree F' a sa, hpars2, eq3]
      rw [tidy_pd0 _ _ _ _ _ _ rfl]
      exact hQ w2 c2
end K89
end

section
set_option Elab.async false
set_option linter.all false
set_option maxRecDepth 100000
set_option maxHeartbeats 400000
namespace K89
open Tw
open PySem (Str)
def scV (h : Heap) (lo hi : Option Int) : Option O → R (D × Heap)
  | some (.lst xs) => .ok (.ref h.length, h ++ [.lst (cut xs lo hi)])
  | _ => .no
@[simp] theorem z_scV (h : Heap) (lo hi : Option Int) (xs : List D) : scV h lo hi (some (.lst xs)) = .ok (.ref h.length, h ++ [.lst (cut xs lo hi)]) := (rfl)
@[simp] theorem z_slcr (n : Nat) (lo hi : Option Int) (h : Heap) : slcV (.ref n) lo hi h = scV h lo hi h[n]? := by
  cases e : h[n]? with
  | none => simp [slcV, scV, e]
  | some o => cases o <;> simp [slcV, scV, e]
@[simp] theorem z_slct (ds : List D) (lo hi : Option Int) (h : Heap) : slcV (.tup ds) lo hi h = .ok (.tup (cut ds lo hi), h) := (rfl)
theorem sum_last {p : Int} (a : Nat → Int) (i : Nat) (h : Heap) : sqV .sum (cut (intz i (fun j => sm (j + 1) a % p)) (some (-1)) none) h = .ok (.int (sm i a % p), h) := by
  cases i with
  | zero =>
    have : cut (intz 0 (fun j => sm (j + 1) a % p)) (some (-1)) none = intz 0 (fun _ => 0) := rfl
    rw [this, sum_ints]
    simp [sm]
  | succ i =>
    have : cut (intz (i + 1) (fun j => sm (j + 1) a % p)) (some (-1)) none = intz 1 (fun _ => sm (i + 1) a % p) := by
      have s1 : sIx (i + 1) 0 (some (-1)) = i := by
        show (if (-1 : Int) < 0 then ((-1 : Int) + ((i + 1 : Nat) : Int)).toNat else min (-1 : Int).toNat (i + 1)) = i
        rw [if_pos (by decide)]
        omega
      have s2 : sIx (i + 1) (i + 1) none = i + 1 := rfl
      unfold cut
      rw [ints_len, s1, s2, ints_succ]
      rw [List.drop_append_of_le_length (by rw [ints_len]; omega), List.drop_of_length_le (by rw [ints_len]; omega)]
      rw [show i + 1 - i = 1 by omega]
      rfl
    rw [this, sum_ints]
    simp [sm]
theorem at_pred {n : Nat} (a : Nat → Int) {i : Nat} (hi : i < n) : nth (intz n a) ((i : Int) - 1) = some (.int (cy n a ((i : Int) - 1))) := by
  by_cases h : i = 0
  · subst h
    rw [ints_neg (by omega) (by omega)]
    rw [← cy_per n a, ← cy_nat a (show (((0 : Nat) : Int) - 1 + n).toNat < n by omega)]
    congr 3
    omega
  · rw [ints_nth (by omega) (by omega)]
    unfold cy
    rw [Int.emod_eq_of_lt (by omega) (by omega)]
theorem win_eq {p : Int} {n : Nat} (hn : 0 < n) (a : Nat → Int) (m t : Nat) : cv p n (wn p n m) a t = sm m (fun j => cy n a (t + j)) % p := by
  unfold cv
  induction m with
  | zero =>
    rw [sm_congr (g := fun _ => 0) (fun i _ => by
      show 0 * _ = _
      rw [Int.zero_mul]), sm_zero]
    rfl
  | succ m ih =>
    have h0 : 0 ≤ (-(m : Int)) % n := Int.emod_nonneg _ (by omega)
    have h1 : (-(m : Int)) % n < n := Int.emod_lt_of_pos _ (by omega)
    have e1 : sm n (fun i => wn p n (m + 1) i * cy n a ((t : Int) - i)) % p = sm n (fun i => wn p n m i * cy n a ((t : Int) - i) + if i = ((-(m : Int)) % n).toNat then cy n a ((t : Int) - i) else 0) % p := by
      apply sm_mod
      intro i hi
      rw [wn]
      by_cases e : i = ((-(m : Int)) % n).toNat
      · rw [if_pos e, if_pos e, mod_mul_l, Int.add_mul, Int.one_mul]
      · rw [if_neg e, if_neg e, Int.add_zero]
    rw [e1, sm_add, sm_delta (fun i => cy n a ((t : Int) - i)) _ (by omega)]
    show (_ + _) % p = (sm m (fun j => cy n a (t + j)) + cy n a ((t : Int) + m)) % p
    refine md_add ih ?_
    congr 1
    apply cy_mod
    rw [show ((((-(m : Int)) % n).toNat : Nat) : Int) = (-(m : Int)) % n by omega, Int.sub_emod_emod]
    congr 1
    omega
theorem s_rows_asked {p r : Int} {n : Nat} (F : Fld p n r) (a : Nat → Int) (ha : ∀ i, 0 ≤ a i ∧ a i < p) (w c : Int) (t : Heap) (k : Nat) : ∃ w' c', callI pg (k + 8) f_law_rows_asked [.ref 0, fl p n r, row n a] (pd w c :: t) = .ok (.bl true, pd w' c' :: t) := by
  have F' := F
  obtain ⟨p2, pU, n1, nU, w0, wU, _, _, _, np⟩ := F
  have hn : 0 < n := by omega
  have hp : 0 < p := by omega
  have hro := rok (show n < 1000000 by omega)
  have hs : small (n : Int) = true := small_of (by omega) (by omega)
  have s2 : small 2 = true := rfl
  have eqr : ∀ (h : Heap) (f g : Nat → Int), callI pg (k + 7) f_law_equal [.tup [row n f, row n g], .tup [row n f, row n g]] h = .ok (.bl true, h) := fun h f g => s_equal (k + 6) _ h ⟨by simp, fun i d hd => by
    match i, hd with
    | 0, hd => cases hd; exact nice_row _ _ _ (by omega)
    | 1, hd => cases hd; exact nice_row _ _ _ (by omega)⟩
  have eq1 : ∀ (h : Heap) (f : Nat → Int), callI pg (k + 7) f_law_equal [row n f, row n f] h = .ok (.bl true, h) := fun h f => s_equal (k + 6) _ h (nice_row _ _ _ (by omega))
  suffices H : ∀ Q : R (D × Heap) → Prop, (∀ (w' c' : Int), Q (.ok (.bl true, pd w' c' :: t))) → Q (callI pg (k + 8) f_law_rows_asked [.ref 0, fl p n r, row n a] (pd w c :: t)) by
    exact H (fun x => ∃ w' c', x = .ok (.bl true, pd w' c' :: t)) (fun w' c' => ⟨w', c', rfl⟩)
  intro Q hQ
  rw [u_law_rows_asked, b_law_rows_asked]
  simp [LIM]
  refine go_items (P := Q) (h1 := pd w c :: (t ++ [.lst []])) (intz n a) (fun i ρ h1 => i ≤ n ∧ ∃ g y, h1 = pd w c :: (t ++ .lst (intz i (fun j => sm (j + 1) a % p)) :: g) ∧ ρ = [some (.ref 0), some (fl p n r), some (row n a), some (.ref (t.length + 1)), y, none, none, none, some (.int p), some (.int n), some (.int r), none, none, none]) ?_ ⟨by omega, [], none, rfl, rfl⟩ ?_ ?_
  · simp
  · rintro i x ρ h1 hx ⟨hi', g, y, rfl, rfl⟩
    obtain ⟨hi, rfl⟩ := ints_some hx
    refine ⟨_, pd w c :: (t ++ .lst (intz (i + 1) (fun j => sm (j + 1) a % p)) :: (g ++ [.lst (cut (intz i (fun j => sm (j + 1) a % p)) (some (-1)) none)])), ?_, by omega, _, some (.int (a i)), rfl, rfl⟩
    simp [sum_last, hp, show i < LIM by unfold LIM; omega, ints_succ]
    rfl
  · rintro ρ' h' ⟨_, g, y, rfl, rfl⟩
    rw [ints_len]
    simp
    obtain ⟨v, w1, c1, v0, v1, e1⟩ := s_fish (m := n + 1) (by omega) w c (t ++ .lst (intz n (fun j => sm (j + 1) a % p)) :: g)
    obtain ⟨u, w2, c2, u0, u1, e2⟩ := s_fish (m := 4) (by decide) w1 c1 (t ++ .lst (intz n (fun j => sm (j + 1) a % p)) :: g)
    rw [comp_ints n (fun i => (a i - cy n a (i - 1)) % p) (by simp [hro]) (by unfold LIM; omega) (by
      intro j hj
      simp [ints_at hj, at_pred a hj, hp])]
    simp [LIM, s_running_sums F', s_step_row F', eqr]
    refine go_items (P := Q) (h1 := pd w2 c2 :: (t ++ .lst (intz n (fun j => sm (j + 1) a % p)) :: g)) [.int v, .int 1, .int (n + u)] (fun i ρ h1 => h1 = pd w2 c2 :: (t ++ .lst (intz n (fun j => sm (j + 1) a % p)) :: g) ∧ ∃ x y z, ρ = [some (.ref 0), some (fl p n r), some (row n a), some (.ref (t.length + 1)), y, some (row n (fun i => (a i - cy n a (i - 1)) % p)), x, none, some (.int p), some (.int n), some (.int r), z, none, none]) ?_ ⟨rfl, _, _, _, rfl⟩ ?_ ?_
    · simp [e1, e2, LIM]
    · rintro i x ρ h1 hx ⟨rfl, x0, y0, z0, rfl⟩
      obtain ⟨m, hm, rfl⟩ : ∃ m : Nat, m < 1000 ∧ x = .int (m : Int) := by
        match i, hx with
        | 0, hx => cases hx; exact ⟨v.toNat, by omega, by rw [show ((v.toNat : Nat) : Int) = v by omega]⟩
        | 1, hx => cases hx; exact ⟨1, by omega, rfl⟩
        | 2, hx => cases hx; exact ⟨(n + u).toNat, by omega, by rw [show (((n + u : Int).toNat : Nat) : Int) = n + u by omega]⟩
      refine ⟨_, _, ?_, rfl, some (.int m), y0, some (row n (fun i => sm m (fun j => cy n a (i + j)) % p)), rfl⟩
      simp
      rw [comp_ints n (fun i => sm m (fun j => cy n a (i + j)) % p) (by simp [hro]) (by unfold LIM; omega) (by
        intro i hi
        simp
        rw [comp_ints m (fun j => cy n a (i + j)) (by simp [rok (show m < 1000000 by omega)]) (by unfold LIM; omega) (by
          intro j hj
          simp [z_cy hn, hn])]
        simp [hp])]
      have ew : ∀ h, callI pg (k + 7) f_window_by_product [fl p n r, row n a, .int m] h = .ok (row n fun i => sm m (fun j => cy n a (i + j)) % p, h) := by
        intro h
        rw [s_window_by_product F' a m hm (k + 5) h]
        rw [show row n (cv p n (wn p n m) a) = row n (fun i => sm m (fun j => cy n a (i + j)) % p) from congrArg D.tup (ints_congr fun t ht => win_eq hn a m t)]
      simp [LIM, s_window_sums F' a m hm, ew, eqr]
    · rintro ρ' h' ⟨rfl, x0, y0, z0, rfl⟩
      simp [s2]
      by_cases hh : 2 * ((n : Int) / 2) = n
      · simp [hh, s_folded_half F']
        rw [comp_ints n (fun i => (a i + cy n a (i + (n : Int) / 2)) % p) (by simp [hro]) (by unfold LIM; omega) (by
          intro j hj
          simp [ints_at hj, z_cy hn, hn, hp])]
        simp [eq1]
        rw [tidy_pd _ _ _ _ _ _ _ rfl]
        exact hQ w2 c2
      · simp [hh]
        rw [tidy_pd _ _ _ _ _ _ _ rfl]
        exact hQ w2 c2
end K89
end

section
set_option Elab.async false
set_option linter.all false
set_option maxRecDepth 100000
set_option maxHeartbeats 400000
namespace K89
open Tw
open PySem (Str)
section
variable {p w : Int} {n : Nat} (F : Fld p n w) (k : Nat) (h : Heap) (m : Nat) (a b : Nat → Int)
include F
theorem d_times (ha : ∀ i, small (a i) = true) (hm : h[m]? = some (.lst [row n a, row n b])) : callI pg (k + 2) f_done [fl p n w, .str "C", .str "times", .ref m, .non] h = .ok (row n (cv p n a b), h) := by
  have e0 : nth [row n a, row n b] 0 = some (row n a) := rfl
  have e1 : nth [row n a, row n b] 1 = some (row n b) := rfl
  rw [u_done, b_done]
  simp [str_eq, hm, e0, e1, s_multiplied F a b ha]
theorem d_less (hm : h[m]? = some (.lst [row n a, row n b])) : callI pg (k + 2) f_done [fl p n w, .str "C", .str "less", .ref m, .non] h = .ok (row n (fun i => (a i - b i) % p), h) := by
  have e0 : nth [row n a, row n b] 0 = some (row n a) := rfl
  have e1 : nth [row n a, row n b] 1 = some (row n b) := rfl
  rw [u_done, b_done]
  simp [str_eq, hm, e0, e1, s_lessened F a b]
theorem d_add (hm : h[m]? = some (.lst [row n a, row n b])) : callI pg (k + 2) f_done [fl p n w, .str "C", .str "add", .ref m, .non] h = .ok (row n (fun i => (a i + b i) % p), h) := by
  have e0 : nth [row n a, row n b] 0 = some (row n a) := rfl
  have e1 : nth [row n a, row n b] 1 = some (row n b) := rfl
  rw [u_done, b_done]
  simp [str_eq, hm, e0, e1, s_added F a b]
theorem d_shift (s : Int) (hm : h[m]? = some (.lst [row n a])) : callI pg (k + 2) f_done [fl p n w, .str "C", .str "shift", .ref m, .int s] h = .ok (row n (fun i => cy n a (i - s)), h) := by
  have e0 : nth [row n a] 0 = some (row n a) := rfl
  rw [u_done, b_done]
  simp [str_eq, hm, e0, s_shifted F a s]
theorem d_slope (hm : h[m]? = some (.lst [row n a])) : callI pg (k + 2) f_done [fl p n w, .str "C", .str "slope", .ref m, .non] h = .ok (row n (fun i => (i * a i) % p), h) := by
  have e0 : nth [row n a] 0 = some (row n a) := rfl
  rw [u_done, b_done]
  simp [str_eq, hm, e0, s_sloped F a]
end
inductive Dd where
  | take (s : Str) | times (a b : Nat) | less (a b : Nat) | add (a b : Nat) | shift (a : Nat) (s : Int) | slope (a : Nat)
def encD : Dd → D
  | .take s => .tup [.str "take", .str "row", .str s]
  | .times a b => .tup [.str "times", .int (a : Nat), .int (b : Nat)]
  | .less a b => .tup [.str "less", .int (a : Nat), .int (b : Nat)]
  | .add a b => .tup [.str "add", .int (a : Nat), .int (b : Nat)]
  | .shift a s => .tup [.str "shift", .int (a : Nat), .int s]
  | .slope a => .tup [.str "slope", .int (a : Nat)]
def semD (p : Int) (n : Nat) (X : Nat → Int) (R : Nat → Nat → Int) : Dd → Nat → Int
  | .take _ => X
  | .times a b => cv p n (R a) (R b)
  | .less a b => fun i => (R a i - R b i) % p
  | .add a b => fun i => (R a i + R b i) % p
  | .shift a s => fun i => cy n (R a) (i - s)
  | .slope a => fun i => (i * R a i) % p
def okD (i : Nat) (form : Str) : Dd → Prop
  | .take s => s = form
  | .times a b => a < i ∧ b < i
  | .less a b => a < i ∧ b < i
  | .add a b => a < i ∧ b < i
  | .shift a _ => a < i
  | .slope a => a < i
section
variable (k : Nat) (h : Heap) (a b : Nat) (x : D)
theorem nd_times : callI pg (k + 1) f_named_deeds [encD (.times a b)] h = .ok (.tup [.int a, .int b], h) := by
  have e0 : nth [D.str "times", .int (a : Nat), .int (b : Nat)] 0 = some (.str "times") := rfl
  have e1 : cut [D.str "times", .int (a : Nat), .int (b : Nat)] (some 1) (some 3) = [.int a, .int b] := rfl
  rw [u_named_deeds, b_named_deeds, encD]
  simp [e0, str_eq, inB, scal, eqf, e1, LIM]
theorem nd_less : callI pg (k + 1) f_named_deeds [encD (.less a b)] h = .ok (.tup [.int a, .int b], h) := by
  have e0 : nth [D.str "less", .int (a : Nat), .int (b : Nat)] 0 = some (.str "less") := rfl
  have e1 : cut [D.str "less", .int (a : Nat), .int (b : Nat)] (some 1) (some 3) = [.int a, .int b] := rfl
  rw [u_named_deeds, b_named_deeds, encD]
  simp [e0, str_eq, inB, scal, eqf, e1, LIM]
theorem nd_add : callI pg (k + 1) f_named_deeds [encD (.add a b)] h = .ok (.tup [.int a, .int b], h) := by
  have e0 : nth [D.str "add", .int (a : Nat), .int (b : Nat)] 0 = some (.str "add") := rfl
  have e1 : cut [D.str "add", .int (a : Nat), .int (b : Nat)] (some 1) (some 3) = [.int a, .int b] := rfl
  rw [u_named_deeds, b_named_deeds, encD]
  simp [e0, str_eq, inB, scal, eqf, e1, LIM]
theorem nd_shift (s : Int) : callI pg (k + 1) f_named_deeds [encD (.shift a s)] h = .ok (.tup [.int a], h) := by
  have e0 : nth [D.str "shift", .int (a : Nat), .int s] 0 = some (.str "shift") := rfl
  have e1 : cut [D.str "shift", .int (a : Nat), .int s] (some 1) (some 2) = [.int a] := rfl
  rw [u_named_deeds, b_named_deeds, encD]
  simp [e0, str_eq, inB, scal, eqf, e1, LIM]
theorem nd_slope : callI pg (k + 1) f_named_deeds [encD (.slope a)] h = .ok (.tup [.int a], h) := by
  have e0 : nth [D.str "slope", .int (a : Nat)] 0 = some (.str "slope") := rfl
  have e1 : cut [D.str "slope", .int (a : Nat)] (some 1) (some 2) = [.int a] := rfl
  rw [u_named_deeds, b_named_deeds, encD]
  simp [e0, str_eq, inB, scal, eqf, e1, LIM]
theorem xo_times : callI pg (k + 1) f_extra_of [encD (.times a b)] h = .ok (.non, h) := by
  have e0 : nth [D.str "times", .int (a : Nat), .int (b : Nat)] 0 = some (.str "times") := rfl
  rw [u_extra_of, b_extra_of, encD]
  simp [e0, str_eq, inB, scal, eqf, LIM]
theorem xo_less : callI pg (k + 1) f_extra_of [encD (.less a b)] h = .ok (.non, h) := by
  have e0 : nth [D.str "less", .int (a : Nat), .int (b : Nat)] 0 = some (.str "less") := rfl
  rw [u_extra_of, b_extra_of, encD]
  simp [e0, str_eq, inB, scal, eqf, LIM]
theorem xo_add : callI pg (k + 1) f_extra_of [encD (.add a b)] h = .ok (.non, h) := by
  have e0 : nth [D.str "add", .int (a : Nat), .int (b : Nat)] 0 = some (.str "add") := rfl
  rw [u_extra_of, b_extra_of, encD]
  simp [e0, str_eq, inB, scal, eqf, LIM]
theorem xo_shift (s : Int) : callI pg (k + 1) f_extra_of [encD (.shift a s)] h = .ok (.int s, h) := by
  have e0 : nth [D.str "shift", .int (a : Nat), .int s] 0 = some (.str "shift") := rfl
  have e2 : nth [D.str "shift", .int (a : Nat), .int s] 2 = some (.int s) := rfl
  rw [u_extra_of, b_extra_of, encD]
  simp [e0, e2, str_eq, inB, scal, eqf, LIM]
theorem xo_slope : callI pg (k + 1) f_extra_of [encD (.slope a)] h = .ok (.non, h) := by
  have e0 : nth [D.str "slope", .int (a : Nat)] 0 = some (.str "slope") := rfl
  rw [u_extra_of, b_extra_of, encD]
  simp [e0, str_eq, inB, scal, eqf, LIM]
end
def rws (n : Nat) (R : Nat → Nat → Int) (i : Nat) : List D := (List.range i).map fun j => row n (R j)
theorem rws_at {n : Nat} {R : Nat → Nat → Int} {i a : Nat} (h : a < i) : nth (rws n R i) (a : Int) = some (row n (R a)) := by
  unfold nth
  rw [if_pos (by omega)]
  simp [rws, h]
theorem rws_len (n : Nat) (R : Nat → Nat → Int) (i : Nat) : (rws n R i).length = i := by simp [rws]
theorem rws_succ (n : Nat) (R : Nat → Nat → Int) (i : Nat) : rws n R (i + 1) = rws n R i ++ [row n (R i)] := by
  unfold rws
  rw [List.range_succ, List.map_append]
  rfl
theorem comp_two {c : Ctx} {ρ : Env} {h : Heap} {e : CE} {i : Nat} {it : CI} {x1 x2 y1 y2 : D} (hit : evI c it ρ h = .ok (([x1, x2], []), h))
    (h1 : ev c e (ρ.set i (some x1)) h = .ok (y1, h)) (h2 : ev c e (ρ.set i (some x2)) h = .ok (y2, h)) :
    evL c (.comp e (.name i) it .none) ρ h = .ok ([y1, y2], h) := by
  rw [evL, hit]
  simp [LIM, mapL, guards, tvO, h1, h2]
theorem comp_one {c : Ctx} {ρ : Env} {h : Heap} {e : CE} {i : Nat} {it : CI} {x1 y1 : D} (hit : evI c it ρ h = .ok (([x1], []), h))
    (h1 : ev c e (ρ.set i (some x1)) h = .ok (y1, h)) :
    evL c (.comp e (.name i) it .none) ρ h = .ok ([y1], h) := by
  rw [evL, hit]
  simp [LIM, mapL, guards, tvO, h1]
end K89
end

section
set_option Elab.async false
set_option linter.all false
set_option maxRecDepth 100000
set_option maxHeartbeats 800000
namespace K89
open Tw
open PySem (Str)
theorem dc1 {c : Ctx} {h : Heap} {f pr d : D} {x3 x4 x5 x8 x9 : Option D} : ev c (.dcomp (.var 6) (.var 7) (.tup (.cons (.name 6) (.cons (.name 7) .nil))) (.val (.var 2)) .none) [some f, some pr, some (.tup [.tup [.str "row", d]]), x3, x4, x5, none, none, x8, x9] h = .ok (.ref h.length, h ++ [.dct [(.inr "row", d)]]) := by
  rw [ev]
  simp [mapD, guards, tvO, dputM, keyOf, putV, LIM]
theorem deed0 (d : Dd) : ∃ ds s, encD d = .tup (.str s :: ds) := by
  cases d <;> exact ⟨_, _, rfl⟩
theorem s_along {p w : Int} {n : Nat} (F : Fld p n w) (form : Str) (g : D) (X : Nat → Int) (k : Nat)
    (hX : ∀ h, callI pg (k + 6) f_in_form [fl p n w, g, .str form, .str "C"] h = .ok (row n X, h))
    (ds : List Dd) (R : Nat → Nat → Int) (hl : ds.length < 1000) (hs : ∀ j i, small (R j i) = true)
    (hd : ∀ i d, ds[i]? = some d → okD i form d ∧ R i = semD p n X R d) (tl : D) (h : Heap) :
    callI pg (k + 7) f_coefficients_along [fl p n w, .tup [.tup (ds.map encD), tl], .tup [.tup [.str "row", g]]] h = .ok (.tup (rws n R ds.length), h) := by
  have n0 : nth [.tup (ds.map encD), tl] 0 = some (.tup (ds.map encD)) := rfl
  rw [u_coefficients_along, b_coefficients_along]
  simp [dc1, n0]
  refine go_itemsE (h1 := h ++ [.dct [(.inr "row", g)], .lst []]) (ds.map encD) (fun i ρ h1 => i ≤ ds.length ∧ ∃ gb x5 x6 x7 x8 x9, h1 = h ++ .dct [(.inr "row", g)] :: .lst (rws n R i) :: gb ∧ ρ = [some (fl p n w), some (.tup [.tup (ds.map encD), tl]), some (.tup [.tup [.str "row", g]]), some (.ref h.length), some (.ref (h.length + 1)), x5, x6, x7, x8, x9]) ?_ ⟨by omega, [], _, _, _, _, _, rfl, rfl⟩ ?_ ?_
  · simp [n0]
  · rintro i x ρ h1 hx ⟨hi', gb, x5, x6, x7, x8, x9, rfl, rfl⟩
    rw [List.getElem?_map] at hx
    obtain ⟨d, hx', rfl⟩ : ∃ d, ds[i]? = some d ∧ encD d = x := by
      cases e : ds[i]? with
      | none => rw [e] at hx; cases hx
      | some d => rw [e] at hx; exact ⟨d, rfl, by simpa using hx⟩
    obtain ⟨ok, sem⟩ := hd i d hx'
    have hi : i < ds.length := by
      rcases Nat.lt_or_ge i ds.length with h | h
      · exact h
      · rw [List.getElem?_eq_none h] at hx'
        cases hx'
    have hL : i < LIM := by unfold LIM; omega
    cases d with
    | take s =>
      cases ok
      have e0 : nth [D.str "take", .str "row", .str form] 0 = some (.str "take") := rfl
      have e1 : nth [D.str "take", .str "row", .str form] 1 = some (.str "row") := rfl
      have e2 : nth [D.str "take", .str "row", .str form] 2 = some (.str form) := rfl
      refine ⟨_, h ++ .dct [(.inr "row", g)] :: .lst (rws n R (i + 1)) :: gb, ?_, by omega, gb, some (encD (.take form)), x6, x7, x8, x9, rfl, rfl⟩
      simp [encD, e0, e1, e2, str_eq, keyOf, findV, hX, rws_len, hL, rws_succ, sem, semD]
    | times a b =>
      have e0 : ∀ h, idxV (encD (.times a b)) (.int 0) h = .ok (.str "times", h) := fun _ => rfl
      refine ⟨_, h ++ .dct [(.inr "row", g)] :: .lst (rws n R (i + 1)) :: (gb ++ [.lst [row n (R a), row n (R b)]]), ?_, by omega, _, some (encD (.times a b)), x6, x7, x8, x9, rfl, rfl⟩
      simp [e0, str_eq]
      rw [comp_two (x1 := .int a) (x2 := .int b) (y1 := row n (R a)) (y2 := row n (R b)) (by simp [nd_times]) (by simp [rws_at ok.1]) (by simp [rws_at ok.2])]
      simp [xo_times]
      rw [d_times F (k + 4) _ _ (R a) (R b) (hs a) (by simp)]
      simp [rws_len, hL, rws_succ, sem, semD]
    | less a b =>
      have e0 : ∀ h, idxV (encD (.less a b)) (.int 0) h = .ok (.str "less", h) := fun _ => rfl
      refine ⟨_, h ++ .dct [(.inr "row", g)] :: .lst (rws n R (i + 1)) :: (gb ++ [.lst [row n (R a), row n (R b)]]), ?_, by omega, _, some (encD (.less a b)), x6, x7, x8, x9, rfl, rfl⟩
      simp [e0, str_eq]
      rw [comp_two (x1 := .int a) (x2 := .int b) (y1 := row n (R a)) (y2 := row n (R b)) (by simp [nd_less]) (by simp [rws_at ok.1]) (by simp [rws_at ok.2])]
      simp [xo_less]
      rw [d_less F (k + 4) _ _ (R a) (R b) (by simp)]
      simp [rws_len, hL, rws_succ, sem, semD]
    | add a b =>
      have e0 : ∀ h, idxV (encD (.add a b)) (.int 0) h = .ok (.str "add", h) := fun _ => rfl
      refine ⟨_, h ++ .dct [(.inr "row", g)] :: .lst (rws n R (i + 1)) :: (gb ++ [.lst [row n (R a), row n (R b)]]), ?_, by omega, _, some (encD (.add a b)), x6, x7, x8, x9, rfl, rfl⟩
      simp [e0, str_eq]
      rw [comp_two (x1 := .int a) (x2 := .int b) (y1 := row n (R a)) (y2 := row n (R b)) (by simp [nd_add]) (by simp [rws_at ok.1]) (by simp [rws_at ok.2])]
      simp [xo_add]
      rw [d_add F (k + 4) _ _ (R a) (R b) (by simp)]
      simp [rws_len, hL, rws_succ, sem, semD]
    | shift a s =>
      have e0 : ∀ h, idxV (encD (.shift a s)) (.int 0) h = .ok (.str "shift", h) := fun _ => rfl
      refine ⟨_, h ++ .dct [(.inr "row", g)] :: .lst (rws n R (i + 1)) :: (gb ++ [.lst [row n (R a)]]), ?_, by omega, _, some (encD (.shift a s)), x6, x7, x8, x9, rfl, rfl⟩
      simp [e0, str_eq]
      rw [comp_one (x1 := .int a) (y1 := row n (R a)) (by simp [nd_shift]) (by simp [rws_at (show a < i from ok)])]
      simp [xo_shift]
      rw [d_shift F (k + 4) _ _ (R a) s (by simp)]
      simp [rws_len, hL, rws_succ, sem, semD]
    | slope a =>
      have e0 : ∀ h, idxV (encD (.slope a)) (.int 0) h = .ok (.str "slope", h) := fun _ => rfl
      refine ⟨_, h ++ .dct [(.inr "row", g)] :: .lst (rws n R (i + 1)) :: (gb ++ [.lst [row n (R a)]]), ?_, by omega, _, some (encD (.slope a)), x6, x7, x8, x9, rfl, rfl⟩
      simp [e0, str_eq]
      rw [comp_one (x1 := .int a) (y1 := row n (R a)) (by simp [nd_slope]) (by simp [rws_at (show a < i from ok)])]
      simp [xo_slope]
      rw [d_slope F (k + 4) _ _ (R a) (by simp)]
      simp [rws_len, hL, rws_succ, sem, semD]
  · rintro ρ' h' ⟨_, gb, x5, x6, x7, x8, x9, rfl, rfl⟩
    rw [List.length_map]
    simp
    refine tidy_app h _ _ ?_
    show D.lows _ (rws n R ds.length) = true
    have : ∀ l : List Nat, D.lows h.length (l.map fun j => row n (R j)) = true := by
      intro l
      induction l with
      | nil => rfl
      | cons a l ih =>
        rw [List.map_cons, D.lows, ih, low_row]
        rfl
    exact this _
/-- the row of an answer -/
theorem s_answers {p w : Int} {n : Nat} (F : Fld p n w) (form : Str) (g : D) (X : Nat → Int) (k : Nat)
    (hX : ∀ h, callI pg (k + 6) f_in_form [fl p n w, g, .str form, .str "C"] h = .ok (row n X, h))
    (ds : List Dd) (R : Nat → Nat → Int) (hl : ds.length < 1000) (hs : ∀ j i, small (R j i) = true)
    (hd : ∀ i d, ds[i]? = some d → okD i form d ∧ R i = semD p n X R d)
    (ts : List (Nat × Bool × Nat)) (ht : ts.length < 1000) (hts : ∀ q ∈ ts, q.1 < ds.length ∧ q.2.2 < n) (h : Heap) :
    callI pg (k + 8) f_answers_of [fl p n w, .tup [.tup (ds.map encD), .tup (ts.map fun q => .tup [.int (q.1 : Nat), .str (if q.2.1 then "V" else "C"), .int (q.2.2 : Nat)])], .tup [.tup [.str "row", g]]] h
      = .ok (.tup (ts.map fun q => .int (if q.2.1 then vs p w n (R q.1) q.2.2 else R q.1 q.2.2)), h) := by
  have e := s_along F form g X k hX ds R hl hs hd (.tup (ts.map fun q => .tup [.int (q.1 : Nat), .str (if q.2.1 then "V" else "C"), .int (q.2.2 : Nat)])) h
  have n1 : ∀ x y : D, nth [x, y] 1 = some y := fun _ _ => rfl
  rw [u_answers_of, b_answers_of]
  simp [e, n1]
  refine go_itemsE (h1 := h ++ [.lst []]) (ts.map fun q => D.tup [.int (q.1 : Nat), .str (if q.2.1 then "V" else "C"), .int (q.2.2 : Nat)]) (fun i ρ h1 => i ≤ ts.length ∧ h1 = h ++ [.lst ((ts.take i).map fun q => .int (if q.2.1 then vs p w n (R q.1) q.2.2 else R q.1 q.2.2))] ∧ ∃ x5 x6 x7, ρ = [some (fl p n w), some (.tup [.tup (ds.map encD), .tup (ts.map fun q => .tup [.int (q.1 : Nat), .str (if q.2.1 then "V" else "C"), .int (q.2.2 : Nat)])]), some (.tup [.tup [.str "row", g]]), some (.tup (rws n R ds.length)), some (.ref h.length), x5, x6, x7]) ?_ ⟨by omega, by simp, _, _, _, rfl⟩ ?_ ?_
  · simp [n1]
  · rintro i x ρ h1 hx ⟨hi', rfl, x5, x6, x7, rfl⟩
    rw [List.getElem?_map] at hx
    obtain ⟨q, hq, rfl⟩ : ∃ q, ts[i]? = some q ∧ D.tup [.int (q.1 : Nat), .str (if q.2.1 then "V" else "C"), .int (q.2.2 : Nat)] = x := by
      cases e : ts[i]? with
      | none => rw [e] at hx; cases hx
      | some d => rw [e] at hx; exact ⟨d, rfl, by simpa using hx⟩
    have hi : i < ts.length := by
      rcases Nat.lt_or_ge i ts.length with h | h
      · exact h
      · rw [List.getElem?_eq_none h] at hq
        cases hq
    obtain ⟨q1, q2⟩ := hts q (List.mem_of_getElem? hq)
    have hL : i < LIM := by unfold LIM; omega
    have et : ts.take (i + 1) = ts.take i ++ [q] := by
      rw [List.take_succ, hq]
      rfl
    refine ⟨_, h ++ [.lst ((ts.take (i + 1)).map fun q => .int (if q.2.1 then vs p w n (R q.1) q.2.2 else R q.1 q.2.2))], ?_, by omega, rfl, some (.int q.1), some (.str (if q.2.1 then "V" else "C")), some (.int q.2.2), rfl⟩
    obtain ⟨q0, qb, qp⟩ := q
    have hm : min i ts.length < LIM := by omega
    cases qb with
    | true => simp [rws_at q1, s_in_form_CV F, ints_at q2, et, hm]
    | false => simp [rws_at q1, s_in_form_same (s := "C") (.inl rfl), ints_at q2, et, hm]
  · rintro ρ' h' ⟨_, rfl, x5, x6, x7, rfl⟩
    rw [List.length_map]
    simp
    refine tidy_app h _ _ ?_
    show D.lows _ _ = true
    have : ∀ l : List (Nat × Bool × Nat), D.lows h.length (l.map fun q => .int (if q.2.1 then vs p w n (R q.1) q.2.2 else R q.1 q.2.2)) = true := by
      intro l
      induction l with
      | nil => rfl
      | cons a l ih =>
        rw [List.map_cons, D.lows, ih]
        rfl
    exact this _
end K89
end

section
set_option Elab.async false
set_option linter.all false
set_option maxRecDepth 100000
set_option maxHeartbeats 800000
namespace K89
open Tw
open PySem (Str)
/-- j + 1 items from t on, added -/
def S (p : Int) (n : Nat) (a : Nat → Int) (j t : Nat) : Int := sm (j + 1) (fun m => cy n a ((t : Int) + m)) % p
def Rw (p : Int) (n : Nat) (a : Nat → Int) (s : Int) (i : Nat) : Nat → Int :=
  if i = 0 then S p n a 0 else if i = 1 then cv p n (S p n a 0) (S p n a 0) else if i = 2 then fun t => cy n (S p n a 0) (t - s)
  else if i = 3 then fun t => (S p n a 0 t - cy n (S p n a 0) (t - s)) % p else if i = 4 then fun t => (t * S p n a 0 t) % p
  else if i % 2 = 1 then fun t => cy n (S p n a 0) (t - ((n : Int) - (1 + ((i - 5) / 2 : Nat))) % n) else S p n a ((i - 6) / 2 + 1)
def lastOf : Nat → Nat
  | 0 => 0
  | j + 1 => 2 * j + 6
def dl (n : Nat) (s : Int) (form : Str) : Nat → List Dd
  | 0 => [.take form, .times 0 0, .shift 0 s, .less 0 2, .slope 0]
  | i + 1 => dl n s form i ++ [.shift 0 (((n : Int) - (1 + (i : Nat))) % n), .add (lastOf i) (5 + 2 * i)]
theorem dl_len (n : Nat) (s : Int) (form : Str) (i : Nat) : (dl n s form i).length = 5 + 2 * i := by
  induction i with
  | zero => rfl
  | succ i ih =>
    rw [dl, List.length_append, ih]
    show 5 + 2 * i + 2 = _
    omega
section
variable {p : Int} {n : Nat} (hp : 0 < p) (hn : 0 < n) (a : Nat → Int) (ha : ∀ i, 0 ≤ a i ∧ a i < p) (s : Int)
include hp
theorem S_in (j t : Nat) : 0 ≤ S p n a j t ∧ S p n a j t < p := ⟨Int.emod_nonneg _ (by omega), Int.emod_lt_of_pos _ hp⟩
include hn ha
theorem S0_cy (t : Nat) : S p n a 0 t = cy n a t := by
  unfold S sm sm
  show (0 + cy n a ((t : Int) + ((0 : Nat) : Int))) % p = _
  rw [Int.zero_add, show ((t : Int) + ((0 : Nat) : Int)) = t by omega]
  exact Int.emod_eq_of_lt (ha _).1 (ha _).2
theorem S0_at {t : Nat} (ht : t < n) : S p n a 0 t = a t := by
  rw [S0_cy hp hn a ha, cy_nat a ht]
theorem S0_per (x : Int) : cy n (S p n a 0) x = cy n a x := by
  have h1 : x % (n : Int) < n := Int.emod_lt_of_pos _ (by omega)
  have h0 : 0 ≤ x % (n : Int) := Int.emod_nonneg _ (by omega)
  unfold cy
  exact S0_at hp hn a ha (by omega)
theorem S_next (j t : Nat) : (S p n a j t + cy n (S p n a 0) (t - ((n : Int) - (1 + (j : Nat))) % n)) % p = S p n a (j + 1) t := by
  rw [S0_per hp hn a ha]
  have : cy n a (t - ((n : Int) - (1 + (j : Nat))) % n) = cy n a ((t : Int) + ((j + 1 : Nat) : Int)) := by
    apply cy_mod
    rw [Int.sub_emod_emod, ← Int.add_emod_right]
    congr 1
    omega
  rw [this]
  show (sm (j + 1) _ % p + _) % p = (sm (j + 1) _ + _) % p
  rw [Int.emod_add_emod]
theorem R_in (i t : Nat) : 0 ≤ Rw p n a s i t ∧ Rw p n a s i t < p := by
  have c : ∀ x, 0 ≤ cy n (S p n a 0) x ∧ cy n (S p n a 0) x < p := fun x => S_in hp a _ _
  have m : ∀ x : Int, 0 ≤ x % p ∧ x % p < p := fun x => ⟨Int.emod_nonneg _ (by omega), Int.emod_lt_of_pos _ hp⟩
  unfold Rw
  split
  · exact S_in hp a _ _
  split
  · exact m _
  split
  · exact c _
  split
  · exact m _
  split
  · exact m _
  split
  · exact c _
  · exact S_in hp a _ _
theorem R_last (j : Nat) : Rw p n a s (lastOf j) = S p n a j := by
  cases j with
  | zero => rfl
  | succ j =>
    show Rw p n a s (2 * j + 6) = _
    unfold Rw
    rw [if_neg (by omega), if_neg (by omega), if_neg (by omega), if_neg (by omega), if_neg (by omega), if_neg (by omega)]
    rw [show (2 * j + 6 - 6) / 2 + 1 = j + 1 by omega]
theorem R_odd (j : Nat) : Rw p n a s (5 + 2 * j) = fun (t : Nat) => cy n (S p n a 0) ((t : Int) - ((n : Int) - (1 + (j : Nat))) % n) := by
  unfold Rw
  rw [if_neg (by omega), if_neg (by omega), if_neg (by omega), if_neg (by omega), if_neg (by omega), if_pos (by omega)]
  rw [show (5 + 2 * j - 5) / 2 = j by omega]
theorem dl_ok (form : Str) : ∀ (i q : Nat) (d : Dd), (dl n s form i)[q]? = some d → okD q form d ∧ Rw p n a s q = semD p n (S p n a 0) (Rw p n a s) d := by
  intro i
  induction i with
  | zero =>
    intro q d h
    match q, h with
    | 0, h => cases h; exact ⟨rfl, rfl⟩
    | 1, h => cases h; exact ⟨⟨by decide, by decide⟩, rfl⟩
    | 2, h => cases h; exact ⟨show 0 < 2 by decide, rfl⟩
    | 3, h => cases h; exact ⟨⟨by decide, by decide⟩, rfl⟩
    | 4, h => cases h; exact ⟨show 0 < 4 by decide, rfl⟩
  | succ i ih =>
    intro q d h
    rw [dl] at h
    rcases Nat.lt_or_ge q (5 + 2 * i) with hq | hq
    · rw [List.getElem?_append_left (by rw [dl_len]; exact hq)] at h
      exact ih q d h
    · rw [List.getElem?_append_right (by rw [dl_len]; exact hq), dl_len] at h
      have : q = 5 + 2 * i ∨ q = 5 + 2 * i + 1 ∨ 2 ≤ q - (5 + 2 * i) := by omega
      rcases this with rfl | rfl | h2
      · rw [Nat.sub_self] at h
        cases h
        refine ⟨show 0 < 5 + 2 * i by omega, ?_⟩
        rw [R_odd hp hn a ha]
        rfl
      · rw [show 5 + 2 * i + 1 - (5 + 2 * i) = 1 by omega] at h
        cases h
        refine ⟨⟨?_, by omega⟩, ?_⟩
        · cases i with
          | zero => decide
          | succ i => show 2 * i + 6 < _; omega
        · rw [show 5 + 2 * i + 1 = lastOf (i + 1) by show _ = 2 * i + 6; omega, R_last hp hn a ha]
          funext t
          show _ = (Rw p n a s (lastOf i) t + Rw p n a s (5 + 2 * i) t) % p
          rw [R_last hp hn a ha, R_odd hp hn a ha]
          exact (S_next hp hn a ha i t).symm
      · rw [List.getElem?_eq_none (by simpa using h2)] at h
        cases h
end
end K89
end

section
set_option Elab.async false
set_option linter.all false
set_option maxRecDepth 100000
set_option maxHeartbeats 1000000
namespace K89
open Tw
open PySem (Str)
theorem rngD_get1 {n : Nat} {i : Nat} {d : D} (h : (rngD 1 n)[i]? = some d) : i < n ∧ d = .int (1 + (i : Nat)) := by
  obtain ⟨h1, rfl⟩ := rngD_get h
  exact ⟨h1, rfl⟩
theorem comp_ref {c : Ctx} {ρ : Env} {h : Heap} {e : CE} {i : Nat} {it : CI} (xs : List Int) (G : Int → Int) (m : Nat) (hit : evI c it ρ h = .ok ((xs.map D.int, [(m, .lst (xs.map D.int))]), h)) (hm : h[m]? = some (.lst (xs.map D.int))) (hn : xs.length < LIM)
    (hf : ∀ x : Int, ev c e (ρ.set i (some (.int x))) h = .ok (.int (G x), h)) :
    evL c (.comp e (.name i) it .none) ρ h = .ok (xs.map fun x => .int (G x), h) := by
  rw [evL, hit]
  show chk (decide ((xs.map D.int).length < LIM)) _ = _
  rw [List.length_map, decide_eq_true hn]
  have key : ∀ (f : D → Heap → R (Option D × Heap)), (∀ x : Int, f (.int x) h = .ok (some (.int (G x)), h)) → ∀ l : List Int, mapL [(m, .lst (xs.map D.int))] f (l.map D.int) h = .ok (l.map fun x => .int (G x), h) := by
    intro f hf' l
    induction l with
    | nil => simp [mapL, guards, hm]
    | cons x l ih =>
      rw [List.map_cons, mapL, hf']
      simp [guards, hm, ih]
  exact key _ (fun x => by simp [tvO, hf]) xs
theorem s_program_asked {p r : Int} {n : Nat} (F : Fld p n r) (a : Nat → Int) (ha : ∀ i, 0 ≤ a i ∧ a i < p) (w c : Int) (t : Heap) (k : Nat) : ∃ w' c', callI pg (k + 15) f_law_program_asked [.ref 0, fl p n r, row n a] (pd w c :: t) = .ok (.bl true, pd w' c' :: t) := by
  have F' := F
  obtain ⟨p2, pU, n1, nU, w0, wU, _, _, _, np⟩ := F
  have hn : 0 < n := by omega
  have hp : 0 < p := by omega
  have hro := rok (show n < 1000000 by omega)
  have sa : ∀ i, small (a i) = true := fun i => small_of (by have := ha i; omega) (by have := ha i; omega)
  have hs : small (n : Int) = true := small_of (by omega) (by omega)
  suffices H : ∀ Q : R (D × Heap) → Prop, (∀ (w' c' : Int), Q (.ok (.bl true, pd w' c' :: t))) → Q (callI pg (k + 15) f_law_program_asked [.ref 0, fl p n r, row n a] (pd w c :: t)) by
    exact H (fun x => ∃ w' c', x = .ok (.bl true, pd w' c' :: t)) (fun w' c' => ⟨w', c', rfl⟩)
  intro Q hQ
  obtain ⟨v, w1, c1, v0, v1, e1⟩ := s_fish (m := 2) (by decide) w c (t ++ [.lst [.str "C", .str "V"]])
  obtain ⟨form, hf, ef⟩ : ∃ form : Str, isF form ∧ nth [D.str "C", .str "V"] v = some (.str form) := by
    have : v = 0 ∨ v = 1 := by omega
    rcases this with rfl | rfl
    · exact ⟨_, .inl rfl, rfl⟩
    · exact ⟨_, .inr rfl, rfl⟩
  obtain ⟨s, es⟩ : ∃ s : Int, nth [D.int 0, .int 1] (if (1 : Int) < n then 1 else 0) = some (.int s) ∧ s = if 1 < n then 1 else 0 := by
    by_cases h : 1 < n
    · rw [if_pos (by omega), if_pos h]
      exact ⟨1, rfl, rfl⟩
    · rw [if_neg (by omega), if_neg h]
      exact ⟨0, rfl, rfl⟩
  obtain ⟨u, w2, c2, u0, u1, e2⟩ := s_fish (m := if (5 : Int) < n then 5 else n) (by split <;> omega) w1 c1 (t ++ [.lst [.str "C", .str "V"], .lst [.int 0, .int 1], .lst ((dl n s form 0).map encD)])
  obtain ⟨U, rfl⟩ : ∃ U : Nat, u = U := ⟨u.toNat, by omega⟩
  have hU : U < 5 := by split at u1 <;> omega
  rw [u_law_program_asked, b_law_program_asked]
  simp [LIM, e1, ef, es.1]
  simp [dl, encD] at e2
  simp [e2]
  refine go_items (P := Q) (h1 := pd w2 c2 :: (t ++ [.lst [.str "C", .str "V"], .lst [.int 0, .int 1], .lst ((dl n s form 0).map encD)])) (rngD 1 U) (fun i ρ h1 => i ≤ U ∧ h1 = pd w2 c2 :: (t ++ [.lst [.str "C", .str "V"], .lst [.int 0, .int 1], .lst ((dl n s form i).map encD)]) ∧ ∃ y, ρ = [some (.ref 0), some (fl p n r), some (row n a), some (.str form), some (.ref (t.length + 2 + 1)), some (.int (1 + U)), some (.int (lastOf i : Nat)), y, none, none, none, none, none, none, none, some (.int p), some (.int n), some (.int r), none, none]) ?_ ⟨by omega, by simp [dl, encD], none, rfl⟩ ?_ ?_
  · have r1 : rngOk 1 = true := rok (n := 1) (by decide)
    have r2 : rngOk (1 + (U : Int)) = true := by
      have := rok (n := 1 + U) (by omega)
      rwa [show ((1 + U : Nat) : Int) = 1 + (U : Int) by omega] at this
    have r3 : (1 + (U : Int) - 1).toNat = U := by omega
    simp [r1, r2, r3, dl, encD]
  · rintro i x ρ h1 hx ⟨hi', rfl, y, rfl⟩
    obtain ⟨hi, rfl⟩ := rngD_get1 hx
    refine ⟨[some (.ref 0), some (fl p n r), some (row n a), some (.str form), some (.ref (t.length + 2 + 1)), some (.int (1 + U)), some (.int (lastOf (i + 1) : Nat)), some (.int (1 + i)), none, none, none, none, none, none, none, some (.int p), some (.int n), some (.int r), none, none], _, ?_, by omega, rfl, _, rfl⟩
    have l1 : 5 + 2 * i + 2 ≤ 16777216 := by omega
    have l2 : ((5 : Int) + 2 * (i : Int) + 2) - 1 = ((lastOf (i + 1) : Nat) : Int) := by
      show _ = ((2 * i + 6 : Nat) : Int)
      omega
    have l3 : encD (.shift 0 (((n : Int) - (1 + (i : Nat))) % n)) = .tup [.str "shift", .int 0, .int (((n : Int) - (1 + (i : Nat))) % n)] := rfl
    have l4 : encD (.add (lastOf i) (5 + 2 * i)) = .tup [.str "add", .int (lastOf i : Nat), .int (5 + 2 * (i : Int))] := by
      show D.tup [_, _, .int ((5 + 2 * i : Nat) : Int)] = _
      rw [show ((5 + 2 * i : Nat) : Int) = 5 + 2 * (i : Int) by omega]
    simp [LIM, dl_len, l1, hn, dl, l3, l4, l2]
    rfl
  · rintro ρ' h' ⟨_, rfl, y, rfl⟩
    obtain ⟨pl, w3, c3, pl0, pl1, e3⟩ := s_fish (m := n) (by omega) w2 c2 (t ++ [.lst [.str "C", .str "V"], .lst [.int 0, .int 1], .lst ((dl n s form U).map encD)])
    obtain ⟨P, rfl⟩ : ∃ P : Nat, pl = P := ⟨pl.toNat, by omega⟩
    have hP : P < n := by omega
    rw [rngD_len]
    simp [e3, LIM, s_law_values F', ints_at hP]
    rw [comp_ints n (fun i => a i * cy n a (-i)) (by simp [hro]) (by unfold LIM; omega) (by
      intro j hj
      simp [hn, ints_at hj, z_cy hn, sa, cy_back])]
    simp [at_pred a hP, LIM]
    rw [comp_ints n (fun i => a i * i) (by simp [hro]) (by unfold LIM; omega) (by
      intro j hj
      simp [ints_at hj, sa])]
    simp
    have r2 : rngOk (1 + (U : Int)) = true := by
      have := rok (n := 1 + U) (by omega)
      rwa [show ((1 + U : Nat) : Int) = 1 + (U : Int) by omega] at this
    have r4 : (1 + (U : Int)).toNat = 1 + U := by omega
    rw [comp_ints (1 + U) (fun j => cy n a (P + j)) (by simp [r2, r4]) (by unfold LIM; omega) (by
      intro j hj
      simp [hn, z_cy hn])]
    simp [LIM, vs_small hp pU]
    have hS : intz n (S p n a 0) = intz n a := ints_congr fun i hi => S0_at hp hn a ha hi
    have hC : ∀ h, callI pg (k + 12) f_in_form [fl p n r, row n a, .str "C", .str "C"] h = .ok (row n (S p n a 0), h) := by
      intro h
      rw [s_in_form_same (.inl rfl), row, row, hS]
    have hV : ∀ h, callI pg (k + 12) f_in_form [fl p n r, row n (vs p r n a), .str "V", .str "C"] h = .ok (row n (S p n a 0), h) := by
      intro h
      rw [s_in_form_VC F' _ (k + 7) h, row, row, hS]
      rw [ints_congr (fun i hi => (inv_thm F' a i hi).trans (Int.emod_eq_of_lt (ha i).1 (ha i).2))]
    have hlast : lastOf U < 5 + 2 * U := by
      cases U with
      | zero => decide
      | succ U => show 2 * U + 6 < _; omega
    have h0 : Rw p n a s 1 0 = sm n (fun i => a i * cy n a (-i)) % p := by
      show cv p n (S p n a 0) (S p n a 0) 0 = _
      unfold cv
      rw [sm_congr (fun i hi => by rw [S0_at hp hn a ha hi, S0_per hp hn a ha, show (((0 : Nat) : Int) - (i : Int)) = -(i : Int) by omega])]
    have h1 : vs p r n (Rw p n a s 0) 0 = sm n a % p := by
      rw [vs0 F']
      exact congrArg (· % p) (sm_congr fun i hi => S0_at hp hn a ha hi)
    have h2 : Rw p n a s 3 P = (a P - cy n a ((P : Int) - 1)) % p := by
      show (S p n a 0 P - cy n (S p n a 0) ((P : Int) - s)) % p = _
      rw [S0_at hp hn a ha hP, S0_per hp hn a ha, es.2]
      by_cases h : 1 < n
      · rw [if_pos h]
      · rw [if_neg h]
        have : n = 1 := by omega
        subst this
        rw [cy_mod (y := (P : Int) - 1) a (by rw [show ((1 : Nat) : Int) = 1 from rfl, Int.emod_one, Int.emod_one])]
    have h3 : vs p r n (Rw p n a s 4) 0 = sm n (fun i => a i * i) % p := by
      rw [vs0 F']
      apply sm_mod
      intro i hi
      show ((i : Int) * S p n a 0 i % p) % p = _
      rw [Int.emod_emod, S0_at hp hn a ha hi, Int.mul_comm]
    have h4 : Rw p n a s (lastOf U) P = sm (1 + U) (fun j => cy n a (P + j)) % p := by
      rw [R_last hp hn a ha, Nat.add_comm 1 U]
      rfl
    have h5 : vs p r n (Rw p n a s 1) P = (vs p r n a P * vs p r n a P) % p := by
      show vs p r n (cv p n (S p n a 0) (S p n a 0)) P = _
      rw [conv_thm F']
      have : vs p r n (S p n a 0) P = vs p r n a P := by
        unfold vs
        rw [sm_congr (fun i hi => by rw [S0_at hp hn a ha hi])]
      rw [this]
    have hA : ∀ (form : Str) (g : D), (∀ h, callI pg (k + 12) f_in_form [fl p n r, g, .str form, .str "C"] h = .ok (row n (S p n a 0), h)) → ∀ h, callI pg (k + 14) f_answers_of [fl p n r, .tup [.tup ((dl n s form U).map encD), .tup [.tup [.int 1, .str "C", .int 0], .tup [.int 0, .str "V", .int 0], .tup [.int 3, .str "C", .int P], .tup [.int 4, .str "V", .int 0], .tup [.int (lastOf U : Nat), .str "C", .int P], .tup [.int 1, .str "V", .int P]]], .tup [.tup [.str "row", g]]] h
        = .ok (.tup [.int (sm n (fun i => a i * cy n a (-i)) % p), .int (sm n a % p), .int ((a P - cy n a ((P : Int) - 1)) % p), .int (sm n (fun i => a i * i) % p), .int (sm (1 + U) (fun j => cy n a (P + j)) % p), .int ((vs p r n a P * vs p r n a P) % p)], h) := by
      intro form g hin h
      have e := s_answers F' form g (S p n a 0) (k + 6) hin (dl n s form U) (Rw p n a s) (by rw [dl_len]; omega) (fun j i => small_of (by have := R_in hp hn a ha s j i; omega) (by have := R_in hp hn a ha s j i; omega)) (dl_ok hp hn a ha s form U) [(1, false, 0), (0, true, 0), (3, false, P), (4, true, 0), (lastOf U, false, P), (1, true, P)] (by simp) (by
        rw [dl_len]
        intro q hq
        simp only [List.mem_cons, List.not_mem_nil, or_false] at hq
        rcases hq with rfl | rfl | rfl | rfl | rfl | rfl <;> exact ⟨by first | omega | exact hlast, by first | exact hP | exact hn⟩) h
      rw [← h0, ← h1, ← h2, ← h3, ← h4, ← h5]
      exact e
    have eq6 : ∀ (h : Heap) (i1 i2 i3 i4 i5 i6 : Int), callI pg (k + 14) f_law_equal [.tup [.int i1, .int i2, .int i3, .int i4, .int i5, .int i6], .tup [.int i1, .int i2, .int i3, .int i4, .int i5, .int i6]] h = .ok (.bl true, h) := fun h i1 i2 i3 i4 i5 i6 => s_equal (k + 13) _ h ⟨by simp, fun i d hd => by
      match i, hd with
      | 0, hd => cases hd; trivial
      | 1, hd => cases hd; trivial
      | 2, hd => cases hd; trivial
      | 3, hd => cases hd; trivial
      | 4, hd => cases hd; trivial
      | 5, hd => cases hd; trivial⟩
    have eq5 : ∀ (h : Heap) (i1 i2 i3 i4 i5 : Int), callI pg (k + 14) f_law_equal [.tup [.int i1, .int i2, .int i3, .int i4, .int i5], .tup [.int i1, .int i2, .int i3, .int i4, .int i5]] h = .ok (.bl true, h) := fun h i1 i2 i3 i4 i5 => s_equal (k + 13) _ h ⟨by simp, fun i d hd => by
      match i, hd with
      | 0, hd => cases hd; trivial
      | 1, hd => cases hd; trivial
      | 2, hd => cases hd; trivial
      | 3, hd => cases hd; trivial
      | 4, hd => cases hd; trivial⟩
    have em : ∀ h, callI pg (k + 14) f_moment [fl p n r, row n a, .int 1] h = .ok (.int (sm n (fun i => a i * i) % p), h) := by
      intro h
      have := s_moment F' a 1 (by decide) (k + 12) h
      rw [moment_eq] at this
      rw [sm_congr (g := fun i => a i * i) (fun i _ => by rw [Int.pow_succ, Int.pow_zero, Int.one_mul])] at this
      exact this
    have ew : ∀ h, callI pg (k + 14) f_window_sums [fl p n r, row n a, .int (1 + U)] h = .ok (row n (fun i => sm (1 + U) (fun j => cy n a (i + j)) % p), h) := by
      intro h
      have := s_window_sums F' a (1 + U) (by omega) (k + 13) h
      rw [show ((1 + U : Nat) : Int) = 1 + (U : Int) by omega] at this
      exact this
    have hcut : ∀ i1 i2 i3 i4 i5 i6 : Int, cut [D.int i1, .int i2, .int i3, .int i4, .int i5, .int i6] none (some 5) = [.int i1, .int i2, .int i3, .int i4, .int i5] := fun _ _ _ _ _ _ => rfl
    rcases hf with rfl | rfl
    all_goals
      simp [str_eq, s_law_values F']
      rw [comp_ref [sm n (fun i => a i * cy n a (-i)), sm n a, a P - cy n a ((P : Int) - 1), sm n (fun i => a i * i), sm (1 + U) (fun j => cy n a (P + j)), vs p r n a P * vs p r n a P] (fun x => x % p) (t.length + 3 + 1) (by simp) (by simp) (by simp [LIM]) (by
        intro x
        simp [hp])]
      simp [LIM]
      first
        | rw [hA _ _ hC]
        | rw [hA _ _ hV]
      simp [eq6, s_energy F' a sa, s_middle_value F', s_step_row F', ints_at hP, em, ew, LIM, hcut, eq5]
      rw [tidy_pd _ _ _ _ _ _ _ rfl]
      exact hQ w3 c3
end K89
end

section
set_option Elab.async false
set_option linter.all false
set_option maxRecDepth 100000
set_option maxHeartbeats 1000000
namespace K89
open Tw
open PySem (Str)
theorem ok_of {x y : D} {h : Heap} (e : x = y) : (R.ok (x, h) : R (D × Heap)) = .ok (y, h) := by rw [e]
def r1 (i : Nat) : Int := if i = 0 then 1 else if i = 1 then 2 else 0
def r2 (i : Nat) : Int := if i = 0 then 3 else if i = 1 then 1 else 0
def r3 (i : Nat) : Int := (i : Int) + 1
theorem s_hand (k : Nat) (h : Heap) : callI pg (k + 8) f_law_hand [] h = .ok (.bl true, h) := by
  have F : Fld 5 4 2 := fld_of (by decide +kernel)
  have sm1' : ∀ i, small (r1 i) = true := by
    intro i
    unfold r1
    split
    · rfl
    split <;> rfl
  have a1 : callI pg (k + 7) f_root_sum [.tup [.int 5, .int 4, .int 2], .int 4] h = .ok (.int 4, h) := (s_root_sum F 4 (by decide) (k + 5) h).trans (ok_of (by decide +kernel))
  have a2 : callI pg (k + 7) f_root_sum [.tup [.int 5, .int 4, .int 2], .int 2] h = .ok (.int 0, h) := (s_root_sum F 2 (by decide) (k + 5) h).trans (ok_of (by decide +kernel))
  have a3 : callI pg (k + 7) f_moment [.tup [.int 5, .int 4, .int 2], .tup [.int 1, .int 2, .int 0, .int 0], .int 1] h = .ok (.int 2, h) := (s_moment F r1 1 (by decide) (k + 5) h).trans (ok_of (by decide +kernel))
  have a4 : callI pg (k + 7) f_energy [.tup [.int 5, .int 4, .int 2], .tup [.int 1, .int 2, .int 0, .int 0]] h = .ok (.int 1, h) := (s_energy F r1 sm1' (k + 6) h).trans (ok_of (by decide +kernel))
  have a5 : callI pg (k + 7) f_energy_of_values [.tup [.int 5, .int 4, .int 2], .tup [.int 1, .int 2, .int 0, .int 0]] h = .ok (.int 4, h) := (s_energy_of_values F r1 (k + 4) h).trans (ok_of (by decide +kernel))
  have a6 : callI pg (k + 7) f_moment [.tup [.int 5, .int 4, .int 2], .tup [.int 3, .int 1, .int 0, .int 0], .int 0] h = .ok (.int 4, h) := (s_moment F r2 0 (by decide) (k + 5) h).trans (ok_of (by decide +kernel))
  have b1 : callI pg (k + 7) f_folded_half [.tup [.int 5, .int 4, .int 2], .tup [.int 1, .int 2, .int 3, .int 4]] h = .ok (.tup [.int 4, .int 1, .int 4, .int 1], h) := (s_folded_half F r3 (k + 6) h).trans (ok_of (by decide +kernel))
  have b2 : callI pg (k + 7) f_window_sums [.tup [.int 5, .int 4, .int 2], .tup [.int 1, .int 2, .int 0, .int 0], .int 2] h = .ok (.tup [.int 3, .int 2, .int 0, .int 1], h) := (s_window_sums F r1 2 (by decide) (k + 6) h).trans (ok_of (by decide +kernel))
  have b3 : callI pg (k + 7) f_running_sums [.tup [.int 5, .int 4, .int 2], .tup [.int 1, .int 2, .int 3, .int 4]] h = .ok (.tup [.int 1, .int 3, .int 1, .int 0], h) := (s_running_sums F r3 (k + 6) h).trans (ok_of (by decide +kernel))
  have b4 : callI pg (k + 7) f_step_row [.tup [.int 5, .int 4, .int 2], .tup [.int 1, .int 2, .int 0, .int 0]] h = .ok (.tup [.int 1, .int 1, .int 3, .int 0], h) := (s_step_row F r1 (k + 6) h).trans (ok_of (by decide +kernel))
  have b5 : callI pg (k + 7) f_values_of [.tup [.int 5, .int 4, .int 2], .tup [.int 1, .int 2, .int 0, .int 0]] h = .ok (.tup [.int 3, .int 0, .int 4, .int 2], h) := (s_values_of F r1 (k + 5) h).trans (ok_of (by decide +kernel))
  have q1 : callI pg (k + 7) f_law_equal [.tup [.int 4, .int 0, .int 2, .int 1, .int 4, .int 4], .tup [.int 4, .int 0, .int 2, .int 1, .int 4, .int 4]] h = .ok (.bl true, h) := s_equal (k + 6) _ h ⟨by simp, fun i d hd => by
    match i, hd with
    | 0, hd => cases hd; trivial
    | 1, hd => cases hd; trivial
    | 2, hd => cases hd; trivial
    | 3, hd => cases hd; trivial
    | 4, hd => cases hd; trivial
    | 5, hd => cases hd; trivial⟩
  have n4 : ∀ (x y z u : Int), nice (k + 5) (.tup [.int x, .int y, .int z, .int u]) := fun x y z u => ⟨by simp, fun i d hd => by
    match i, hd with
    | 0, hd => cases hd; cases k <;> trivial
    | 1, hd => cases hd; cases k <;> trivial
    | 2, hd => cases hd; cases k <;> trivial
    | 3, hd => cases hd; cases k <;> trivial⟩
  have q2 : callI pg (k + 7) f_law_equal [.tup [.tup [.int 4, .int 1, .int 4, .int 1], .tup [.int 3, .int 2, .int 0, .int 1], .tup [.int 1, .int 3, .int 1, .int 0], .tup [.int 1, .int 1, .int 3, .int 0], .tup [.int 3, .int 0, .int 4, .int 2]], .tup [.tup [.int 4, .int 1, .int 4, .int 1], .tup [.int 3, .int 2, .int 0, .int 1], .tup [.int 1, .int 3, .int 1, .int 0], .tup [.int 1, .int 1, .int 3, .int 0], .tup [.int 3, .int 0, .int 4, .int 2]]] h = .ok (.bl true, h) := s_equal (k + 6) _ h ⟨by simp, fun i d hd => by
    match i, hd with
    | 0, hd => cases hd; exact n4 _ _ _ _
    | 1, hd => cases hd; exact n4 _ _ _ _
    | 2, hd => cases hd; exact n4 _ _ _ _
    | 3, hd => cases hd; exact n4 _ _ _ _
    | 4, hd => cases hd; exact n4 _ _ _ _⟩
  rw [u_law_hand, b_law_hand]
  simp [LIM, a1, a2, a3, a4, a5, a6, q1, b1, b2, b3, b4, b5, q2]
theorem law_true (ns : List Int) (hl : ns.length ≤ 63) : ∃ h, callI pg 60 f_law [.seq (ns.map D.int)] [] = .ok (.bl true, h) := by
  obtain ⟨w, e0⟩ := s_pond ns
  suffices H : ∀ Q : R (D × Heap) → Prop, (∀ h, Q (.ok (.bl true, h))) → Q (callI pg 60 f_law [.seq (ns.map D.int)] []) by
    exact H (fun x => ∃ h, x = .ok (.bl true, h)) (fun h => ⟨h, rfl⟩)
  intro Q hQ
  rw [u_law 59, b_law]
  have e0' := e0 58
  have e1 := s_hand 51 [pd w 0]
  simp [e0', e1]
  refine go_rng (P := Q) (h1 := [pd w 0]) 3 (fun i ρ h1 => ∃ w c, h1 = [pd w c] ∧ ∃ x y z, ρ = [some (.seq (ns.map D.int)), some (.ref 0), x, y, z]) ?_ ⟨w, 0, rfl, _, _, _, rfl⟩ ?_ ?_
  · have r3 : rngOk 3 = true := rok (n := 3) (by decide)
    simp [r3]
  · rintro i ρ h1 hi ⟨w, c, rfl, x, y, z, rfl⟩
    obtain ⟨p, n, r, w1, c1, F, e1⟩ := s_some_field w c []
    obtain ⟨a, w2, c2, ha, e2⟩ := s_some_row F w1 c1 [] 57
    obtain ⟨w3, c3, e3⟩ := s_sums_asked F a ha w2 c2 [] 51
    obtain ⟨w4, c4, e4⟩ := s_rows_asked F a ha w3 c3 [] 51
    obtain ⟨w5, c5, e5⟩ := s_program_asked F a ha w4 c4 [] 44
    have e1' := e1 57
    refine ⟨[some (.seq (ns.map D.int)), some (.ref 0), some (.int i), some (fl p n r), some (row n a)], [pd w5 c5], ?_, w5, c5, rfl, _, _, _, rfl⟩
    simp [e1', e2, e3, e4, e5]
  · rintro ρ' h' ⟨w, c, rfl, x, y, z, rfl⟩
    simp
    have : tidy [] (D.bl true, [pd w c]) = (D.bl true, (tidy [] (D.bl true, [pd w c])).2) := by
      unfold tidy
      split <;> rfl
    rw [this]
    exact hQ _
end K89
end

section
set_option Elab.async false
set_option linter.all false
set_option maxRecDepth 100000
set_option maxHeartbeats 0
namespace K89
open Tw PySem PySem.Spec PyProof.Rows L2
def top (i : Nat) : Stmt := PySem.Challenge.pw_twoforms_k89_whole_sums.main.body.getD i (.Pass ⟨0, 0, 0, 0⟩)
def txt : List Txt := tops.map fun i => ⟨defArgs (top i), defBody (top i), defScope (top i)⟩
theorem match_ok : (pg.fns.zip txt).all (fun p => mFn gi p.1 p.2) = true := by decide +kernel
abbrev R : PySem.W.OpenRow := PySem.W.OpenLaw.row PySem.Challenge.rw_twoforms_k89_whole_sums
abbrev hk : PySem.W.Hook := hookT 4 (faD pg gi) (fnD pg txt) (gi.cs.zip pg.cs)
def ob (s : PySem.W.SharedT) : AlT := obsTG 4 (faD pg gi) (fnD pg txt) (gi.cs.zip pg.cs) (HandSHeadRun.getT s)
theorem ob_eq (s : PySem.W.SharedT) : ob s = hk.obs s.abs := obsTG_eq (HandSHeadRun.getT_eq s)
theorem run (w : World) : HandSHeadRun.RunEq R (PySem.W.view R.prog [lawAt]) hk ob 4000 loose w := by
  intro os
  kernel_rfl
end K89
end

section
set_option Elab.async false
set_option linter.all false
set_option maxRecDepth 100000
set_option maxHeartbeats 0
open PySem PySem.W PySem.Calls PyProof.Rows
theorem PySem.Challenge.cw_twoforms_k89_whole_sums_holds : PySem.Challenge.rw_twoforms_k89_whole_sums.Holds := by
  w_on; o_law
  refine HandSHeadRun.head_any (r := OpenLaw.row PySem.Challenge.rw_twoforms_k89_whole_sums) (q := view (OpenLaw.row PySem.Challenge.rw_twoforms_k89_whole_sums).prog [K89.lawAt]) (H := K89.hk) (ob := K89.ob) (M := 4000) (loose := K89.loose) (d := HandSHeadRun.topDef (OpenLaw.row PySem.Challenge.rw_twoforms_k89_whole_sums).prog K89.lawAt) (kwd := []) K89.ob_eq
    (by kernel_rfl) (fun s => by kernel_rfl) K89.run (by kernel_rfl) (by kernel_rfl) (by kernel_rfl) (by rfl) (by first | assumption | decide +kernel) (by decide +kernel) ⟨rfl, rfl, rfl, rfl, rfl, by decide +kernel⟩ ?hw ?hc
  case hw => w_witness2
  case hc =>
    refine L2.walk_ofE (l := PySem.Challenge.rw_twoforms_k89_whole_sums) (n := 63) (k := 60) (x := "script") (CX := L2.CX0) rfl (by decide) (by kernel_rfl) ⟨rfl, by decide, by decide⟩ ?F (fun _ _ _ _ z => z)
    intro w mg fa h Y G hmg0
    obtain ⟨K, KX, c⟩ := Y
    have hmg : mg ("law" : PySem.Str) = some (.ref fa) := by
      have e : (HandSHeadRun.topDef (OpenLaw.row PySem.Challenge.rw_twoforms_k89_whole_sums).prog K89.lawAt).name = ("law" : PySem.Str) := by kernel_rfl
      rw [← e]
      exact hmg0
    have T := Tw.tab_of (P := K89.pg) (G := K89.gi) (txt := K89.txt) KX G c (by decide +kernel) (by decide +kernel) K89.match_ok (by decide +kernel)
    obtain ⟨fd, sp, hb, hsp, hF⟩ := Tw.law_end (prog := (PySem.Challenge.rw_twoforms_k89_whole_sums).prog) (w := w) (n := 63) (k := 60) (i := K89.f_law) (fn := K89.c_law) (t := K89.txt.getD K89.f_law ⟨L2.defArgs (.Pass ⟨0, 0, 0, 0⟩), [], L2.defScope (.Pass ⟨0, 0, 0, 0⟩)⟩) (x := "script") T (by rfl) (by rfl) hmg (by rfl) K89.law_true
    exact ⟨K, fd, sp, KX, hb, hsp, fun base _ _ => hF base⟩
end
