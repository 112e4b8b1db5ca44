import PyProof.Rows.All
import Wide.All
import OpenK.AllK
import Wide.FinOn
import KE.KStateDown
import HandS.Words
import HandS.WordsExc
import HandS.Defaults
import HandS.Head0
import HandS.Head1
import HandS.Head2
import HandS.HeadEnd
import HandS.ForMost
import HandS.ForExc
import HandS.CallSlots
import HandS.ExcOwn
import HandS.ExcIs
import HandS.ExcValue
import HandS.Style
import HandS.Flow
import HandS.TupAny
import HandS.TupMul
import HandS.Deep
import HandS.StrMore
import HandS.Conv
import HandS.IsInst
import HandS.Zip
import HandS.RaiseMore
import PyProof.ListStr
import KE.SortData
import KE.KDictKeyed
import KE.KeyNested
import HandS.HeadWalk
import HandS.HeadHook4
import HandS.Codes
import HandS.Head3
import PyProof.Rows.KernelRfl
import PySem.Challenge.RW_linebreakers_k15_whole_forms
set_option Elab.async false
section
set_option autoImplicit false
/-! EvA: the plain machine: data, heaps, the code as a small tree, its runs. No model of Python is in sight here. -/
namespace Ev
abbrev Tx := List Nat
def LIM : Nat := 16777216

/-! ### data -/
inductive D where
  | non | bl (b : Bool) | int (i : Int) | str (s : Tx) | tup (xs : List D) | ref (a : Nat)
  deriving Inhabited
namespace D
mutual
def beq : D → D → Bool
  | .non, .non => true
  | .bl a, .bl b => decide (a = b)
  | .int a, .int b => decide (a = b)
  | .str a, .str b => decide (a = b)
  | .tup a, .tup b => beqs a b
  | .ref a, .ref b => decide (a = b)
  | _, _ => false
def beqs : List D → List D → Bool
  | [], [] => true
  | a :: as, b :: bs => beq a b && beqs as bs
  | _, _ => false
end
mutual
theorem beq_self : ∀ a : D, beq a a = true
  | .non => rfl
  | .bl a => by simp [beq]
  | .int a => by simp [beq]
  | .str a => by simp [beq]
  | .tup a => by rw [beq]; exact beqs_self a
  | .ref a => by simp [beq]
theorem beqs_self : ∀ a : List D, beqs a a = true
  | [] => rfl
  | a :: as => by rw [beqs, beq_self a, beqs_self as]; rfl
end
mutual
theorem eq_of_beq : ∀ a b : D, beq a b = true → a = b
  | .non, b, h => by cases b <;> simp [beq] at h ⊢
  | .bl a, b, h => by cases b <;> simp [beq] at h ⊢; exact h
  | .int a, b, h => by cases b <;> simp [beq] at h ⊢; exact h
  | .str a, b, h => by cases b <;> simp [beq] at h ⊢; exact h
  | .tup a, b, h => by
    cases b with
    | tup b => rw [beq] at h; rw [eq_of_beqs a b h]
    | _ => simp [beq] at h
  | .ref a, b, h => by cases b <;> simp [beq] at h ⊢; exact h
theorem eq_of_beqs : ∀ a b : List D, beqs a b = true → a = b
  | [], [], _ => rfl
  | a :: as, b :: bs, h => by
    rw [beqs, Bool.and_eq_true] at h
    rw [eq_of_beq a b h.1, eq_of_beqs as bs h.2]
  | [], _ :: _, h => by simp [beqs] at h
  | _ :: _, [], h => by simp [beqs] at h
end
instance : DecidableEq D := fun a b => if h : beq a b = true then .isTrue (eq_of_beq a b h) else .isFalse fun e => h (e ▸ beq_self a)
end D

/-- what stands at an address -/
inductive Ob where
  | lst (xs : List D) | dic (kvs : List (D × D)) | ins (c : Nat) (fs : List (Nat × D)) | exn (c : Nat)
  deriving DecidableEq, Inhabited
abbrev Hs := List Ob
abbrev Env := List (Option D)

/-- how a run ends -/
inductive R (α : Type) where
  | ok (a : α) (h : Hs) | exc (c : Nat) (h : Hs) | bad
namespace R
def bind {α β : Type} (x : R α) (f : α → Hs → R β) : R β := match x with
  | .ok a h => f a h
  | .exc c h => .exc c h
  | .bad => .bad
@[simp] theorem bind_ok {α β : Type} (a : α) (h : Hs) (f : α → Hs → R β) : (R.ok a h).bind f = f a h := rfl
@[simp] theorem bind_exc {α β : Type} (c : Nat) (h : Hs) (f : α → Hs → R β) : (R.exc c h : R α).bind f = .exc c h := rfl
@[simp] theorem bind_bad {α β : Type} (f : α → Hs → R β) : (R.bad : R α).bind f = .bad := rfl
def opt {α : Type} (x : Option α) (h : Hs) : R α := match x with
  | some a => .ok a h
  | none => .bad
@[simp] theorem opt_some {α : Type} (a : α) (h : Hs) : opt (some a) h = .ok a h := rfl
@[simp] theorem opt_none {α : Type} (h : Hs) : opt (none : Option α) h = .bad := rfl
end R
inductive RS where
  | nx (env : Env) (h : Hs) | ret (d : D) (h : Hs) | brk (env : Env) (h : Hs) | exc (c : Nat) (env : Env) (h : Hs) | bad

/-! ### the code -/
inductive BOp where | add | sub | mul | fdiv | mod | pow
  deriving DecidableEq
inductive COp where | eq | ne | lt | le | gt | ge | inn | nin | is_ | isn
  deriving DecidableEq
inductive Ty where | int | bool | str | tuple | list | verr | cls (c : Nat)
  deriving DecidableEq
/-- built-in functions -/
inductive BF where | len | all | min1 | max1 | min2 | max2 | sum | sorted | listOf | tupOf | strOf | intOf | isin (t : Ty) | lenSet | sortSet
  deriving DecidableEq
/-- methods of built-in types -/
inductive BM where | append | count | index | get | setdefault | replace | split | join | strip | lstrip | rstrip
  deriving DecidableEq
mutual
inductive IE where
  | const (d : D) | glob (x : Nat) (d : D) | var (i : Nat)
  | bin (op : BOp) (a b : IE) | neg (a : IE) | not (a : IE) | and (a b : IE) | or (a b : IE)
  | cmp (op : COp) (a b : IE) | cmp2 (op op' : COp) (a b c : IE) | ite (c a b : IE)
  | tup (es : IEs) | lst (es : IEs) | dic0 | dic1 (k v : IE)
  | call (f : Nat) (es : IEs) | new (c : Nat) (es : IEs) | meth (o : IE) (m : Nat) (es : IEs)
  | bm (m : BM) (o : IE) (es : IEs) | bf (f : BF) (es : IEs) | fld (o : IE) (f : Nat)
  | idx (o i : IE) | slc (o lo hi : IE) | slcF (o lo : IE) | slcT (o hi : IE) | rev (o : IE)
  | comp (elt : IE) (tg : Tg) (it : It) (cnd : IE) (own : List Nat) | lrng (it : It)
inductive IEs where
  | nil | cons (e : IE) (es : IEs)
inductive It where
  | val (e : IE) | rng1 (a : IE) | rng2 (a b : IE) | rng3 (a b c : IE) | enum (e : IE) | zip (a b : IE)
inductive Tg where
  | nm (i : Nat) | tp (ts : Tgs) | fld (o : IE) (f : Nat) | sub (o i : IE)
inductive Tgs where
  | nil | cons (t : Tg) (ts : Tgs)
end
mutual
inductive IS where
  | asg (t : Tg) (e : IE) | aug (i : Nat) (op : BOp) (e : IE) | augF (o : IE) (f : Nat) (op : BOp) (e : IE)
  | expr (e : IE) | ret (e : IE) | ifS (c : IE) (a b : ISs) | forS (t : Tg) (it : It) (b : ISs) | whileS (c : IE) (b : ISs)
  | brk | pass | raise (c : Nat) | tryAs (b : ISs) (v e : Nat)
inductive ISs where
  | nil | cons (s : IS) (ss : ISs)
end

/-! ### equality of data, through the heap -/
inductive T where
  | non | num (i : Int) | str (s : Tx) | lst (xs : List T) | tup (xs : List T)
namespace T
mutual
def beq : T → T → Bool
  | .non, .non => true
  | .num a, .num b => decide (a = b)
  | .str a, .str b => decide (a = b)
  | .lst a, .lst b => beqs a b
  | .tup a, .tup b => beqs a b
  | _, _ => false
def beqs : List T → List T → Bool
  | [], [] => true
  | a :: as, b :: bs => beq a b && beqs as bs
  | _, _ => false
end
end T
def omap {α β : Type} (f : α → Option β) : List α → Option (List β)
  | [] => some []
  | x :: xs => match f x, omap f xs with
    | some y, some ys => some (y :: ys)
    | _, _ => none
/-- the data behind a value, to a depth -/
def reify (h : Hs) : Nat → D → Option T
  | 0, _ => none
  | n + 1, d => match d with
    | .non => some .non
    | .bl b => some (.num (if b then 1 else 0))
    | .int i => some (.num i)
    | .str s => if s.all (fun c => decide (c < 1114112)) then some (.str s) else none
    | .tup xs => (omap (reify h n) xs).map .tup
    | .ref a => match h[a]? with
      | some (.lst xs) => (omap (reify h n) xs).map .lst
      | _ => none
/-- == -/
def deq (h : Hs) : D → D → Option Bool
  | .str s, .str t => some (decide (s = t))
  | .int i, .int j => some (decide (i = j))
  | .non, .non => some true
  | .bl i, .bl j => some (decide (i = j))
  | .non, .str _ => some false
  | .str _, .non => some false
  | .non, .int _ => some false
  | .int _, .non => some false
  | .int _, .str _ => some false
  | .str _, .int _ => some false
  | a, b => match reify h 40 a, reify h 40 b with
    | some x, some y => some (T.beq x y)
    | _, _ => none
/-- without the heap -/
def flatD : D → Bool
  | .non => true
  | .bl _ => true
  | .int _ => true
  | .str _ => true
  | _ => false
def seq : D → D → Bool
  | .non, .non => true
  | .bl a, .bl b => a == b
  | .bl a, .int b => (if a then 1 else 0) == b
  | .int a, .bl b => a == (if b then 1 else 0)
  | .int a, .int b => a == b
  | .str a, .str b => decide (a = b)
  | _, _ => false
/-- x in a list: whether some item is equal -/
def dmem (h : Hs) (x : D) (ys : List D) : Option Bool :=
  if flatD x && ys.all flatD then some (ys.any fun y => seq y x) else match reify h 40 x, omap (reify h 40) ys with
    | some t, some ts => some (ts.any fun z => T.beq z t)
    | _, _ => none
/-- how many items are equal -/
def dcount (x : D) (ys : List D) : Option Nat :=
  if flatD x && ys.all flatD then some (ys.filter fun y => seq y x).length else none
/-- the place of the first equal item -/
def firstIx (p : D → Bool) : List D → Option Nat
  | [] => none
  | y :: ys => if p y then some 0 else (firstIx p ys).map (· + 1)
def dindex (x : D) (ys : List D) : Option Nat :=
  if flatD x && ys.all flatD then firstIx (fun y => seq y x) ys else none

/-! ### dicts -/
/-- what may be a key: texts, and tuples of ints, texts, None and such tuples -/
def keyIn : Nat → D → Bool
  | 0, _ => false
  | n + 1, d => match d with
    | .non => true
    | .int _ => true
    | .str _ => true
    | .tup xs => xs.all (keyIn n)
    | _ => false
def isTup : D → Bool
  | .tup _ => true
  | _ => false
def isStr : D → Bool
  | .str _ => true
  | _ => false
def keyOk (k : D) : Bool := keyIn 8 k && (isTup k || isStr k)
def dget (k : D) : List (D × D) → Option D
  | [] => none
  | (k', v) :: r => if k' = k then some v else dget k r
def dput (k v : D) : List (D × D) → List (D × D)
  | [] => [(k, v)]
  | (k', v') :: r => if k' = k then (k', v) :: r else (k', v') :: dput k v r
/-- all keys of one kind with k -/
def kinOk (k : D) (kvs : List (D × D)) : Bool := keyOk k && kvs.all fun p => isTup p.1 == isTup k

/-! ### texts -/
def hasSub (s : Tx) : Tx → Bool
  | [] => s.isEmpty
  | c :: t => s.isPrefixOf (c :: t) || hasSub s t
def subIn (s t : Tx) : Bool := match s with
  | [c] => decide (c ∈ t)
  | _ => hasSub s t
def splitC (c : Nat) : Tx → List Tx
  | [] => [[]]
  | x :: r => if x = c then [] :: splitC c r else match splitC c r with
    | p :: ps => (x :: p) :: ps
    | [] => [[x]]
def joinT (sep : Tx) : List Tx → Tx
  | [] => []
  | [p] => p
  | p :: q :: r => p ++ (sep ++ joinT sep (q :: r))
def strsOf : List D → Option (List Tx)
  | [] => some []
  | .str s :: r => (strsOf r).map (s :: ·)
  | _ :: _ => none
def intsOf : List D → Option (List Int)
  | [] => some []
  | .int s :: r => (intsOf r).map (s :: ·)
  | _ :: _ => none
def bolsOf : List D → Option (List Bool)
  | [] => some []
  | .bl s :: r => (bolsOf r).map (s :: ·)
  | _ :: _ => none
def dropC (cs : Tx) : Tx → Tx
  | [] => []
  | x :: r => if x ∈ cs then dropC cs r else x :: r
def dropR (cs t : Tx) : Tx := (dropC cs t.reverse).reverse
/-- a sign that repr writes as it is -/
def plainSign (c : Nat) : Bool := c == 32 || c == 45 || c == 47 || (65 ≤ c && c ≤ 90) || (97 ≤ c && c ≤ 122)
/-- str(x), repr(x) of what the program shows -/
def reprT (h : Hs) : Nat → D → Option Tx
  | 0, _ => none
  | n + 1, d => match d with
    | .int i => if 0 ≤ i ∧ i ≤ 9 then some [48 + i.toNat] else none
    | .str s => if s.all plainSign then some (39 :: (s ++ [39])) else none
    | .ref a => match h[a]? with
      | some (.lst xs) => (omap (reprT h n) xs).map fun ps => 91 :: (joinT [44, 32] ps ++ [93])
      | _ => none
    | _ => none
def strT (h : Hs) : D → Option Tx
  | .str s => some s
  | .int i => if 0 ≤ i ∧ i ≤ 9 then some [48 + i.toNat] else none
  | .ref a => reprT h 8 (.ref a)
  | _ => none

/-! ### places -/
def ixN (n : Nat) (i : Int) : Option Nat := if 0 ≤ i then (if i < n then some i.toNat else none) else if -(n : Int) ≤ i then some (i + n).toNat else none
def sIx (n d : Nat) : Option Int → Nat
  | none => d
  | some v => if v < 0 then (v + n).toNat else min v.toNat n
def cut {α : Type} (xs : List α) (lo hi : Option Int) : List α := (xs.drop (sIx xs.length 0 lo)).take (sIx xs.length xs.length hi - sIx xs.length 0 lo)

/-! ### operators -/
def smallR (i : Int) : Bool := decide (-(2 ^ 62) ≤ i) && decide (i < 2 ^ 62)
def smallI (i : Int) : Bool := decide (-(2 ^ 64) < i) && decide (i < 2 ^ 64)
def bop (op : BOp) (x y : D) (h : Hs) : R D := match op with
  | .add => match x, y with
    | .int a, .int b => .ok (.int (a + b)) h
    | .str a, .str b => if a.length + b.length ≤ LIM then .ok (.str (a ++ b)) h else .bad
    | .tup a, .tup b => if a.isEmpty = false ∧ a.length + b.length ≤ LIM then .ok (.tup (a ++ b)) h else .bad
    | .ref a, .ref b => match h[a]?, h[b]? with
      | some (.lst xs), some (.lst ys) => if xs.length + ys.length ≤ LIM then .ok (.ref h.length) (h ++ [.lst (xs ++ ys)]) else .bad
      | _, _ => .bad
    | _, _ => .bad
  | .sub => match x, y with
    | .int a, .int b => .ok (.int (a - b)) h
    | _, _ => .bad
  | .mul => match x, y with
    | .int a, .int b => if smallI a || smallI b then .ok (.int (a * b)) h else .bad
    | .str a, .int n => if a.length * n.toNat ≤ LIM ∧ smallR n then .ok (.str (List.replicate n.toNat a).flatten) h else .bad
    | .tup a, .int n => if a.isEmpty = false ∧ 1 ≤ n ∧ n ≤ 1000 ∧ a.length ≤ 1000 then .ok (.tup (List.replicate n.toNat a).flatten) h else .bad
    | .ref a, .int n => match h[a]? with
      | some (.lst xs) => if xs.length * n.toNat ≤ LIM ∧ smallR n then .ok (.ref h.length) (h ++ [.lst (List.replicate n.toNat xs).flatten]) else .bad
      | _ => .bad
    | _, _ => .bad
  | .fdiv => match x, y with
    | .int a, .int b => if 0 < b ∧ b < 1073741824 then .ok (.int (a / b)) h else .bad
    | _, _ => .bad
  | .mod => match x, y with
    | .int a, .int b => if 0 < b then .ok (.int (a % b)) h else .bad
    | _, _ => .bad
  | .pow => match x, y with
    | .int a, .int b => if smallI a ∧ 0 ≤ b ∧ b ≤ 1000 then .ok (.int (a ^ b.toNat)) h else .bad
    | _, _ => .bad
/-- x += y -/
def aop (op : BOp) (x y : D) (h : Hs) : R D := match op, x, y with
  | .add, .int a, .int b => .ok (.int (a + b)) h
  | .add, .str a, .str b => if a.length + b.length ≤ LIM then .ok (.str (a ++ b)) h else .bad
  | .add, .ref a, .ref b => match h[a]?, h[b]? with
    | some (.lst xs), some (.lst ys) => if xs.length + ys.length ≤ LIM then .ok (.ref a) (h.set a (.lst (xs ++ ys))) else .bad
    | _, _ => .bad
  | _, _, _ => .bad
def cop (op : COp) (x y : D) (h : Hs) : Option Bool := match op with
  | .eq => deq h x y
  | .ne => (deq h x y).map not
  | .lt => match x, y with
    | .int a, .int b => some (decide (a < b))
    | _, _ => none
  | .le => match x, y with
    | .int a, .int b => some (decide (a ≤ b))
    | _, _ => none
  | .gt => match x, y with
    | .int a, .int b => some (decide (b < a))
    | _, _ => none
  | .ge => match x, y with
    | .int a, .int b => some (decide (b ≤ a))
    | _, _ => none
  | .inn => match y with
    | .str t => match x with
      | .str s => if s.isEmpty then none else some (subIn s t)
      | _ => none
    | .tup ys => dmem h x ys
    | .ref a => match h[a]? with
      | some (.lst ys) => dmem h x ys
      | some (.dic kvs) => if kinOk x kvs then some (dget x kvs).isSome else none
      | _ => none
    | _ => none
  | .nin => match y with
    | .str t => match x with
      | .str s => if s.isEmpty then none else some (!subIn s t)
      | _ => none
    | .tup ys => (dmem h x ys).map not
    | .ref a => match h[a]? with
      | some (.lst ys) => (dmem h x ys).map not
      | some (.dic kvs) => if kinOk x kvs then some (!(dget x kvs).isSome) else none
      | _ => none
    | _ => none
  | .is_ => match y with
    | .non => some (decide (x = .non))
    | .bl b => match x with
      | .bl a => some (decide (a = b))
      | _ => none
    | _ => none
  | .isn => match y with
    | .non => some (!decide (x = .non))
    | .bl b => match x with
      | .bl a => some (!decide (a = b))
      | _ => none
    | _ => none

def copR (op : COp) (x y : D) (h : Hs) : R D := match cop op x y h with
  | some k => .ok (.bl k) h
  | none => .bad

/-! ### subscripts -/
def getIx (x i : D) (h : Hs) : Option D := match x, i with
  | .tup xs, .int k => (ixN xs.length k).bind fun j => xs[j]?
  | .str s, .int k => if s.length ≤ LIM then ((ixN s.length k).bind fun j => s[j]?).map fun c => .str [c] else none
  | .ref a, i => match h[a]? with
    | some (.lst xs) => match i with
      | .int k => (ixN xs.length k).bind fun j => xs[j]?
      | _ => none
    | some (.dic kvs) => if kinOk i kvs then dget i kvs else none
    | _ => none
  | _, _ => none
def getSl (x : D) (l u : Option Int) (h : Hs) : R D := match x with
  | .str s => if s.length ≤ LIM then .ok (.str (cut s l u)) h else .bad
  | .tup xs => .ok (.tup (cut xs l u)) h
  | .ref a => match h[a]? with
    | some (.lst xs) => .ok (.ref h.length) (h ++ [.lst (cut xs l u)])
    | _ => .bad
  | _ => .bad
def setIx (o i v : D) (h : Hs) : R Unit := match o with
  | .ref a => match h[a]? with
    | some (.lst xs) => match i with
      | .int k => match ixN xs.length k with
        | some j => .ok () (h.set a (.lst (xs.set j v)))
        | none => .bad
      | _ => .bad
    | some (.dic kvs) => if kinOk i kvs ∧ kvs.length < LIM then .ok () (h.set a (.dic (dput i v kvs))) else .bad
    | _ => .bad
  | _ => .bad
def fget (f : Nat) : List (Nat × D) → Option D
  | [] => none
  | (g, v) :: r => if g = f then some v else fget f r
def fput (f : Nat) (v : D) : List (Nat × D) → List (Nat × D)
  | [] => [(f, v)]
  | (g, w) :: r => if g = f then (g, v) :: r else (g, w) :: fput f v r
def getFld (o : D) (f : Nat) (h : Hs) : Option D := match o with
  | .ref a => match h[a]? with
    | some (.ins _ fs) => fget f fs
    | _ => none
  | _ => none
def setFld (o : D) (f : Nat) (v : D) (h : Hs) : R Unit := match o with
  | .ref a => match h[a]? with
    | some (.ins c fs) => if fs.length < 100 then .ok () (h.set a (.ins c (fput f v fs))) else .bad
    | _ => .bad
  | _ => .bad

/-! ### built-in functions and methods -/
def seqOf (x : D) (h : Hs) : Option (List D) := match x with
  | .tup xs => some xs
  | .ref a => match h[a]? with
    | some (.lst xs) => some xs
    | _ => none
  | _ => none
/-- of lists alone -/
def lstOf (x : D) (h : Hs) : Option (List D) := match x with
  | .ref a => match h[a]? with
    | some (.lst xs) => some xs
    | _ => none
  | _ => none
def minL : Int → List Int → Int
  | a, [] => a
  | a, b :: r => minL (if b < a then b else a) r
def maxL : Int → List Int → Int
  | a, [] => a
  | a, b :: r => maxL (if b > a then b else a) r
def lexLe : Tx → Tx → Bool
  | [], _ => true
  | _ :: _, [] => false
  | a :: as, b :: bs => if a = b then lexLe as bs else decide (a < b)
def lexLeI : List Int → List Int → Bool
  | [], _ => true
  | _ :: _, [] => false
  | a :: as, b :: bs => if a = b then lexLeI as bs else decide (a < b)
/-- lists of ints, each at an address -/
def rowsOf (h : Hs) : List D → Option (List (Nat × List Int))
  | [] => some []
  | .ref a :: r => match h[a]? with
    | some (.lst xs) => match intsOf xs, rowsOf h r with
      | some ns, some q => some ((a, ns) :: q)
      | _, _ => none
    | _ => none
  | _ :: _ => none
def sortD (h : Hs) (xs : List D) : Option (List D) := match intsOf xs with
  | some ns => some ((ns.mergeSort fun a b => decide (a ≤ b)).map .int)
  | none => match strsOf xs with
    | some ss => some ((ss.mergeSort lexLe).map .str)
    | none => match rowsOf h xs with
      | some rs => some ((rs.mergeSort fun a b => lexLeI a.2 b.2).map fun p => .ref p.1)
      | none => none
/-- the unlike ones among texts or ints -/
def uniq : List D → List D
  | [] => []
  | x :: xs => if x ∈ xs then uniq xs else x :: uniq xs
def flatInts (xs : List D) : Bool := (intsOf xs).isSome
def flatStrs (xs : List D) : Bool := (strsOf xs).isSome
def isTy (t : Ty) (x : D) (h : Hs) : Option Bool := match x with
  | .ref a => match h[a]? with
    | some (.lst _) => match t with
      | .cls _ => none
      | .verr => none
      | t => some (t == .list)
    | some (.exn c) => match t with
      | .cls d => some (d == 0 || c == d)
      | .verr => some true
      | _ => none
    | _ => none
  | x => match t with
    | .cls _ => none
    | .verr => none
    | .int => match x with
      | .int _ => some true
      | .bl _ => some true
      | _ => some false
    | .bool => match x with
      | .bl _ => some true
      | _ => some false
    | .str => match x with
      | .str _ => some true
      | _ => some false
    | .tuple => match x with
      | .tup _ => some true
      | _ => some false
    | .list => some false
def listNew (xs : List D) (h : Hs) : R D := .ok (.ref h.length) (h ++ [.lst xs])
def bfun (f : BF) (args : List D) (h : Hs) : R D := match f, args with
  | .len, [x] => match x with
    | .str s => if s.length ≤ LIM then .ok (.int s.length) h else .bad
    | .tup xs => .ok (.int xs.length) h
    | .ref a => match h[a]? with
      | some (.lst xs) => .ok (.int xs.length) h
      | _ => .bad
    | _ => .bad
  | .all, [x] => match (lstOf x h).bind bolsOf with
    | some bs => .ok (.bl (bs.all id)) h
    | none => .bad
  | .min1, [x] => match (lstOf x h).bind intsOf with
    | some (a :: r) => .ok (.int (minL a r)) h
    | _ => .bad
  | .max1, [x] => match (lstOf x h).bind intsOf with
    | some (a :: r) => .ok (.int (maxL a r)) h
    | _ => .bad
  | .min2, [x, y] => match x, y with
    | .int a, .int b => .ok (.int (if b < a then b else a)) h
    | _, _ => .bad
  | .max2, [x, y] => match x, y with
    | .int a, .int b => .ok (.int (if b > a then b else a)) h
    | _, _ => .bad
  | .sum, [x] => match (lstOf x h).bind intsOf with
    | some ns => .ok (.int ns.sum) h
    | none => .bad
  | .sorted, [x] => match (seqOf x h).bind (sortD h) with
    | some ys => listNew ys h
    | none => .bad
  | .listOf, [x] => match x with
    | .str s => if s.length ≤ LIM then listNew (s.map fun c => .str [c]) h else .bad
    | _ => match seqOf x h with
      | some xs => listNew xs h
      | none => .bad
  | .tupOf, [x] => match seqOf x h with
    | some xs => .ok (.tup xs) h
    | none => .bad
  | .strOf, [x] => match x with
    | .ref _ => .bad
    | x => match strT h x with
      | some s => .ok (.str s) h
      | none => .bad
  | .intOf, [x] => match x with
    | .str [c] => if 48 ≤ c ∧ c ≤ 57 then .ok (.int (c - 48 : Nat)) h else .bad
    | _ => .bad
  | .isin t, [x] => match isTy t x h with
    | some b => .ok (.bl b) h
    | none => .bad
  | .lenSet, [x] => match seqOf x h with
    | some xs => if flatInts xs || flatStrs xs then .ok (.int (uniq xs).length) h else .bad
    | none => .bad
  | .sortSet, [x] => match (seqOf x h).bind strsOf with
    | some ss => match sortD h (uniq (ss.map .str)) with
      | some ys => listNew ys h
      | none => .bad
    | none => .bad
  | _, _ => .bad
def bmeth (m : BM) (o : D) (args : List D) (h : Hs) : R D := match m, args with
  | .append, [x] => match o with
    | .ref a => match h[a]? with
      | some (.lst xs) => if xs.length < LIM then .ok .non (h.set a (.lst (xs ++ [x]))) else .bad
      | _ => .bad
    | _ => .bad
  | .count, [x] => match o with
    | .str s => match x with
      | .str [c] => .ok (.int (s.count c)) h
      | _ => .bad
    | _ => match (seqOf o h).bind (dcount x) with
      | some n => .ok (.int n) h
      | none => .bad
  | .index, [x] => match (seqOf o h).bind (dindex x) with
    | some n => .ok (.int n) h
    | none => .bad
  | .get, [k, d] => match o with
    | .ref a => match h[a]? with
      | some (.dic kvs) => if kinOk k kvs then .ok ((dget k kvs).getD d) h else .bad
      | _ => .bad
    | _ => .bad
  | .setdefault, [k, d] => match o with
    | .ref a => match h[a]? with
      | some (.dic kvs) => if kinOk k kvs ∧ kvs.length < LIM then match dget k kvs with
          | some v => .ok v h
          | none => .ok d (h.set a (.dic (dput k d kvs)))
        else .bad
      | _ => .bad
    | _ => .bad
  | .replace, [.str [a], .str b] => match o with
    | .str s => if s.length ≤ 1000 ∧ b.length ≤ 1 then .ok (.str (s.flatMap fun c => if c = a then b else [c])) h else .bad
    | _ => .bad
  | .split, [.str [c]] => match o with
    | .str s => if s.length + 2 ≤ LIM ∧ c < 256 then listNew ((splitC c s).map .str) h else .bad
    | _ => .bad
  | .join, [x] => match o with
    | .str s => match (seqOf x h).bind strsOf with
      | some ps => if (ps.map List.length).sum + ps.length * s.length ≤ LIM then .ok (.str (joinT s ps)) h else .bad
      | none => .bad
    | _ => .bad
  | .strip, [.str cs] => match o with
    | .str s => if s.length ≤ LIM then .ok (.str (dropR cs (dropC cs s))) h else .bad
    | _ => .bad
  | .lstrip, [.str cs] => match o with
    | .str s => if s.length ≤ LIM then .ok (.str (dropC cs s)) h else .bad
    | _ => .bad
  | .rstrip, [.str cs] => match o with
    | .str s => if s.length ≤ LIM then .ok (.str (dropR cs s)) h else .bad
    | _ => .bad
  | _, _ => .bad

/-- whether the receiver is of a type with the method -/
def bmTy (m : BM) (o : D) (h : Hs) : Bool := match m with
  | .append => match o with
    | .ref a => match h[a]? with
      | some (.lst _) => true
      | _ => false
    | _ => false
  | .index => match o with
    | .ref a => match h[a]? with
      | some (.lst _) => true
      | _ => false
    | _ => false
  | .count => match o with
    | .str _ => true
    | .ref a => match h[a]? with
      | some (.lst _) => true
      | _ => false
    | _ => false
  | .get => match o with
    | .ref a => match h[a]? with
      | some (.dic _) => true
      | _ => false
    | _ => false
  | .setdefault => match o with
    | .ref a => match h[a]? with
      | some (.dic _) => true
      | _ => false
    | _ => false
  | _ => match o with
    | .str _ => true
    | _ => false

/-! ### walks -/
abbrev Watch := List (Nat × Ob)
def chk (w : Watch) (h : Hs) : Bool := w.all fun p => decide (h[p.1]? = some p.2)
def rangeL (i j : Int) : List D := (List.range (j - i).toNat).map fun (k : Nat) => D.int (i + (k : Int))
def range3L (i j c : Int) : List D := (List.range ((j - i + (c - 1)) / c).toNat).map fun (k : Nat) => D.int (i + (k : Int) * c)
def enumL : Nat → List D → List D
  | _, [] => []
  | n, x :: xs => .tup [.int n, x] :: enumL (n + 1) xs
def zipL : List D → List D → List D
  | x :: xs, y :: ys => .tup [x, y] :: zipL xs ys
  | _, _ => []
def valItems (x : D) (h : Hs) : Option (List D × Watch) := match x with
  | .tup xs => some (xs, [])
  | .str s => some (s.map fun c => .str [c], [])
  | .ref a => match h[a]? with
    | some (.lst xs) => some (xs, [(a, .lst xs)])
    | _ => none
  | _ => none
def enumItems (x : D) (h : Hs) : Option (List D × Watch) := match x with
  | .ref a => match h[a]? with
    | some (.lst xs) => some (enumL 0 xs, [(a, .lst xs)])
    | _ => none
  | _ => none
def zipItems (x y : D) (h : Hs) : Option (List D × Watch) := match x, y with
  | .ref a, .ref b => match h[a]?, h[b]? with
    | some (.lst xs), some (.lst ys) => some (zipL xs ys, [(a, .lst xs), (b, .lst ys)])
    | _, _ => none
  | _, _ => none
def compGo (f : D → Hs → R (Option D)) (dst : Nat) (w : Watch) : List D → Hs → R Unit
  | [], h => if chk w h then .ok () h else .bad
  | x :: xs, h => if chk w h then match f x h with
      | .ok none h => compGo f dst w xs h
      | .ok (some y) h => match h[dst]? with
        | some (.lst acc) => if acc.length < LIM then compGo f dst w xs (h.set dst (.lst (acc ++ [y]))) else .bad
        | _ => .bad
      | _ => .bad
    else .bad
def forGo (f : D → Env → Hs → RS) (w : Watch) : List D → Env → Hs → RS
  | [], env, h => if chk w h then .nx env h else .bad
  | x :: xs, env, h => if chk w h then match f x env h with
      | .nx env h => forGo f w xs env h
      | .brk env h => .nx env h
      | .ret d h => .ret d h
      | .exc c env h => .exc c env h
      | .bad => .bad
    else .bad
def whileGo (c : Env → Hs → R D) (f : Env → Hs → RS) : Nat → Env → Hs → RS
  | 0, _, _ => .bad
  | n + 1, env, h => match c env h with
    | .ok (.bl true) h => match f env h with
      | .nx env h => whileGo c f n env h
      | .brk env h => .nx env h
      | .ret d h => .ret d h
      | .exc c env h => .exc c env h
      | .bad => .bad
    | .ok (.bl false) h => .nx env h
    | .exc c h => .exc c env h
    | _ => .bad
def wipe (env : Env) : List Nat → Env
  | [] => env
  | v :: vs => (wipe env vs).set v none

/-! ### the runs -/
structure Cx where
  call : Nat → List D → Hs → R D
  make : Nat → List D → Hs → R D
  init : Nat → Option Nat
  meth : Nat → Nat → Option Nat
  fuel : Nat
def methOf (c : Cx) (o : D) (m : Nat) (h : Hs) : Option Nat := match o with
  | .ref a => match h[a]? with
    | some (.ins cl _) => c.meth cl m
    | _ => none
  | _ => none
def runNew (c : Cx) (cl : Nat) (args : List D) (h : Hs) : R D := match c.init cl with
  | some f => match c.make f (.ref h.length :: args) (h ++ [.ins cl []]) with
    | .ok .non h' => .ok (.ref h.length) h'
    | .exc k h' => .exc k h'
    | _ => .bad
  | none => if args.isEmpty then .ok (.ref h.length) (h ++ [.ins cl []]) else .bad
mutual
def evE (c : Cx) : IE → Env → Hs → R D
  | .const d, _, h => .ok d h
  | .glob _ d, _, h => .ok d h
  | .var i, env, h => match env[i]? with
    | some (some d) => .ok d h
    | _ => .bad
  | .bin op a b, env, h => (evE c a env h).bind fun x h => (evE c b env h).bind fun y h => bop op x y h
  | .neg a, env, h => (evE c a env h).bind fun x h => match x with
    | .int i => .ok (.int (-i)) h
    | _ => .bad
  | .not a, env, h => (evE c a env h).bind fun x h => match x with
    | .bl b => .ok (.bl (!b)) h
    | _ => .bad
  | .and a b, env, h => (evE c a env h).bind fun x h => match x with
    | .bl true => (evE c b env h).bind fun y h => match y with
      | .bl k => .ok (.bl k) h
      | _ => .bad
    | .bl false => .ok (.bl false) h
    | _ => .bad
  | .or a b, env, h => (evE c a env h).bind fun x h => match x with
    | .bl true => .ok (.bl true) h
    | .bl false => (evE c b env h).bind fun y h => match y with
      | .bl k => .ok (.bl k) h
      | _ => .bad
    | _ => .bad
  | .cmp op a b, env, h => (evE c a env h).bind fun x h => (evE c b env h).bind fun y h => copR op x y h
  | .cmp2 op op' a b d, env, h => (evE c a env h).bind fun x h => (evE c b env h).bind fun y h => (copR op x y h).bind fun k h => match k with
    | .bl true => (evE c d env h).bind fun z h => copR op' y z h
    | .bl false => .ok (.bl false) h
    | _ => .bad
  | .ite t a b, env, h => (evE c t env h).bind fun x h => match x with
    | .bl true => evE c a env h
    | .bl false => evE c b env h
    | _ => .bad
  | .tup es, env, h => (evEs c es env h).bind fun xs h => .ok (.tup xs) h
  | .lst es, env, h => (evEs c es env h).bind fun xs h => .ok (.ref h.length) (h ++ [.lst xs])
  | .dic0, _, h => .ok (.ref h.length) (h ++ [.dic []])
  | .dic1 k v, env, h => (evE c k env (h ++ [.dic []])).bind fun x h' => (evE c v env h').bind fun y h' => (setIx (.ref h.length) x y h').bind fun _ h' => .ok (.ref h.length) h'
  | .call f es, env, h => (evEs c es env h).bind fun xs h => c.call f xs h
  | .new cl es, env, h => (evEs c es env h).bind fun xs h => runNew c cl xs h
  | .meth o m es, env, h => (evE c o env h).bind fun x h => match methOf c x m h with
    | some f => (evEs c es env h).bind fun xs h => c.call f (x :: xs) h
    | none => .bad
  | .bm m o es, env, h => (evE c o env h).bind fun x h => if bmTy m x h then (evEs c es env h).bind fun xs h => bmeth m x xs h else .bad
  | .bf f es, env, h => (evEs c es env h).bind fun xs h => bfun f xs h
  | .fld o f, env, h => (evE c o env h).bind fun x h => R.opt (getFld x f h) h
  | .idx o i, env, h => (evE c o env h).bind fun x h => (evE c i env h).bind fun y h => R.opt (getIx x y h) h
  | .slc o lo hi, env, h => (evE c o env h).bind fun x h => (evE c lo env h).bind fun l h => match l with
    | .int i => (evE c hi env h).bind fun u h => match u with
      | .int j => getSl x (some i) (some j) h
      | _ => .bad
    | _ => .bad
  | .slcF o lo, env, h => (evE c o env h).bind fun x h => (evE c lo env h).bind fun l h => match l with
    | .int i => getSl x (some i) none h
    | _ => .bad
  | .slcT o hi, env, h => (evE c o env h).bind fun x h => (evE c hi env h).bind fun u h => match u with
    | .int j => getSl x none (some j) h
    | _ => .bad
  | .rev o, env, h => (evE c o env h).bind fun x h => match x with
    | .ref a => match h[a]? with
      | some (.lst xs) => .ok (.ref h.length) (h ++ [.lst xs.reverse])
      | _ => .bad
    | _ => .bad
  | .comp elt tg it cnd own, env, h => (evIt c it env h).bind fun p h =>
    match compGo (fun x h => (evTg c tg x (wipe env own) h).bind fun env' h => (evE c cnd env' h).bind fun b h => match b with
        | .bl true => (evE c elt env' h).bind fun y h => .ok (some y) h
        | .bl false => .ok none h
        | _ => .bad) h.length p.2 p.1 (h ++ [.lst []]) with
    | .ok _ h' => .ok (.ref h.length) h'
    | _ => .bad
  | .lrng it, env, h => (evIt c it env h).bind fun p h => if p.1.length ≤ LIM then listNew p.1 h else .bad
def evEs (c : Cx) : IEs → Env → Hs → R (List D)
  | .nil, _, h => .ok [] h
  | .cons e es, env, h => (evE c e env h).bind fun x h => (evEs c es env h).bind fun xs h => .ok (x :: xs) h
def evIt (c : Cx) : It → Env → Hs → R (List D × Watch)
  | .val e, env, h => (evE c e env h).bind fun x h => R.opt (valItems x h) h
  | .rng1 a, env, h => (evE c a env h).bind fun x h => match x with
    | .int j => if smallR j then .ok (rangeL 0 j, []) h else .bad
    | _ => .bad
  | .rng2 a b, env, h => (evE c a env h).bind fun x h => (evE c b env h).bind fun y h => match x, y with
    | .int i, .int j => if smallR i && smallR j then .ok (rangeL i j, []) h else .bad
    | _, _ => .bad
  | .rng3 a b d, env, h => (evE c a env h).bind fun x h => (evE c b env h).bind fun y h => (evE c d env h).bind fun z h => match x, y, z with
    | .int i, .int j, .int k => if 0 ≤ i ∧ i ≤ LIM ∧ 0 ≤ j ∧ j ≤ LIM ∧ 0 < k ∧ k ≤ LIM then .ok (range3L i j k, []) h else .bad
    | _, _, _ => .bad
  | .enum e, env, h => (evE c e env h).bind fun x h => R.opt (enumItems x h) h
  | .zip a b, env, h => (evE c a env h).bind fun x h => (evE c b env h).bind fun y h => R.opt (zipItems x y h) h
def evTg (c : Cx) : Tg → D → Env → Hs → R Env
  | .nm i, d, env, h => .ok (env.set i (some d)) h
  | .tp ts, d, env, h => match d with
    | .tup xs => evTgs c ts xs env h
    | _ => .bad
  | .fld o f, d, env, h => (evE c o env h).bind fun x h => (setFld x f d h).bind fun _ h => .ok env h
  | .sub o i, d, env, h => (evE c o env h).bind fun x h => (evE c i env h).bind fun y h => (setIx x y d h).bind fun _ h => .ok env h
def evTgs (c : Cx) : Tgs → List D → Env → Hs → R Env
  | .nil, xs, env, h => if xs.isEmpty then .ok env h else .bad
  | .cons t ts, xs, env, h => match xs with
    | x :: r => (evTg c t x env h).bind fun env h => evTgs c ts r env h
    | [] => .bad
end
def liftS (env : Env) (x : R D) (f : D → Hs → RS) : RS := match x with
  | .ok d h => f d h
  | .exc c h => .exc c env h
  | .bad => .bad
def liftE (x : R Env) (f : Env → Hs → RS) : RS := match x with
  | .ok d h => f d h
  | _ => .bad
def clsAt (x : D) (h : Hs) : Option Nat := match x with
  | .ref a => match h[a]? with
    | some (.ins k _) => some k
    | _ => none
  | _ => none
mutual
def exS (c : Cx) : IS → Env → Hs → RS
  | .asg t e, env, h => liftS env (evE c e env h) fun d h => liftE (evTg c t d env h) fun env h => .nx env h
  | .aug i op e, env, h => match env[i]? with
    | some (some x) => liftS env (evE c e env h) fun y h => liftS env (aop op x y h) fun z h => .nx (env.set i (some z)) h
    | _ => .bad
  | .augF o f op e, env, h => liftS env (evE c o env h) fun x h => match getFld x f h with
    | some v => liftS env (evE c e env h) fun y h' => liftS env (aop op v y h') fun z h' => if clsAt x h' = clsAt x h then match setFld x f z h' with
      | .ok _ h' => .nx env h'
      | _ => .bad
      else .bad
    | none => .bad
  | .expr e, env, h => liftS env (evE c e env h) fun _ h => .nx env h
  | .ret e, env, h => liftS env (evE c e env h) fun d h => .ret d h
  | .ifS t a b, env, h => liftS env (evE c t env h) fun x h => match x with
    | .bl true => exB c a env h
    | .bl false => exB c b env h
    | _ => .bad
  | .forS t it b, env, h => match evIt c it env h with
    | .ok p h => forGo (fun x env h => liftE (evTg c t x env h) fun env h => exB c b env h) p.2 p.1 env h
    | .exc k h => .exc k env h
    | .bad => .bad
  | .whileS t b, env, h => whileGo (evE c t) (exB c b) c.fuel env h
  | .brk, env, h => .brk env h
  | .pass, env, h => .nx env h
  | .raise k, env, h => .exc k env h
  | .tryAs b v e, env, h => match exB c b env h with
    | .exc k env h => if k ≤ 5 then .nx ((env.set v (some (.ref h.length))).set e none) (h ++ [.exn k]) else .bad
    | .nx env h => .nx env h
    | _ => .bad
def exB (c : Cx) : ISs → Env → Hs → RS
  | .nil, env, h => .nx env h
  | .cons s ss, env, h => match exS c s env h with
    | .nx env h => exB c ss env h
    | .brk env h => .brk env h
    | .ret d h => .ret d h
    | .exc k env h => .exc k env h
    | .bad => .bad
end
/-- a def: its number of parameters, of names, its body -/
structure Fn where
  np : Nat
  nl : Nat
  body : ISs
structure Pr where
  fn : Nat → Option Fn
  init : Nat → Option Nat
  meth : Nat → Nat → Option Nat
def finish (r : RS) : R D := match r with
  | .nx _ h => .ok .non h
  | .ret d h => .ok d h
  | .exc k _ h => .exc k h
  | .brk _ _ => .bad
  | .bad => .bad
/-- a call, at most n calls deep -/
def callN (P : Pr) (F : Nat) : Nat → Nat → List D → Hs → R D
  | 0, _, _, _ => .bad
  | 1, _, _, _ => .bad
  | n + 2, f, args, h => match P.fn f with
    | none => .bad
    | some d => if args.length = d.np then
        finish (exB ⟨callN P F (n + 1), callN P F n, P.init, P.meth, F⟩ d.body (args.map some ++ List.replicate (d.nl - d.np) none) h)
      else .bad
end Ev
end

section
set_option Elab.async false
set_option autoImplicit false
set_option linter.all false
set_option maxRecDepth 100000
set_option maxHeartbeats 1000000
/-! EvB: how the plain machine's data lie in the model's heap; readings in one form. -/
namespace Ev
open PySem L2

/-! ### what the program's text calls its things (closed) and where they stand (K, addresses) -/
structure Nm where
  fnN : Nat → Option Str
  clsN : Nat → Option Str
  exN : Nat → Option Str
  gloN : Nat → Option Str
  fldL : List Str
  metL : List Str
structure Lk where
  P : Program
  w : World
  K : PySem.W.Frag
  nm : Nm
  /-- where a class stands -/
  ca : Nat → Addr

def stx (s : Tx) : Str := ⟨s.toArray⟩
theorem stx_inj {s t : Tx} (h : stx s = stx t) : s = t := by
  have h1 : s.toArray = t.toArray := Str.mk.inj h
  have h2 := congrArg Array.toList h1
  simpa using h2
theorem stx_len (s : Tx) : (stx s).length = s.length := by simp [stx, Str.length]
theorem stx_app (s t : Tx) : stx s ++ stx t = stx (s ++ t) := by
  show Str.mk (s.toArray ++ t.toArray) = Str.mk (s ++ t).toArray
  simp
theorem stx_cps (s : Tx) : (stx s).cps.toList = s := by simp [stx]

mutual
inductive Rep (K : PySem.W.Frag) (m : List Addr) (H : Hp) : D → V → Prop
  | non : Rep K m H .non .non
  | bl (b : Bool) : Rep K m H (.bl b) (.bl b)
  | int (i : Int) : Rep K m H (.int i) (.int i)
  | str (s : Tx) : Rep K m H (.str s) (.str (stx s))
  | ref {i : Nat} {a : Addr} (h : m[i]? = some a) : Rep K m H (.ref i) (.ref a)
  | tup {ds : List D} {a : Addr} {vs : List V} (h : SqT K H a vs) (r : Reps K m H ds vs) : Rep K m H (.tup ds) (.ref a)
inductive Reps (K : PySem.W.Frag) (m : List Addr) (H : Hp) : List D → List V → Prop
  | nil : Reps K m H [] []
  | cons {d : D} {v : V} {ds : List D} {vs : List V} (r : Rep K m H d v) (rs : Reps K m H ds vs) : Reps K m H (d :: ds) (v :: vs)
end

/-- addresses are only added; tuples stay -/
structure Grow (K : PySem.W.Frag) (m : List Addr) (H : Hp) (m' : List Addr) (H' : Hp) : Prop where
  pre : ∀ (i : Nat) (a : Addr), m[i]? = some a → m'[i]? = some a
  tup : ∀ (a : Addr) (xs : List V), SqT K H a xs → SqT K H' a xs
section
variable {K : PySem.W.Frag} {m m' m'' : List Addr} {H H' H'' : Hp}
theorem Grow.refl : Grow K m H m H := ⟨fun _ _ h => h, fun _ _ h => h⟩
theorem Grow.trans (a : Grow K m H m' H') (b : Grow K m' H' m'' H'') : Grow K m H m'' H'' := ⟨fun i x h => b.pre i x (a.pre i x h), fun x xs h => b.tup x xs (a.tup x xs h)⟩
mutual
theorem Rep.grow (g : Grow K m H m' H') : ∀ {d : D} {v : V}, Rep K m H d v → Rep K m' H' d v
  | _, _, .non => .non
  | _, _, .bl b => .bl b
  | _, _, .int i => .int i
  | _, _, .str s => .str s
  | _, _, .ref h => .ref (g.pre _ _ h)
  | _, _, .tup h r => .tup (g.tup _ _ h) (Reps.grow g r)
theorem Reps.grow (g : Grow K m H m' H') : ∀ {ds : List D} {vs : List V}, Reps K m H ds vs → Reps K m' H' ds vs
  | _, _, .nil => .nil
  | _, _, .cons r rs => .cons (Rep.grow g r) (Reps.grow g rs)
end
theorem Reps.len {ds : List D} {vs : List V} : Reps K m H ds vs → ds.length = vs.length := by
  induction ds generalizing vs with
  | nil => intro h; cases h; rfl
  | cons d ds ih => intro h; cases h with | cons r rs => simp [ih rs]
theorem Reps.get {ds : List D} {vs : List V} : Reps K m H ds vs → ∀ {i : Nat} {d : D}, ds[i]? = some d → ∃ v, vs[i]? = some v ∧ Rep K m H d v := by
  induction ds generalizing vs with
  | nil => intro _ i d h; simp at h
  | cons d ds ih =>
    intro h i d' hd
    cases h with
    | cons r rs =>
      cases i with
      | zero => simp at hd; subst hd; exact ⟨_, rfl, r⟩
      | succ i => simpa using ih rs (by simpa using hd)
theorem Reps.app {ds es : List D} {vs ws : List V} (h : Reps K m H ds vs) (h' : Reps K m H es ws) : Reps K m H (ds ++ es) (vs ++ ws) := by
  induction ds generalizing vs with
  | nil => cases h; exact h'
  | cons d ds ih => cases h with | cons r rs => exact .cons r (ih rs)
theorem Reps.set {ds : List D} {vs : List V} {d : D} {v : V} (h : Reps K m H ds vs) (r : Rep K m H d v) : ∀ j, Reps K m H (ds.set j d) (vs.set j v) := by
  induction ds generalizing vs with
  | nil => intro j; cases h; exact .nil
  | cons e ds ih =>
    intro j
    cases h with
    | cons q rs =>
      cases j with
      | zero => exact .cons r rs
      | succ j => exact .cons q (ih rs j)
theorem Reps.one {d : D} {v : V} (r : Rep K m H d v) : Reps K m H [d] [v] := .cons r .nil
theorem Reps.take {ds : List D} {vs : List V} (h : Reps K m H ds vs) : ∀ n, Reps K m H (ds.take n) (vs.take n) := by
  induction ds generalizing vs with
  | nil => intro n; cases h; simp; exact .nil
  | cons e ds ih =>
    intro n
    cases h with
    | cons q rs =>
      cases n with
      | zero => exact .nil
      | succ n => exact .cons q (ih rs n)
theorem Reps.drop {ds : List D} {vs : List V} (h : Reps K m H ds vs) : ∀ n, Reps K m H (ds.drop n) (vs.drop n) := by
  induction ds generalizing vs with
  | nil => intro n; cases h; simp; exact .nil
  | cons e ds ih =>
    intro n
    cases h with
    | cons q rs =>
      cases n with
      | zero => exact .cons q rs
      | succ n => exact ih rs n
theorem Reps.rev {ds : List D} {vs : List V} (h : Reps K m H ds vs) : Reps K m H ds.reverse vs.reverse := by
  induction ds generalizing vs with
  | nil => cases h; exact .nil
  | cons e ds ih => cases h with | cons q rs => simp; exact (ih rs).app (.one q)
theorem Reps.rep {ds : List D} {vs : List V} (h : Reps K m H ds vs) : ∀ k : Nat, Reps K m H (List.replicate k ds).flatten (List.replicate k vs).flatten
  | 0 => .nil
  | k + 1 => by simp only [List.replicate_succ, List.flatten_cons]; exact h.app (Reps.rep h k)
end

/-! ### objects -/
/-- the fields of an instance, by their names -/
inductive FldR (L : Lk) (m : List Addr) (H : Hp) : List (Nat × D) → List (Str × V) → Prop
  | nil : FldR L m H [] []
  | cons {i : Nat} {x : Str} {d : D} {v : V} {fs : List (Nat × D)} {gs : List (Str × V)} (n : L.nm.fldL[i]? = some x) (r : Rep L.K m H d v) (rs : FldR L m H fs gs) : FldR L m H ((i, d) :: fs) ((x, v) :: gs)

/-! a key as the library tells nested keys -/
mutual
def nkey : D → NestedKey
  | .non => .none
  | .int i => .num i
  | .str s => .text (stx s)
  | .tup xs => .tup (nkeys xs)
  | .bl _ => .none
  | .ref _ => .none
def nkeys : List D → List NestedKey
  | [] => []
  | x :: xs => nkey x :: nkeys xs
end

/-- an exception's object: of the class at C -/
def isExc (C a : Addr) (h : Heap) : Prop := ∃ o vs, h.get? a = some o ∧ o.cls = .ref C ∧ o.dict = none ∧ o.data = .fields vs
def excH (C a : Addr) : HO := .ext (isExc C a)

/-- the pairs of a dict with text keys -/
inductive TxtR (K : PySem.W.Frag) (m : List Addr) (H : Hp) : List (D × D) → List (Key × V) → Prop
  | nil : TxtR K m H [] []
  | cons {s : Tx} {d : D} {v : V} {kvs : List (D × D)} {ps : List (Key × V)} (r : Rep K m H d v) (rs : TxtR K m H kvs ps) : TxtR K m H ((.str s, d) :: kvs) ((.inr (stx s), v) :: ps)
/-- the entries of a dict with tuple keys: key, the key's tuple, value -/
inductive TupR (K : PySem.W.Frag) (m : List Addr) (H : Hp) : List (D × D) → List (NestedKey × Addr × Value) → Prop
  | nil : TupR K m H [] []
  | cons {k d : D} {a : Addr} {v : V} {u : Value} {kvs : List (D × D)} {ps : List (NestedKey × Addr × Value)} (ok : keyIn 8 k = true) (tk : isTup k = true) (rk : Rep K m H k (.ref a)) (r : Rep K m H d v) (ru : RelV v u) (rs : TupR K m H kvs ps) :
      TupR K m H ((k, d) :: kvs) ((nkey k, a, u) :: ps)
/-- the very object that stands at a -/
def objH (o : Obj) (a : Addr) : HO := .ext fun h => h.get? a = some o

def ObR (L : Lk) (m : List Addr) (H : Hp) (a : Addr) : Ob → Prop
  | .lst ds => ∃ xs, H a = some (.lst xs) ∧ Reps L.K m H ds xs
  | .ins c fs => ∃ dx gs, H a = some (.ins (L.ca c) dx gs) ∧ FldR L m H fs gs ∧ ∃ x, L.nm.clsN c = some x
  | .exn c => H a = some (excH (L.ca c) a) ∧ c ≤ 5
  | .dic kvs => (∃ ps, H a = some (.dK ps) ∧ TxtR L.K m H kvs ps) ∨
      ∃ o es ep ps, H a = some (objH o a) ∧ (a == sysModules) = false ∧ o.ExactDict ∧ o.data = .dict es ep ∧ TupR L.K m H kvs ps ∧
        es.toList = ps.map (entryOfKey (nestedKind L.P L.w)) ∧ (ps.map (·.1)).Nodup ∧ kvs.length ≤ sizeLine ∧ kvs ≠ []

section
variable {L : Lk} {m m' : List Addr} {H H' : Hp} {a p : Addr}
theorem FldR.grow (g : Grow L.K m H m' H') : ∀ {fs : List (Nat × D)} {gs : List (Str × V)}, FldR L m H fs gs → FldR L m' H' fs gs
  | _, _, .nil => .nil
  | _, _, .cons n r rs => .cons n (r.grow g) (FldR.grow g rs)
theorem TxtR.grow {K : PySem.W.Frag} (g : Grow K m H m' H') : ∀ {fs : List (D × D)} {gs : List (Key × V)}, TxtR K m H fs gs → TxtR K m' H' fs gs
  | _, _, .nil => .nil
  | _, _, .cons r rs => .cons (r.grow g) (TxtR.grow g rs)
theorem TupR.grow {K : PySem.W.Frag} (g : Grow K m H m' H') : ∀ {fs : List (D × D)} {gs : List (NestedKey × Addr × Value)}, TupR K m H fs gs → TupR K m' H' fs gs
  | _, _, .nil => .nil
  | _, _, .cons ok tk rk r ru rs => .cons ok tk (rk.grow g) (r.grow g) ru (TupR.grow g rs)
theorem ObR.stay (g : Grow L.K m H m' H') (e : H' a = H a) : ∀ {o : Ob}, ObR L m H a o → ObR L m' H' a o
  | .lst _, ⟨xs, h, r⟩ => ⟨xs, e.trans h, r.grow g⟩
  | .ins _ _, ⟨dx, gs, h, r, x⟩ => ⟨dx, gs, e.trans h, r.grow g, x⟩
  | .exn _, h => ⟨e.trans h.1, h.2⟩
  | .dic _, .inl ⟨ps, h, r⟩ => .inl ⟨ps, e.trans h, r.grow g⟩
  | .dic _, .inr ⟨o, es, ep, ps, h, x1, x2, x3, r, x4⟩ => .inr ⟨o, es, ep, ps, e.trans h, x1, x2, x3, r.grow g, x4⟩
theorem SqT.upd {K : PySem.W.Frag} {o : HO} (hp : ∀ u, H p = some u → Mut (some u)) {b : Addr} {xs : List V} (h : SqT K H b xs) : SqT K (upd H p o) b xs := by
  rcases h with (h | ⟨o', h⟩) | h
  · refine .inl (.inl ?_)
    rw [upd_ne]; exact h
    intro e; subst e; exact hp _ h
  · refine .inl (.inr ⟨o', ?_⟩)
    rw [upd_ne]; exact h
    intro e; subst e; exact hp _ h
  · exact .inr h
theorem Grow.upd {K : PySem.W.Frag} {o : HO} (hp : ∀ u, H p = some u → Mut (some u)) : Grow K m H m (upd H p o) := ⟨fun _ _ h => h, fun _ _ h => SqT.upd hp h⟩
theorem Grow.new {K : PySem.W.Frag} {o : HO} (hp : H p = none) : Grow K m H (m ++ [p]) (L2.upd H p o) :=
  ⟨fun i a h => by rw [List.getElem?_append_left (by exact (List.getElem?_eq_some_iff.mp h).1)]; exact h, fun _ _ h => SqT.upd (fun u e => by rw [hp] at e; cases e) h⟩
/-- a new object that is not the machine's (a tuple) -/
theorem Grow.side {K : PySem.W.Frag} {o : HO} (hp : H p = none) : Grow K m H m (L2.upd H p o) := Grow.upd fun u e => by rw [hp] at e; cases e

structure Sim (L : Lk) (m : List Addr) (H : Hp) (h : Hs) : Prop where
  len : m.length = h.length
  nd : m.Nodup
  ob : ∀ (i : Nat) (o : Ob) (a : Addr), h[i]? = some o → m[i]? = some a → ObR L m H a o
variable {h : Hs}
theorem ObR.tracked {o : Ob} (x : ObR L m H a o) : ∃ u, H a = some u ∧ Mut (some u) := by
  cases o with
  | lst _ => obtain ⟨xs, e, _⟩ := x; exact ⟨_, e, trivial⟩
  | ins _ _ => obtain ⟨dx, gs, e, _⟩ := x; exact ⟨_, e, trivial⟩
  | exn _ => exact ⟨_, x.1, trivial⟩
  | dic _ =>
    rcases x with ⟨ps, e, _⟩ | ⟨o, es, ep, ps, e, _⟩
    · exact ⟨_, e, trivial⟩
    · exact ⟨_, e, trivial⟩
theorem Sim.at (S : Sim L m H h) {i : Nat} {o : Ob} (e : h[i]? = some o) : ∃ a, m[i]? = some a ∧ ObR L m H a o := by
  have h1 : i < h.length := (List.getElem?_eq_some_iff.mp e).1
  have h2 : i < m.length := by rw [S.len]; exact h1
  exact ⟨m[i], List.getElem?_eq_getElem h2, S.ob i o _ e (List.getElem?_eq_getElem h2)⟩
theorem Sim.atR (S : Sim L m H h) {i : Nat} {o : Ob} {v : V} (r : Rep L.K m H (.ref i) v) (e : h[i]? = some o) : ∃ a, v = .ref a ∧ m[i]? = some a ∧ ObR L m H a o := by
  obtain ⟨a, e1, ob⟩ := S.at e
  cases r with
  | ref e2 => exact ⟨_, rfl, e2, by rw [e1] at e2; cases e2; exact ob⟩
theorem Sim.side (S : Sim L m H h) {o : HO} (hp : H p = none) : Sim L m (L2.upd H p o) h :=
  ⟨S.len, S.nd, fun i ob a e1 e2 => by
    have x := S.ob i ob a e1 e2
    obtain ⟨u, eu, _⟩ := x.tracked
    exact x.stay (Grow.side hp) (upd_ne (ne_of_none eu hp))⟩
theorem Sim.new (S : Sim L m H h) {o : HO} {ob : Ob} (hp : H p = none) (x : ObR L (m ++ [p]) (L2.upd H p o) p ob) : Sim L (m ++ [p]) (L2.upd H p o) (h ++ [ob]) where
  len := by simp [S.len]
  nd := by
    refine List.nodup_append.mpr ⟨S.nd, by simp, fun y hy z hz => ?_⟩
    simp at hz
    subst hz
    intro e; subst e
    obtain ⟨i, hi⟩ := List.getElem?_of_mem hy
    have h1 : i < h.length := by rw [← S.len]; exact (List.getElem?_eq_some_iff.mp hi).1
    obtain ⟨u, eu, _⟩ := (S.ob i _ _ (List.getElem?_eq_getElem h1) hi).tracked
    rw [hp] at eu; cases eu
  ob := fun i o' a e1 e2 => by
    by_cases hi : i < h.length
    · rw [List.getElem?_append_left hi] at e1
      rw [List.getElem?_append_left (by rw [S.len]; exact hi)] at e2
      have y := S.ob i o' a e1 e2
      obtain ⟨u, eu, _⟩ := y.tracked
      exact y.stay (Grow.new hp) (upd_ne (ne_of_none eu hp))
    · have hi' : i = h.length := by
        have := (List.getElem?_eq_some_iff.mp e1).1
        simp at this; omega
      subst hi'
      rw [List.getElem?_append_right (Nat.le_refl _)] at e1
      rw [List.getElem?_append_right (by rw [S.len]; exact Nat.le_refl _)] at e2
      simp at e1
      simp [S.len] at e2
      subst e1 e2
      exact x
theorem Sim.set (S : Sim L m H h) {i : Nat} {o : HO} {ob : Ob} (hi : m[i]? = some a) (hm : ∀ u, H a = some u → Mut (some u)) (x : ObR L m (L2.upd H a o) a ob) : Sim L m (L2.upd H a o) (h.set i ob) where
  len := by simp [S.len]
  nd := S.nd
  ob := fun j o' b e1 e2 => by
    by_cases hj : i = j
    · subst hj
      rw [hi] at e2; cases e2
      have hl : i < h.length := by rw [← S.len]; exact (List.getElem?_eq_some_iff.mp hi).1
      rw [List.getElem?_set_self hl] at e1
      cases e1
      exact x
    · rw [List.getElem?_set_ne hj] at e1
      refine (S.ob j o' b e1 e2).stay (Grow.upd hm) (upd_ne fun e => ?_)
      subst e
      obtain ⟨hl1, q1⟩ := List.getElem?_eq_some_iff.mp hi
      obtain ⟨hl2, q2⟩ := List.getElem?_eq_some_iff.mp e2
      exact hj ((List.getElem_inj S.nd).mp (q1.trans q2.symm))
theorem Sim.lenRef (S : Sim L m H h) : (m ++ [p])[h.length]? = some p := by
  rw [List.getElem?_append_right (by rw [S.len]; exact Nat.le_refl _)]
  simp [S.len]

/-- the names' values -/
structure EnvR (K : PySem.W.Frag) (m : List Addr) (H : Hp) (env : Env) (σ : St) : Prop where
  len : env.length = σ.length
  at_ : ∀ (i : Nat) (d : D), env[i]? = some (some d) → ∃ v, σ[i]? = some (some v) ∧ Rep K m H d v
theorem EnvR.grow {K : PySem.W.Frag} {env : Env} {σ : St} (g : Grow K m H m' H') (e : EnvR K m H env σ) : EnvR K m' H' env σ := ⟨e.len, fun i d h => let ⟨v, x, r⟩ := e.at_ i d h; ⟨v, x, r.grow g⟩⟩
theorem EnvR.set {K : PySem.W.Frag} {env : Env} {σ : St} (e : EnvR K m H env σ) {d : D} {v : V} (r : Rep K m H d v) (i : Nat) : EnvR K m H (env.set i (some d)) (σ.set i (some v)) :=
  ⟨by simp [e.len], fun j d' h => by
    by_cases hj : i = j
    · subst hj
      by_cases hl : i < env.length
      · rw [List.getElem?_set_self hl] at h
        cases h
        exact ⟨v, List.getElem?_set_self (by rw [← e.len]; exact hl), r⟩
      · rw [List.getElem?_eq_none (by simpa using hl)] at h; cases h
    · rw [List.getElem?_set_ne hj] at h ⊢
      exact e.at_ j d' h⟩
theorem EnvR.clear {K : PySem.W.Frag} {env : Env} {σ : St} (e : EnvR K m H env σ) (i : Nat) : EnvR K m H (env.set i none) (σ.set i none) :=
  ⟨by simp [e.len], fun j d' h => by
    by_cases hj : i = j
    · subst hj
      by_cases hl : i < env.length
      · rw [List.getElem?_set_self hl] at h; cases h
      · rw [List.getElem?_eq_none (by simpa using hl)] at h; cases h
    · rw [List.getElem?_set_ne hj] at h ⊢
      exact e.at_ j d' h⟩
theorem EnvR.wipe {K : PySem.W.Frag} {env : Env} {σ : St} (e : EnvR K m H env σ) : ∀ vs : List Nat, EnvR K m H (Ev.wipe env vs) (L2.wipe σ vs)
  | [] => e
  | v :: vs => (EnvR.wipe e vs).clear v
end

/-! ### readings in one form -/
section
variable (L : Lk)
/-- what is wanted of an expression's end -/
def OutE (W : WX) (σ : St) (m : List Addr) (H : Hp) (Q : VK) : R D → Prop
  | .ok d h => ∀ m' H' v, Grow L.K m H m' H' → Sim L m' H' h → Rep L.K m' H' d v → Q v H'
  | .exc c h => ∀ m' H', Grow L.K m H m' H' → Sim L m' H' h → W (.ref (L.ca c)) none σ H'
  | .bad => False
def OutA (W : WX) (σ : St) (m : List Addr) (H : Hp) (Q : List V → Hp → Prop) : R (List D) → Prop
  | .ok ds h => ∀ m' H' vs, Grow L.K m H m' H' → Sim L m' H' h → Reps L.K m' H' ds vs → Q vs H'
  | .exc c h => ∀ m' H', Grow L.K m H m' H' → Sim L m' H' h → W (.ref (L.ca c)) none σ H'
  | .bad => False
def OutT (W : WX) (σ : St) (m : List Addr) (H : Hp) (Q : Bool → Hp → Prop) : R D → Prop
  | .ok (.bl b) h => ∀ m' H', Grow L.K m H m' H' → Sim L m' H' h → Q b H'
  | .exc c h => ∀ m' H', Grow L.K m H m' H' → Sim L m' H' h → W (.ref (L.ca c)) none σ H'
  | _ => False
def cE (W : WX) (f : Env → Hs → R D) : TE := fun σ H Q => ∃ m env h, Sim L m H h ∧ EnvR L.K m H env σ ∧ OutE L W σ m H Q (f env h)
def cA (W : WX) (f : Env → Hs → R (List D)) : TA := fun σ H Q => ∃ m env h, Sim L m H h ∧ EnvR L.K m H env σ ∧ OutA L W σ m H Q (f env h)
def cT (W : WX) (f : Env → Hs → R D) : TT := fun σ H Q => ∃ m env h, Sim L m H h ∧ EnvR L.K m H env σ ∧ OutT L W σ m H Q (f env h)
end
section
variable {L : Lk} {W : WX} {σ : St} {m m' : List Addr} {H H' : Hp} {env : Env} {h : Hs}
theorem OutE.mono {Q : VK} {r : R D} (g : Grow L.K m H m' H') (o : OutE L W σ m H Q r) : OutE L W σ m' H' Q r := by
  cases r with
  | ok d h => exact fun m2 H2 v g2 => o m2 H2 v (g.trans g2)
  | exc c h => exact fun m2 H2 g2 => o m2 H2 (g.trans g2)
  | bad => exact o
theorem OutA.mono {Q : List V → Hp → Prop} {r : R (List D)} (g : Grow L.K m H m' H') (o : OutA L W σ m H Q r) : OutA L W σ m' H' Q r := by
  cases r with
  | ok d h => exact fun m2 H2 v g2 => o m2 H2 v (g.trans g2)
  | exc c h => exact fun m2 H2 g2 => o m2 H2 (g.trans g2)
  | bad => exact o
theorem OutT.mono {Q : Bool → Hp → Prop} {r : R D} (g : Grow L.K m H m' H') (o : OutT L W σ m H Q r) : OutT L W σ m' H' Q r := by
  cases r with
  | ok d h =>
    cases d with
    | bl b => exact fun m2 H2 g2 => o m2 H2 (g.trans g2)
    | _ => exact o
  | exc c h => exact fun m2 H2 g2 => o m2 H2 (g.trans g2)
  | bad => exact o
/-- an expression first, then the rest of a run -/
theorem run1 {Q' : VK} {Q : VK} {f : Env → Hs → R D} {g : D → Hs → R D} (S : Sim L m H h) (ev : EnvR L.K m H env σ) (o : OutE L W σ m H Q ((f env h).bind g))
    (k : ∀ d h' m' H' v, Grow L.K m H m' H' → Sim L m' H' h' → EnvR L.K m' H' env σ → Rep L.K m' H' d v → OutE L W σ m' H' Q (g d h') → Q' v H') : cE L W f σ H Q' := by
  refine ⟨m, env, h, S, ev, ?_⟩
  cases e : f env h with
  | ok d h' =>
    rw [e] at o
    exact fun m' H' v g' S' r => k d h' m' H' v g' S' (ev.grow g') r (OutE.mono g' o)
  | exc c h' => rw [e] at o; exact o
  | bad => rw [e] at o; exact o
/-- the same, for an argument list behind -/
theorem run1A {Q' : VK} {Q : List V → Hp → Prop} {f : Env → Hs → R D} {g : D → Hs → R (List D)} (S : Sim L m H h) (ev : EnvR L.K m H env σ) (o : OutA L W σ m H Q ((f env h).bind g))
    (k : ∀ d h' m' H' v, Grow L.K m H m' H' → Sim L m' H' h' → EnvR L.K m' H' env σ → Rep L.K m' H' d v → OutA L W σ m' H' Q (g d h') → Q' v H') : cE L W f σ H Q' := by
  refine ⟨m, env, h, S, ev, ?_⟩
  cases e : f env h with
  | ok d h' =>
    rw [e] at o
    exact fun m' H' v g' S' r => k d h' m' H' v g' S' (ev.grow g') r (OutA.mono g' o)
  | exc c h' => rw [e] at o; exact o
  | bad => rw [e] at o; exact o
/-- an argument list first -/
theorem runA {Q' : List V → Hp → Prop} {Q : VK} {f : Env → Hs → R (List D)} {g : List D → Hs → R D} (S : Sim L m H h) (ev : EnvR L.K m H env σ) (o : OutE L W σ m H Q ((f env h).bind g))
    (k : ∀ ds h' m' H' vs, f env h = .ok ds h' → Grow L.K m H m' H' → Sim L m' H' h' → EnvR L.K m' H' env σ → Reps L.K m' H' ds vs → OutE L W σ m' H' Q (g ds h') → Q' vs H') : cA L W f σ H Q' := by
  refine ⟨m, env, h, S, ev, ?_⟩
  cases e : f env h with
  | ok d h' =>
    rw [e] at o
    exact fun m' H' v g' S' r => k d h' m' H' v e g' S' (ev.grow g') r (OutE.mono g' o)
  | exc c h' => rw [e] at o; exact o
  | bad => rw [e] at o; exact o
theorem runAA {Q' : List V → Hp → Prop} {Q : List V → Hp → Prop} {f : Env → Hs → R (List D)} {g : List D → Hs → R (List D)} (S : Sim L m H h) (ev : EnvR L.K m H env σ) (o : OutA L W σ m H Q ((f env h).bind g))
    (k : ∀ ds h' m' H' vs, Grow L.K m H m' H' → Sim L m' H' h' → EnvR L.K m' H' env σ → Reps L.K m' H' ds vs → OutA L W σ m' H' Q (g ds h') → Q' vs H') : cA L W f σ H Q' := by
  refine ⟨m, env, h, S, ev, ?_⟩
  cases e : f env h with
  | ok d h' =>
    rw [e] at o
    exact fun m' H' v g' S' r => k d h' m' H' v g' S' (ev.grow g') r (OutA.mono g' o)
  | exc c h' => rw [e] at o; exact o
  | bad => rw [e] at o; exact o
theorem _root_.L2.PE.imp {X : L2.Cx} {e : Expr} {t t' : TE} (p : PE X e t) (i : ∀ σ H Q, t' σ H Q → t σ H Q) : PE X e t' := ⟨fun pins s σ H Q I q => p.run pins s σ H Q I (i σ H Q q)⟩
theorem _root_.L2.PA.imp {X : L2.Cx} {e : List Expr} {t t' : TA} (p : PA X e t) (i : ∀ σ H Q, t' σ H Q → t σ H Q) : PA X e t' := ⟨fun pos pins s σ H Q I q => p.run pos pins s σ H Q I (i σ H Q q)⟩
theorem _root_.L2.PT.imp {X : L2.Cx} {e : Expr} {t t' : TT} (p : PT X e t) (i : ∀ σ H Q, t' σ H Q → t σ H Q) : PT X e t' := ⟨fun pins s σ H Q I q => p.run pins s σ H Q I (i σ H Q q)⟩
theorem _root_.L2.PW.imp {X : L2.Cx} {e : Expr} {t t' : TT} (p : PW X e t) (i : ∀ σ H Q, t' σ H Q → t σ H Q) : PW X e t' := ⟨fun wh pins s σ H Q I q => p.run wh pins s σ H Q I (i σ H Q q)⟩
theorem _root_.L2.PS.imp {X : L2.Cx} {e : Stmt} {t t' : TS} (p : PS X e t) (i : ∀ D σ H, t' D σ H → t D σ H) : PS X e t' := ⟨fun pins s σ H D I q => p.run pins s σ H D I (i D σ H q)⟩
end
end Ev
end

section
set_option Elab.async false
set_option autoImplicit false
set_option linter.all false
set_option maxRecDepth 100000
set_option maxHeartbeats 1000000
/-! EvC: the rules of expressions in one form. -/
namespace Ev
open PySem L2
section
variable {L : Lk} {W : WX} {X : L2.Cx} {c : Cx} {a b e : Expr} {ia ib ic : IE} {pos : Pos}

/-! ### atoms -/
theorem sE_var {i : Nat} {x : Str} (hN : X.N[i]? = some x) (hv : Vis X.env.scope x) (hd : (x == ("__debug__" : Str)) = false) (hcd : (x == ("__classdict__" : Str)) = false) : PE X (.Name x pos) (cE L W (evE c (.var i))) :=
  (pe_var hN hv hd hcd).imp fun σ H Q ⟨m, env, h, S, ev, o⟩ => by
    cases q : env[i]? with
    | none => simp only [evE, q] at o; exact o.elim
    | some z =>
      cases z with
      | none => simp only [evE, q] at o; exact o.elim
      | some d =>
        simp only [evE, q] at o
        obtain ⟨v, hv, r⟩ := ev.at_ i d q
        exact ⟨v, hv, o m H v .refl S r⟩
theorem sE_int {i : Int} {j} : PE X (.Constant (.int i) j pos) (cE L W (evE c (.const (.int i)))) :=
  pe_int.imp fun σ H Q ⟨m, env, h, S, ev, o⟩ => o m H _ .refl S (.int i)
theorem sE_bl {i : Bool} {j} : PE X (.Constant (.bool i) j pos) (cE L W (evE c (.const (.bl i)))) :=
  pe_bl.imp fun σ H Q ⟨m, env, h, S, ev, o⟩ => o m H _ .refl S (.bl i)
theorem sE_non {j} : PE X (.Constant .none j pos) (cE L W (evE c (.const .non))) :=
  pe_non.imp fun σ H Q ⟨m, env, h, S, ev, o⟩ => o m H _ .refl S .non
theorem sE_str {s : Tx} {j} : PE X (.Constant (.str (stx s)) j pos) (cE L W (evE c (.const (.str s)))) :=
  pe_str.imp fun σ H Q ⟨m, env, h, S, ev, o⟩ => o m H _ .refl S (.str s)
theorem sE_glob {g : Nat} {d : D} {x : Str} {v : V} {u : Value} (hg : Gl X x) (hm : X.mg x = some u) (r : RelV v u) (hr : ∀ m H, Rep L.K m H d v) (hd : (x == ("__debug__" : Str)) = false) : PE X (.Name x pos) (cE L W (evE c (.glob g d))) :=
  (pe_glob hg hm r hd).imp fun σ H Q ⟨m, env, h, S, ev, o⟩ => o m H _ .refl S (hr m H)

/-! ### operators of two values -/
/-- what a reading of two values must give -/
def Op2 (L : Lk) (r : R2) (f : D → D → Hs → R D) : Prop := ∀ (W : WX) (σ : St) (m : List Addr) (H : Hp) (h : Hs) (x y : D) (v u : V) (Q : VK), Sim L m H h → Rep L.K m H x v → Rep L.K m H y u → OutE L W σ m H Q (f x y h) → r v u H Q
theorem sE_bin {op : BOp} {pop : Operator} {r : R2} (ho : OpR X (binaryOp pop) r) (hr : Op2 L r (bop op)) (ha : PE X a (cE L W (evE c ia))) (hb : PE X b (cE L W (evE c ib))) : PE X (.BinOp a pop b pos) (cE L W (evE c (.bin op ia ib))) :=
  (pe_op ho ha hb).imp fun σ H Q ⟨m, env, h, S, ev, o⟩ => run1 S ev (by simpa only [evE] using o) fun d h1 m1 H1 v g1 S1 ev1 r1 o1 =>
    run1 S1 ev1 o1 fun d2 h2 m2 H2 v2 g2 S2 ev2 r2 o2 => hr W σ m2 H2 h2 d d2 v v2 Q S2 (r1.grow g2) r2 o2
theorem sizeL : (sizeLine : Nat) = LIM := by decide
theorem newLst {σ : St} {m : List Addr} {H : Hp} {h : Hs} {Q : VK} {ds : List D} {vs : List V} (S : Sim L m H h) (r : Reps L.K m H ds vs) (o : OutE L W σ m H Q (.ok (.ref h.length) (h ++ [.lst ds]))) : ∀ p, H p = none → Q (.ref p) (L2.upd H p (.lst vs)) := fun p hp =>
  o (m ++ [p]) _ _ (.new hp) (S.new hp ⟨vs, upd_same, r.grow (.new hp)⟩) (.ref S.lenRef)
theorem op2_add : Op2 L (fun x y H Q => rI0 (fun i j => .int (i + j)) x y H Q ∨ (fun x y H Q => ∃ i j, x = V.str i ∧ y = V.str j ∧ i.length + j.length ≤ sizeLine ∧ Q (.str (i ++ j)) H) x y H Q ∨ rCatA L.K x y H Q ∨ rCat x y H Q) (bop .add) := by
  intro W σ m H h x y v u Q S rx ry o
  cases x with
  | int i =>
    cases rx
    cases y with
    | int j => cases ry; exact .inl ⟨i, j, rfl, rfl, o m H _ .refl S (.int _)⟩
    | _ => exact o.elim
  | str s =>
    cases rx
    cases y with
    | str t =>
      cases ry
      simp only [bop] at o
      split at o
      · rename_i hl
        refine .inr (.inl ⟨_, _, rfl, rfl, by rw [stx_len, stx_len, sizeL]; exact hl, ?_⟩)
        rw [stx_app]
        exact o m H _ .refl S (.str _)
      · exact o.elim
    | _ => exact o.elim
  | tup xs =>
    cases y with
    | tup ys =>
      simp only [bop] at o
      split at o
      · rename_i hl
        cases rx with
        | tup hx qx =>
          cases ry with
          | tup hy qy =>
            rename_i ax vs ay ws
            refine .inr (.inr (.inl ⟨ax, ay, vs, ws, rfl, rfl, hx, hy, by rw [← qx.len, ← qy.len, sizeL]; exact hl.2, fun e => ?_, fun e e2 => ?_, fun e e2 p hp => ?_⟩))
            · subst e
              have := qx.len
              obtain ⟨h1, _⟩ := hl
              cases xs <;> simp at *
            · subst e2
              have := qy.len
              have hy' : ys = [] := by cases ys <;> simp at *
              subst hy'
              rw [List.append_nil] at o
              exact o m H _ .refl S (.tup hx qx)
            · exact o m _ _ (.side hp) (S.side hp) (.tup (.inl (.inl upd_same)) ((qx.app qy).grow (.side hp)))
      · exact o.elim
    | _ => exact o.elim
  | ref i =>
    cases y with
    | ref j =>
      simp only [bop] at o
      split at o
      · rename_i xs ys e1 e2
        split at o
        · rename_i hl
          obtain ⟨a1, rfl, _, vs, ha, qa⟩ := S.atR rx e1
          obtain ⟨a2, rfl, _, ws, hb, qb⟩ := S.atR ry e2
          exact .inr (.inr (.inr ⟨a1, a2, vs, ws, rfl, rfl, ha, hb, by rw [← qa.len, ← qb.len, sizeL]; exact hl, newLst S (qa.app qb) o⟩))
        · exact o.elim
      · exact o.elim
    | _ => exact o.elim
  | _ => cases y <;> exact o.elim
theorem op2_sub : Op2 L (rI0 fun i j => .int (i - j)) (bop .sub) := by
  intro W σ m H h x y v u Q S rx ry o
  cases x with
  | int i =>
    cases rx
    cases y with
    | int j => cases ry; exact ⟨i, j, rfl, rfl, o m H _ .refl S (.int _)⟩
    | _ => exact o.elim
  | _ => cases y <;> exact o.elim
theorem op2_fdiv : Op2 L (rI CDiv fun i j => .int (i / j)) (bop .fdiv) := by
  intro W σ m H h x y v u Q S rx ry o
  cases x with
  | int i =>
    cases rx
    cases y with
    | int j =>
      cases ry
      simp only [bop] at o
      split at o
      · rename_i hl; exact ⟨i, j, rfl, rfl, hl, o m H _ .refl S (.int _)⟩
      · exact o.elim
    | _ => exact o.elim
  | _ => cases y <;> exact o.elim
theorem op2_mod : Op2 L (rI (fun _ j => 0 < j) fun i j => .int (i % j)) (bop .mod) := by
  intro W σ m H h x y v u Q S rx ry o
  cases x with
  | int i =>
    cases rx
    cases y with
    | int j =>
      cases ry
      simp only [bop] at o
      split at o
      · rename_i hl; exact ⟨i, j, rfl, rfl, hl, o m H _ .refl S (.int _)⟩
      · exact o.elim
    | _ => exact o.elim
  | _ => cases y <;> exact o.elim
theorem smallI_of {i : Int} (h : smallI i = true) : -(2 ^ 64) < i ∧ i < 2 ^ 64 := by
  unfold smallI at h
  rw [Bool.and_eq_true, decide_eq_true_eq, decide_eq_true_eq] at h
  exact h
theorem op2_pow : Op2 L (rI CPow fun i j => .int (i ^ j.toNat)) (bop .pow) := by
  intro W σ m H h x y v u Q S rx ry o
  cases x with
  | int i =>
    cases rx
    cases y with
    | int j =>
      cases ry
      simp only [bop] at o
      split at o
      · rename_i hl
        obtain ⟨h1, h2, h3⟩ := hl
        have := smallI_of h1
        exact ⟨i, j, rfl, rfl, ⟨h2, by omega, by omega⟩, o m H _ .refl S (.int _)⟩
      · exact o.elim
    | _ => exact o.elim
  | _ => cases y <;> exact o.elim
end
section
variable {L : Lk} {W : WX} {X : L2.Cx} {c : Cx} {a b e : Expr} {ia ib ic : IE} {pos : Pos}
/-! ### products -/
def rRepS : R2 := fun x y H Q => ∃ i n, x = V.str i ∧ y = V.int n ∧ -(2 ^ 63) ≤ n ∧ n < 2 ^ 63 ∧ i.length * n.toNat ≤ sizeLine ∧ Q (.str ⟨(List.replicate n.toNat i.cps.toList).flatten.toArray⟩) H
theorem fold_rep (x : Array Nat) : ∀ (n : Nat) (acc : Array Nat), (List.replicate n x).foldl (· ++ ·) acc = acc ++ (List.replicate n x.toList).flatten.toArray
  | 0, acc => by simp
  | n + 1, acc => by
    rw [List.replicate_succ, List.foldl_cons, fold_rep x n, List.replicate_succ, List.flatten_cons]
    apply Array.ext'
    simp [Array.toList_append, List.append_assoc]
theorem op_repS : OpR X (binaryOp .Mult) rRepS := by
  intro pins s σ H x y v u Q I rx ry h
  obtain ⟨i, n, rfl, rfl, h1, h2, h3, q⟩ := h
  obtain ⟨t, rfl⟩ := rx
  obtain ⟨t', rfl⟩ := ry
  refine PySem.P.mul_str (by rw [decide_eq_false (by omega), decide_eq_false (by omega)] <;> rfl) (fun h4 h5 => ?_) (fun h4 h5 => ?_) ?_
  · rw [Bool.or_eq_false_iff] at h5
    have hn : 2 ≤ n := by
      have := beq_eq_false_iff_ne.mp h5.1
      omega
    have hl : (i.length : Int) * n ≤ 16777216 := by
      have e : ((i.length * n.toNat : Nat) : Int) ≤ (sizeLine : Nat) := Int.ofNat_le.mpr h3
      rw [Int.natCast_mul, Int.toNat_of_nonneg (by omega), sizeLine_eq] at e
      exact e
    have : (2 ^ 63 - 1 : Int) / n ≥ i.length := by
      refine Int.le_ediv_of_mul_le (by omega) ?_
      omega
    omega
  · unfold Builtin.Str.tooLong
    exact decide_eq_false (Nat.not_lt.mpr h3)
  · split
    · rename_i hn
      have e : n.toNat = 0 := by omega
      rw [e] at q
      exact ⟨by decide, ⟨.str _, H, I.tok _, ⟨_, rfl⟩, q⟩⟩
    · split
      · rename_i hn h1
        refine ⟨.str i, H, I, ⟨_, rfl⟩, ?_⟩
        rw [Bool.or_eq_true] at h1
        rcases h1 with h1 | h1
        · have e : n = 1 := beq_iff_eq.mp h1
          subst e
          have : (⟨(List.replicate (1 : Int).toNat i.cps.toList).flatten.toArray⟩ : Str) = i := by simp
          rw [this] at q
          exact q
        · have e : i.length = 0 := beq_iff_eq.mp h1
          have e2 : i.cps.toList = [] := List.eq_nil_of_length_eq_zero (by simpa [Str.length] using e)
          have : (⟨(List.replicate n.toNat i.cps.toList).flatten.toArray⟩ : Str) = i := by
            rw [e2]
            have : (List.replicate n.toNat ([] : List Nat)).flatten = [] := by simp
            rw [this]
            cases i with
            | mk cps => simp at e2; simp [e2]
          rw [this] at q
          exact q
      · rw [fold_rep]
        have e : (#[] ++ (List.replicate n.toNat i.cps.toList).flatten.toArray : Array Nat) = (List.replicate n.toNat i.cps.toList).flatten.toArray := by simp
        rw [e]
        refine ⟨?_, ⟨.str _, H, I.tok _, ⟨_, rfl⟩, q⟩⟩
        show ((List.replicate n.toNat i.cps.toList).flatten.toArray).size ≤ sizeLine
        rw [List.size_toArray, PyProof.Rows.lm_len_rep_flat]
        have : i.cps.toList.length = i.length := by simp [Str.length]
        rw [this, Nat.mul_comm]
        exact h3
/-- a tuple times one: itself -/
theorem tuple_mul1 (l : Addr) (items : Array Value) (n : Nat) (dd : Option Addr) (sl : Array (Option Value)) (u : Tok) :
    PySem.Meets (Builtin.«tuple.__mul__» ⟨[.ref l, .int 1 u], []⟩) (fun _ R s => s.heap.get? l = some { cls := .type "tuple", dict := dd, data := .seq items n, slots := sl } ∧ R (.ok (.ret (Value.ref l))) s) :=
  .of_wp fun prog w A R s h => by
    obtain ⟨hp, g, d, tk, os⟩ := s
    obtain ⟨hl, h⟩ := h
    have f1 := AutoSeq1.idx_int
    have c1 : (items.isEmpty || (1 : Int) == 1) = true := by simp
    wp_walk using wpAny_loadPart' hl
    repeat (first
      | (refine wpAny_ite_false (decide_eq_false (by decide)) ?_; wp_walk using wpAny_loadPart' hl)
      | (refine wpAny_ite_true (decide_eq_true (by rw [c1])) ?_; wp_walk using wpAny_loadPart' hl))
    exact ⟨_, rfl, h⟩
def rRepT1 (K : PySem.W.Frag) : R2 := fun x y H Q => ∃ l xs, x = .ref l ∧ y = .int 1 ∧ SqT K H l xs ∧ Q (.ref l) H
theorem op_repT1 : OpR X (binaryOp .Mult) (rRepT1 X.K) := by
  intro pins s σ H x y v u Q I rx ry h
  obtain ⟨l, xs, rfl, rfl, hT, q⟩ := h
  cases rx
  obtain ⟨t, rfl⟩ := ry
  obtain ⟨its, r, ⟨⟨cls, dd, data, sl⟩, ho, hc, n, hd⟩, hs⟩ := I.tuple hT
  simp only at hc hd
  subst hc hd
  refine wpAny_binaryOp_repeat_ref (T := "tuple") (U := "int") (by decide) ⟨_, ho, rfl⟩ (fun s' => typeIs_int s' 1 t) noFill_tuple_mul F.fills_int_mul F.slot_int_rmul repeat_tuple F.slot_int_index.lookup
    (call_meets F.slot_int_rmul (typeIs_int s 1 t) F.entry_int_rmul (F.args_int_rmul_2 _ _) (int_rmul_tuple 1 t l its.toArray n dd sl)
      ⟨ho, rfl, ⟨_, ho, rfl⟩, call_meets F.slot_tuple_mul ⟨_, ho, rfl⟩ F.entry_tuple_mul (F.args_tuple_mul_2 _ _) (tuple_mul1 l its.toArray n dd sl t) ⟨ho, ?_⟩⟩)
  exact ⟨.ref l, H, I, rfl, q⟩
theorem smallR_of {i : Int} (h : smallR i = true) : -(2 ^ 62) ≤ i ∧ i < 2 ^ 62 := by
  unfold smallR at h
  rw [Bool.and_eq_true, decide_eq_true_eq, decide_eq_true_eq] at h
  exact h
theorem op2_mul : Op2 L (fun x y H Q => rI CMul (fun i j => .int (i * j)) x y H Q ∨ rRepS x y H Q ∨ rRep x y H Q ∨ rRepT L.K x y H Q ∨ rRepT1 L.K x y H Q) (bop .mul) := by
  intro W σ m H h x y v u Q S rx ry o
  cases x with
  | int i =>
    cases rx
    cases y with
    | int j =>
      cases ry
      simp only [bop] at o
      split at o
      · rename_i hl
        rw [Bool.or_eq_true] at hl
        refine .inl ⟨i, j, rfl, rfl, ?_, o m H _ .refl S (.int _)⟩
        rcases hl with hl | hl
        · exact .inl (smallI_of hl)
        · exact .inr (smallI_of hl)
      · exact o.elim
    | _ => exact o.elim
  | str s =>
    cases rx
    cases y with
    | int j =>
      cases ry
      simp only [bop] at o
      split at o
      · rename_i hl
        refine .inr (.inl ?_)
        have e : Q (.str (stx (List.replicate j.toNat s).flatten)) H := o m H _ .refl S (.str _)
        have hlim := smallR_of hl.2
        refine ⟨_, j, rfl, rfl, by omega, by omega, by rw [stx_len, sizeL]; exact hl.1, ?_⟩
        rw [stx_cps]
        exact e
      · exact o.elim
    | _ => exact o.elim
  | ref i =>
    cases y with
    | int j =>
      cases ry
      simp only [bop] at o
      split at o
      · rename_i xs e1
        split at o
        · rename_i hl
          obtain ⟨a1, rfl, _, vs, ha, qa⟩ := S.atR rx e1
          refine .inr (.inr (.inl ⟨a1, j, vs, rfl, rfl, ha, by have := smallR_of hl.2; omega, by have := smallR_of hl.2; omega, by rw [← qa.len, sizeL]; exact hl.1, newLst S (qa.rep _) o⟩))
        · exact o.elim
      · exact o.elim
    | _ => exact o.elim
  | tup xs =>
    cases y with
    | int j =>
      simp only [bop] at o
      split at o
      · rename_i hl
        obtain ⟨h1, h2, h3, h4⟩ := hl
        cases ry
        cases rx with
        | tup hx qx =>
          rename_i ax vs
          by_cases hj : j = 1
          · subst hj
            refine .inr (.inr (.inr (.inr ⟨ax, vs, rfl, rfl, hx, ?_⟩)))
            have e : (List.replicate (1 : Int).toNat xs).flatten = xs := by simp
            rw [e] at o
            exact o m H _ .refl S (.tup hx qx)
          · refine .inr (.inr (.inr (.inl ⟨ax, j, vs, rfl, rfl, hx, ?_, by omega, h3, by rw [← qx.len]; exact h4, fun p hp => ?_⟩)))
            · intro e
              subst e
              have := qx.len
              cases xs <;> simp at *
            · exact o m _ _ (.side hp) (S.side hp) (.tup (.inl (.inl upd_same)) ((qx.rep _).grow (.side hp)))
      · exact o.elim
    | _ => exact o.elim
  | _ => cases y <;> exact o.elim
end
end Ev
end

section
set_option Elab.async false
set_option autoImplicit false
set_option linter.all false
set_option maxRecDepth 100000
set_option maxHeartbeats 1000000
/-! EvD: equality, comparisons, tests. -/
namespace Ev
open PySem L2
/-! ### data of the library as the machine's -/
mutual
def toT : PyData → T
  | .none => .non
  | .bool b => .num (if b then 1 else 0)
  | .int i => .num i
  | .str x => .str x.cps.toList
  | .list xs => .lst (toTs xs)
  | .tuple xs => .tup (toTs xs)
  | .dict _ => .non
def toTs : List PyData → List T
  | [] => []
  | x :: xs => toT x :: toTs xs
end
theorem str_beq (x y : Str) : (x == y) = decide (x.cps.toList = y.cps.toList) := by
  by_cases h : x = y
  · subst h; simp
  · have : x.cps.toList ≠ y.cps.toList := fun e => h (by cases x; cases y; simp at e; rw [e])
    rw [decide_eq_false this]
    exact beq_eq_false_iff_ne.mpr h
mutual
theorem eqv_toT : ∀ p q : PyData, p.canLay0 = true → q.canLay0 = true → PyData.eqv p q = T.beq (toT p) (toT q)
  | .none, q, _, h2 => by cases q <;> first | rfl | (simp [PyData.canLay0] at h2)
  | .bool a, q, _, h2 => by
    cases q <;> first | rfl | (simp [PyData.canLay0] at h2; done) | skip
    all_goals (rename_i b; cases a <;> first | (cases b <;> rfl) | rfl)
  | .int a, q, _, h2 => by
    cases q <;> first | rfl | (simp [PyData.canLay0] at h2; done) | skip
  | .str a, q, _, h2 => by
    cases q <;> first | rfl | (simp [PyData.canLay0] at h2; done) | skip
    · rename_i b
      show (a == b) = decide _
      exact str_beq a b
  | .list a, q, h1, h2 => by
    cases q <;> first | rfl | (simp [PyData.canLay0] at h2; done) | skip
    · rename_i b
      show PyData.eqvAll a b = T.beqs (toTs a) (toTs b)
      exact eqvs_toT a b (by simpa [PyData.canLay0] using h1) (by simpa [PyData.canLay0] using h2)
  | .tuple a, q, h1, h2 => by
    cases q <;> first | rfl | (simp [PyData.canLay0] at h2; done) | skip
    · rename_i b
      show PyData.eqvAll a b = T.beqs (toTs a) (toTs b)
      exact eqvs_toT a b (by simpa [PyData.canLay0] using h1) (by simpa [PyData.canLay0] using h2)
  | .dict _, q, h1, _ => by simp [PyData.canLay0] at h1
theorem eqvs_toT : ∀ p q : List PyData, PyData.canLayAll0 p = true → PyData.canLayAll0 q = true → PyData.eqvAll p q = T.beqs (toTs p) (toTs q)
  | [], [], _, _ => rfl
  | [], _ :: _, _, _ => rfl
  | _ :: _, [], _, _ => rfl
  | a :: as, b :: bs, h1, h2 => by
    rw [PyData.canLayAll0, Bool.and_eq_true] at h1 h2
    show (PyData.eqv a b && PyData.eqvAll as bs) = (T.beq (toT a) (toT b) && T.beqs (toTs as) (toTs bs))
    rw [eqv_toT a b h1.1 h2.1, eqvs_toT as bs h1.2 h2.2]
end
section
variable {L : Lk} {m : List Addr} {H : Hp} {h : Hs}
theorem omap_dp {n : Nat} (ih : ∀ (d : D) (t : T) (v : V), reify h n d = some t → Rep L.K m H d v → ∃ p, Dp L.K H v p ∧ p.canLay0 = true ∧ p.depth ≤ n ∧ toT p = t) :
    ∀ (ds : List D) (ts : List T) (vs : List V), omap (reify h n) ds = some ts → Reps L.K m H ds vs → ∃ ps, DpAll L.K H vs ps ∧ PyData.canLayAll0 ps = true ∧ PyData.depthAll ps ≤ n ∧ toTs ps = ts
  | [], ts, _, e, .nil => by simp only [omap, Option.some.injEq] at e; subst e; exact ⟨[], .nil, rfl, Nat.zero_le _, rfl⟩
  | d :: ds, ts, _, e, .cons r rs => by
    simp only [omap] at e
    split at e
    · rename_i t ts' e1 e2
      cases e
      obtain ⟨p, p1, p2, p3, p4⟩ := ih d t _ e1 r
      obtain ⟨ps, q1, q2, q3, q4⟩ := omap_dp ih ds ts' _ e2 rs
      exact ⟨p :: ps, .cons p1 q1, by rw [PyData.canLayAll0, p2, q2]; rfl, by rw [PyData.depthAll]; omega, by rw [toTs, p4, q4]⟩
    · cases e
theorem reify_dp (S : Sim L m H h) : ∀ (n : Nat) (d : D) (t : T) (v : V), reify h n d = some t → Rep L.K m H d v → ∃ p, Dp L.K H v p ∧ p.canLay0 = true ∧ p.depth ≤ n ∧ toT p = t
  | 0, d, t, v, e, _ => by simp [reify] at e
  | n + 1, d, t, v, e, r => by
    cases d with
    | non => cases r; simp only [reify, Option.some.injEq] at e; subst e; exact ⟨.none, .non, rfl, Nat.zero_le _, rfl⟩
    | bl b => cases r; simp only [reify, Option.some.injEq] at e; subst e; exact ⟨.bool b, .bl b, rfl, Nat.zero_le _, rfl⟩
    | int b => cases r; simp only [reify, Option.some.injEq] at e; subst e; exact ⟨.int b, .int b, rfl, Nat.zero_le _, rfl⟩
    | str s =>
      cases r
      simp only [reify] at e
      split at e
      · rename_i hs
        cases e
        refine ⟨.str (stx s), .str _, ?_, Nat.zero_le _, by rw [toT, stx_cps]⟩
        show PyData.canLay0 (.str (stx s)) = true
        unfold PyData.canLay0 PyData.strOk
        rw [stx, ← Array.all_toList]
        simpa using hs
      · cases e
    | tup xs =>
      cases r with
      | tup hx q =>
        simp only [reify, Option.map_eq_some_iff] at e
        obtain ⟨ts, e, rfl⟩ := e
        obtain ⟨ps, p1, p2, p3, p4⟩ := omap_dp (fun d t v a b => reify_dp S n d t v a b) xs ts _ e q
        exact ⟨.tuple ps, .tup hx p1, p2, by rw [PyData.depth]; omega, by rw [toT, p4]⟩
    | ref i =>
      simp only [reify] at e
      split at e
      · rename_i xs e1
        simp only [Option.map_eq_some_iff] at e
        obtain ⟨ts, e, rfl⟩ := e
        obtain ⟨a, rfl, _, vs, ha, q⟩ := S.atR r e1
        obtain ⟨ps, p1, p2, p3, p4⟩ := omap_dp (fun d t v a b => reify_dp S n d t v a b) xs ts _ e q
        exact ⟨.list ps, .lst (.inl (.inl ha)) p1, p2, by rw [PyData.depth]; omega, by rw [toT, p4]⟩
      · cases e
end

/-! ### comparisons -/
section
variable {L : Lk} {m : List Addr} {H : Hp} {h : Hs}
theorem OutE.bl {W : WX} {σ : St} {Q : VK} {k : Bool} (S : Sim L m H h) (o : OutE L W σ m H Q (.ok (.bl k) h)) : Q (.bl k) H := o m H _ .refl S (.bl k)
def vOf : D → V
  | .non => .non
  | .bl b => .bl b
  | .int i => .int i
  | .str s => .str (stx s)
  | _ => .non
theorem rep_flat {d : D} {v : V} (f : flatD d = true) (r : Rep L.K m H d v) : v = vOf d ∧ flatV v = true := by
  cases r <;> first | exact ⟨rfl, rfl⟩ | (simp [flatD] at f)
theorem stx_dec (s t : Tx) : decide (stx s = stx t) = decide (s = t) := by
  by_cases e : s = t
  · subst e; simp
  · rw [decide_eq_false e, decide_eq_false fun q => e (stx_inj q)]
theorem stx_beq (s t : Tx) : (stx s == stx t) = decide (s = t) := by
  rw [str_beq, stx_cps, stx_cps]
theorem eqV_flat {x y : D} (fx : flatD x = true) (fy : flatD y = true) : eqV (vOf x) (vOf y) = Ev.seq x y := by
  cases x <;> cases y <;> first | rfl | (simp [flatD] at fx; done) | (simp [flatD] at fy; done) | exact stx_beq _ _
theorem reps_flat {ds : List D} {vs : List V} (f : ds.all flatD = true) (r : Reps L.K m H ds vs) : vs = ds.map vOf ∧ vs.all flatV = true := by
  induction ds generalizing vs with
  | nil => cases r; exact ⟨rfl, rfl⟩
  | cons d ds ih =>
    cases r with
    | cons r rs =>
      rw [List.all_cons, Bool.and_eq_true] at f
      obtain ⟨e1, f1⟩ := rep_flat f.1 r
      obtain ⟨e2, f2⟩ := ih f.2 rs
      subst e1 e2
      exact ⟨rfl, by rw [List.all_cons, f1, f2]; rfl⟩
theorem deqD {W : WX} {σ : St} {x y : D} {v u : V} {k : Bool} (S : Sim L m H h) (rx : Rep L.K m H x v) (ry : Rep L.K m H y u) (e : (match reify h 40 x, reify h 40 y with
    | some x, some y => some (T.beq x y)
    | _, _ => none) = some k) : ∃ d e, Dp L.K H v d ∧ Dp L.K H u e ∧ SeqAt.shaped d = true ∧ SeqAt.shaped e = true ∧ PyData.eqv d e = k := by
  split at e
  · rename_i t t' e1 e2
    cases e
    obtain ⟨p, p1, p2, p3, p4⟩ := reify_dp S 40 x t v e1 rx
    obtain ⟨q, q1, q2, q3, q4⟩ := reify_dp S 40 y t' u e2 ry
    refine ⟨p, q, p1, q1, ?_, ?_, ?_⟩
    · unfold SeqAt.shaped; rw [p2, decide_eq_true (by omega)]; rfl
    · unfold SeqAt.shaped; rw [q2, decide_eq_true (by omega)]; rfl
    · rw [eqv_toT p q p2 q2, p4, q4]
  · cases e
theorem deq_sound {x y : D} {v u : V} {k : Bool} (S : Sim L m H h) (rx : Rep L.K m H x v) (ry : Rep L.K m H y u) (e : deq h x y = some k) :
    (scal v u = true ∧ decide (v = u) = k) ∨ ∃ d e, Dp L.K H v d ∧ Dp L.K H u e ∧ SeqAt.shaped d = true ∧ SeqAt.shaped e = true ∧ PyData.eqv d e = k := by
  unfold deq at e
  split at e
  · cases rx; cases ry; cases e; exact .inl ⟨rfl, by rw [← stx_dec]; simp⟩
  · cases rx; cases ry; cases e; exact .inl ⟨rfl, by simp⟩
  · cases rx; cases ry; cases e; exact .inl ⟨rfl, by simp⟩
  · cases rx; cases ry; cases e; exact .inl ⟨rfl, by simp⟩
  · cases rx; cases ry; cases e; exact .inl ⟨rfl, by simp⟩
  · cases rx; cases ry; cases e; exact .inl ⟨rfl, by simp⟩
  · cases rx; cases ry; cases e; exact .inl ⟨rfl, by simp⟩
  · cases rx; cases ry; cases e; exact .inl ⟨rfl, by simp⟩
  · cases rx; cases ry; cases e; exact .inl ⟨rfl, by simp⟩
  · cases rx; cases ry; cases e; exact .inl ⟨rfl, by simp⟩
  · exact .inr (deqD (W := fun _ _ _ _ => False) (σ := []) S rx ry e)
theorem op2_eq : Op2 L (fun x y H Q => rEq x y H Q ∨ rEqD L.K x y H Q) (copR .eq) := by
  intro W σ m H h x y v u Q S rx ry o
  unfold copR cop at o
  cases e : deq h x y with
  | none => simp only [e] at o; exact o.elim
  | some k =>
    simp only [e] at o
    have q := OutE.bl S o
    rcases deq_sound S rx ry e with ⟨h1, h2⟩ | ⟨d, e, h1, h2, h3, h4, h5⟩
    · exact .inl ⟨h1, by rw [h2]; exact q⟩
    · exact .inr ⟨d, e, h1, h2, h3, h4, by rw [h5]; exact q⟩
theorem op2_ne : Op2 L (fun x y H Q => rNe x y H Q ∨ rNeD L.K x y H Q) (copR .ne) := by
  intro W σ m H h x y v u Q S rx ry o
  unfold copR cop at o
  cases e : deq h x y with
  | none => simp only [e, Option.map_none] at o; exact o.elim
  | some k =>
    simp only [e, Option.map_some] at o
    have q := OutE.bl S o
    rcases deq_sound S rx ry e with ⟨h1, h2⟩ | ⟨d, e, h1, h2, h3, h4, h5⟩
    · exact .inl ⟨h1, by rw [h2]; exact q⟩
    · exact .inr ⟨d, e, h1, h2, h3, h4, by rw [h5]; exact q⟩
theorem op2_lt : Op2 L (rI0 fun i j => .bl (decide (i < j))) (copR .lt) := by
  intro W σ m H h x y v u Q S rx ry o
  unfold copR cop at o
  split at o <;> rename_i e <;> simp only at e
  · split at e
    · cases rx; cases ry; cases e; exact ⟨_, _, rfl, rfl, OutE.bl S o⟩
    · cases e
  · exact o.elim
theorem op2_le : Op2 L (rI0 fun i j => .bl (decide (i ≤ j))) (copR .le) := by
  intro W σ m H h x y v u Q S rx ry o
  unfold copR cop at o
  split at o <;> rename_i e <;> simp only at e
  · split at e
    · cases rx; cases ry; cases e; exact ⟨_, _, rfl, rfl, OutE.bl S o⟩
    · cases e
  · exact o.elim
theorem op2_gt : Op2 L (rI0 fun i j => .bl (decide (j < i))) (copR .gt) := by
  intro W σ m H h x y v u Q S rx ry o
  unfold copR cop at o
  split at o <;> rename_i e <;> simp only at e
  · split at e
    · cases rx; cases ry; cases e; exact ⟨_, _, rfl, rfl, OutE.bl S o⟩
    · cases e
  · exact o.elim
theorem op2_ge : Op2 L (rI0 fun i j => .bl (decide (j ≤ i))) (copR .ge) := by
  intro W σ m H h x y v u Q S rx ry o
  unfold copR cop at o
  split at o <;> rename_i e <;> simp only at e
  · split at e
    · cases rx; cases ry; cases e; exact ⟨_, _, rfl, rfl, OutE.bl S o⟩
    · cases e
  · exact o.elim
theorem non_dec {x : D} {v : V} (r : Rep L.K m H x v) : decide (v = V.non) = decide (x = D.non) := by
  cases r <;> simp
def rIs : R2 := fun x y H Q => (y = .non ∧ Q (.bl (decide (x = .non))) H) ∨ rIsB x y H Q
def rIsn : R2 := fun x y H Q => (y = .non ∧ Q (.bl (!decide (x = .non))) H) ∨ rNotB x y H Q
theorem op2_is : Op2 L rIs (copR .is_) := by
  intro W σ m H h x y v u Q S rx ry o
  unfold copR cop at o
  split at o <;> rename_i e <;> simp only at e
  · split at e
    · cases ry; cases e; exact .inl ⟨rfl, by rw [non_dec rx]; exact OutE.bl S o⟩
    · split at e
      · cases rx; cases ry; cases e; exact .inr ⟨_, _, rfl, rfl, OutE.bl S o⟩
      · cases e
    · cases e
  · exact o.elim
theorem op2_isn : Op2 L rIsn (copR .isn) := by
  intro W σ m H h x y v u Q S rx ry o
  unfold copR cop at o
  split at o <;> rename_i e <;> simp only at e
  · split at e
    · cases ry; cases e; exact .inl ⟨rfl, by rw [non_dec rx]; exact OutE.bl S o⟩
    · split at e
      · cases rx; cases ry; cases e; exact .inr ⟨_, _, rfl, rfl, OutE.bl S o⟩
      · cases e
    · cases e
  · exact o.elim

/-! ### x in texts, tuples, lists -/
theorem isPre_drop (s : Tx) : ∀ (t : Tx), hasSub s t = true ↔ ∃ i, i + s.length ≤ t.length ∧ (t.drop i).take s.length = s
  | [] => by
    simp only [hasSub]
    constructor
    · intro e
      have : s = [] := List.isEmpty_iff.mp e
      subst this
      exact ⟨0, by simp, by simp⟩
    · rintro ⟨i, h1, h2⟩
      simp at h1
      simp [h1.2]
  | c :: t => by
    simp only [hasSub, Bool.or_eq_true, isPre_drop s t]
    constructor
    · rintro (h | ⟨i, h1, h2⟩)
      · obtain ⟨r, hr⟩ := List.isPrefixOf_iff_prefix.mp h
        exact ⟨0, by rw [← hr]; simp, by rw [← hr]; simp⟩
      · exact ⟨i + 1, by simp; omega, by simpa using h2⟩
    · rintro ⟨i, h1, h2⟩
      cases i with
      | zero =>
        refine .inl (List.isPrefixOf_iff_prefix.mpr ⟨(c :: t).drop s.length, ?_⟩)
        have h3 : (c :: t).take s.length = s := h2
        conv => lhs; lhs; rw [← h3]
        exact List.take_append_drop s.length (c :: t)
      | succ i => exact .inr ⟨i, by simp at h1; omega, by simpa using h2⟩
theorem subAt_take (x y : Str) (i : Nat) (h : i + y.length ≤ x.length) (hy : TL.tl y ≠ []) : Builtin.Str.subAt x y i = true ↔ ((TL.tl x).drop i).take (TL.tl y).length = TL.tl y := by
  have e := TL.at_iff (x := x) (y := y) hy i
  unfold TL.pre at e
  rw [beq_iff_eq] at e
  exact ⟨fun q => e.mp ⟨h, q⟩, fun q => (e.mpr q).2⟩
theorem occ_sub (s t : Tx) (hs : s ≠ []) : (!(Builtin.Str.occurrences (stx t) (stx s) 0 (stx t).length 1).isEmpty) = hasSub s t := by
  have hy : TL.tl (stx s) ≠ [] := by show (stx s).cps.toList ≠ []; rw [stx_cps]; exact hs
  have et : TL.tl (stx t) = t := stx_cps t
  have es : TL.tl (stx s) = s := stx_cps s
  refine Bool.eq_iff_iff.mpr ?_
  rw [PySem.StrLaws.found_iff, isPre_drop]
  constructor
  · rintro ⟨i, h1, h2⟩
    rw [subAt_take _ _ _ h1 hy, et, es] at h2
    rw [stx_len, stx_len] at h1
    exact ⟨i, h1, h2⟩
  · rintro ⟨i, h1, h2⟩
    refine ⟨i, by rw [stx_len, stx_len]; exact h1, ?_⟩
    rw [subAt_take _ _ _ (by rw [stx_len, stx_len]; exact h1) hy, et, es]
    exact h2
theorem occ_in (s t : Tx) : s ≠ [] → (!(Builtin.Str.occurrences (stx t) (stx s) 0 (stx t).length 1).isEmpty) = subIn s t := by
  intro hs
  unfold subIn
  split
  · have := PySem.StrLaws.found_one (stx t) (by assumption)
    rw [stx_cps] at this
    exact this
  · exact occ_sub s t hs
def rInS (neg : Bool) : R2 := fun x y H Q => ∃ i j, x = V.str i ∧ y = V.str j ∧ Q (.bl (if neg then !(!(Builtin.Str.occurrences j i 0 j.length 1).isEmpty) else !(Builtin.Str.occurrences j i 0 j.length 1).isEmpty)) H
/-- x in a tuple of any data -/
def rInDt (K : PySem.W.Frag) (neg : Bool) : R2 := fun x y H Q => ∃ d ds, Dp K H x d ∧ (Dp K H y (.list ds) ∨ Dp K H y (.tuple ds)) ∧ SeqAt.shaped d = true ∧ SeqAt.shaped (.list ds) = true ∧ Q (.bl (if neg then !ds.any fun z => PyData.eqv z d else ds.any fun z => PyData.eqv z d)) H
theorem op_inS {X : L2.Cx} : OpR X (compareOp .In) (rInS false) := op_in_str
theorem op_notInS {X : L2.Cx} : OpR X (compareOp .NotIn) (rInS true) := op_notin_str
theorem shaped_tl {ds : List PyData} (h : SeqAt.shaped (.list ds) = true) : PyData.canLayAll0 ds = true := SeqAt.canLay_of_shaped h
theorem op_inDt {X : L2.Cx} (hu : X.A.units + 65 < cLine) : OpR X (compareOp .In) (rInDt X.K false) := by
  intro pins s σ H x y v u Q I rx ry h
  obtain ⟨d, ds, hd, he | he, sd, se, q⟩ := h
  · obtain ⟨as, r1⟩ := Dp.reads I d x v hd rx
    obtain ⟨bs, r2⟩ := Dp.reads I (.list ds) y u he ry
    exact SeqAt.in_list_reads r2 r1 (SeqAt.canLay_of_shaped se) (SeqAt.canLay_of_shaped sd) (PyProof.Rows.room_in_shaped sd hu) ⟨.bl _, H, I, rfl, q⟩
  · obtain ⟨as, r1⟩ := Dp.reads I d x v hd rx
    obtain ⟨bs, r2⟩ := Dp.reads I (.tuple ds) y u he ry
    exact SeqAt.in_tuple_reads r2 r1 (SeqAt.canLay_of_shaped se) (SeqAt.canLay_of_shaped sd) (PyProof.Rows.room_in_shaped sd hu) ⟨.bl _, H, I, rfl, q⟩
theorem op_notInDt {X : L2.Cx} (hu : X.A.units + 65 < cLine) : OpR X (compareOp .NotIn) (rInDt X.K true) := by
  intro pins s σ H x y v u Q I rx ry h
  obtain ⟨d, ds, hd, he | he, sd, se, q⟩ := h
  · obtain ⟨as, r1⟩ := Dp.reads I d x v hd rx
    obtain ⟨bs, r2⟩ := Dp.reads I (.list ds) y u he ry
    exact SeqAt.notIn_list_reads r2 r1 (SeqAt.canLay_of_shaped se) (SeqAt.canLay_of_shaped sd) (PyProof.Rows.room_in_shaped sd hu) ⟨.bl _, H, I, rfl, q⟩
  · obtain ⟨as, r1⟩ := Dp.reads I d x v hd rx
    obtain ⟨bs, r2⟩ := Dp.reads I (.tuple ds) y u he ry
    exact SeqAt.notIn_tuple_reads r2 r1 (SeqAt.canLay_of_shaped se) (SeqAt.canLay_of_shaped sd) (PyProof.Rows.room_in_shaped sd hu) ⟨.bl _, H, I, rfl, q⟩
theorem any_toT {p : PyData} (hp : p.canLay0 = true) : ∀ {ps : List PyData}, PyData.canLayAll0 ps = true → (ps.any fun z => PyData.eqv z p) = (toTs ps).any fun z => T.beq z (toT p)
  | [], _ => rfl
  | z :: ps, h => by
    rw [PyData.canLayAll0, Bool.and_eq_true] at h
    rw [List.any_cons, toTs, List.any_cons, eqv_toT z p h.1 hp, any_toT hp h.2]
theorem any_flat {x : D} (fx : flatD x = true) : ∀ {ys : List D}, ys.all flatD = true → inV (vOf x) (ys.map vOf) = ys.any fun y => Ev.seq y x
  | [], _ => rfl
  | y :: ys, h => by
    rw [List.all_cons, Bool.and_eq_true] at h
    show ((vOf y :: ys.map vOf).any fun z => eqV z (vOf x)) = _
    rw [List.any_cons, List.any_cons, eqV_flat h.1 fx]
    exact congrArg _ (any_flat fx h.2)
/-- what dmem says is what the model says: by flat items, or by data -/
theorem dmem_sound {x : D} {ys : List D} {v : V} {vs : List V} {k : Bool} (S : Sim L m H h) (rx : Rep L.K m H x v) (ry : Reps L.K m H ys vs) (e : dmem h x ys = some k) :
    (flatV v = true ∧ vs.all flatV = true ∧ inV v vs = k) ∨ ∃ d ds, Dp L.K H v d ∧ DpAll L.K H vs ds ∧ SeqAt.shaped d = true ∧ SeqAt.shaped (.list ds) = true ∧ (ds.any fun z => PyData.eqv z d) = k := by
  unfold dmem at e
  split at e
  · rename_i hf
    rw [Bool.and_eq_true] at hf
    cases e
    obtain ⟨e1, f1⟩ := rep_flat hf.1 rx
    obtain ⟨e2, f2⟩ := reps_flat hf.2 ry
    subst e1 e2
    exact .inl ⟨f1, f2, any_flat hf.1 hf.2⟩
  · split at e
    · rename_i t ts e1 e2
      cases e
      obtain ⟨p, p1, p2, p3, p4⟩ := reify_dp S 40 x t v e1 rx
      obtain ⟨ps, q1, q2, q3, q4⟩ := omap_dp (fun d t v a b => reify_dp S 40 d t v a b) ys ts vs e2 ry
      refine .inr ⟨p, ps, p1, q1, ?_, ?_, ?_⟩
      · unfold SeqAt.shaped; rw [p2, decide_eq_true (by omega)]; rfl
      · unfold SeqAt.shaped; rw [PyData.canLay0, q2, decide_eq_true (by rw [PyData.depth]; omega)]; rfl
      · rw [any_toT p2 q2, p4, q4]
    · cases e
end
end Ev
end

section
set_option Elab.async false
set_option autoImplicit false
set_option linter.all false
set_option maxRecDepth 100000
set_option maxHeartbeats 1000000
/-! EvE: comparisons, and, or, not, if, tests; displays; subscripts. -/
namespace Ev
open PySem L2
section
variable {L : Lk} {W : WX} {σ : St} {m m' : List Addr} {H H' : Hp} {env : Env} {h : Hs}
theorem cT_cE {f : Env → Hs → R D} {Q : Bool → Hp → Prop} (q : cT L W f σ H Q) : cE L W f σ H (fun x H1 => ∃ b, x = .bl b ∧ Q b H1) := by
  obtain ⟨m, env, h, S, ev, o⟩ := q
  refine ⟨m, env, h, S, ev, ?_⟩
  cases e : f env h with
  | ok d h' =>
    rw [e] at o
    cases d with
    | bl b =>
      intro m' H' v g S' r
      cases r
      exact ⟨b, rfl, o m' H' g S'⟩
    | _ => exact o.elim
  | exc c h' => rw [e] at o; exact o
  | bad => rw [e] at o; exact o
/-- a test first, then the rest of a run -/
theorem runT {Q' : Bool → Hp → Prop} {Q : VK} {f : Env → Hs → R D} {g : D → Hs → R D} (S : Sim L m H h) (ev : EnvR L.K m H env σ) (o : OutE L W σ m H Q ((f env h).bind g)) (nb : ∀ d h', (∀ b, d ≠ .bl b) → g d h' = .bad)
    (k : ∀ b h' m' H', Grow L.K m H m' H' → Sim L m' H' h' → EnvR L.K m' H' env σ → OutE L W σ m' H' Q (g (.bl b) h') → Q' b H') : cT L W f σ H Q' := by
  refine ⟨m, env, h, S, ev, ?_⟩
  cases e : f env h with
  | ok d h' =>
    rw [e] at o
    cases d with
    | bl b => exact fun m' H' g' S' => k b h' m' H' g' S' (ev.grow g') (OutE.mono g' o)
    | _ => rw [R.bind_ok, nb _ _ (by intro b; simp)] at o; exact o.elim
  | exc c h' => rw [e] at o; exact o
  | bad => rw [e] at o; exact o
theorem runTT {Q' : Bool → Hp → Prop} {Q : Bool → Hp → Prop} {f : Env → Hs → R D} {g : D → Hs → R D} (S : Sim L m H h) (ev : EnvR L.K m H env σ) (o : OutT L W σ m H Q ((f env h).bind g)) (nb : ∀ d h', (∀ b, d ≠ .bl b) → g d h' = .bad)
    (k : ∀ b h' m' H', Grow L.K m H m' H' → Sim L m' H' h' → EnvR L.K m' H' env σ → OutT L W σ m' H' Q (g (.bl b) h') → Q' b H') : cT L W f σ H Q' := by
  refine ⟨m, env, h, S, ev, ?_⟩
  cases e : f env h with
  | ok d h' =>
    rw [e] at o
    cases d with
    | bl b => exact fun m' H' g' S' => k b h' m' H' g' S' (ev.grow g') (OutT.mono g' o)
    | _ => rw [R.bind_ok, nb _ _ (by intro b; simp)] at o; exact o.elim
  | exc c h' => rw [e] at o; exact o
  | bad => rw [e] at o; exact o
theorem OutT.bl {Q : Bool → Hp → Prop} {k : Bool} (S : Sim L m H h) (o : OutT L W σ m H Q (.ok (.bl k) h)) : Q k H := o m H .refl S
end
section
variable {L : Lk} {W : WX} {X : L2.Cx} {c : Cx} {a b e d : Expr} {ia ib ic id : IE} {pos : Pos}
/-! ### comparisons -/
theorem i_cmp {op : COp} {r : R2} (hr : Op2 L r (copR op)) : ∀ σ H Q, cE L W (evE c (.cmp op ia ib)) σ H Q → tOp r (cE L W (evE c ia)) (cE L W (evE c ib)) σ H Q :=
  fun σ H Q ⟨m, env, h, S, ev, o⟩ => run1 S ev (by simpa only [evE] using o) fun d h1 m1 H1 v g1 S1 ev1 r1 o1 =>
    run1 S1 ev1 o1 fun d2 h2 m2 H2 v2 g2 S2 ev2 r2 o2 => hr W σ m2 H2 h2 d d2 v v2 Q S2 (r1.grow g2) r2 o2
theorem sE_cmp {op : COp} {pop : CmpOp} {r : R2} (ho : OpR X (compareOp pop) r) (hr : Op2 L r (copR op)) (ha : PE X a (cE L W (evE c ia))) (hb : PE X b (cE L W (evE c ib))) (hm : behindInMarks pop b = false) :
    PE X (.Compare a [pop] [b] pos) (cE L W (evE c (.cmp op ia ib))) := (pe_cmpR ho ha hb hm).imp (i_cmp hr)
theorem sT_cmp {op : COp} {pop : CmpOp} {r : R2} (ho : OpR X (compareOp pop) r) (hr : Op2 L r (copR op)) (ha : PE X a (cE L W (evE c ia))) (hb : PE X b (cE L W (evE c ib))) (hm : behindInMarks pop b = false) :
    PT X (.Compare a [pop] [b] pos) (cT L W (evE c (.cmp op ia ib))) := (pt_cmpR ho ha hb hm).imp fun σ H Q q => i_cmp hr σ H _ (cT_cE q)
theorem i_cmp2 {op op' : COp} {r r' : R2} (hr : ∀ (W : WX) (σ : St) (m : List Addr) (H : Hp) (h : Hs) (x y : D) (v u : V) (Q : VK), Sim L m H h → Rep L.K m H x v → Rep L.K m H y u → OutE L W σ m H Q (copR op x y h) → r v u H Q) (hr' : Op2 L r' (copR op')) :
    ∀ σ H Q, cE L W (evE c (.cmp2 op op' ia ib ic)) σ H Q → tChain r r' (cE L W (evE c ia)) (cE L W (evE c ib)) (cE L W (evE c ic)) σ H Q :=
  fun σ H Q ⟨m, env, h, S, ev, o⟩ => run1 S ev (by simpa only [evE] using o) fun d h1 m1 H1 v g1 S1 ev1 r1 o1 =>
    run1 S1 ev1 o1 fun d2 h2 m2 H2 v2 g2 S2 ev2 r2 o2 => by
      refine hr W σ m2 H2 h2 d d2 v v2 _ S2 (r1.grow g2) r2 ?_
      cases q : copR op d d2 h2 with
      | ok k h3 =>
        rw [q] at o2
        intro m3 H3 z g3 S3 r3
        have o3 := OutE.mono g3 o2
        rw [R.bind_ok] at o3
        cases k with
        | bl k =>
          cases r3
          refine ⟨k, rfl, ?_⟩
          cases k with
          | true =>
            rw [if_pos rfl]
            exact run1 S3 (ev2.grow g3) o3 fun d4 h4 m4 H4 v4 g4 S4 ev4 r4 o4 => hr' W σ m4 H4 h4 d2 d4 v2 v4 Q S4 ((r2.grow g3).grow g4) r4 o4
          | false =>
            rw [if_neg Bool.false_ne_true]
            exact OutE.bl S3 o3
        | _ => exact o3.elim
      | exc k h3 => rw [q] at o2; exact o2
      | bad => rw [q] at o2; exact o2
theorem sE_cmp2 {op op' : COp} {pop pop' : CmpOp} {r r' : R2} (ho : OpR X (compareOp pop) r) (hr : Op2 L r (copR op)) (ho' : OpR X (compareOp pop') r') (hr' : Op2 L r' (copR op')) (ha : PE X a (cE L W (evE c ia))) (hb : PE X b (cE L W (evE c ib))) (hd : PE X d (cE L W (evE c ic)))
    (hm : lastMarks [pop, pop'] [b, d] = false) : PE X (.Compare a [pop, pop'] [b, d] pos) (cE L W (evE c (.cmp2 op op' ia ib ic))) := (pe_chain ho ho' ha hb hd hm).imp (i_cmp2 hr hr')
theorem sT_cmp2 {op op' : COp} {pop pop' : CmpOp} {r r' : R2} (ho : OpR X (compareOp pop) r) (hr : Op2 L r (copR op)) (ho' : OpR X (compareOp pop') r') (hr' : Op2 L r' (copR op')) (ha : PE X a (cE L W (evE c ia))) (hb : PE X b (cE L W (evE c ib))) (hd : PE X d (cE L W (evE c ic)))
    (hm : lastMarks [pop, pop'] [b, d] = false) : PT X (.Compare a [pop, pop'] [b, d] pos) (cT L W (evE c (.cmp2 op op' ia ib ic))) := (pt_chain ho ho' ha hb hd hm).imp fun σ H Q q => i_cmp2 hr hr' σ H _ (cT_cE q)

/-! ### and, or, not -/
theorem i_and : ∀ σ H Q, cE L W (evE c (.and ia ib)) σ H Q → tAndV (cE L W (evE c ia)) (cE L W (evE c ib)) σ H Q :=
  fun σ H Q ⟨m, env, h, S, ev, o⟩ => run1 S ev (by simpa only [evE] using o) fun x h1 m1 H1 v g1 S1 ev1 r1 o1 => by
    cases x with
    | bl k =>
      cases r1
      refine ⟨k, rfl, ?_⟩
      cases k with
      | true =>
        rw [if_pos rfl]
        exact run1 S1 ev1 o1 fun y h2 m2 H2 u g2 S2 ev2 r2 o2 => by
          cases y with
          | bl k => cases r2; exact OutE.bl S2 o2
          | _ => exact o2.elim
      | false => rw [if_neg Bool.false_ne_true]; exact OutE.bl S1 o1
    | _ => exact o1.elim
theorem i_or : ∀ σ H Q, cE L W (evE c (.or ia ib)) σ H Q → tOrV (cE L W (evE c ia)) (cE L W (evE c ib)) σ H Q :=
  fun σ H Q ⟨m, env, h, S, ev, o⟩ => run1 S ev (by simpa only [evE] using o) fun x h1 m1 H1 v g1 S1 ev1 r1 o1 => by
    cases x with
    | bl k =>
      cases r1
      refine ⟨k, rfl, ?_⟩
      cases k with
      | true => rw [if_pos rfl]; exact OutE.bl S1 o1
      | false =>
        rw [if_neg Bool.false_ne_true]
        exact run1 S1 ev1 o1 fun y h2 m2 H2 u g2 S2 ev2 r2 o2 => by
          cases y with
          | bl k => cases r2; exact OutE.bl S2 o2
          | _ => exact o2.elim
    | _ => exact o1.elim
theorem sE_and {rest : List Expr} (ha : PE X a (cE L W (evE c ia))) (hb : PE X (.BoolOp .And (b :: rest) pos) (cE L W (evE c ib))) : PE X (.BoolOp .And (a :: b :: rest) pos) (cE L W (evE c (.and ia ib))) := (pe_and ha hb).imp i_and
theorem sE_or {rest : List Expr} (ha : PE X a (cE L W (evE c ia))) (hb : PE X (.BoolOp .Or (b :: rest) pos) (cE L W (evE c ib))) : PE X (.BoolOp .Or (a :: b :: rest) pos) (cE L W (evE c (.or ia ib))) := (pe_or ha hb).imp i_or
theorem iT_and : ∀ σ H Q, cT L W (evE c (.and ia ib)) σ H Q → tAnd (cT L W (evE c ia)) (cT L W (evE c ib)) σ H Q :=
  fun σ H Q ⟨m, env, h, S, ev, o⟩ => runTT S ev (by simpa only [evE] using o) (by
      intro d h' hd
      cases d <;> first | rfl | exact absurd rfl (hd _)) fun k h1 m1 H1 g1 S1 ev1 o1 => by
    cases k with
    | true =>
      rw [if_pos rfl]
      exact runTT S1 ev1 o1 (by
        intro d h' hd
        cases d <;> first | rfl | exact absurd rfl (hd _)) fun k h2 m2 H2 g2 S2 ev2 o2 => OutT.bl S2 o2
    | false => rw [if_neg Bool.false_ne_true]; exact OutT.bl S1 o1
theorem iT_or : ∀ σ H Q, cT L W (evE c (.or ia ib)) σ H Q → tOr (cT L W (evE c ia)) (cT L W (evE c ib)) σ H Q :=
  fun σ H Q ⟨m, env, h, S, ev, o⟩ => runTT S ev (by simpa only [evE] using o) (by
      intro d h' hd
      cases d <;> first | rfl | exact absurd rfl (hd _)) fun k h1 m1 H1 g1 S1 ev1 o1 => by
    cases k with
    | true => rw [if_pos rfl]; exact OutT.bl S1 o1
    | false =>
      rw [if_neg Bool.false_ne_true]
      exact runTT S1 ev1 o1 (by
        intro d h' hd
        cases d <;> first | rfl | exact absurd rfl (hd _)) fun k h2 m2 H2 g2 S2 ev2 o2 => OutT.bl S2 o2
theorem sW_and {rest : List Expr} (ha : PT X a (cT L W (evE c ia))) (hb : PW X (.BoolOp .And (b :: rest) pos) (cT L W (evE c ib))) : PW X (.BoolOp .And (a :: b :: rest) pos) (cT L W (evE c (.and ia ib))) := (pw_and ha hb).imp iT_and
theorem sW_or {rest : List Expr} (ha : PT X a (cT L W (evE c ia))) (hb : PW X (.BoolOp .Or (b :: rest) pos) (cT L W (evE c ib))) : PW X (.BoolOp .Or (a :: b :: rest) pos) (cT L W (evE c (.or ia ib))) := (pw_or ha hb).imp iT_or
theorem sE_not (ha : PE X a (cE L W (evE c ia))) : PE X (.UnaryOp .Not a pos) (cE L W (evE c (.not ia))) :=
  (pe_not ha).imp fun σ H Q ⟨m, env, h, S, ev, o⟩ => run1 S ev (by simpa only [evE] using o) fun x h1 m1 H1 v g1 S1 ev1 r1 o1 => by
    cases x with
    | bl k => cases r1; exact ⟨k, rfl, OutE.bl S1 o1⟩
    | _ => exact o1.elim
theorem sT_not (ha : PT X a (cT L W (evE c ia))) : PT X (.UnaryOp .Not a pos) (cT L W (evE c (.not ia))) :=
  (pt_not ha).imp fun σ H Q ⟨m, env, h, S, ev, o⟩ => runTT S ev (by simpa only [evE] using o) (by
      intro d h' hd
      cases d <;> first | rfl | exact absurd rfl (hd _)) fun k h1 m1 H1 g1 S1 ev1 o1 => OutT.bl S1 o1
theorem sE_neg (ha : PE X a (cE L W (evE c ia))) : PE X (.UnaryOp .USub a pos) (cE L W (evE c (.neg ia))) :=
  (pe_un un_neg ha).imp fun σ H Q ⟨m, env, h, S, ev, o⟩ => run1 S ev (by simpa only [evE] using o) fun x h1 m1 H1 v g1 S1 ev1 r1 o1 => by
    cases x with
    | int k => cases r1; exact ⟨k, rfl, o1 m1 H1 _ .refl S1 (.int _)⟩
    | _ => exact o1.elim
theorem sT_val (ha : PE X a (cE L W (evE c ia))) (he : ∀ whole, isTrue a X.env whole = (do let v ← whole; standAt a.pos; holding [v] (truthy v))) : PT X a (cT L W (evE c ia)) :=
  (pt_val ha he).imp fun σ H Q q => cT_cE q
theorem sE_ite (ht : PT X e (cT L W (evE c ic))) (ha : PE X a (cE L W (evE c ia))) (hb : PE X b (cE L W (evE c ib))) : PE X (.IfExp e a b pos) (cE L W (evE c (.ite ic ia ib))) :=
  (pe_ifExp ht ha hb).imp fun σ H Q ⟨m, env, h, S, ev, o⟩ => runT S ev (by simpa only [evE] using o) (by
      intro d h' hd
      cases d <;> first | rfl | exact absurd rfl (hd _)) fun k h1 m1 H1 g1 S1 ev1 o1 => by
    cases k with
    | true => rw [if_pos rfl]; exact ⟨m1, env, h1, S1, ev1, o1⟩
    | false => rw [if_neg Bool.false_ne_true]; exact ⟨m1, env, h1, S1, ev1, o1⟩

/-! ### argument lists, displays -/
variable {es : List Expr} {ies : IEs}
theorem sA_nil : PA X [] (cA L W (evEs c .nil)) := pa_nil.imp fun σ H Q ⟨m, env, h, S, ev, o⟩ => o m H [] .refl S .nil
theorem sA_cons (ha : PE X e (cE L W (evE c ia))) (hr : PA X es (cA L W (evEs c ies))) (hs : starEach (e :: es) X.env = (false, eval e X.env) :: starEach es X.env) : PA X (e :: es) (cA L W (evEs c (.cons ia ies))) :=
  (pa_cons ha hr hs).imp fun σ H Q ⟨m, env, h, S, ev, o⟩ => run1A (g := fun x h => (evEs c ies env h).bind fun xs h => .ok (x :: xs) h) S ev o fun x h1 m1 H1 v g1 S1 ev1 r1 o1 =>
    runAA (g := fun xs h => .ok (x :: xs) h) S1 ev1 o1 fun xs h2 m2 H2 vs g2 S2 ev2 rs o2 => o2 m2 H2 (v :: vs) .refl S2 (.cons (r1.grow g2) rs)
def lenIEs : IEs → Nat
  | .nil => 0
  | .cons _ es => lenIEs es + 1
theorem evEs_len : ∀ (es : IEs) (env : Env) (h : Hs) (ds : List D) (h' : Hs), evEs c es env h = .ok ds h' → ds.length = lenIEs es
  | .nil, env, h, ds, h', e => by
    have e' : R.ok (α := List D) [] h = .ok ds h' := e
    cases e'; rfl
  | .cons a es, env, h, ds, h', e => by
    have e' : (evE c a env h).bind (fun x h => (evEs c es env h).bind fun xs h => .ok (x :: xs) h) = .ok ds h' := e
    cases q : evE c a env h with
    | ok x h1 =>
      rw [q] at e'
      cases q2 : evEs c es env h1 with
      | ok xs h2 =>
        rw [R.bind_ok, q2] at e'
        cases e'
        rw [List.length_cons, evEs_len es env h1 xs _ q2]; rfl
      | exc k h2 => rw [R.bind_ok, q2] at e'; cases e'
      | bad => rw [R.bind_ok, q2] at e'; cases e'
    | exc k h2 => rw [q] at e'; cases e'
    | bad => rw [q] at e'; cases e'
theorem sE_tup {x1} (ha : PA X es (cA L W (evEs c ies))) (hl : lenIEs ies ≤ 1000) : PE X (.Tuple es x1 pos) (cE L W (evE c (.tup ies))) :=
  (pe_tup ha).imp fun σ H Q ⟨m, env, h, S, ev, o⟩ => runA (g := fun xs h => .ok (.tup xs) h) S ev o fun ds h1 m1 H1 vs e g1 S1 ev1 r1 o1 =>
    ⟨by have := evEs_len _ _ _ _ _ e; have := r1.len; rw [sizeLine_eq]; omega, fun p hp => o1 m1 _ _ (.side hp) (S1.side hp) (.tup (.inl (.inl upd_same)) (r1.grow (.side hp)))⟩
theorem sE_lst (ha : PA X es (cA L W (evEs c ies))) (hl : lenIEs ies ≤ 1000) : PE X (.List es pos) (cE L W (evE c (.lst ies))) :=
  (pe_lst ha).imp fun σ H Q ⟨m, env, h, S, ev, o⟩ => runA (g := fun xs h => .ok (.ref h.length) (h ++ [.lst xs])) S ev o fun ds h1 m1 H1 vs e g1 S1 ev1 r1 o1 =>
    ⟨by have := evEs_len _ _ _ _ _ e; have := r1.len; rw [sizeLine_eq]; omega, newLst S1 r1 o1⟩

/-! ### subscripts -/
theorem ixN_eq (n : Nat) (i : Int) : Ev.ixN n i = L2.ixN n i := rfl
theorem sIx_eq (n d : Nat) (o : Option Int) : Ev.sIx n d o = HT.sIx n d o := by cases o <;> rfl
theorem atI_rep {m : List Addr} {H : Hp} {xs : List D} {vs : List V} {i : Int} {d : D} (r : Reps L.K m H xs vs) (e : ((Ev.ixN xs.length i).bind fun j => xs[j]?) = some d) : ∃ v, atI vs i = some v ∧ Rep L.K m H d v := by
  unfold atI
  rw [← r.len, ← ixN_eq]
  cases q : Ev.ixN xs.length i with
  | none => rw [q] at e; cases e
  | some j =>
    rw [q] at e
    exact r.get e
def rIx1 (K : PySem.W.Frag) : R2 := fun x y H Q => rIxL K x y H Q ∨ rIxT K x y H Q ∨ rIxS x y H Q
theorem op2_ix {W : WX} {σ : St} {m : List Addr} {H : Hp} {h : Hs} {x y : D} {v u : V} {Q : VK} (S : Sim L m H h) (rx : Rep L.K m H x v) (ry : Rep L.K m H y u) (nd : ∀ a kvs, x = .ref a → h[a]? ≠ some (.dic kvs)) (o : OutE L W σ m H Q (R.opt (getIx x y h) h)) : rIx1 L.K v u H Q := by
  cases e : getIx x y h with
  | none => rw [e] at o; exact o.elim
  | some d =>
    rw [e] at o
    unfold getIx at e
    split at e
    · cases rx with
      | tup hx qx =>
        cases ry
        obtain ⟨w, hw, rw_⟩ := atI_rep qx e
        exact .inr (.inl ⟨_, _, _, w, rfl, rfl, hx, hw, o m H w .refl S rw_⟩)
    · rename_i s k
      cases rx; cases ry
      split at e
      · rename_i hs
        rw [Option.map_eq_some_iff] at e
        obtain ⟨ch, e, rfl⟩ := e
        refine .inr (.inr ⟨stx s, k, ch, rfl, rfl, by rw [stx_len, sizeL]; exact hs, ?_, o m H _ .refl S (.str [ch])⟩)
        rw [stx_cps]
        unfold atI
        rw [← ixN_eq]
        exact e
      · cases e
    · rename_i a i
      split at e
      · rename_i xs e1
        split at e
        · rename_i k
          cases ry
          obtain ⟨a1, rfl, _, vs, ha, qa⟩ := S.atR rx e1
          obtain ⟨w, hw, rw_⟩ := atI_rep qa e
          exact .inl ⟨_, _, _, w, rfl, rfl, .inl (.inl ha), hw, o m H w .refl S rw_⟩
        · cases e
      · rename_i kvs e1
        exact absurd e1 (nd _ kvs rfl)
      · cases e
    · cases e
end
end Ev
end

section
set_option Elab.async false
set_option autoImplicit false
set_option linter.all false
set_option maxRecDepth 100000
set_option maxHeartbeats 1000000
/-! EvF: dicts whose keys are texts, or tuples of any depth. -/
namespace Ev
open PySem L2
/-! ### keys -/
mutual
theorem nkey_inj : ∀ (n : Nat) (a b : D), keyIn n a = true → keyIn n b = true → nkey a = nkey b → a = b
  | 0, a, b, h, _, _ => by simp [keyIn] at h
  | n + 1, a, b, ha, hb, e => by
    cases a with
    | non => cases b <;> first | rfl | (simp [keyIn] at hb; done) | (simp [nkey] at e; done)
    | int i => cases b <;> first | (simp [keyIn] at hb; done) | (simp only [nkey] at e; cases e; rfl) | (simp [nkey] at e; done)
    | str s => cases b <;> first | (simp [keyIn] at hb; done) | (simp only [nkey] at e; rw [stx_inj (NestedKey.text.inj e)]) | (simp [nkey] at e; done)
    | tup xs =>
      cases b with
      | tup ys =>
        simp only [nkey] at e
        simp only [keyIn] at ha hb
        rw [nkeys_inj n xs ys ha hb (NestedKey.tup.inj e)]
      | _ => first | (simp [keyIn] at hb; done) | (simp [nkey] at e; done)
    | bl b => simp [keyIn] at ha
    | ref b => simp [keyIn] at ha
theorem nkeys_inj : ∀ (n : Nat) (a b : List D), a.all (keyIn n) = true → b.all (keyIn n) = true → nkeys a = nkeys b → a = b
  | _, [], [], _, _, _ => rfl
  | _, [], _ :: _, _, _, e => by simp [nkeys] at e
  | _, _ :: _, [], _, _, e => by simp [nkeys] at e
  | n, a :: as, b :: bs, ha, hb, e => by
    rw [List.all_cons, Bool.and_eq_true] at ha hb
    rw [nkeys, nkeys] at e
    injection e with e1 e2
    rw [nkey_inj n a b ha.1 hb.1 e1, nkeys_inj n as bs ha.2 hb.2 e2]
end
section
variable {L : Lk} {m : List Addr} {H : Hp} {X : L2.Cx} {pins : List (Addr × Obj)} {σ : St} {s : Shared}
mutual
theorem key_is (I : Inv X pins σ H s) (eK : X.K = L.K) : ∀ (n : Nat) (k : D) (v : V) (u : Value), keyIn n k = true → Rep L.K m H k v → RelV v u → NestedIs s.heap (nkey k) u ∧ (nkey k).depth ≤ n
  | 0, k, v, u, h, _, _ => by simp [keyIn] at h
  | n + 1, k, v, u, hk, r, ru => by
    cases r with
    | non => cases ru; exact ⟨.none, Nat.zero_le _⟩
    | bl b => simp [keyIn] at hk
    | int i => obtain ⟨t, rfl⟩ := ru; exact ⟨.int i t, Nat.zero_le _⟩
    | str x => obtain ⟨t, rfl⟩ := ru; exact ⟨.text _ t, Nat.zero_le _⟩
    | ref h => simp [keyIn] at hk
    | tup hx q =>
      cases ru
      rw [← eK] at hx
      obtain ⟨its, rv, ⟨o, ho, hc, nn, hd⟩, _⟩ := I.tuple hx
      simp only [keyIn] at hk
      obtain ⟨h1, h2⟩ := keys_are I eK n _ _ its hk q rv
      exact ⟨.tup ho hc hd h1, by show NestedKey.depthAll _ + 1 ≤ n + 1; omega⟩
theorem keys_are (I : Inv X pins σ H s) (eK : X.K = L.K) : ∀ (n : Nat) (ks : List D) (vs : List V) (us : List Value), ks.all (keyIn n) = true → Reps L.K m H ks vs → Vals vs us → NestedAll s.heap (nkeys ks) us ∧ NestedKey.depthAll (nkeys ks) ≤ n
  | n, [], vs, us, _, r, ru => by cases r; cases ru; exact ⟨.nil, Nat.zero_le _⟩
  | n, k :: ks, vs, us, hk, r, ru => by
    cases r with
    | cons r rs =>
      cases ru with
      | cons q qs =>
        rw [List.all_cons, Bool.and_eq_true] at hk
        obtain ⟨h1, h2⟩ := key_is I eK n k _ _ hk.1 r q
        obtain ⟨h3, h4⟩ := keys_are I eK n ks _ _ hk.2 rs qs
        exact ⟨.cons h1 h3, by show max _ _ ≤ n; omega⟩
end

theorem TupR.length {K : PySem.W.Frag} {kvs : List (D × D)} {ps : List (NestedKey × Addr × Value)} (r : TupR K m H kvs ps) : kvs.length = ps.length := by
  induction r with
  | nil => rfl
  | cons _ _ _ _ _ _ ih => simp [ih]
theorem TxtR.length {K : PySem.W.Frag} {kvs : List (D × D)} {ps : List (Key × V)} (r : TxtR K m H kvs ps) : kvs.length = ps.length := by
  induction r with
  | nil => rfl
  | cons _ _ ih => simp [ih]
theorem TupR.at_ {K : PySem.W.Frag} {kvs : List (D × D)} {ps : List (NestedKey × Addr × Value)} (r : TupR K m H kvs ps) {k : D} (hk : keyIn 8 k = true) :
    match dget k kvs with
    | some d => ∃ b v u, atKey ps (nkey k) = some (b, u) ∧ Rep K m H d v ∧ RelV v u
    | none => atKey ps (nkey k) = none := by
  induction r with
  | nil => rfl
  | @cons k' d b v u kvs ps ok tk rk r ru rs ih =>
    by_cases e : k' = k
    · subst e
      simp only [dget, if_pos rfl]
      exact ⟨b, v, u, by simp [atKey], r, ru⟩
    · have e2 : ¬ nkey k' = nkey k := fun q => e (nkey_inj 8 k' k ok hk q)
      simp only [dget, if_neg e]
      have : atKey ((nkey k', b, u) :: ps) (nkey k) = atKey ps (nkey k) := by simp [atKey, e2]
      rw [this]
      exact ih
theorem dput_new {k v : D} : ∀ {kvs : List (D × D)}, dget k kvs = none → dput k v kvs = kvs ++ [(k, v)]
  | [], _ => rfl
  | (k', w) :: r, h => by
    by_cases e : k' = k
    · simp [dget, e] at h
    · simp only [dget, if_neg e] at h
      simp only [dput, if_neg e, List.cons_append, dput_new h]
theorem TupR.snoc {K : PySem.W.Frag} {kvs : List (D × D)} {ps : List (NestedKey × Addr × Value)} (r : TupR K m H kvs ps) {k d : D} {b : Addr} {v : V} {u : Value} (hk : keyIn 8 k = true) (tk : isTup k = true) (rk : Rep K m H k (.ref b)) (rd : Rep K m H d v) (ru : RelV v u) :
    TupR K m H (kvs ++ [(k, d)]) (ps ++ [(nkey k, b, u)]) := by
  induction r with
  | nil => exact .cons hk tk rk rd ru .nil
  | cons ok tk' rk' r' ru' rs ih => exact .cons ok tk' rk' r' ru' ih
theorem TupR.map_none {K : PySem.W.Frag} {kvs : List (D × D)} {ps : List (NestedKey × Addr × Value)} {nk : NestedKey} {u : Value} (h : nk ∉ ps.map (·.1)) : ps.map (putAt nk u) = ps := map_putAt_of_not_mem ps nk u h
theorem TupR.put {K : PySem.W.Frag} {kvs : List (D × D)} {ps : List (NestedKey × Addr × Value)} (r : TupR K m H kvs ps) {k d : D} {b : Addr} {v : V} {u : Value} (hk : keyIn 8 k = true) (tk : isTup k = true) (rk : Rep K m H k (.ref b)) (rd : Rep K m H d v) (ru : RelV v u)
    (nd : (ps.map (·.1)).Nodup) : TupR K m H (dput k d kvs) (storedH ps (nkey k) b u) := by
  have hat := r.at_ hk
  cases e : dget k kvs with
  | none =>
    rw [e] at hat
    rw [dput_new e, storedH_new hat]
    exact r.snoc hk tk rk rd ru
  | some d0 =>
    rw [e] at hat
    obtain ⟨b0, v0, u0, h1, _⟩ := hat
    rw [storedH_old h1]
    clear h1
    induction r with
    | nil => simp [dget] at e
    | @cons k' d' b' v' u' kvs ps ok tk' rk' r' ru' rs ih =>
      rw [List.map_cons, List.nodup_cons] at nd
      by_cases e1 : k' = k
      · subst e1
        simp only [dput, if_pos rfl, List.map_cons, putAt, if_pos rfl]
        have : ps.map (putAt (nkey k') u) = ps := map_putAt_of_not_mem ps _ u nd.1
        rw [this]
        simp only [if_true]
        exact .cons ok tk' rk' rd ru rs
      · have e2 : ¬ nkey k' = nkey k := fun q => e1 (nkey_inj 8 k' k ok hk q)
        simp only [dput, if_neg e1, List.map_cons, putAt, if_neg e2]
        simp only [dget, if_neg e1] at e
        exact .cons ok tk' rk' r' ru' (ih nd.2 e)
/-- a dict with tuple keys (or an empty one), as the library tells it -/
theorem TupR.keys {K : PySem.W.Frag} {kvs : List (D × D)} {ps : List (NestedKey × Addr × Value)} (r : TupR K m H kvs ps) : ∀ x ∈ ps, ∃ k, nkey k = x.1 ∧ keyIn 8 k = true ∧ Rep K m H k (.ref x.2.1) := by
  induction r with
  | nil => intro x hx; cases hx
  | cons ok tk rk r ru rs ih =>
    intro x hx
    rcases List.mem_cons.mp hx with e | h
    · subst e; exact ⟨_, rfl, ok, rk⟩
    · exact ih x h
theorem dn_of (I : Inv X pins σ H s) (eK : X.K = L.K) (eP : X.prog = L.P) (ew : X.w = L.w) {a : Addr} {kvs : List (D × D)} (ob : ObR L m H a (.dic kvs)) (hk : kvs.all (fun p => isTup p.1) = true) :
    ∃ ps, TupR L.K m H kvs ps ∧ (a == sysModules) = false ∧ s.heap.DictOfH (nestedKind X.prog X.w) a ps ∧ kvs.length ≤ sizeLine := by
  rcases ob with ⟨ps, h, r⟩ | ⟨o, es, ep, ps, h, x1, x2, x3, r, x4, x5, x6, _⟩
  · have ek : kvs = [] := by
      cases r with
      | nil => rfl
      | cons r rs => simp [isTup] at hk
    subst ek
    cases r
    obtain ⟨z, hd, vs, kv, o, es, ep, h1, h2, h3, h4, h5, h6⟩ := I.hok a _ h
    cases kv
    refine ⟨[], .nil, hd, ⟨o, es, ep, h1, h2, h3, ?_, (fun x hx => by cases hx), List.nodup_nil⟩, Nat.zero_le _⟩
    cases q : es.toList with
    | nil => rfl
    | cons e r => rw [q] at h5; cases h5
  · obtain ⟨hφ, _, _⟩ := I.hok a _ h
    refine ⟨ps, r, x1, ⟨o, es, ep, hφ, x2, x3, by rw [eP, ew]; exact x4, ?_, x5⟩, x6⟩
    intro x hx
    obtain ⟨k, e1, e2, e3⟩ := r.keys x hx
    have q := key_is I eK 8 k _ _ e2 e3 rfl
    rw [e1] at q
    exact q
theorem TxtR.val {K : PySem.W.Frag} {kvs : List (D × D)} {ps : List (Key × V)} (r : TxtR K m H kvs ps) (t : Tx) :
    match dget (.str t) kvs with
    | some d => ∃ v, valV ps (.inr (stx t)) = some v ∧ Rep K m H d v
    | none => valV ps (.inr (stx t)) = none := by
  induction r with
  | nil => rfl
  | @cons s' d v kvs ps r rs ih =>
    by_cases e : s' = t
    · subst e
      simp only [dget, if_pos rfl]
      exact ⟨v, valV_pos rfl, r⟩
    · have e2 : ¬ D.str s' = D.str t := fun q => e (D.str.inj q)
      simp only [dget, if_neg e2]
      rw [valV_neg (p := (Sum.inr (stx s'), v)) (fun q => e (stx_inj (Sum.inr.inj q)))]
      exact ih
theorem TxtR.snoc {K : PySem.W.Frag} {kvs : List (D × D)} {ps : List (Key × V)} (r : TxtR K m H kvs ps) {t : Tx} {d : D} {v : V} (rd : Rep K m H d v) : TxtR K m H (kvs ++ [(.str t, d)]) (ps ++ [(.inr (stx t), v)]) := by
  induction r with
  | nil => exact .cons rd .nil
  | cons r' rs ih => exact .cons r' ih
theorem TxtR.keysN {K : PySem.W.Frag} {kvs : List (D × D)} {ps : List (Key × V)} (r : TxtR K m H kvs ps) {t : Tx} (h : (.inr (stx t)) ∉ ps.map (·.1)) : ∀ (y : V), (ps.map fun kv => if kv.1 = .inr (stx t) then (kv.1, y) else kv) = ps := by
  intro y
  induction r with
  | nil => rfl
  | cons r' rs ih =>
    rw [List.map_cons, List.mem_cons, not_or] at h
    rw [List.map_cons, ih h.2, if_neg (fun q => h.1 q.symm)]
theorem TxtR.put {K : PySem.W.Frag} {kvs : List (D × D)} {ps : List (Key × V)} (r : TxtR K m H kvs ps) {t : Tx} {d : D} {v : V} (rd : Rep K m H d v) (nd : (ps.map (·.1)).Nodup) : TxtR K m H (dput (.str t) d kvs) (putK ps (.inr (stx t)) v) := by
  have hat := r.val t
  cases e : dget (.str t) kvs with
  | none =>
    rw [e] at hat
    rw [dput_new e, putK_new v hat]
    exact r.snoc rd
  | some d0 =>
    rw [e] at hat
    obtain ⟨v0, h1, _⟩ := hat
    have hany : (ps.any fun kv => decide (kv.1 = .inr (stx t))) = true := by rw [valV_any, h1]; rfl
    unfold putK
    rw [if_pos hany]
    clear h1 hany
    induction r with
    | nil => simp [dget] at e
    | @cons s' d' v' kvs ps r' rs ih =>
      rw [List.map_cons, List.nodup_cons] at nd
      by_cases e1 : s' = t
      · subst e1
        simp only [dput, if_pos rfl, List.map_cons, if_true]
        rw [TxtR.keysN rs nd.1 v]
        exact .cons rd rs
      · have e2 : ¬ D.str s' = D.str t := fun q => e1 (D.str.inj q)
        have e3 : ¬ (Sum.inr (stx s') : Key) = Sum.inr (stx t) := fun q => e1 (stx_inj (Sum.inr.inj q))
        simp only [dput, if_neg e2, List.map_cons, if_neg e3]
        simp only [dget, if_neg e2] at e
        exact .cons r' (ih nd.2 e)
/-- a dict with text keys (or an empty one) -/
theorem dx_of {a : Addr} {kvs : List (D × D)} (ob : ObR L m H a (.dic kvs)) (hk : kvs.all (fun p => isTup p.1 == false) = true) : ∃ ps, H a = some (.dK ps) ∧ TxtR L.K m H kvs ps := by
  rcases ob with ⟨ps, h, r⟩ | ⟨o, es, ep, ps, h, x1, x2, x3, r, x4, x5, x6, x7⟩
  · exact ⟨ps, h, r⟩
  · cases r with
    | nil => exact absurd rfl x7
    | cons ok tk rk r ru rs => simp [tk] at hk
theorem dx_nodup (I : Inv X pins σ H s) {a : Addr} {ps : List (Key × V)} (h : H a = some (.dK ps)) : (ps.map (·.1)).Nodup := by
  obtain ⟨z, hd, vs, rel, o, es, ep, _, _, _, _, _, nd⟩ := I.hok a _ h
  rw [rel.keys]
  exact nd
structure XOk (L : Lk) (X : L2.Cx) : Prop where
  eK : X.K = L.K
  eP : X.prog = L.P
  ew : X.w = L.w
theorem kin_cases {k : D} {kvs : List (D × D)} (h : kinOk k kvs = true) : (∃ t, k = .str t ∧ kvs.all (fun p => isTup p.1 == false) = true) ∨ (isTup k = true ∧ keyIn 8 k = true ∧ kvs.all (fun p => isTup p.1) = true) := by
  unfold kinOk keyOk at h
  rw [Bool.and_eq_true, Bool.and_eq_true, Bool.or_eq_true] at h
  obtain ⟨⟨h1, h2⟩, h3⟩ := h
  rcases h2 with h2 | h2
  · rw [h2] at h3
    refine .inr ⟨h2, h1, ?_⟩
    rw [List.all_eq_true] at h3 ⊢
    intro x hx
    exact beq_iff_eq.mp (h3 x hx)
  · cases k with
    | str t => exact .inl ⟨t, rfl, h3⟩
    | _ => simp [isStr] at h2
theorem rep_tup_ref {K : PySem.W.Frag} {k : D} {v : V} (tk : isTup k = true) (r : Rep K m H k v) : ∃ b, v = .ref b := by
  cases r <;> first | exact ⟨_, rfl⟩ | (simp [isTup] at tk)
/-- k in d -/
def rDicIn (L : Lk) (neg : Bool) : R2 := fun x y H Q => ∃ m kvs a k, y = .ref a ∧ ObR L m H a (.dic kvs) ∧ Rep L.K m H k x ∧ kinOk k kvs = true ∧ Q (.bl (if neg then !(dget k kvs).isSome else (dget k kvs).isSome)) H
theorem op_dicIn (xo : XOk L X) (hu : X.A.units + 16 < cLine) : OpR X (compareOp .In) (rDicIn L false) := by
  intro pins s σ H x y v u Q I rx ry h
  obtain ⟨m, kvs, a, k, rfl, ob, rk, hk, q⟩ := h
  obtain rfl : u = Value.ref a := ry
  rcases kin_cases hk with ⟨t, rfl, hk⟩ | ⟨tk, ki, hk⟩
  · obtain ⟨ps, hH, r⟩ := dx_of ob hk
    cases rk
    refine d_in (by omega) I (DGet.k (k := .inr (stx t)) hH) rx fun s3 I3 => ⟨.bl _, H, I3, rfl, ?_⟩
    have hv := r.val t
    cases e : dget (.str t) kvs with
    | some d => rw [e] at hv q; obtain ⟨v0, h1, _⟩ := hv; rw [h1]; exact q
    | none => rw [e] at hv q; rw [hv]; exact q
  · obtain ⟨ps, r, hm, hd, hl⟩ := dn_of I xo.eK xo.eP xo.ew ob hk
    obtain ⟨b, rfl⟩ := rep_tup_ref tk rk
    obtain rfl : v = Value.ref b := rx
    refine wpAny_in_heap (by show X.A.in1.units + 8 < cLine; have : X.A.in1.units = X.A.units + 1 := rfl; omega) (key_is I xo.eK 8 k _ _ ki rk rfl) hm hd ⟨.bl _, H, I.tok _, rfl, ?_⟩
    have hv := r.at_ ki
    cases e : dget k kvs with
    | some d => rw [e] at hv q; obtain ⟨b0, v0, u0, h1, _⟩ := hv; rw [h1]; exact q
    | none => rw [e] at hv q; rw [hv]; exact q
theorem op_dicNotIn (xo : XOk L X) (hu : X.A.units + 16 < cLine) : OpR X (compareOp .NotIn) (rDicIn L true) := by
  intro pins s σ H x y v u Q I rx ry h
  obtain ⟨m, kvs, a, k, rfl, ob, rk, hk, q⟩ := h
  obtain rfl : u = Value.ref a := ry
  rcases kin_cases hk with ⟨t, rfl, hk⟩ | ⟨tk, ki, hk⟩
  · obtain ⟨ps, hH, r⟩ := dx_of ob hk
    cases rk
    refine d_notIn (by omega) I (DGet.k (k := .inr (stx t)) hH) rx fun s3 I3 => ⟨.bl _, H, I3, rfl, ?_⟩
    have hv := r.val t
    cases e : dget (.str t) kvs with
    | some d => rw [e] at hv q; obtain ⟨v0, h1, _⟩ := hv; rw [h1]; exact q
    | none => rw [e] at hv q; rw [hv]; exact q
  · obtain ⟨ps, r, hm, hd, hl⟩ := dn_of I xo.eK xo.eP xo.ew ob hk
    obtain ⟨b, rfl⟩ := rep_tup_ref tk rk
    obtain rfl : v = Value.ref b := rx
    show wpAny _ _ (do return Value.bool (!(← contains (.ref a) (.ref b)))) _ _ _
    refine wpAny_bind (wpAny_contains_heap (by show X.A.in1.units + 8 < cLine; have : X.A.in1.units = X.A.units + 1 := rfl; omega) (key_is I xo.eK 8 k _ _ ki rk rfl) hm hd (wpAny_pure ⟨.bl _, H, I.tok _, rfl, ?_⟩))
    have hv := r.at_ ki
    cases e : dget k kvs with
    | some d => rw [e] at hv q; obtain ⟨b0, v0, u0, h1, _⟩ := hv; rw [h1]; exact q
    | none => rw [e] at hv q; rw [hv]; exact q
/-- d[k] -/
def rDicIx (L : Lk) : R2 := fun x y H Q => ∃ m kvs a k d, x = .ref a ∧ ObR L m H a (.dic kvs) ∧ Rep L.K m H k y ∧ kinOk k kvs = true ∧ dget k kvs = some d ∧ ∀ v, Rep L.K m H d v → Q v H
theorem RelV.uniq {x y : V} {u : Value} (r : RelV x u) (q : RelV y u) : x = y := r.inj q
theorem ix_dic (xo : XOk L X) (hu : X.A.units + 16 < cLine) : IxR X (rDicIx L) := by
  intro value slice pins s σ H x y v u Q I rx ry h hs
  obtain ⟨m, kvs, a, k, d, rfl, ob, rk, hk, e, q⟩ := h
  obtain rfl : v = Value.ref a := rx
  rcases kin_cases hk with ⟨t, rfl, hk⟩ | ⟨tk, ki, hk⟩
  · obtain ⟨ps, hH, r⟩ := dx_of ob hk
    cases rk
    have hv := r.val t
    rw [e] at hv
    obtain ⟨v0, h1, r1⟩ := hv
    have g : DGet H a (.str (stx t)) (some v0) := by rw [← h1]; exact DGet.k (k := .inr (stx t)) hH
    exact PyProof.Rows.tail_any (dict_typeIs I g) PySem.F.slot_dict_getitem.lookup (d_getItem (by omega) I g ry fun w' s3 I3 rw' => ⟨v0, H, I3, rw', q v0 r1⟩) hs
  · obtain ⟨ps, r, hm, hd, hl⟩ := dn_of I xo.eK xo.eP xo.ew ob hk
    obtain ⟨b, rfl⟩ := rep_tup_ref tk rk
    obtain rfl : u = Value.ref b := ry
    have hv := r.at_ ki
    rw [e] at hv
    obtain ⟨b0, v0, u0, h1, r1, r2⟩ := hv
    exact PyProof.Rows.tail_any hd.typeIs PySem.F.slot_dict_getitem.lookup (wpAny_getItem_heap (by show X.A.in1.units + 8 < cLine; have : X.A.in1.units = X.A.units + 1 := rfl; omega) (key_is I xo.eK 8 k _ _ ki rk rfl) hd h1 ⟨v0, H, I.tok _, r2, q v0 r1⟩) hs
/-- what a store makes of the heap: an object at a, that may be written, with the new pairs -/
def NewDic (L : Lk) (m : List Addr) (H : Hp) (a : Addr) (kvs : List (D × D)) (k : Hp → Prop) : Prop := ∀ o, Mut (some o) → ObR L m (L2.upd H a o) a (.dic kvs) → k (L2.upd H a o)
theorem stored_len {ps : List (NestedKey × Addr × Value)} {nk : NestedKey} {b : Addr} {u : Value} : (storedH ps nk b u).length ≤ ps.length + 1 := by
  unfold storedH
  split
  · simp
  · simp
theorem dput_ne {k d : D} {kvs : List (D × D)} : dput k d kvs ≠ [] := by
  cases kvs with
  | nil => simp [dput]
  | cons p r => obtain ⟨k', v'⟩ := p; unfold dput; split <;> simp
theorem mut_dic {a : Addr} {kvs : List (D × D)} (ob : ObR L m H a (.dic kvs)) : Mut (H a) := by
  obtain ⟨u, e, mu⟩ := ob.tracked
  rw [e]
  exact mu
/-- d[k] = v with a tuple key, behind the library's store -/
theorem dn_put (I : Inv X pins σ H s) (xo : XOk L X) {a b : Addr} {kvs : List (D × D)} {k d : D} {v : V} {u : Value} {h' : Heap} {t' : Nat} {ps : List (NestedKey × Addr × Value)} {Q : Hp → Prop} (ob : ObR L m H a (.dic kvs)) (r : TupR L.K m H kvs ps) (nd : (ps.map (·.1)).Nodup)
    (hm : (a == sysModules) = false) (hl : kvs.length < LIM) (ki : keyIn 8 k = true) (tk : isTup k = true) (rk : Rep L.K m H k (.ref b)) (rd : Rep L.K m H d v) (ru : RelV v u)
    (dd : h'.DictOfH (nestedKind X.prog X.w) a (storedH ps (nkey k) b u)) (hs : Heap.SameBut a s.heap h') (q : NewDic L m H a (dput k d kvs) Q) : ∃ H', Inv X pins σ H' { s with heap := h', toks := t' } ∧ Q H' := by
  obtain ⟨o, es, ep, ho, h2, h3, h4, h5, h6⟩ := dd
  have mu := mut_dic ob
  refine ⟨L2.upd H a (objH o a), d_write I mu hs ⟨o, ho⟩ ⟨ho, ⟨o, ho⟩, fun h1 h2 e f => f o e⟩, q _ trivial ?_⟩
  have g : Grow L.K m H m (L2.upd H a (objH o a)) := Grow.upd fun u e => by rw [e] at mu; exact mu
  refine .inr ⟨o, es, ep, storedH ps (nkey k) b u, upd_same, hm, h2, h3, (r.put ki tk rk rd ru nd).grow g, by rw [← xo.eP, ← xo.ew]; exact h4, h6, ?_, dput_ne⟩
  have e1 := (r.put ki tk rk rd ru nd).length
  have e2 := r.length
  have e3 := stored_len (ps := ps) (nk := nkey k) (b := b) (u := u)
  rw [sizeL]
  omega
theorem dx_put (I : Inv X pins σ H s) {a : Addr} {kvs : List (D × D)} {t : Tx} {d : D} {v : V} {ps : List (Key × V)} {Q : Hp → Prop} (hH : H a = some (.dK ps)) (r : TxtR L.K m H kvs ps) (rd : Rep L.K m H d v) (q : NewDic L m H a (dput (.str t) d kvs) Q) : Q (L2.upd H a (.dK (putK ps (.inr (stx t)) v))) := by
  refine q _ trivial (.inl ⟨_, upd_same, ?_⟩)
  have g : Grow L.K m H m (L2.upd H a (.dK (putK ps (.inr (stx t)) v))) := Grow.upd fun u e => by rw [hH] at e; cases e; trivial
  exact (r.put rd (dx_nodup I hH)).grow g
def rDicSet (L : Lk) : TSet := fun o i v H Q => ∃ m kvs a k d, o = .ref a ∧ ObR L m H a (.dic kvs) ∧ Rep L.K m H k i ∧ Rep L.K m H d v ∧ kinOk k kvs = true ∧ kvs.length < LIM ∧ NewDic L m H a (dput k d kvs) Q
theorem set_dic (xo : XOk L X) (hu : X.A.units + 16 < cLine) : PSet X (rDicSet L) := by
  intro pins s σ H o i v ov iv u Q I ro ri rv h
  obtain ⟨m, kvs, a, k, d, rfl, ob, rk, rd, hk, hl, q⟩ := h
  obtain rfl : ov = Value.ref a := ro
  rcases kin_cases hk with ⟨t, rfl, hk⟩ | ⟨tk, ki, hk⟩
  · obtain ⟨ps, hH, r⟩ := dx_of ob hk
    cases rk
    exact d_setItem (by omega) I (DPut.k (k := .inr (stx t)) (v := v) hH (by rw [← r.length, sizeL]; exact hl)) ri rv fun s' I' => ⟨_, I', dx_put I hH r rd q⟩
  · obtain ⟨ps, r, hm, hd, hz⟩ := dn_of I xo.eK xo.eP xo.ew ob hk
    obtain ⟨b, rfl⟩ := rep_tup_ref tk rk
    obtain rfl : iv = Value.ref b := ri
    obtain ⟨_, _, _, _, _, _, _, _, nd⟩ := id hd
    exact wpAny_setItem_heap (hsz := by rw [← r.length]; exact hz) (by show X.A.in1.units + 8 < cLine; have : X.A.in1.units = X.A.units + 1 := rfl; omega) (key_is I xo.eK 8 k _ _ ki rk rfl) hd fun h' dd' hs =>
      dn_put I xo ob r nd hm hl ki tk rk rd rv dd' hs q
/-- d.get(k, x) -/
def rDicGet (L : Lk) : V → List V → Hp → VK → Prop := fun o xs H Q => ∃ m kvs a k d, o = .ref a ∧ ObR L m H a (.dic kvs) ∧ kinOk k kvs = true ∧ (∃ i w, xs = [i, w] ∧ Rep L.K m H k i ∧ Rep L.K m H d w) ∧ ∀ v, Rep L.K m H ((dget k kvs).getD d) v → Q v H
theorem mt_dicGet (xo : XOk L X) (hu : X.A.units + 16 < cLine) : MtR X "dict.get" (rDicGet L) := by
  intro pins s σ H x xs v us Q I rx rxs h
  obtain ⟨m, kvs, a, k, d, rfl, ob, hk, ⟨i, w, rfl, rk, rd⟩, q⟩ := h
  obtain rfl : v = Value.ref a := rx
  obtain ⟨iu, wu, rfl, ri, rw'⟩ := Vals.two rxs
  rcases kin_cases hk with ⟨t, rfl, hk⟩ | ⟨tk, ki, hk⟩
  · obtain ⟨ps, hH, r⟩ := dx_of ob hk
    cases rk
    refine d_get2 (by omega) I (DGet.k (k := .inr (stx t)) hH) ri rw' fun w' s' I' rr => ⟨_, H, I', rr, q _ ?_⟩
    have hv := r.val t
    cases e : dget (.str t) kvs with
    | some d => rw [e] at hv; obtain ⟨v0, h1, h2⟩ := hv; rw [h1]; exact h2
    | none => rw [e] at hv; rw [hv]; exact rd
  · obtain ⟨ps, r, hm, hd, hz⟩ := dn_of I xo.eK xo.eP xo.ew ob hk
    obtain ⟨b, rfl⟩ := rep_tup_ref tk rk
    obtain rfl : iu = Value.ref b := ri
    have hv := r.at_ ki
    refine call_meetsIn PySem.F.slot_dict_get hd.typeIs PySem.F.entry_dict_get (PySem.F.args_dict_get_3 _ _ _) (meetsH_dict_get_default (nestedKind X.prog X.w) a b hm wu) ⟨by show X.A.in1.units + 8 < cLine; have : X.A.in1.units = X.A.units + 1 := rfl; omega, nkey k, ps, key_is I xo.eK 8 k _ _ ki rk rfl, hd, ?_⟩
    cases e : dget k kvs with
    | some d' => rw [e] at hv q; obtain ⟨b0, v0, u0, h1, h2, h3⟩ := hv; rw [h1]; exact ⟨v0, H, I.tok _, h3, q v0 h2⟩
    | none => rw [e] at hv q; rw [hv]; exact ⟨w, H, I.tok _, rw', q w rd⟩
end
end Ev
end

section
set_option Elab.async false
set_option autoImplicit false
set_option linter.all false
set_option maxRecDepth 100000
set_option maxHeartbeats 1000000
/-! EvG: comparisons by in; subscripts, slices; fields; methods of built-in types. -/
namespace Ev
open PySem L2
section
variable {L : Lk} {W : WX} {X : L2.Cx} {c : Cx} {a b e d : Expr} {ia ib ic id : IE} {es : List Expr} {ies : IEs} {pos : Pos}
def rIn' (L : Lk) (neg : Bool) : R2 := fun x y H Q => rInS neg x y H Q ∨ rIn L.K neg x y H Q ∨ rInDt L.K neg x y H Q ∨ rDicIn L neg x y H Q
theorem mem_in {neg : Bool} {m : List Addr} {H : Hp} {h : Hs} {x : D} {ys : List D} {v : V} {vs : List V} {p : Addr} {k : Bool} {Q : VK} (S : Sim L m H h) (rx : Rep L.K m H x v) (ry : Reps L.K m H ys vs) (hs : SqL L.K H p vs ∨ SqT L.K H p vs) (e : dmem h x ys = some k)
    (q : Q (.bl (if neg then !k else k)) H) : rIn' L neg v (.ref p) H Q := by
  rcases dmem_sound S rx ry e with ⟨h1, h2, h3⟩ | ⟨d, ds, h1, h2, h3, h4, h5⟩
  · subst h3
    exact .inr (.inl ⟨p, vs, rfl, hs, h1, h2, q⟩)
  · refine .inr (.inr (.inl ⟨d, ds, h1, ?_, h3, h4, by rw [h5]; exact q⟩))
    rcases hs with hs | hs
    · exact .inl (.lst hs h2)
    · exact .inr (.tup hs h2)
theorem op2_inn : Op2 L (rIn' L false) (copR .inn) := by
  intro W σ m H h x y v u Q S rx ry o
  unfold copR cop at o
  split at o <;> rename_i e <;> simp only at e
  · split at e
    · split at e
      · split at e
        · cases e
        · rename_i hs
          cases rx; cases ry; cases e
          refine .inl ⟨_, _, rfl, rfl, ?_⟩
          rw [occ_in _ _ (by simpa using hs)]
          exact OutE.bl S o
      · cases e
    · cases ry with
      | tup hy qy => exact mem_in S rx qy (.inr hy) e (OutE.bl S o)
    · split at e
      · rename_i ys e1
        obtain ⟨a1, rfl, _, vs, ha, qa⟩ := S.atR ry e1
        exact mem_in S rx qa (.inl (.inl (.inl ha))) e (OutE.bl S o)
      · rename_i kvs e1
        split at e
        · rename_i hk
          cases e
          obtain ⟨a1, rfl, _, ob⟩ := S.atR ry e1
          exact .inr (.inr (.inr ⟨m, kvs, a1, x, rfl, ob, rx, hk, OutE.bl S o⟩))
        · cases e
      · cases e
    · cases e
  · exact o.elim
theorem op2_nin : Op2 L (rIn' L true) (copR .nin) := by
  intro W σ m H h x y v u Q S rx ry o
  unfold copR cop at o
  split at o <;> rename_i e <;> simp only at e
  · split at e
    · split at e
      · split at e
        · cases e
        · rename_i hs
          cases rx; cases ry; cases e
          refine .inl ⟨_, _, rfl, rfl, ?_⟩
          rw [occ_in _ _ (by simpa using hs)]
          exact OutE.bl S o
      · cases e
    · rw [Option.map_eq_some_iff] at e
      obtain ⟨k, e, rfl⟩ := e
      cases ry with
      | tup hy qy => exact mem_in S rx qy (.inr hy) e (OutE.bl S o)
    · split at e
      · rename_i ys e1
        rw [Option.map_eq_some_iff] at e
        obtain ⟨k, e, rfl⟩ := e
        obtain ⟨a1, rfl, _, vs, ha, qa⟩ := S.atR ry e1
        exact mem_in S rx qa (.inl (.inl (.inl ha))) e (OutE.bl S o)
      · rename_i kvs e1
        split at e
        · rename_i hk
          cases e
          obtain ⟨a1, rfl, _, ob⟩ := S.atR ry e1
          exact .inr (.inr (.inr ⟨m, kvs, a1, x, rfl, ob, rx, hk, OutE.bl S o⟩))
        · cases e
      · cases e
    · cases e
  · exact o.elim
theorem or_in (xo : XOk L X) (hu : X.A.units + 65 < cLine) : OpR X (compareOp .In) (rIn' L false) := by
  have h := (op_inS (X := X)).or ((op_in_seq (X := X)).or ((op_inDt (X := X) hu).or (op_dicIn (L := L) xo (by omega))))
  rw [xo.eK] at h
  exact h
theorem or_nin (xo : XOk L X) (hu : X.A.units + 65 < cLine) : OpR X (compareOp .NotIn) (rIn' L true) := by
  have h := (op_notInS (X := X)).or ((op_notIn_seq (X := X)).or ((op_notInDt (X := X) hu).or (op_dicNotIn (L := L) xo (by omega))))
  rw [xo.eK] at h
  exact h

/-! ### subscripts -/
theorem ix_all (xo : XOk L X) (hu : X.A.units + 16 < cLine) : IxR X (fun x y H Q => rIx1 L.K x y H Q ∨ rDicIx L x y H Q) := by
  have h := (ix_seq (X := X)).or (ix_dic (L := L) xo hu)
  rw [xo.eK] at h
  exact h
theorem sE_idx (xo : XOk L X) (hu : X.A.units + 16 < cLine) (ha : PE X a (cE L W (evE c ia))) (hb : PE X b (cE L W (evE c ib))) (hs : PlainIx b) : PE X (.Subscript a b pos) (cE L W (evE c (.idx ia ib))) :=
  (pe_ix (ix_all xo hu) ha hb hs).imp fun σ H Q ⟨m, env, h, S, ev, o⟩ => run1 (g := fun x h => (evE c ib env h).bind fun y h => R.opt (getIx x y h) h) S ev o fun x h1 m1 H1 v g1 S1 ev1 r1 o1 =>
    run1 (g := fun y h => R.opt (getIx x y h) h) S1 ev1 o1 fun y h2 m2 H2 u g2 S2 ev2 r2 o2 => by
      have rx := r1.grow g2
      by_cases hd : ∃ a kvs, x = .ref a ∧ h2[a]? = some (.dic kvs)
      · obtain ⟨a, kvs, rfl, e1⟩ := hd
        obtain ⟨a1, rfl, _, ob⟩ := S2.atR rx e1
        cases e : getIx (.ref a) y h2 with
        | none => rw [e] at o2; exact o2.elim
        | some z =>
          rw [e] at o2
          unfold getIx at e
          simp only [e1] at e
          split at e
          · rename_i hk
            exact .inr ⟨m2, kvs, a1, y, z, rfl, ob, r2, hk, e, fun w rw_ => o2 m2 H2 w .refl S2 rw_⟩
          · cases e
      · exact .inl (op2_ix S2 rx r2 (fun a kvs e1 e2 => hd ⟨a, kvs, e1, e2⟩) o2)
/-! ### slices -/
theorem cut_rep {m : List Addr} {H : Hp} {xs : List D} {vs : List V} (r : Reps L.K m H xs vs) (lo hi : Option Int) : Reps L.K m H (cut xs lo hi) (cutV vs lo hi) := by
  unfold cut cutV
  rw [← r.len, sIx_eq, sIx_eq]
  exact (r.drop _).take _
theorem cut_str (s : Tx) (lo hi : Option Int) : cutS (stx s) lo hi = stx (cut s lo hi) := by
  unfold cutS cut stx
  have e1 : (Str.mk s.toArray).length = s.length := by simp [Str.length]
  rw [e1, sIx_eq, sIx_eq]
def rSlU (L : Lk) : V → Option Int → Option Int → Hp → VK → Prop := fun x lo hi H Q => rSlS x lo hi H Q ∨ rSlA L.K x lo hi H Q ∨ rSlL L.K x lo hi H Q
theorem sl_all (xo : XOk L X) : SlR X (rSlU L) := by
  have h := (sl_str (X := X)).or ((sl_tupA (X := X)).or (sl_list (X := X)))
  rw [xo.eK] at h
  exact h
theorem sl_step {W : WX} {σ : St} {m : List Addr} {H : Hp} {h : Hs} {x : D} {v : V} {l u : Option Int} {Q : VK} (S : Sim L m H h) (rx : Rep L.K m H x v) (o : OutE L W σ m H Q (getSl x l u h)) : rSlU L v l u H Q := by
  unfold getSl at o
  split at o
  · rename_i s
    cases rx
    split at o
    · rename_i hl
      refine .inl ⟨_, rfl, by rw [stx_len, sizeL]; exact hl, ?_⟩
      rw [cut_str]
      exact o m H _ .refl S (.str _)
    · exact o.elim
  · rename_i xs
    cases rx with
    | tup hx qx =>
      rename_i ax vs
      refine .inr (.inl ⟨ax, vs, rfl, hx, fun ⟨e1, e2⟩ => ?_, fun _ p hp => ?_⟩)
      · have e : cut xs l u = xs := by
          unfold cut
          rw [sIx_eq, sIx_eq, qx.len, e1, e2]
          simp [← qx.len]
        rw [e] at o
        exact o m H _ .refl S (.tup hx qx)
      · exact o m _ _ (.side hp) (S.side hp) (.tup (.inl (.inl upd_same)) ((cut_rep qx l u).grow (.side hp)))
  · rename_i i
    split at o
    · rename_i xs e1
      obtain ⟨a1, rfl, _, vs, ha, qa⟩ := S.atR rx e1
      exact .inr (.inr ⟨a1, vs, rfl, .inl (.inl ha), newLst S (cut_rep qa l u) o⟩)
    · exact o.elim
  · exact o.elim
theorem sE_slc {p2 : Pos} (xo : XOk L X) (ha : PE X a (cE L W (evE c ia))) (hl : PE X b (cE L W (evE c ib))) (hh : PE X d (cE L W (evE c id))) : PE X (.Subscript a (.Slice (some b) (some d) none p2) pos) (cE L W (evE c (.slc ia ib id))) :=
  (pe_slice (sl_all xo) ha (po_some hl) (po_some hh)).imp fun σ H Q ⟨m, env, h, S, ev, o⟩ => run1 (g := fun x h => (evE c ib env h).bind fun l h => match l with
    | .int i => (evE c id env h).bind fun u h => match u with
      | .int j => getSl x (some i) (some j) h
      | _ => .bad
    | _ => .bad) S ev o fun x h1 m1 H1 v g1 S1 ev1 r1 o1 => run1 S1 ev1 o1 fun l h2 m2 H2 lv g2 S2 ev2 r2 o2 => by
      cases l with
      | int i =>
        cases r2
        refine ⟨i, rfl, run1 S2 ev2 o2 fun u h3 m3 H3 uv g3 S3 ev3 r3 o3 => ?_⟩
        cases u with
        | int j => cases r3; exact ⟨j, rfl, sl_step S3 ((r1.grow g2).grow g3) o3⟩
        | _ => exact o3.elim
      | _ => exact o2.elim
theorem sE_slcF {p2 : Pos} (xo : XOk L X) (ha : PE X a (cE L W (evE c ia))) (hl : PE X b (cE L W (evE c ib))) : PE X (.Subscript a (.Slice (some b) none none p2) pos) (cE L W (evE c (.slcF ia ib))) :=
  (pe_slice (sl_all xo) ha (po_some hl) po_none).imp fun σ H Q ⟨m, env, h, S, ev, o⟩ => run1 (g := fun x h => (evE c ib env h).bind fun l h => match l with
    | .int i => getSl x (some i) none h
    | _ => .bad) S ev o fun x h1 m1 H1 v g1 S1 ev1 r1 o1 => run1 S1 ev1 o1 fun l h2 m2 H2 lv g2 S2 ev2 r2 o2 => by
      cases l with
      | int i => cases r2; exact ⟨i, rfl, sl_step S2 (r1.grow g2) o2⟩
      | _ => exact o2.elim
theorem sE_slcT {p2 : Pos} (xo : XOk L X) (ha : PE X a (cE L W (evE c ia))) (hl : PE X b (cE L W (evE c ib))) : PE X (.Subscript a (.Slice none (some b) none p2) pos) (cE L W (evE c (.slcT ia ib))) :=
  (pe_slice (sl_all xo) ha po_none (po_some hl)).imp fun σ H Q ⟨m, env, h, S, ev, o⟩ => run1 (g := fun x h => (evE c ib env h).bind fun l h => match l with
    | .int i => getSl x none (some i) h
    | _ => .bad) S ev o fun x h1 m1 H1 v g1 S1 ev1 r1 o1 => run1 S1 ev1 o1 fun l h2 m2 H2 lv g2 S2 ev2 r2 o2 => by
      cases l with
      | int i => cases r2; exact ⟨i, rfl, sl_step S2 (r1.grow g2) o2⟩
      | _ => exact o2.elim
theorem sE_rev {k : Nat} {p1 p2 p3 : Pos} (xo : XOk L X) (ha : PE X a (cE L W (evE c ia))) : PE X (.Subscript a (.Slice none none (some (.UnaryOp .USub (.Constant (.int 1) k p1) p2)) p3) pos) (cE L W (evE c (.rev ia))) :=
  (pe_revL ha).imp fun σ H Q ⟨m, env, h, S, ev, o⟩ => run1 (g := fun x h => match x with
    | .ref a => match h[a]? with
      | some (.lst xs) => .ok (.ref h.length) (h ++ [.lst xs.reverse])
      | _ => .bad
    | _ => .bad) S ev o fun x h1 m1 H1 v g1 S1 ev1 r1 o1 => by
      split at o1
      · split at o1
        · rename_i xs e1
          obtain ⟨a1, rfl, _, vs, ha, qa⟩ := S1.atR r1 e1
          exact ⟨a1, vs, rfl, .inl (.inl ha), newLst S1 qa.rev o1⟩
        · exact o1.elim
      · exact o1.elim
/-! ### fields -/
theorem FldR.get {m : List Addr} {H : Hp} (nd : L.nm.fldL.Nodup) {fs : List (Nat × D)} {gs : List (Str × V)} (r : FldR L m H fs gs) {i : Nat} {x : Str} (hi : L.nm.fldL[i]? = some x) : match fget i fs with
    | some d => ∃ v, gs.lookup x = some v ∧ Rep L.K m H d v
    | none => gs.lookup x = none := by
  induction r with
  | nil => rfl
  | @cons j y d v fs gs n r rs ih =>
    by_cases e : j = i
    · subst e
      rw [hi] at n
      cases n
      simp only [fget, if_pos rfl]
      exact ⟨v, by simp [List.lookup_cons], r⟩
    · simp only [fget, if_neg e]
      have e2 : (x == y) = false := by
        refine beq_eq_false_iff_ne.mpr fun q => e ?_
        subst q
        obtain ⟨h1, q1⟩ := List.getElem?_eq_some_iff.mp n
        obtain ⟨h2, q2⟩ := List.getElem?_eq_some_iff.mp hi
        exact (List.getElem_inj nd).mp (q1.trans q2.symm)
      rw [List.lookup_cons, e2]
      exact ih
theorem FldR.look_none {m : List Addr} {H : Hp} {fs : List (Nat × D)} {gs : List (Str × V)} (r : FldR L m H fs gs) {x : Str} (hx : x ∉ L.nm.fldL) : gs.lookup x = none := by
  induction r with
  | nil => rfl
  | @cons j y d v fs gs n r rs ih =>
    have e2 : (x == y) = false := beq_eq_false_iff_ne.mpr fun q => hx (by subst q; exact List.mem_of_getElem? n)
    rw [List.lookup_cons, e2]
    exact ih
theorem FldR.put {m : List Addr} {H : Hp} (nd : L.nm.fldL.Nodup) {fs : List (Nat × D)} {gs : List (Str × V)} (r : FldR L m H fs gs) {i : Nat} {x : Str} (hi : L.nm.fldL[i]? = some x) {d : D} {v : V} (rd : Rep L.K m H d v) : FldR L m H (fput i d fs) (putF x v gs) := by
  induction r with
  | nil => exact .cons hi rd .nil
  | @cons j y d' v' fs gs n r rs ih =>
    by_cases e : j = i
    · subst e
      rw [hi] at n
      cases n
      simp only [fput, if_pos rfl, putF, if_pos rfl]
      exact .cons hi rd rs
    · have e2 : ¬ y = x := fun q => by
        subst q
        obtain ⟨h1, q1⟩ := List.getElem?_eq_some_iff.mp n
        obtain ⟨h2, q2⟩ := List.getElem?_eq_some_iff.mp hi
        exact e ((List.getElem_inj nd).mp (q1.trans q2.symm))
      simp only [fput, if_neg e, putF, if_neg e2]
      exact .cons n r ih
theorem FldR.length {m : List Addr} {H : Hp} {fs : List (Nat × D)} {gs : List (Str × V)} (r : FldR L m H fs gs) : fs.length = gs.length := by
  induction r with
  | nil => rfl
  | cons n r rs ih => simp [ih]
/-- what of the text the classes must have -/
structure ClsOk (L : Lk) (K : PySem.W.Frag) : Prop where
  nd : L.nm.fldL.Nodup
  mf : ∀ x ∈ L.nm.metL, x ∉ L.nm.fldL
  cls : ∀ k x, L.nm.clsN k = some x → Cls K (L.ca k) ∧ ∀ (i : Nat) (f : Str), L.nm.fldL[i]? = some f → NoAttr K (L.ca k) f
theorem sE_fld {f : Nat} {x : Str} (xo : XOk L X) (co : ClsOk L X.K) (hx : L.nm.fldL[f]? = some x) (ha : PE X a (cE L W (evE c ia))) (hb : attributeBase a x X.env (eval a X.env) = eval a X.env) : PE X (.Attribute a x pos) (cE L W (evE c (.fld ia f))) :=
  (pe_fld ha hb).imp fun σ H Q ⟨m, env, h, S, ev, o⟩ => run1 (g := fun x h => R.opt (getFld x f h) h) S ev o fun d h1 m1 H1 v g1 S1 ev1 r1 o1 => by
    cases e : getFld d f h1 with
    | none => rw [e] at o1; exact o1.elim
    | some z =>
      rw [e] at o1
      unfold getFld at e
      split at e
      · split at e
        · rename_i k fs e1
          obtain ⟨a1, rfl, _, dx, gs, hH, fr, y, hy⟩ := S1.atR r1 e1
          have q := fr.get co.nd hx
          rw [e] at q
          obtain ⟨w, hw, rw_⟩ := q
          obtain ⟨c1, c2⟩ := co.cls k y hy
          exact ⟨a1, _, dx, gs, w, rfl, hH, c1, c2 f x hx, hw, o1 m1 H1 w .refl S1 rw_⟩
        · cases e
      · cases e
end
end Ev
end

section
set_option Elab.async false
set_option autoImplicit false
set_option linter.all false
set_option maxRecDepth 100000
set_option maxHeartbeats 1000000
/-! EvH: methods of built-in types. -/
namespace Ev
open PySem L2
section
variable {L : Lk} {X : L2.Cx}
/-! ### counts, texts cut and joined -/
def rCntF (K : PySem.W.Frag) : V → List V → Hp → VK → Prop := fun x xs H Q => ∃ (p : Addr) (ys : List V) (y : V), x = .ref p ∧ xs = [y] ∧ SqL K H p ys ∧ flatV y = true ∧ ys.all flatV = true ∧ Q (.int ((ys.filter fun z => eqV z y).length : Nat)) H
theorem countP_eqU {x : V} : ∀ {xs : List V} {us : List Value}, Vals xs us → xs.all flatV = true → us.countP (eqU x) = (xs.filter fun y => eqV y x).length
  | _, _, .nil, _ => rfl
  | y :: xs, u :: us, .cons r rs, f => by
    rw [List.all_cons, Bool.and_eq_true] at f
    rw [List.countP_cons, countP_eqU rs f.2, eqU_of r f.1, List.filter_cons]
    split <;> simp
theorem mt_cntF : MtR X "list.count" (rCntF X.K) := by
  intro pins s σ H x xs v us Q I rx rxs h
  obtain ⟨p, ys, y, rfl, rfl, hs, fy, fys, q⟩ := h
  cases rx
  obtain ⟨u, rfl, ru⟩ := Vals.one rxs
  obtain ⟨its, rv, ⟨⟨cls, dd, data, sl⟩, n, ho, hc, hdn, hd⟩, hlen⟩ := I.list hs
  simp only at hc hd
  subst hc hd
  refine call_meets PySem.F.slot_list_count ⟨_, ho, rfl⟩ PySem.F.entry_list_count (PySem.F.args_list_count_2 _ _)
    (SeqAt.list_countAt p its.toArray n dd sl u (eqU y)) ⟨ho, fun z hz => mem_eqAt ru fy rv fys z (by simpa using hz), ?_⟩
  refine ⟨.int _, H, I.tok _, ⟨s.toks, ?_⟩, q⟩
  have e := countP_eqU (x := y) rv fys
  show Value.int ((its.toArray.toList.countP (eqU y) : Nat) : Int) s.toks = _
  rw [show its.toArray.toList = its from rfl, e]
theorem cnt_count (c : Nat) : ∀ l : List Nat, PyProof.Rows.cnt c l = ((l.count c : Nat) : Int)
  | [] => rfl
  | n :: r => by
    rw [PyProof.Rows.cnt_cons, cnt_count c r, List.count_cons]
    by_cases h : n = c
    · subst h; simp; omega
    · have : (n == c) = false := beq_eq_false_iff_ne.mpr h
      simp [h, this]
theorem filter_flat {x : D} (fx : flatD x = true) : ∀ {ys : List D}, ys.all flatD = true → ((ys.map vOf).filter fun z => eqV z (vOf x)).length = (ys.filter fun y => Ev.seq y x).length
  | [], _ => rfl
  | y :: ys, h => by
    rw [List.all_cons, Bool.and_eq_true] at h
    rw [List.map_cons, List.filter_cons, List.filter_cons, eqV_flat h.1 fx]
    split
    · rw [List.length_cons, List.length_cons, filter_flat fx h.2]
    · exact filter_flat fx h.2
theorem firstIx_some {p : D → Bool} : ∀ {ys : List D} {j : Nat}, firstIx p ys = some j → ∃ z, ys[j]? = some z ∧ p z = true ∧ ∀ m z', m < j → ys[m]? = some z' → p z' = false
  | [], j, e => by cases e
  | y :: ys, j, e => by
    unfold firstIx at e
    by_cases hp : p y = true
    · rw [if_pos hp] at e
      cases e
      exact ⟨y, rfl, hp, fun m z' hm => absurd hm (Nat.not_lt_zero _)⟩
    · rw [if_neg hp, Option.map_eq_some_iff] at e
      obtain ⟨i, e, rfl⟩ := e
      obtain ⟨z, h1, h2, h3⟩ := firstIx_some e
      refine ⟨z, by simpa using h1, h2, fun m z' hm hz => ?_⟩
      cases m with
      | zero => simp at hz; subst hz; simpa using hp
      | succ m => exact h3 m z' (by omega) (by simpa using hz)
theorem map_stx : ∀ ss : List Tx, ss.map (fun s => V.str (stx s)) = (ss.map stx).map V.str
  | [] => rfl
  | s :: ss => by simp
theorem reps_strs {K : PySem.W.Frag} {m : List Addr} {H : Hp} : ∀ {ds : List D} {vs : List V} {ss : List Tx}, strsOf ds = some ss → Reps K m H ds vs → vs = (ss.map stx).map V.str
  | [], _, ss, e, .nil => by cases e; rfl
  | d :: ds, _, ss, e, .cons r rs => by
    cases d with
    | str s =>
      simp only [strsOf, Option.map_eq_some_iff] at e
      obtain ⟨ss', e, rfl⟩ := e
      cases r
      rw [reps_strs e rs]
      rfl
    | _ => cases e
theorem reps_ints {K : PySem.W.Frag} {m : List Addr} {H : Hp} : ∀ {ds : List D} {vs : List V} {ss : List Int}, intsOf ds = some ss → Reps K m H ds vs → vs = ss.map V.int
  | [], _, ss, e, .nil => by cases e; rfl
  | d :: ds, _, ss, e, .cons r rs => by
    cases d with
    | int s =>
      simp only [intsOf, Option.map_eq_some_iff] at e
      obtain ⟨ss', e, rfl⟩ := e
      cases r
      rw [reps_ints e rs]
      rfl
    | _ => cases e
theorem reps_bols {K : PySem.W.Frag} {m : List Addr} {H : Hp} : ∀ {ds : List D} {vs : List V} {ss : List Bool}, bolsOf ds = some ss → Reps K m H ds vs → vs = ss.map V.bl
  | [], _, ss, e, .nil => by cases e; rfl
  | d :: ds, _, ss, e, .cons r rs => by
    cases d with
    | bl s =>
      simp only [bolsOf, Option.map_eq_some_iff] at e
      obtain ⟨ss', e, rfl⟩ := e
      cases r
      rw [reps_bols e rs]
      rfl
    | _ => cases e
theorem strs_reps {K : PySem.W.Frag} {m : List Addr} {H : Hp} : ∀ ss : List Tx, Reps K m H (ss.map D.str) ((ss.map stx).map V.str)
  | [] => .nil
  | s :: ss => .cons (.str s) (strs_reps ss)
theorem ints_reps {K : PySem.W.Frag} {m : List Addr} {H : Hp} : ∀ ss : List Int, Reps K m H (ss.map D.int) (ss.map V.int)
  | [] => .nil
  | s :: ss => .cons (.int s) (ints_reps ss)
theorem join_stx (s : Tx) (ps : List Tx) : Txt.join (stx s) (ps.map stx) = stx (joinT s ps) := by
  rw [TL.join_eq]
  have h : TL.tl (Str.join (stx s) (ps.map stx)) = joinT s ps := by
    rw [TL.tl_join, List.map_map]
    have e1 : TL.tl (stx s) = s := stx_cps s
    have e2 : (TL.tl ∘ stx) = id := by funext t; exact stx_cps t
    rw [e1, e2, List.map_id]
    have : ∀ ps : List Tx, TL.joinL s ps = joinT s ps := by
      intro ps
      induction ps with
      | nil => rfl
      | cons p r ih =>
        cases r with
        | nil => rfl
        | cons q r => show p ++ (s ++ TL.joinL s (q :: r)) = p ++ (s ++ joinT s (q :: r)); rw [ih]
    exact this ps
  generalize Str.join (stx s) (ps.map stx) = z at h
  cases z with
  | mk cps =>
    have : cps.toList = joinT s ps := h
    unfold stx
    rw [← this]
theorem splitC_ne (c : Nat) : ∀ t : Tx, splitC c t ≠ []
  | [] => by simp [splitC]
  | x :: r => by
    unfold splitC
    split
    · simp
    · split <;> simp
theorem spl_splitC (c : Nat) : ∀ (t acc : Tx), TL.spl [c] 0 acc t = match splitC c t with
    | p :: ps => (acc ++ p) :: ps
    | [] => [acc]
  | [], acc => by simp [TL.spl_nil, splitC]
  | x :: r, acc => by
    by_cases h : x = c
    · subst h
      have hp : TL.pre [x] (x :: r) = true := by simp [TL.pre]
      rw [TL.spl_hit hp]
      simp only [splitC, if_pos]
      show acc :: TL.spl [x] 0 [] r = _
      rw [spl_splitC x r []]
      cases q : splitC x r with
      | nil => exact absurd q (splitC_ne x r)
      | cons p ps => simp
    · have hp : TL.pre [c] (x :: r) = false := by simp [TL.pre, h]
      rw [TL.spl_miss hp, spl_splitC c r (acc ++ [x])]
      simp only [splitC, if_neg h]
      cases q : splitC c r with
      | nil => simp
      | cons p ps => simp
theorem split_stx (t : Tx) (c : Nat) (hc : c < 256) : Txt.split (stx t) (stx [c]) = (splitC c t).map stx := by
  have hk : ¬ Builtin.Str.strKind (stx t) < Builtin.Str.strKind (stx [c]) := TL.kind_ok (by simp [stx, hc])
  have h := TL.split_spl (stx t) (stx [c]) (by show (stx [c]).cps.toList ≠ []; rw [stx_cps]; simp) hk
  have e1 : TL.tl (stx t) = t := stx_cps t
  have e2 : TL.tl (stx [c]) = [c] := stx_cps [c]
  rw [e1, e2, spl_splitC] at h
  have h2 : (Txt.split (stx t) (stx [c])).map TL.tl = splitC c t := by
    rw [h]
    cases q : splitC c t with
    | nil => exact absurd q (splitC_ne c t)
    | cons p ps => simp
  generalize Txt.split (stx t) (stx [c]) = z at h2
  rw [← h2, List.map_map]
  have : ∀ z : List Str, z = z.map (stx ∘ TL.tl) := by
    intro z
    induction z with
    | nil => rfl
    | cons a z ih => rw [List.map_cons, ← ih]; cases a; rfl
  exact this z
/-! ### a method of a built-in type, whatever type the receiver has -/
def TyX (X : L2.Cx) (T : String) (x : V) (H : Hp) : Prop := ∀ (pins : List (Addr × Obj)) (σ : St) (s : Shared) (v : Value), Inv X pins σ H s → RelV x v → s.TypeIs v T ∧ ∀ a, v = .ref a → ∃ ob, s.heap.get? a = some ob ∧ ob.dict = none
def tBX (X : L2.Cx) (name : Str) (to : TE) (t : TA) : TE := fun σ H Q => to σ H fun x H1 => ∃ (T id : String) (r : V → List V → Hp → VK → Prop), PlainAttrs T ∧ Slot T name id ∧ typeOf (.builtin id) = pure (.type "method_descriptor") ∧ MtR X id r ∧ TyX X T x H1 ∧ t σ H1 fun xs H2 => r x xs H2 Q
theorem pe_bmX {o e : Expr} {es : List Expr} {to : TE} {t : TA} {name : Str} {apos cpos : Pos} (ho : PE X o to) (ha : PA X (e :: es) t)
    (hbase : attributeBase o name X.env (eval o X.env) = eval o X.env)
    (hfew : ((backTo cpos (starEach (e :: es) X.env)).all (fun x => !x.1) && (backToKw cpos (keywordEach [] X.env)).all (fun x => x.1.isSome)
      && decide ((e :: es).length + ([] : List Keyword).length + (if ([] : List Keyword).isEmpty then 0 else 1) < 30)) = true)
    (hline : (apos.endLine == cpos.line) = true) (hs : starEach (e :: es) X.env = (false, eval e X.env) :: starEach es X.env) (hplain : (backTo cpos (starEach es X.env)).any (·.1) = false) :
    PE X (.Call (.Attribute o name apos) (e :: es) [] cpos) (tBX X name to t) := by
  refine ⟨fun pins s σ H Q I h => ?_⟩
  refine wpAny_Call_method_late hbase hfew hline rfl (thn (ho.run pins s σ H _ I h) fun v s1 ⟨x, H1, I1, r1, T, id, r, pa, slot, hty, hm, ty, q1⟩ => ?_)
  obtain ⟨h1, h2⟩ := ty pins σ s1 v I1 r1
  refine ⟨T, id, pa, slot, hty, h1, h2, ?_⟩
  have hA := ha.run cpos pins s1 σ H1 _ I1 q1
  rw [hs] at hA ⊢
  refine Calls.callWith_builtin (by show (false || (backTo cpos (starEach es X.env)).any (·.1)) = false; rw [hplain] <;> rfl) (Calls.evalArgs_plain ?_)
  exact thn hA fun us s2 ⟨vs, H2, I2, r2, q2⟩ => hm pins s2 σ H2 x vs v us Q I2 r1 r2 q2
theorem tyX_str (z : Str) (H : Hp) : TyX X "str" (.str z) H := fun pins σ s v I r => by
  obtain ⟨t, rfl⟩ := r
  exact ⟨typeIs_str s z t, fun _ e => nomatch e⟩
theorem tyX_lst {a : Addr} {H : Hp} {xs : List V} (h : H a = some (.lst xs)) : TyX X "list" (.ref a) H := fun pins σ s v I r =>
  tyV_is I r (T := "list") (x := .ref a) (.inl ⟨rfl, xs, .inl (.inl h)⟩)
theorem tyX_dic {m : List Addr} {a : Addr} {H : Hp} {kvs : List (D × D)} (h : ObR L m H a (.dic kvs)) : TyX X "dict" (.ref a) H := fun pins σ s v I r => by
  rcases h with ⟨ps, h, _⟩ | ⟨o, es, ep, ps, h, x1, x2, x3, _⟩
  · exact tyV_is I r (T := "dict") (x := .ref a) (.inr (.inr (.inl ⟨rfl, .inl ⟨ps, h⟩⟩)))
  · obtain ⟨hφ, _, _⟩ := I.hok a _ h
    obtain rfl : v = Value.ref a := r
    exact ⟨⟨o, hφ, x2.1⟩, fun b e => by cases e; exact ⟨o, hφ, x2.2.1⟩⟩
def bmName : BM → Str
  | .append => "append" | .count => "count" | .index => "index" | .get => "get" | .setdefault => "setdefault" | .replace => "replace" | .split => "split" | .join => "join" | .strip => "strip" | .lstrip => "lstrip" | .rstrip => "rstrip"
/-- the methods that have a rule here -/
def bmHas : BM → Bool
  | .append => true | .count => true | .index => true | .get => true | .split => true | .join => true | _ => false
theorem Reps.l1 {K : PySem.W.Frag} {m : List Addr} {H : Hp} {d : D} {vs : List V} (r : Reps K m H [d] vs) : ∃ v, vs = [v] ∧ Rep K m H d v := by
  cases r with
  | cons r rs => cases rs; exact ⟨_, rfl, r⟩
theorem Reps.l2 {K : PySem.W.Frag} {m : List Addr} {H : Hp} {d e : D} {vs : List V} (r : Reps K m H [d, e] vs) : ∃ v w, vs = [v, w] ∧ Rep K m H d v ∧ Rep K m H e w := by
  cases r with
  | cons r rs =>
    cases rs with
    | cons q qs => cases qs; exact ⟨_, _, rfl, r, q⟩
/-- what a reading of a method must give -/
def MtS (L : Lk) (b : BM) (r : V → List V → Hp → VK → Prop) (x : D) : Prop := ∀ (W : WX) (σ : St) (m : List Addr) (H : Hp) (h : Hs) (v : V) (xs : List D) (vs : List V) (Q : VK), Sim L m H h → Rep L.K m H x v → Reps L.K m H xs vs → OutE L W σ m H Q (bmeth b x xs h) → r v vs H Q
theorem ms_append (a : Nat) : MtS L .append rAppend (.ref a) := by
  intro W σ m H h v xs vs Q S rx rxs o
  unfold bmeth at o
  split at o <;> first | (rename_i e; cases e; done) | skip
  · rename_i y _
    simp only at o
    split at o
    · rename_i ds e1
      split at o
      · rename_i hl
        obtain ⟨a1, rfl, hi, ws, ha, qa⟩ := S.atR rx e1
        obtain ⟨w, rfl, rw_⟩ := rxs.l1
        refine ⟨a1, ws, w, rfl, rfl, ha, by rw [← qa.len, sizeL]; exact hl, ?_⟩
        have g : Grow L.K m H m (L2.upd H a1 (.lst (ws ++ [w]))) := Grow.upd fun u e => by rw [ha] at e; cases e; trivial
        exact o m _ _ g (S.set hi (fun u e => by rw [ha] at e; cases e; trivial) ⟨_, upd_same, (qa.app (.one rw_)).grow g⟩) .non
      · exact o.elim
    · exact o.elim
  all_goals exact o.elim
theorem ms_countL (a : Nat) : MtS L .count (rCntF L.K) (.ref a) := by
  intro W σ m H h v xs vs Q S rx rxs o
  unfold bmeth at o
  split at o <;> first | (rename_i e; cases e; done) | skip
  · rename_i y _
    simp only at o
    split at o
    · rename_i n e
      obtain ⟨w, rfl, rw_⟩ := rxs.l1
      unfold seqOf at e
      simp only at e
      split at e
      · rename_i ds e1
        rw [Option.bind_some] at e
        unfold dcount at e
        split at e
        · rename_i hf
          cases e
          rw [Bool.and_eq_true] at hf
          obtain ⟨a1, rfl, hi, ws, ha, qa⟩ := S.atR rx e1
          obtain ⟨rfl, f1⟩ := rep_flat hf.1 rw_
          obtain ⟨rfl, f2⟩ := reps_flat hf.2 qa
          refine ⟨a1, _, _, rfl, rfl, .inl (.inl ha), f1, f2, ?_⟩
          rw [filter_flat hf.1 hf.2]
          exact o m H _ .refl S (.int _)
        · cases e
      · cases e
    · exact o.elim
  all_goals exact o.elim
theorem ms_countS (t : Tx) : MtS L .count (fun x xs H Q => ∃ a b, x = V.str a ∧ xs = [V.str b] ∧ Q (.int (Txt.count a b)) H) (.str t) := by
  intro W σ m H h v xs vs Q S rx rxs o
  unfold bmeth at o
  split at o <;> first | (rename_i e; cases e; done) | skip
  · rename_i y _
    simp only at o
    split at o
    · rename_i ch
      obtain ⟨w, rfl, rw_⟩ := rxs.l1
      cases rx; cases rw_
      refine ⟨_, _, rfl, rfl, ?_⟩
      have e : Txt.count (stx t) (stx [ch]) = ((t.count ch : Nat) : Int) := by
        have := PyProof.Rows.count_cnt (stx t) ch
        rw [stx_cps] at this
        show Txt.count (stx t) ⟨#[ch]⟩ = _
        rw [this, cnt_count]
      rw [e]
      exact o m H _ .refl S (.int _)
    · exact o.elim
  all_goals exact o.elim
theorem ms_index (a : Nat) : MtS L .index (rIndex L.K) (.ref a) := by
  intro W σ m H h v xs vs Q S rx rxs o
  unfold bmeth at o
  split at o <;> first | (rename_i e; cases e; done) | skip
  · rename_i y _
    split at o
    · rename_i n e
      obtain ⟨w, rfl, rw_⟩ := rxs.l1
      unfold seqOf at e
      simp only at e
      split at e
      · rename_i ds e1
        rw [Option.bind_some] at e
        unfold dindex at e
        split at e
        · rename_i hf
          rw [Bool.and_eq_true] at hf
          obtain ⟨z, h1, h2, h3⟩ := firstIx_some e
          obtain ⟨a1, rfl, hi, ws, ha, qa⟩ := S.atR rx e1
          obtain ⟨rfl, f1⟩ := rep_flat hf.1 rw_
          obtain ⟨rfl, f2⟩ := reps_flat hf.2 qa
          have hz : flatD z = true := List.all_eq_true.mp hf.2 z (List.mem_of_getElem? h1)
          refine ⟨a1, _, _, n, vOf z, rfl, rfl, .inl (.inl ha), f1, f2, by rw [List.getElem?_map, h1]; rfl, by rw [eqV_flat hz hf.1]; exact h2, fun k z' hk hz' => ?_, o m H _ .refl S (.int _)⟩
          rw [List.getElem?_map, Option.map_eq_some_iff] at hz'
          obtain ⟨d', hd', rfl⟩ := hz'
          have hf' : flatD d' = true := List.all_eq_true.mp hf.2 d' (List.mem_of_getElem? hd')
          rw [eqV_flat hf' hf.1]
          exact h3 k d' hk hd'
        · cases e
      · cases e
    · exact o.elim
  all_goals exact o.elim
theorem ms_get (a : Nat) : MtS L .get (rDicGet L) (.ref a) := by
  intro W σ m H h v xs vs Q S rx rxs o
  unfold bmeth at o
  split at o <;> first | (rename_i e; cases e; done) | skip
  · rename_i k d _
    simp only at o
    split at o
    · rename_i kvs e1
      split at o
      · rename_i hk
        obtain ⟨a1, rfl, hi, ob⟩ := S.atR rx e1
        obtain ⟨i, w, rfl, r1, r2⟩ := rxs.l2
        exact ⟨m, kvs, a1, k, d, rfl, ob, hk, ⟨i, w, rfl, r1, r2⟩, fun z rz => o m H z .refl S rz⟩
      · exact o.elim
    · exact o.elim
  all_goals exact o.elim
theorem ms_split (t : Tx) : MtS L .split (fun x xs H Q => ∃ a b, x = V.str a ∧ xs = [V.str b] ∧ (b.length == 0) = false ∧ a.length + 2 ≤ sizeLine ∧ rNewStrs (Txt.split a b) H Q) (.str t) := by
  intro W σ m H h v xs vs Q S rx rxs o
  unfold bmeth at o
  split at o <;> first | (rename_i e; cases e; done) | skip
  · rename_i ch _
    simp only at o
    split at o
    · rename_i hl
      obtain ⟨w, rfl, rw_⟩ := rxs.l1
      cases rx; cases rw_
      refine ⟨_, _, rfl, rfl, by rw [stx_len]; rfl, by rw [stx_len, sizeL]; exact hl.1, ?_⟩
      rw [split_stx t ch hl.2]
      exact newLst S (strs_reps _) o
    · exact o.elim
  all_goals exact o.elim
theorem seq_of {m : List Addr} {H : Hp} {h : Hs} {x : D} {v : V} {xs : List D} (S : Sim L m H h) (r : Rep L.K m H x v) (e : seqOf x h = some xs) : ∃ p vs, v = .ref p ∧ (SqL L.K H p vs ∨ SqT L.K H p vs) ∧ Reps L.K m H xs vs := by
  unfold seqOf at e
  split at e
  · cases e
    cases r with
    | tup hx q => exact ⟨_, _, rfl, .inr hx, q⟩
  · split at e
    · rename_i ds e1
      cases e
      obtain ⟨a1, rfl, hi, ws, ha, qa⟩ := S.atR r e1
      exact ⟨a1, ws, rfl, .inl (.inl (.inl ha)), qa⟩
    · cases e
  · cases e
theorem map_len_stx (ps : List Tx) : ((ps.map stx).map (·.length)).sum = (ps.map List.length).sum := by
  rw [List.map_map]
  congr 1
theorem ms_join (t : Tx) : MtS L .join (fun x xs H Q => ∃ a p, ∃ ys : List Str, x = V.str a ∧ xs = [V.ref p] ∧ (SqL L.K H p (ys.map V.str) ∨ SqT L.K H p (ys.map V.str)) ∧ (ys.map (·.length)).sum + ys.length * a.length ≤ 16777216 ∧ Q (.str (Txt.join a ys)) H) (.str t) := by
  intro W σ m H h v xs vs Q S rx rxs o
  unfold bmeth at o
  split at o <;> first | (rename_i e; cases e; done) | skip
  · rename_i y _
    simp only at o
    split at o
    · rename_i ps e
      split at o
      · rename_i hl
        obtain ⟨w, rfl, rw_⟩ := rxs.l1
        cases rx
        rw [Option.bind_eq_some_iff] at e
        obtain ⟨ds, e1, e2⟩ := e
        obtain ⟨p, ws, rfl, hs, q⟩ := seq_of S rw_ e1
        have ew := reps_strs e2 q
        subst ew
        refine ⟨_, p, ps.map stx, rfl, rfl, hs, ?_, ?_⟩
        · rw [map_len_stx, List.length_map, stx_len]; exact hl
        · rw [join_stx]
          exact o m H _ .refl S (.str _)
      · exact o.elim
    · exact o.elim
  all_goals exact o.elim
variable {W : WX} {c : Cx} {o e : Expr} {es : List Expr} {io : IE} {ies : IEs} {apos cpos : Pos}
theorem bm_all (xo : XOk L X) (hu : X.A.units + 16 < cLine) {b : BM} (hb : bmHas b = true) {m : List Addr} {H : Hp} {h : Hs} {x : D} {v : V} (S : Sim L m H h) (rx : Rep L.K m H x v) (ht : bmTy b x h = true) :
    ∃ (T id : String) (r : V → List V → Hp → VK → Prop), PlainAttrs T ∧ Slot T (bmName b) id ∧ typeOf (.builtin id) = pure (.type "method_descriptor") ∧ MtR X id r ∧ TyX X T v H ∧ MtS L b r x := by
  cases b with
  | append =>
    simp only [bmTy] at ht
    split at ht
    · split at ht
      · rename_i a ds e1
        obtain ⟨a1, rfl, hi, ws, ha, qa⟩ := S.atR rx e1
        exact ⟨"list", "list.append", _, PySem.F.plainAttrs_list, PySem.F.slot_list_append, PySem.F.type_list_append, mt_append, tyX_lst ha, ms_append _⟩
      · cases ht
    · cases ht
  | index =>
    simp only [bmTy] at ht
    split at ht
    · split at ht
      · rename_i a ds e1
        obtain ⟨a1, rfl, hi, ws, ha, qa⟩ := S.atR rx e1
        have mt := mt_index (X := X)
        rw [xo.eK] at mt
        exact ⟨"list", "list.index", _, PySem.F.plainAttrs_list, PySem.F.slot_list_index, PySem.F.type_list_index, mt, tyX_lst ha, ms_index _⟩
      · cases ht
    · cases ht
  | count =>
    simp only [bmTy] at ht
    split at ht
    · cases rx
      exact ⟨"str", "str.count", _, PySem.F.plainAttrs_str, PySem.F.slot_str_count, PySem.F.type_str_count, mt_count, tyX_str _ H, ms_countS _⟩
    · split at ht
      · rename_i a ds e1
        obtain ⟨a1, rfl, hi, ws, ha, qa⟩ := S.atR rx e1
        have mt := mt_cntF (X := X)
        rw [xo.eK] at mt
        exact ⟨"list", "list.count", _, PySem.F.plainAttrs_list, PySem.F.slot_list_count, PySem.F.type_list_count, mt, tyX_lst ha, ms_countL _⟩
      · cases ht
    · cases ht
  | get =>
    simp only [bmTy] at ht
    split at ht
    · split at ht
      · rename_i a ds e1
        obtain ⟨a1, rfl, hi, ob⟩ := S.atR rx e1
        exact ⟨"dict", "dict.get", _, PySem.F.plainAttrs_dict, PySem.F.slot_dict_get, PySem.F.type_dict_get, mt_dicGet xo hu, tyX_dic ob, ms_get _⟩
      · cases ht
    · cases ht
  | split =>
    simp only [bmTy] at ht
    split at ht
    · cases rx
      exact ⟨"str", "str.split", _, PySem.F.plainAttrs_str, PySem.F.slot_str_split, PySem.F.type_str_split, mt_split, tyX_str _ H, ms_split _⟩
    · cases ht
  | join =>
    simp only [bmTy] at ht
    split at ht
    · cases rx
      have mt := mt_join (X := X)
      rw [xo.eK] at mt
      exact ⟨"str", "str.join", _, PySem.F.plainAttrs_str, PySem.F.slot_str_join, PySem.F.type_str_join, mt, tyX_str _ H, ms_join _⟩
    · cases ht
  | setdefault => cases hb
  | replace => cases hb
  | strip => cases hb
  | lstrip => cases hb
  | rstrip => cases hb
theorem sE_bm (xo : XOk L X) (hu : X.A.units + 16 < cLine) {b : BM} (hb : bmHas b = true) (ho : PE X o (cE L W (evE c io))) (ha : PA X (e :: es) (cA L W (evEs c ies)))
    (hbase : attributeBase o (bmName b) X.env (eval o X.env) = eval o X.env)
    (hfew : ((backTo cpos (starEach (e :: es) X.env)).all (fun x => !x.1) && (backToKw cpos (keywordEach [] X.env)).all (fun x => x.1.isSome)
      && decide ((e :: es).length + ([] : List Keyword).length + (if ([] : List Keyword).isEmpty then 0 else 1) < 30)) = true)
    (hline : (apos.endLine == cpos.line) = true) (hs : starEach (e :: es) X.env = (false, eval e X.env) :: starEach es X.env) (hplain : (backTo cpos (starEach es X.env)).any (·.1) = false) :
    PE X (.Call (.Attribute o (bmName b) apos) (e :: es) [] cpos) (cE L W (evE c (.bm b io ies))) :=
  (pe_bmX ho ha hbase hfew hline hs hplain).imp fun σ H Q ⟨m, env, h, S, ev, q⟩ => run1 (g := fun x h => if bmTy b x h then (evEs c ies env h).bind fun xs h => bmeth b x xs h else .bad) S ev q fun x h1 m1 H1 v g1 S1 ev1 r1 o1 => by
    by_cases ht : bmTy b x h1 = true
    · rw [if_pos ht] at o1
      obtain ⟨T, id, r, p1, p2, p3, p4, p5, p6⟩ := bm_all xo hu hb S1 r1 ht
      exact ⟨T, id, r, p1, p2, p3, p4, p5, runA (g := fun xs h => bmeth b x xs h) S1 ev1 o1 fun xs h2 m2 H2 vs _ g2 S2 ev2 r2 o2 => p6 W σ m2 H2 h2 v xs vs Q S2 (r1.grow g2) r2 o2⟩
    · rw [if_neg ht] at o1; exact o1.elim
end
end Ev
end

section
set_option Elab.async false
set_option autoImplicit false
set_option linter.all false
set_option maxRecDepth 100000
set_option maxHeartbeats 1000000
/-! EvI: built-in functions. -/
namespace Ev
open PySem L2
section
variable {L : Lk} {X : L2.Cx}
/-- what a reading of a call must give -/
def ClS (L : Lk) (f : BF) (r : List V → Hp → VK → Prop) : Prop := ∀ (W : WX) (σ : St) (m : List Addr) (H : Hp) (h : Hs) (xs : List D) (vs : List V) (Q : VK), Sim L m H h → Reps L.K m H xs vs → OutE L W σ m H Q (bfun f xs h) → r vs H Q
theorem lst_of {m : List Addr} {H : Hp} {h : Hs} {x : D} {v : V} {xs : List D} (S : Sim L m H h) (r : Rep L.K m H x v) (e : lstOf x h = some xs) : ∃ p vs, v = .ref p ∧ SqL L.K H p vs ∧ Reps L.K m H xs vs := by
  unfold lstOf at e
  split at e
  · split at e
    · rename_i ds e1
      cases e
      obtain ⟨a1, rfl, hi, ws, ha, qa⟩ := S.atR r e1
      exact ⟨a1, ws, rfl, .inl (.inl ha), qa⟩
    · cases e
  · cases e
theorem minL_mem : ∀ (r : List Int) (a : Int), minL a r ∈ a :: r
  | [], a => by simp [minL]
  | b :: r, a => by
    simp only [minL]
    have := minL_mem r (if b < a then b else a)
    rcases List.mem_cons.mp this with e | e
    · rw [e]; split <;> simp
    · simp [e]
theorem minL_le : ∀ (r : List Int) (a : Int), ∀ y ∈ a :: r, minL a r ≤ y
  | [], a, y, h => by simp at h; subst h; simp [minL]
  | b :: r, a, y, h => by
    simp only [minL]
    have ih := minL_le r (if b < a then b else a)
    have h0 := ih _ (List.mem_cons_self ..)
    rcases List.mem_cons.mp h with e | e
    · subst e; revert h0; generalize minL _ r = z; intro h0; split at h0 <;> omega
    · rcases List.mem_cons.mp e with e | e
      · subst e; revert h0; generalize minL _ r = z; intro h0; split at h0 <;> omega
      · exact ih y (List.mem_cons_of_mem _ e)
theorem maxL_mem : ∀ (r : List Int) (a : Int), maxL a r ∈ a :: r
  | [], a => by simp [maxL]
  | b :: r, a => by
    simp only [maxL]
    have := maxL_mem r (if b > a then b else a)
    rcases List.mem_cons.mp this with e | e
    · rw [e]; split <;> simp
    · simp [e]
theorem maxL_ge : ∀ (r : List Int) (a : Int), ∀ y ∈ a :: r, y ≤ maxL a r
  | [], a, y, h => by simp at h; subst h; simp [maxL]
  | b :: r, a, y, h => by
    simp only [maxL]
    have ih := maxL_ge r (if b > a then b else a)
    have h0 := ih _ (List.mem_cons_self ..)
    rcases List.mem_cons.mp h with e | e
    · subst e; revert h0; generalize maxL _ r = z; intro h0; split at h0 <;> omega
    · rcases List.mem_cons.mp e with e | e
      · subst e; revert h0; generalize maxL _ r = z; intro h0; split at h0 <;> omega
      · exact ih y (List.mem_cons_of_mem _ e)
def rLen (L : Lk) : List V → Hp → VK → Prop := fun xs H Q => (∃ p ys, xs = [.ref p] ∧ (SqL L.K H p ys ∨ SqT L.K H p ys) ∧ Q (.int ys.length) H) ∨ (∃ z, xs = [.str z] ∧ z.length ≤ sizeLine ∧ Q (.int z.length) H)
theorem cs_len : ClS L .len (rLen L) := by
  intro W σ m H h xs vs Q S rs o
  cases xs with
  | nil => exact o.elim
  | cons x xs =>
    cases xs with
    | cons y ys => exact o.elim
    | nil =>
      obtain ⟨w, rfl, rw_⟩ := rs.l1
      simp only [bfun] at o
      split at o
      · cases rw_
        split at o
        · rename_i hl
          refine .inr ⟨_, rfl, by rw [stx_len, sizeL]; exact hl, ?_⟩
          rw [stx_len]
          exact o m H _ .refl S (.int _)
        · exact o.elim
      · cases rw_ with
        | tup hx q =>
          refine .inl ⟨_, _, rfl, .inr hx, ?_⟩
          rw [← q.len]
          exact o m H _ .refl S (.int _)
      · split at o
        · rename_i ds e1
          obtain ⟨a1, rfl, hi, ws, ha, qa⟩ := S.atR rw_ e1
          refine .inl ⟨_, _, rfl, .inl (.inl (.inl ha)), ?_⟩
          rw [← qa.len]
          exact o m H _ .refl S (.int _)
        · exact o.elim
      · exact o.elim
theorem cs_one {f : BF} {r : List V → Hp → VK → Prop} (h0 : ∀ h, bfun f [] h = .bad) (h2 : ∀ x y ys h, bfun f (x :: y :: ys) h = .bad)
    (h1 : ∀ (W : WX) (σ : St) (m : List Addr) (H : Hp) (h : Hs) (x : D) (v : V) (Q : VK), Sim L m H h → Rep L.K m H x v → OutE L W σ m H Q (bfun f [x] h) → r [v] H Q) : ClS L f r := by
  intro W σ m H h xs vs Q S rs o
  cases xs with
  | nil => rw [h0] at o; exact o.elim
  | cons x xs =>
    cases xs with
    | cons y ys => rw [h2] at o; exact o.elim
    | nil =>
      obtain ⟨w, rfl, rw_⟩ := rs.l1
      exact h1 W σ m H h x w Q S rw_ o
theorem cs_all : ClS L .all (rAll L.K) := cs_one (fun _ => rfl) (fun _ _ _ _ => rfl) fun W σ m H h x v Q S r o => by
  simp only [bfun] at o
  split at o
  · rename_i bs e
    rw [Option.bind_eq_some_iff] at e
    obtain ⟨ds, e1, e2⟩ := e
    obtain ⟨p, ws, rfl, hs, q⟩ := lst_of S r e1
    have ew := reps_bols e2 q
    subst ew
    exact ⟨p, bs, rfl, hs, OutE.bl S o⟩
  · exact o.elim
theorem cs_sum : ClS L .sum (rSum L.K) := cs_one (fun _ => rfl) (fun _ _ _ _ => rfl) fun W σ m H h x v Q S r o => by
  simp only [bfun] at o
  split at o
  · rename_i bs e
    rw [Option.bind_eq_some_iff] at e
    obtain ⟨ds, e1, e2⟩ := e
    obtain ⟨p, ws, rfl, hs, q⟩ := lst_of S r e1
    have ew := reps_ints e2 q
    subst ew
    exact ⟨p, bs, rfl, hs, o m H _ .refl S (.int _)⟩
  · exact o.elim
theorem cs_min1 : ClS L .min1 (rMin L.K) := cs_one (fun _ => rfl) (fun _ _ _ _ => rfl) fun W σ m H h x v Q S r o => by
  simp only [bfun] at o
  split at o
  · rename_i a bs e
    rw [Option.bind_eq_some_iff] at e
    obtain ⟨ds, e1, e2⟩ := e
    obtain ⟨p, ws, rfl, hs, q⟩ := lst_of S r e1
    have ew := reps_ints e2 q
    subst ew
    refine ⟨p, a :: bs, rfl, hs, by simp, fun k hk hle => ?_⟩
    have e : k = minL a bs := Int.le_antisymm (hle _ (minL_mem bs a)) (minL_le bs a k hk)
    rw [e]
    exact o m H _ .refl S (.int _)
  · exact o.elim
theorem cs_max1 : ClS L .max1 (rMax L.K) := cs_one (fun _ => rfl) (fun _ _ _ _ => rfl) fun W σ m H h x v Q S r o => by
  simp only [bfun] at o
  split at o
  · rename_i a bs e
    rw [Option.bind_eq_some_iff] at e
    obtain ⟨ds, e1, e2⟩ := e
    obtain ⟨p, ws, rfl, hs, q⟩ := lst_of S r e1
    have ew := reps_ints e2 q
    subst ew
    refine ⟨p, a :: bs, rfl, hs, by simp, fun k hk hle => ?_⟩
    have e : k = maxL a bs := Int.le_antisymm (maxL_ge bs a k hk) (hle _ (maxL_mem bs a))
    rw [e]
    exact o m H _ .refl S (.int _)
  · exact o.elim
theorem cs_min2 : ClS L .min2 (fun xs H Q => ∃ i j, xs = [V.int i, V.int j] ∧ Q (.int (if j < i then j else i)) H) := by
  intro W σ m H h xs vs Q S rs o
  match xs, rs, o with
  | [], _, o => exact o.elim
  | [_], _, o => exact o.elim
  | _ :: _ :: _ :: _, _, o => exact o.elim
  | [x, y], rs, o =>
    obtain ⟨v, w, rfl, r1, r2⟩ := rs.l2
    simp only [bfun] at o
    split at o
    · cases r1; cases r2; exact ⟨_, _, rfl, o m H _ .refl S (.int _)⟩
    · exact o.elim
theorem cs_max2 : ClS L .max2 (fun xs H Q => ∃ i j, xs = [V.int i, V.int j] ∧ Q (.int (if j > i then j else i)) H) := by
  intro W σ m H h xs vs Q S rs o
  match xs, rs, o with
  | [], _, o => exact o.elim
  | [_], _, o => exact o.elim
  | _ :: _ :: _ :: _, _, o => exact o.elim
  | [x, y], rs, o =>
    obtain ⟨v, w, rfl, r1, r2⟩ := rs.l2
    simp only [bfun] at o
    split at o
    · cases r1; cases r2; exact ⟨_, _, rfl, o m H _ .refl S (.int _)⟩
    · exact o.elim
/-- list(text) -/
def rListS : List V → Hp → VK → Prop := fun xs H Q => ∃ z : Str, xs = [.str z] ∧ z.length ≤ sizeLine ∧ ∀ l, H l = none → Q (.ref l) (upd H l (.lst (z.cps.toList.map fun c => V.str ⟨#[c]⟩)))
theorem vals_signs {x : Str} {acc : Array Value} (h : ItemsOf (SignAt x) acc x.cps.size) : Vals (x.cps.toList.map fun c => V.str ⟨#[c]⟩) acc.toList := by
  obtain ⟨h1, h2⟩ := h
  refine vals_of_at (by simp [h1]) fun j y u e1 e2 => ?_
  rw [List.getElem?_map, Option.map_eq_some_iff] at e1
  obtain ⟨c, e1, rfl⟩ := e1
  obtain ⟨ch, t, q1, rfl⟩ := h2 j u (by simpa using e2)
  have e3 : c = ch := by
    rw [← Array.getElem?_toList, e1] at q1
    exact Option.some.inj q1
  subst e3
  exact ⟨t, rfl⟩
def rListU (L : Lk) : List V → Hp → VK → Prop := fun xs H Q => (∃ p ys, xs = [.ref p] ∧ (SqL L.K H p ys ∨ SqT L.K H p ys) ∧ ∀ l, H l = none → Q (.ref l) (upd H l (.lst ys))) ∨ rListS xs H Q
theorem call_listS (hc : X.calm = true) : CallR X (.type "list") rListS := by
  intro pins s σ H xs us Q I r h
  obtain ⟨z, rfl, hz, q⟩ := h
  obtain ⟨u, rfl, t, rfl⟩ := vals1 r
  refine call_list_str (I.ok.hd hc) z t (fun h' tk acc' c' hk hS hacc => ?_) hz
  have rv := vals_signs hacc
  refine ⟨.ref s.heap.objs.size, _, I.laid (t' := tk) (o := .lst (z.cps.toList.map fun c => V.str ⟨#[c]⟩)) hk (Nat.le_refl _) ⟨by rw [List.length_map]; exact hz, acc'.toList, c', rv, by simpa using hS⟩, rfl, q _ (I.hok.fresh (Nat.le_refl _))⟩
theorem cs_listOf : ClS L .listOf (rListU L) := cs_one (fun _ => rfl) (fun _ _ _ _ => rfl) fun W σ m H h x v Q S r o => by
  simp only [bfun] at o
  split at o
  · cases r
    split at o
    · rename_i s hl
      refine .inr ⟨_, rfl, by rw [stx_len, sizeL]; exact hl, ?_⟩
      rw [stx_cps]
      refine newLst (ds := s.map fun c => .str [c]) S ?_ o
      have : ∀ s : Tx, Reps L.K m H (s.map fun c => D.str [c]) (s.map fun c => V.str ⟨#[c]⟩) := by
        intro s
        induction s with
        | nil => exact .nil
        | cons c s ih => exact .cons (.str [c]) ih
      exact this s
    · exact o.elim
  · split at o
    · rename_i ds e
      obtain ⟨p, ws, rfl, hs, q⟩ := seq_of S r e
      exact .inl ⟨p, ws, rfl, hs, newLst S q o⟩
    · exact o.elim
theorem cs_tupOf : ClS L .tupOf (fun xs H Q => ∃ p ys, xs = [V.ref p] ∧ ((SqL L.K H p ys ∧ ∀ l, H l = none → Q (.ref l) (upd H l (.tup ys))) ∨ (SqT L.K H p ys ∧ Q (.ref p) H))) := cs_one (fun _ => rfl) (fun _ _ _ _ => rfl) fun W σ m H h x v Q S r o => by
  simp only [bfun] at o
  split at o
  · rename_i ds e
    obtain ⟨p, ws, rfl, hs, q⟩ := seq_of S r e
    refine ⟨p, ws, rfl, ?_⟩
    rcases hs with hs | hs
    · exact .inl ⟨hs, fun l hl => o m _ _ (.side hl) (S.side hl) (.tup (.inl (.inl upd_same)) (q.grow (.side hl)))⟩
    · exact .inr ⟨hs, o m H _ .refl S (.tup hs q)⟩
  · exact o.elim
theorem digit_stx {i : Int} (h0 : 0 ≤ i) (h1 : i ≤ 9) : (Str.ofString (toString i)) = stx [48 + i.toNat] := by
  obtain ⟨n, rfl⟩ : ∃ n : Nat, i = (n : Int) := ⟨i.toNat, by omega⟩
  have h := TL.tl_num n
  rw [TL.numL_lt (by omega)] at h
  generalize Str.ofString (toString (n : Int)) = z at h
  cases z with
  | mk cps =>
    have e : cps.toList = [48 + n] := h
    show Str.mk cps = Str.mk ([48 + (n : Int).toNat] : List Nat).toArray
    rw [Int.toNat_natCast, ← e]
def rStrU : List V → Hp → VK → Prop := fun xs H Q => (∃ i, xs = [V.int i] ∧ i.natAbs.log2 < 1920 ∧ Q (.str (toString i)) H) ∨ ∃ a, xs = [V.str a] ∧ Q (.str a) H
theorem cs_strOf : ClS L .strOf rStrU := cs_one (fun _ => rfl) (fun _ _ _ _ => rfl) fun W σ m H h x v Q S r o => by
  simp only [bfun] at o
  split at o
  · exact o.elim
  · split at o
    · rename_i t e
      have q : Q (.str (stx t)) H := o m H _ .refl S (.str _)
      unfold strT at e
      split at e
      · cases e; cases r; exact .inr ⟨_, rfl, q⟩
      · rename_i i _
        split at e
        · rename_i hi
          cases e; cases r
          refine .inl ⟨i, rfl, ?_, ?_⟩
          · have : i.natAbs ≤ 9 := by omega
            have h2 : i.natAbs.log2 ≤ 9 := Nat.le_trans (Nat.log2_le_self _) this
            omega
          · rw [show ((toString i : String) : Str) = Str.ofString (toString i) from rfl, digit_stx hi.1 hi.2]; exact q
        · cases e
      · rename_i hx
        exact absurd rfl (hx _)
      · cases e
    · exact o.elim
theorem cs_intOf : ClS L .intOf (fun xs H Q => ∃ a n, xs = [V.str a] ∧ PySem.intText? a = some n ∧ a.length ≤ 640 ∧ Q (.int n) H) := cs_one (fun _ => rfl) (fun _ _ _ _ => rfl) fun W σ m H h x v Q S r o => by
  simp only [bfun] at o
  split at o
  · rename_i ch
    split at o
    · rename_i hc
      cases r
      refine ⟨stx [ch], ((ch - 48 : Nat) : Int), rfl, ?_, by rw [stx_len]; simp, o m H _ .refl S (.int _)⟩
      have e := TL.int_num (n := ch - 48) (by rw [TL.numL_lt (by omega)]; simp)
      rw [digit_stx (by omega) (by omega)] at e
      have e2 : 48 + ((ch - 48 : Nat) : Int).toNat = ch := by omega
      rw [e2] at e
      exact e
    · exact o.elim
  · exact o.elim
variable {W : WX} {c : Cx} {a e : Expr} {es : List Expr} {ia : IE} {ies : IEs} {p pos : Pos} {x : Str} {id T : String} {r : List V → Hp → VK → Prop} {f : BF}
theorem i_bf (cs : ClS L f r) : ∀ σ H Q, cE L W (evE c (.bf f ies)) σ H Q → tCB r (cA L W (evEs c ies)) σ H Q :=
  fun σ H Q ⟨m, env, h, S, ev, o⟩ => runA (g := fun xs h => bfun f xs h) S ev o fun ds h1 m1 H1 vs _ g1 S1 ev1 r1 o1 => cs W σ m1 H1 h1 ds vs Q S1 r1 o1
theorem sE_bfB (hc : CallR X (.builtin id) r) (cs : ClS L f r) (hg : Gl X x) (hm : X.mg x = none) (hv : bootBuiltins x = some (.builtin id)) (ha : PA X (e :: es) (cA L W (evEs c ies))) (hn : x ≠ "__name__") (hdb : (x == ("__debug__" : Str)) = false)
    (he : starEach (e :: es) X.env = (false, eval e X.env) :: starEach es X.env) (hpl : (backTo pos (starEach es X.env)).any (·.1) = false) : PE X (.Call (.Name x p) (e :: es) [] pos) (cE L W (evE c (.bf f ies))) :=
  (pe_callB hc hg hm hv ha hn hdb he hpl).imp (i_bf cs)
theorem sE_bfT (hc : CallR X (.type T) r) (cs : ClS L f r) (hg : Gl X x) (hm : X.mg x = none) (hv : bootBuiltins x = some (.type T)) (ha : PA X (e :: es) (cA L W (evEs c ies))) (hn : x ≠ "__name__") (hdb : (x == ("__debug__" : Str)) = false)
    (he : starEach (e :: es) X.env = (false, eval e X.env) :: starEach es X.env) (hpl : (backTo pos (starEach es X.env)).any (·.1) = false) : PE X (.Call (.Name x p) (e :: es) [] pos) (cE L W (evE c (.bf f ies))) :=
  (pe_callTy hc hg hm hv ha hn hdb he hpl).imp (i_bf cs)

/-! ### isinstance -/
def tyName : Ty → Option String
  | .int => some "int" | .bool => some "bool" | .str => some "str" | .tuple => some "tuple" | .list => some "list" | .verr => some "ValueError" | .cls _ => none
/-- what of the text the exceptions' classes must have -/
structure ExOk (L : Lk) (K : PySem.W.Frag) : Prop where
  cls : ∀ k, k ≤ 5 → ExcC K (L.ca k)
  sub : ∀ k j, k ≤ 5 → j ≤ 5 → PySem.W.kitOne K (.ref (L.ca k)) (.ref (L.ca j)) = some (j == 0 || k == j)
  verr : ∀ k, k ≤ 5 → PySem.W.kitOne K (.ref (L.ca k)) (.type "ValueError") = some true
/-- the class as a value -/
def ClV (L : Lk) (t : Ty) (u : Value) : Prop := match t with
  | .cls k => k ≤ 5 ∧ u = .ref (L.ca k)
  | t => ∃ n, tyName t = some n ∧ u = .type n
def rIsD (L : Lk) (t : Ty) : List V → Hp → VK → Prop := fun xs H Q => ∃ m h d v w b, xs = [v, w] ∧ Sim L m H h ∧ Rep L.K m H d v ∧ (∀ u, RelV w u → ClV L t u) ∧ isTy t d h = some b ∧ Q (.bl b) H
variable {pins : List (Addr × Obj)} {σ : St} {H : Hp} {s : Shared} {Dd : Addr}
theorem isinst_exc (I : L2.Inv X pins σ H s) (xo : XOk L X) (C : ExcC X.K Dd) {A : Around} {E Q : Value → Shared → Prop} {ad : Addr} {cv : Value} {b : Bool} (hx : isExc Dd ad s.heap) (e : PySem.W.kitOne X.K (.ref Dd) cv = some b) (h : ∀ tk, Q (.bool b) { s with toks := tk }) :
    wpAny (model X.prog X.w) A (call (.builtin "isinstance") [.ref ad, cv]) Q E s := by
  obtain ⟨oe, vs, h1, h2, h3, h4⟩ := hx
  have J : PySem.W.InstAt s.heap ad oe Dd none := by
    obtain ⟨oc, od, oda, osl⟩ := oe
    dsimp only at h2 h3 h4
    subst h2 h3 h4
    exact ⟨h1, rfl, rfl, trivial⟩
  exact PySem.W.kia_one (PySem.W.handS_kitx_exc C.hg C.hk C.hs C.hd C.ha C.hn C.ht C.hm) I.kIn J e (fun z => nomatch z) h
inductive Kd where | non | bl | int | str | tup | lst
def Kd.name : Kd → String
  | .non => "NoneType" | .bl => "bool" | .int => "int" | .str => "str" | .tup => "tuple" | .lst => "list"
def Kd.ans : Kd → Ty → Bool
  | .non, _ => false
  | .bl, t => t == .bool || t == .int
  | .int, t => t == .int
  | .str, t => t == .str
  | .tup, t => t == .tuple
  | .lst, t => t == .list
theorem kit_tab (k : Kd) (t : Ty) (n : String) (ht : tyName t = some n) (hv : t ≠ .verr) : kitB k.name n = some (k.ans t) := by
  cases t <;> simp [tyName] at ht <;> first | (subst ht; cases k <;> decide +kernel) | exact absurd rfl hv
theorem isTy_kd {t : Ty} {d : D} {h : Hs} {b : Bool} (e : isTy t d h = some b) (hn : ∀ a, d ≠ .ref a) : ∃ k : Kd, b = k.ans t ∧ t ≠ .verr ∧ (∀ c, t ≠ .cls c) ∧ (match k with
    | .non => d = .non | .bl => ∃ x, d = .bl x | .int => ∃ x, d = .int x | .str => ∃ x, d = .str x | .tup => ∃ x, d = .tup x | .lst => False) := by
  cases d with
  | ref a => exact absurd rfl (hn a)
  | non => cases t <;> simp [isTy] at e <;> subst e <;> exact ⟨.non, by rfl, by simp, by simp, rfl⟩
  | bl x => cases t <;> simp [isTy] at e <;> subst e <;> exact ⟨.bl, by rfl, by simp, by simp, x, rfl⟩
  | int x => cases t <;> simp [isTy] at e <;> subst e <;> exact ⟨.int, by rfl, by simp, by simp, x, rfl⟩
  | str x => cases t <;> simp [isTy] at e <;> subst e <;> exact ⟨.str, by rfl, by simp, by simp, x, rfl⟩
  | tup x => cases t <;> simp [isTy] at e <;> subst e <;> exact ⟨.tup, by rfl, by simp, by simp, x, rfl⟩
theorem clv_ty {t : Ty} {u : Value} (h : ClV L t u) (hc : ∀ c, t ≠ .cls c) : ∃ n, tyName t = some n ∧ u = .type n := by
  cases t <;> first | exact h | exact absurd rfl (hc _)
theorem call_isD (xo : XOk L X) (ex : ExOk L X.K) (t : Ty) : CallR X (.builtin "isinstance") (rIsD L t) := by
  intro pins s σ H xs us Q I r hh
  obtain ⟨m, h, d, v, w, b, rfl, S, rd, hw, e, q⟩ := hh
  obtain ⟨u1, u2, rfl, r1, r2⟩ := vals2 r
  have cv := hw u2 r2
  have fin : ∀ tk, EP X pins σ Q (.bool b) { s with toks := tk } := fun tk => ⟨.bl b, H, I.tok tk, rfl, q⟩
  by_cases hn : ∀ a, d ≠ .ref a
  · obtain ⟨k, rfl, h1, h2, h3⟩ := isTy_kd e hn
    obtain ⟨n, hn1, rfl⟩ := clv_ty cv h2
    have kt := kit_ty (K := X.K) (kit_tab k t n hn1 h1)
    cases k with
    | non => obtain rfl := h3; cases rd; exact isinst_ok I r1 .non kt fin
    | bl => obtain ⟨x, rfl⟩ := h3; cases rd; exact isinst_ok I r1 (.bl x) kt fin
    | int => obtain ⟨x, rfl⟩ := h3; cases rd; exact isinst_ok I r1 (.int x) kt fin
    | str => obtain ⟨x, rfl⟩ := h3; cases rd; exact isinst_ok I r1 (.str _) kt fin
    | tup =>
      obtain ⟨x, rfl⟩ := h3
      cases rd with
      | tup hx qx =>
        obtain rfl : u1 = Value.ref _ := r1
        rw [← xo.eK] at hx
        obtain ⟨its, rv, ⟨o, ho, hc, nn, hd⟩, _⟩ := I.tuple hx
        exact PySem.W.kia_one PySem.W.kitx_tuple I.kIn ⟨o, ho, hc⟩ kt (fun z => nomatch z) fin
    | lst => exact h3.elim
  · obtain ⟨a, rfl⟩ : ∃ a, d = .ref a := Classical.byContradiction fun z => hn fun a e => z ⟨a, e⟩
    unfold isTy at e
    simp only at e
    split at e
    · rename_i ds e1
      obtain ⟨a1, rfl, hi, ws, ha, qa⟩ := S.atR rd e1
      have h2 : ∀ c, t ≠ .cls c := fun c z => by subst z; simp at e
      have h1 : t ≠ .verr := fun z => by subst z; simp at e
      obtain ⟨n, hn1, rfl⟩ := clv_ty cv h2
      have kt := kit_ty (K := X.K) (kit_tab .lst t n hn1 h1)
      have eb : b = Kd.ans .lst t := by cases t <;> first | exact absurd rfl (h2 _) | exact absurd rfl h1 | (simp at e; subst e; rfl)
      subst eb
      exact isinst_ok I r1 (.lst ha) kt fin
    · rename_i k e1
      obtain ⟨a1, rfl, hi, ob, hk⟩ := S.atR rd e1
      obtain rfl : u1 = Value.ref a1 := r1
      obtain ⟨hφ, _, _⟩ := I.hok a1 _ ob
      split at e
      · rename_i j
        cases e
        obtain ⟨hj, rfl⟩ := (show j ≤ 5 ∧ u2 = .ref (L.ca j) from cv)
        exact isinst_exc I xo (ex.cls k hk) hφ (ex.sub k j hk hj) fin
      · cases e
        obtain ⟨n, hn1, rfl⟩ := (show ∃ n, tyName .verr = some n ∧ u2 = .type n from cv)
        cases hn1
        exact isinst_exc I xo (ex.cls k hk) hφ (ex.verr k hk) fin
      · cases e
    · cases e
section
variable {W : WX} {c : Cx} {a : Expr} {ia : IE} {p p2 pos : Pos} {x : Str}
theorem sE_isin {t : Ty} {w : V} (xo : XOk L X) (ex : ExOk L X.K) (hg : Gl X "isinstance") (hm : X.mg "isinstance" = none) (ha : PE X a (cE L W (evE c ia))) (hc : PE X (.Name x p2) (tC w)) (hw : ∀ u, RelV w u → ClV L t u)
    (he : starEach [a, .Name x p2] X.env = (false, eval a X.env) :: starEach [.Name x p2] X.env) (he2 : starEach [.Name x p2] X.env = (false, eval (.Name x p2) X.env) :: starEach [] X.env) (hpl : (backTo pos (starEach [.Name x p2] X.env)).any (·.1) = false) :
    PE X (.Call (.Name "isinstance" p) [a, .Name x p2] [] pos) (cE L W (evE c (.bf (.isin t) (.cons ia .nil)))) :=
  (pe_callB (call_isD xo ex t) hg hm (by decide +kernel) (pa_cons ha (pa_cons hc pa_nil he2) he) (by decide) (by decide) he hpl).imp fun σ H Q ⟨m, env, h, S, ev, o⟩ =>
    run1 (g := fun x h => bfun (.isin t) [x] h) S ev (by
      have e : evE c (.bf (.isin t) (.cons ia .nil)) env h = (evE c ia env h).bind fun x h => bfun (.isin t) [x] h := by
        show ((evE c ia env h).bind fun x h => R.ok [x] h).bind _ = _
        cases evE c ia env h <;> rfl
      rw [← e]
      exact o) fun d h1 m1 H1 v g1 S1 ev1 r1 o1 => by
      simp only [bfun] at o1
      split at o1
      · rename_i b e
        exact ⟨m1, h1, d, v, w, b, rfl, S1, r1, hw, e, OutE.bl S1 o1⟩
      · exact o1.elim
end
end
end Ev
end

section
set_option Elab.async false
set_option autoImplicit false
set_option linter.all false
set_option maxRecDepth 100000
set_option maxHeartbeats 1000000
/-! EvJ: calls of defs, methods, classes. -/
namespace Ev
open PySem L2
section
variable {X : L2.Cx} {k : Nat} {f C : Addr} {fd : FuncData} {ps : List Str} {sp : Sp} {E : St → XK} {x mth : Str} {p pos apos : Pos} {e o : Expr} {es : List Expr} {ta : TE} {t : TA}
/-! ### the rules with the slots -/
theorem pe_call0SD (F : FnOk X.prog X.w X.K X.mg X.base (L2.CX X.prog X.w) k f fd ps sp) (hr : Room k X.A) (hg : Gl X x) (hm : X.mg x = some (.ref f)) (hk : PySem.W.keepIn X.K (.ref f) = true) (hb : Binds X.K fd ps []) (hx : ∀ σ, PassesAt (L2.CX X.prog X.w) X σ (E σ))
    (hdb : (x == ("__debug__" : Str)) = false) : PE X (.Call (.Name x p) [] [] pos) (fun σ H Q => sp [] H Q (E σ)) := by
  refine ⟨fun pins s σ H Q I h => ?_⟩
  refine wpAny_Call_Name_kw (ld_glob I hg hm ?_ hdb)
  exact PySem.W.callWith_K0 I.kIn hk (run_fnSD (us := []) (vs := []) (dvs := []) F hr hb .nil (hx σ) I .nil h)
/-- a method of an instance, by its class -/
def MeIs (X : L2.Cx) (C : Addr) (mth : Str) (k : Nat) (sp : Sp) : Prop := ∃ f fd ps, Cls X.K C ∧ Meth X.K C mth f ∧ FnOk X.prog X.w X.K X.mg X.base (L2.CX X.prog X.w) k f fd ps sp ∧ Binds X.K fd ps []
def tMeX (X : L2.Cx) (mth : Str) (k : Nat) (E : St → XK) (ta : TE) (t : TA) : TE := fun σ H Q => ta σ H fun x H1 => ∃ a C dx fs sp, x = .ref a ∧ H1 a = some (.ins C dx fs) ∧ fs.lookup mth = none ∧ MeIs X C mth k sp ∧
  t σ H1 fun vs H2 => sp (x :: vs) H2 Q (E σ)
theorem pe_meX {pl : Sem Bool} (he : PE X o ta) (hr : Room k X.A) (hx : ∀ σ, PassesAt (L2.CX X.prog X.w) X σ (E σ)) (ha : PA X (e :: es) t)
    (hst : starEach (e :: es) X.env = (false, eval e X.env) :: starEach es X.env) (hpl : (backTo pos (starEach es X.env)).any (·.1) = false)
    (ht : eval (.Call (.Attribute o mth apos) (e :: es) [] pos) X.env = (do
      let ov ← eval o X.env
      standAt apos.atName
      let (f, first) ← holding [ov] (getMethod ov mth pl)
      callWith pos f first (backTo pos (starEach (e :: es) X.env)) (backToKw pos (keywordEach [] X.env)))) :
    PE X (.Call (.Attribute o mth apos) (e :: es) [] pos) (tMeX X mth k E ta t) := by
  refine ⟨fun pins s σ H Q I h => ?_⟩
  refine PySem.W.methodCall_KW (pl := pl) (thn (he.run pins s σ H _ I h) fun u s1 ⟨x, H1, I1, rx, a, C, dx, fs, sp, ex, ea, l, ⟨f, fd, ps, c, hm, F, hb⟩, q⟩ => ?_) ht
  subst ex
  obtain rfl : u = Value.ref a := rx
  refine getmeth_ok I1 ea c hm l ?_
  refine PySem.W.callWith_K (first := [.ref a]) (h₀ := X.base) I.ok.mod.kin hm.kp (thn (ha.run pos pins s1 σ H1 _ I1 q) fun us s2 ⟨vs, H2, I2, r, q2⟩ => ⟨I2.kIn, ?_⟩) hst hpl
  exact run_fnSD (us := .ref a :: us) (vs := .ref a :: vs) (dvs := []) F hr hb .nil (hx σ) I2 (.cons rfl r) (by rw [List.append_nil]; exact q2)
theorem pe_me0X {pl : Sem Bool} (he : PE X o ta) (hr : Room k X.A) (hx : ∀ σ, PassesAt (L2.CX X.prog X.w) X σ (E σ))
    (ht : eval (.Call (.Attribute o mth apos) [] [] pos) X.env = (do
      let ov ← eval o X.env
      standAt apos.atName
      let (f, first) ← holding [ov] (getMethod ov mth pl)
      callWith pos f first (backTo pos (starEach [] X.env)) (backToKw pos (keywordEach [] X.env)))) :
    PE X (.Call (.Attribute o mth apos) [] [] pos) (tMeX X mth k E ta tNil) := by
  refine ⟨fun pins s σ H Q I h => ?_⟩
  refine PySem.W.methodCall_KW (pl := pl) (thn (he.run pins s σ H _ I h) fun u s1 ⟨x, H1, I1, rx, a, C, dx, fs, sp, ex, ea, l, ⟨f, fd, ps, c, hm, F, hb⟩, q⟩ => ?_) ht
  subst ex
  obtain rfl : u = Value.ref a := rx
  refine getmeth_ok I1 ea c hm l ?_
  exact PySem.W.callWith_K0 (first := [.ref a]) I1.kIn hm.kp (run_fnSD (us := [.ref a]) (vs := [.ref a]) (dvs := []) F hr hb .nil (hx σ) I1 (.cons rfl .nil) q)
/-- C(..): its __init__ -/
theorem run_makeSD {pins : List (Addr × Obj)} {σ : St} {H : Hp} {s : Shared} {Q : VK} {us : List Value} {vs : List V} {E : XK} (M : Mk X.K C f) (F : FnOk X.prog X.w X.K X.mg X.base (L2.CX X.prog X.w) k f fd ps sp) (hr : Room (k + 1) X.A) (hb : Binds X.K fd ps [])
    (hx : PassesAt (L2.CX X.prog X.w) X σ E) (I : L2.Inv X pins σ H s) (r : Vals vs us)
    (h : ∀ x dx, H x = none → H dx = none → dx ≠ x → sp (.ref x :: vs) (upd (upd H dx (.own x)) x (.ins C dx [])) (fun v H2 => v = .non ∧ Q (.ref x) H2) E) :
    wpAny (model X.prog X.w) X.A (call (.ref C) us) (EP X pins σ Q) X.xe s := by
  have hq := h (s.heap.objs.size + 1) s.heap.objs.size (I.hok.fresh (Nat.le_succ _)) (I.hok.fresh (Nat.le_refl _)) (Nat.ne_of_lt (Nat.lt_succ_self _))
  have I2 := L2.Inv.made (C := C) I
  have r2 : Vals (V.ref (s.heap.objs.size + 1) :: vs) (Value.ref (s.heap.objs.size + 1) :: us) := .cons rfl r
  have hl : (Value.ref (s.heap.objs.size + 1) :: us).length = ps.length := by
    have e := r2.length
    rw [F.len _ _ _ _ hq] at e
    exact e.symm
  have hb2 := hb _ (Value.ref (s.heap.objs.size + 1) :: us) I2.kIn (by rw [List.append_nil]; exact hl)
  rw [List.append_nil] at hb2
  refine wpAny_call (make_map (f := f) I.kIn M.makes M.init (beq_iff_eq.mp M.fn) (codeAny_mono (F.run _ X.stack _ _ ⟨Value.ref (s.heap.objs.size + 1) :: us, []⟩ (Value.ref (s.heap.objs.size + 1) :: us) _ _ E (hr.make C us [])
    (I2.env0.make C us []) hb2 r2 hq) fun r s' hq' => ?_))
  cases r with
  | error e => exact hx pins _ _ e s' I2 hq'
  | ok fl =>
    cases fl with
    | ret u =>
      obtain ⟨v, H', I3, rv, ev, q3⟩ := I2.after hq'
      subst ev
      exact ⟨rv, ⟨V.ref (s.heap.objs.size + 1), H', I3, rfl, q3⟩⟩
    | next => exact False.elim hq'
    | brk => exact False.elim hq'
    | cont => exact False.elim hq'
def tMkX (C : Addr) (sp : Sp) (E : St → XK) (t : TA) : TE := fun σ H Q => t σ H fun vs H1 => ∀ x dx, H1 x = none → H1 dx = none → dx ≠ x →
  sp (.ref x :: vs) (upd (upd H1 dx (.own x)) x (.ins C dx [])) (fun v H2 => v = .non ∧ Q (.ref x) H2) (E σ)
theorem pe_mkX (M : Mk X.K C f) (F : FnOk X.prog X.w X.K X.mg X.base (L2.CX X.prog X.w) k f fd ps sp) (hr : Room (k + 1) X.A) (hg : Gl X x) (hm : X.mg x = some (.ref C)) (hb : Binds X.K fd ps []) (hx : ∀ σ, PassesAt (L2.CX X.prog X.w) X σ (E σ))
    (ha : PA X (e :: es) t) (hdb : (x == ("__debug__" : Str)) = false) (he : starEach (e :: es) X.env = (false, eval e X.env) :: starEach es X.env) (hpl : (backTo pos (starEach es X.env)).any (·.1) = false) :
    PE X (.Call (.Name x p) (e :: es) [] pos) (tMkX C sp E t) := by
  refine ⟨fun pins s σ H Q I h => ?_⟩
  refine wpAny_Call_Name_kw (ld_glob I hg hm ?_ hdb)
  refine PySem.W.callWith_K (h₀ := X.base) I.ok.mod.kin M.kp (thn (ha.run pos pins s σ H _ I h) fun us s1 ⟨vs, H1, I1, r, q⟩ => ⟨I1.kIn, ?_⟩) he hpl
  exact run_makeSD M F hr hb (hx σ) I1 r q
end
/-! ### promises -/
def OutC (L : Lk) (m : List Addr) (H : Hp) (Q : VK) (E : XK) : R D → Prop
  | .ok d h => ∀ m' H' v, Grow L.K m H m' H' → Sim L m' H' h → Rep L.K m' H' d v → Q v H'
  | .exc c h => ∀ m' H', Grow L.K m H m' H' → Sim L m' H' h → E (.ref (L.ca c)) none H'
  | .bad => False
/-- a def's promise: it does what the plain machine does -/
def spC (L : Lk) (n : Nat) (g : List D → Hs → R D) : Sp := fun vs H Q E => vs.length = n ∧ ∃ m h ds, Sim L m H h ∧ Reps L.K m H ds vs ∧ OutC L m H Q E (g ds h)
section
variable {L : Lk} {W : WX} {X : L2.Cx} {c : Cx} {k : Nat} {x mth : Str} {p pos apos : Pos} {e o : Expr} {es : List Expr} {io : IE} {ies : IEs}
theorem outC_of {σ : St} {m : List Addr} {H : Hp} {Q : VK} {r : R D} (o : OutE L W σ m H Q r) : OutC L m H Q (WE W σ) r := by
  cases r with
  | ok d h => exact o
  | exc k h => exact o
  | bad => exact o
/-- a def of the text, by its number -/
def FnIs (L : Lk) (X : L2.Cx) (x : Str) (k n : Nat) (g : List D → Hs → R D) : Prop := ∃ f fd ps, FnOk X.prog X.w X.K X.mg X.base (L2.CX X.prog X.w) k f fd ps (spC L n g) ∧ X.mg x = some (.ref f) ∧ PySem.W.keepIn X.K (.ref f) = true ∧ Binds X.K fd ps []
theorem sE_call {i n : Nat} (F : FnIs L X x k n (c.call i)) (hr : Room k X.A) (hg : Gl X x) (tk : Takes X W) (ha : PA X (e :: es) (cA L W (evEs c ies))) (hn : lenIEs ies = n)
    (hdb : (x == ("__debug__" : Str)) = false) (he : starEach (e :: es) X.env = (false, eval e X.env) :: starEach es X.env) (hpl : (backTo pos (starEach es X.env)).any (·.1) = false) :
    PE X (.Call (.Name x p) (e :: es) [] pos) (cE L W (evE c (.call i ies))) := by
  obtain ⟨f, fd, ps, F, hm, hk, hb⟩ := F
  refine (pe_callSD (E := WE W) F hr hg hm hk hb .nil (passAt tk) ha hdb he hpl).imp fun σ H Q ⟨m, env, h, S, ev, o⟩ => runA (g := fun xs h => c.call i xs h) S ev o fun ds h1 m1 H1 vs eq g1 S1 ev1 r1 o1 => ?_
  rw [List.append_nil]
  exact ⟨by rw [← r1.len, evEs_len _ _ _ _ _ eq, hn], m1, h1, ds, S1, r1, outC_of o1⟩
theorem sE_call0 {i : Nat} (F : FnIs L X x k 0 (c.call i)) (hr : Room k X.A) (hg : Gl X x) (tk : Takes X W) (hdb : (x == ("__debug__" : Str)) = false) :
    PE X (.Call (.Name x p) [] [] pos) (cE L W (evE c (.call i .nil))) := by
  obtain ⟨f, fd, ps, F, hm, hk, hb⟩ := F
  refine (pe_call0SD (E := WE W) F hr hg hm hk hb (passAt tk) hdb).imp fun σ H Q ⟨m, env, h, S, ev, o⟩ => ?_
  exact ⟨rfl, m, h, [], S, .nil, outC_of o⟩
/-- the classes' methods do what the plain machine does -/
def MesOk (L : Lk) (X : L2.Cx) (c : Cx) (k : Nat) (np : Nat → Nat) : Prop := ∀ (cl i f : Nat) (y mth : Str), L.nm.clsN cl = some y → L.nm.metL[i]? = some mth → c.meth cl i = some f → MeIs X (L.ca cl) mth k (spC L (np f) (c.call f))
theorem sE_meth {pl : Sem Bool} {i n : Nat} {np : Nat → Nat} (M : MesOk L X c k np) (co : ClsOk L X.K) (hi : L.nm.metL[i]? = some mth) (hr : Room k X.A) (tk : Takes X W) (ho : PE X o (cE L W (evE c io))) (ha : PA X (e :: es) (cA L W (evEs c ies)))
    (hn : ∀ cl f, c.meth cl i = some f → np f = lenIEs ies + 1)
    (hst : starEach (e :: es) X.env = (false, eval e X.env) :: starEach es X.env) (hpl : (backTo pos (starEach es X.env)).any (·.1) = false)
    (ht : eval (.Call (.Attribute o mth apos) (e :: es) [] pos) X.env = (do
      let ov ← eval o X.env
      standAt apos.atName
      let (f, first) ← holding [ov] (getMethod ov mth pl)
      callWith pos f first (backTo pos (starEach (e :: es) X.env)) (backToKw pos (keywordEach [] X.env)))) :
    PE X (.Call (.Attribute o mth apos) (e :: es) [] pos) (cE L W (evE c (.meth io i ies))) :=
  (pe_meX (E := WE W) ho hr (passAt tk) ha hst hpl ht).imp fun σ H Q ⟨m, env, h, S, ev, q⟩ => run1 (g := fun x h => match methOf c x i h with
    | some f => (evEs c ies env h).bind fun xs h => c.call f (x :: xs) h
    | none => .bad) S ev q fun d h1 m1 H1 v g1 S1 ev1 r1 o1 => by
      split at o1
      · rename_i f e1
        unfold methOf at e1
        split at e1
        · split at e1
          · rename_i cl fs e2
            obtain ⟨a1, rfl, hi2, dx, gs, hH, fr, y, hy⟩ := S1.atR r1 e2
            refine ⟨a1, L.ca cl, dx, gs, _, rfl, hH, fr.look_none (co.mf mth (List.mem_of_getElem? hi)), M cl i f y mth hy hi e1, ?_⟩
            exact runA (g := fun xs h => c.call f (_ :: xs) h) S1 ev1 o1 fun ds h2 m2 H2 vs eq g2 S2 ev2 r2 o2 =>
              ⟨by rw [List.length_cons, ← r2.len, evEs_len _ _ _ _ _ eq, hn cl f e1], m2, h2, _ :: ds, S2, .cons (r1.grow g2) r2, outC_of o2⟩
          · cases e1
        · cases e1
      · exact o1.elim
theorem sE_meth0 {pl : Sem Bool} {i : Nat} {np : Nat → Nat} (M : MesOk L X c k np) (co : ClsOk L X.K) (hi : L.nm.metL[i]? = some mth) (hr : Room k X.A) (tk : Takes X W) (ho : PE X o (cE L W (evE c io)))
    (hn : ∀ cl f, c.meth cl i = some f → np f = 1)
    (ht : eval (.Call (.Attribute o mth apos) [] [] pos) X.env = (do
      let ov ← eval o X.env
      standAt apos.atName
      let (f, first) ← holding [ov] (getMethod ov mth pl)
      callWith pos f first (backTo pos (starEach [] X.env)) (backToKw pos (keywordEach [] X.env)))) :
    PE X (.Call (.Attribute o mth apos) [] [] pos) (cE L W (evE c (.meth io i .nil))) :=
  (pe_me0X (E := WE W) ho hr (passAt tk) ht).imp fun σ H Q ⟨m, env, h, S, ev, q⟩ => run1 (g := fun x h => match methOf c x i h with
    | some f => (evEs c .nil env h).bind fun xs h => c.call f (x :: xs) h
    | none => .bad) S ev q fun d h1 m1 H1 v g1 S1 ev1 r1 o1 => by
      split at o1
      · rename_i f e1
        unfold methOf at e1
        split at e1
        · split at e1
          · rename_i cl fs e2
            obtain ⟨a1, rfl, hi2, dx, gs, hH, fr, y, hy⟩ := S1.atR r1 e2
            refine ⟨a1, L.ca cl, dx, gs, _, rfl, hH, fr.look_none (co.mf mth (List.mem_of_getElem? hi)), M cl i f y mth hy hi e1, ?_⟩
            exact ⟨by rw [hn cl f e1]; rfl, m1, h1, [_], S1, .cons r1 .nil, outC_of o1⟩
          · cases e1
        · cases e1
      · exact o1.elim
/-- a class of the text with an __init__, by its number -/
def MkIs (L : Lk) (X : L2.Cx) (C : Addr) (x : Str) (k n : Nat) (g : List D → Hs → R D) : Prop := ∃ f fd ps, Mk X.K C f ∧ FnOk X.prog X.w X.K X.mg X.base (L2.CX X.prog X.w) k f fd ps (spC L n g) ∧ X.mg x = some (.ref C) ∧ Binds X.K fd ps []
theorem sE_new {cl i n : Nat} (hc : L.nm.clsN cl = some x) (hi : c.init cl = some i) (F : MkIs L X (L.ca cl) x k n (c.make i)) (hr : Room (k + 1) X.A) (hg : Gl X x) (tk : Takes X W) (ha : PA X (e :: es) (cA L W (evEs c ies))) (hn : lenIEs ies + 1 = n)
    (hdb : (x == ("__debug__" : Str)) = false) (he : starEach (e :: es) X.env = (false, eval e X.env) :: starEach es X.env) (hpl : (backTo pos (starEach es X.env)).any (·.1) = false) :
    PE X (.Call (.Name x p) (e :: es) [] pos) (cE L W (evE c (.new cl ies))) := by
  obtain ⟨f, fd, ps, M, F, hm, hb⟩ := F
  refine (pe_mkX (E := WE W) M F hr hg hm hb (passAt tk) ha hdb he hpl).imp fun σ H Q ⟨m, env, h, S, ev, o⟩ => runA (g := fun xs h => runNew c cl xs h) S ev o fun ds h1 m1 H1 vs eq g1 S1 ev1 r1 o1 => ?_
  intro y dx hy hdx hne
  have hy2 : (L2.upd H1 dx (.own y)) y = none := by rw [upd_ne (Ne.symm hne)]; exact hy
  have S2 : Sim L m1 (L2.upd H1 dx (.own y)) h1 := S1.side hdx
  have g2 : Grow L.K m1 H1 m1 (L2.upd H1 dx (.own y)) := .side hdx
  have S3 : Sim L (m1 ++ [y]) (L2.upd (L2.upd H1 dx (.own y)) y (.ins (L.ca cl) dx [])) (h1 ++ [.ins cl []]) := S2.new hy2 ⟨dx, [], upd_same, .nil, x, hc⟩
  have g3 : Grow L.K m1 (L2.upd H1 dx (.own y)) (m1 ++ [y]) (L2.upd (L2.upd H1 dx (.own y)) y (.ins (L.ca cl) dx [])) := .new hy2
  have hr0 : (m1 ++ [y])[h1.length]? = some y := S2.lenRef
  refine ⟨by rw [List.length_cons, ← r1.len, evEs_len _ _ _ _ _ eq, hn], m1 ++ [y], h1 ++ [.ins cl []], .ref h1.length :: ds, S3, .cons (.ref hr0) (r1.grow (g2.trans g3)), ?_⟩
  unfold runNew at o1
  rw [hi] at o1
  simp only at o1
  split at o1
  · rename_i h' e1
    rw [e1]
    intro m' H' v g S' r
    cases r
    exact ⟨rfl, o1 m' H' _ ((g2.trans g3).trans g) S' (.ref (g.pre _ _ hr0))⟩
  · rename_i kk h' e1
    rw [e1]
    exact fun m' H' g S' => o1 m' H' ((g2.trans g3).trans g) S'
  · exact o1.elim
end
end Ev
end

section
set_option Elab.async false
set_option autoImplicit false
set_option linter.all false
set_option maxRecDepth 100000
set_option maxHeartbeats 1000000
/-! EvK: what is walked; targets; list comprehensions. -/
namespace Ev
open PySem L2
/-- J walks the items xs, while w stands -/
structure Runs (L : Lk) (m0 : List Addr) (H0 : Hp) (J : L2.It) (xs : List D) (w : Watch) : Prop where
  go : ∀ (i : Nat) (m : List Addr) (H : Hp) (h : Hs), Grow L.K m0 H0 m H → Sim L m H h → chk w h = true → i < xs.length → J.go i H
  yld : ∀ (i : Nat) (m : List Addr) (H : Hp) (h : Hs) (v : V) (H' : Hp), Grow L.K m0 H0 m H → Sim L m H h → chk w h = true → i < xs.length → J.yld i H v H' → ∃ d, xs[i]? = some d ∧ Rep L.K m H' d v ∧ Sim L m H' h ∧ Grow L.K m H m H'
  stop : ∀ (m : List Addr) (H : Hp) (h : Hs), Grow L.K m0 H0 m H → Sim L m H h → chk w h = true → J.stop xs.length H
section
variable {L : Lk} {m0 : List Addr} {H0 : Hp}
theorem Runs.grow {J : L2.It} {xs : List D} {w : Watch} {m1 : List Addr} {H1 : Hp} (r : Runs L m0 H0 J xs w) (g : Grow L.K m0 H0 m1 H1) : Runs L m1 H1 J xs w :=
  ⟨fun i m H h g' => r.go i m H h (g.trans g'), fun i m H h v H' g' => r.yld i m H h v H' (g.trans g'), fun m H h g' => r.stop m H h (g.trans g')⟩
theorem chk_one {a : Nat} {o : Ob} {h : Hs} (e : chk [(a, o)] h = true) : h[a]? = some o := by
  simpa [chk] using e
theorem run_lst {i : Nat} {a : Addr} {xs : List D} (hi : m0[i]? = some a) : Runs L m0 H0 (Itl L.K a) xs [(i, .lst xs)] where
  go := fun j m H h g S hc hj => by
    obtain ⟨b, hb, ws, hw, q⟩ := S.at (chk_one hc)
    rw [g.pre _ _ hi] at hb; cases hb
    have hl : j < ws.length := by rw [← q.len]; exact hj
    exact ⟨ws, ws[j], .inl (.inl hw), by simp [hl]⟩
  yld := fun j m H h v H' g S hc hj hy => by
    obtain ⟨b, hb, ws, hw, q⟩ := S.at (chk_one hc)
    rw [g.pre _ _ hi] at hb; cases hb
    obtain ⟨rfl, hv⟩ := hy
    have e := hv ws (.inl (.inl hw))
    obtain ⟨w, hw2, rw_⟩ := q.get (List.getElem?_eq_getElem hj)
    rw [e] at hw2; cases hw2
    exact ⟨_, List.getElem?_eq_getElem hj, rw_, S, .refl⟩
  stop := fun m H h g S hc => by
    obtain ⟨b, hb, ws, hw, q⟩ := S.at (chk_one hc)
    rw [g.pre _ _ hi] at hb; cases hb
    exact ⟨ws, .inl (.inl hw), by rw [q.len]; exact Nat.le_refl _⟩
theorem run_tup {a : Addr} {xs : List D} {ws : List V} (hq : SqT L.K H0 a ws) (q : Reps L.K m0 H0 xs ws) : Runs L m0 H0 (Itt L.K a) xs [] where
  go := fun j m H h g S hc hj => ⟨ws, ws[j]'(by rw [← q.len]; exact hj), g.tup _ _ hq, by simp⟩
  yld := fun j m H h v H' g S hc hj hy => by
    obtain ⟨rfl, hv⟩ := hy
    have e := hv ws (g.tup _ _ hq)
    obtain ⟨w, hw2, rw_⟩ := (q.grow g).get (List.getElem?_eq_getElem hj)
    rw [e] at hw2; cases hw2
    exact ⟨_, List.getElem?_eq_getElem hj, rw_, S, .refl⟩
  stop := fun m H h g S hc => ⟨ws, g.tup _ _ hq, by rw [q.len]; exact Nat.le_refl _⟩
theorem run_str {s : Tx} : Runs L m0 H0 (Its (stx s)) (s.map fun c => .str [c]) [] where
  go := fun j m H h g S hc hj => by
    show j < (stx s).cps.size
    simpa [stx] using hj
  yld := fun j m H h v H' g S hc hj hy => by
    obtain ⟨rfl, c, hc', rfl⟩ := hy
    refine ⟨.str [c], ?_, .str [c], S, .refl⟩
    rw [List.getElem?_map]
    have : s[j]? = some c := by simpa [stx] using hc'
    rw [this]; rfl
  stop := fun m H h g S hc => by
    show (stx s).cps.size ≤ _
    simp [stx]
theorem run_rng {lo : Int} {n : Nat} {xs : List D} (hx : xs = (List.range n).map fun (k : Nat) => D.int (lo + (k : Int))) : Runs L m0 H0 (Itr lo n) xs [] where
  go := fun j m H h g S hc hj => by
    subst hx
    show j < n
    simpa using hj
  yld := fun j m H h v H' g S hc hj hy => by
    subst hx
    obtain ⟨rfl, rfl⟩ := hy
    refine ⟨.int (lo + j), ?_, .int _, S, .refl⟩
    have : j < n := by simpa using hj
    simp [this]
  stop := fun m H h g S hc => by
    subst hx
    show n ≤ _
    simp
theorem run_rngC {lo c : Int} {n : Nat} {xs : List D} (hx : xs = (List.range n).map fun (k : Nat) => D.int (lo + (k : Int) * c)) : Runs L m0 H0 (Itc lo c n) xs [] where
  go := fun j m H h g S hc hj => by
    subst hx
    show j < n
    simpa using hj
  yld := fun j m H h v H' g S hc hj hy => by
    subst hx
    obtain ⟨rfl, rfl⟩ := hy
    refine ⟨.int (lo + (j : Nat) * c), ?_, .int _, S, .refl⟩
    have : j < n := by simpa using hj
    simp [this]
  stop := fun m H h g S hc => by
    subst hx
    show n ≤ _
    simp
theorem enumL_len : ∀ (n : Nat) (xs : List D), (enumL n xs).length = xs.length
  | _, [] => rfl
  | n, _ :: xs => by simp [enumL, enumL_len (n + 1) xs]
theorem enumL_get : ∀ (n : Nat) (xs : List D) (j : Nat), (enumL n xs)[j]? = (xs[j]?).map fun x => D.tup [.int ((n + j : Nat) : Int), x]
  | _, [], j => by simp [enumL]
  | n, x :: xs, 0 => by simp [enumL]
  | n, x :: xs, j + 1 => by
    have := enumL_get (n + 1) xs j
    simp only [enumL, List.getElem?_cons_succ, this]
    rw [show n + 1 + j = n + (j + 1) by omega]
/-- a new pair -/
theorem pair_new {m : List Addr} {H : Hp} {h : Hs} {T : Addr} {d e : D} {v w : V} (S : Sim L m H h) (hT : H T = none) (rd : Rep L.K m H d v) (re : Rep L.K m H e w) : Rep L.K m (L2.upd H T (.tup [v, w])) (.tup [d, e]) (.ref T) ∧ Sim L m (L2.upd H T (.tup [v, w])) h ∧ Grow L.K m H m (L2.upd H T (.tup [v, w])) :=
  ⟨.tup (.inl (.inl upd_same)) (.cons (rd.grow (.side hT)) (.cons (re.grow (.side hT)) .nil)), S.side hT, .side hT⟩
theorem run_enumL {i : Nat} {a : Addr} {xs : List D} (hi : m0[i]? = some a) : Runs L m0 H0 (Ite L.K a) (enumL 0 xs) [(i, .lst xs)] where
  go := fun j m H h g S hc hj => by
    rw [enumL_len] at hj
    obtain ⟨b, hb, ws, hw, q⟩ := S.at (chk_one hc)
    rw [g.pre _ _ hi] at hb; cases hb
    have hl : j < ws.length := by rw [← q.len]; exact hj
    exact ⟨ws, ws[j], .inl (.inl hw), by simp [hl]⟩
  yld := fun j m H h v H' g S hc hj hy => by
    rw [enumL_len] at hj
    obtain ⟨b, hb, ws, hw, q⟩ := S.at (chk_one hc)
    rw [g.pre _ _ hi] at hb; cases hb
    obtain ⟨T, x, rfl, hT, rfl, hv⟩ := hy
    have e := hv ws (.inl (.inl hw))
    obtain ⟨w, hw2, rw_⟩ := q.get (List.getElem?_eq_getElem hj)
    rw [e] at hw2; cases hw2
    obtain ⟨p1, p2, p3⟩ := pair_new S hT (.int ((0 + j : Nat) : Int)) rw_
    refine ⟨.tup [.int ((0 + j : Nat) : Int), xs[j]], by rw [enumL_get, List.getElem?_eq_getElem hj]; rfl, ?_⟩
    have e3 : ((0 + j : Nat) : Int) = ((j : Nat) : Int) := by omega
    rw [e3] at p1 p2 p3 ⊢
    exact ⟨p1, p2, p3⟩
  stop := fun m H h g S hc => by
    obtain ⟨b, hb, ws, hw, q⟩ := S.at (chk_one hc)
    rw [g.pre _ _ hi] at hb; cases hb
    exact ⟨ws, .inl (.inl hw), by rw [enumL_len, q.len]; exact Nat.le_refl _⟩
end
/-! ### readings of what is walked -/
section
variable (L : Lk)
def OutI (W : WX) (σ : St) (m : List Addr) (H : Hp) (Rr : L2.It → Hp → Prop) : R (List D × Watch) → Prop
  | .ok p h => ∀ m' H' J, Grow L.K m H m' H' → Sim L m' H' h → chk p.2 h = true → Runs L m' H' J p.1 p.2 → Rr J H'
  | .exc c h => ∀ m' H', Grow L.K m H m' H' → Sim L m' H' h → W (.ref (L.ca c)) none σ H'
  | .bad => False
def cI (W : WX) (f : Env → Hs → R (List D × Watch)) : TI := fun σ H Rr => ∃ m env h, Sim L m H h ∧ EnvR L.K m H env σ ∧ OutI L W σ m H Rr (f env h)
end
section
variable {L : Lk} {W : WX} {X : L2.Cx} {c : Cx} {a b d e tg : Expr} {ia ib ic : IE} {pos : Pos}
theorem _root_.L2.PI.imp {X : L2.Cx} {tg iter : Expr} {t t' : TI} (p : PI X tg iter t) (i : ∀ σ H Q, t' σ H Q → t σ H Q) : PI X tg iter t' := ⟨fun pins s σ H Q I q => p.run pins s σ H Q I (i σ H Q q)⟩
theorem OutI.mono {σ : St} {m m' : List Addr} {H H' : Hp} {Q : L2.It → Hp → Prop} {r : R (List D × Watch)} (g : Grow L.K m H m' H') (o : OutI L W σ m H Q r) : OutI L W σ m' H' Q r := by
  cases r with
  | ok d h => exact fun m2 H2 J g2 => o m2 H2 J (g.trans g2)
  | exc c h => exact fun m2 H2 g2 => o m2 H2 (g.trans g2)
  | bad => exact o
theorem runI {σ : St} {m : List Addr} {H : Hp} {env : Env} {h : Hs} {Q' : VK} {Q : L2.It → Hp → Prop} {f : Env → Hs → R D} {g : D → Hs → R (List D × Watch)} (S : Sim L m H h) (ev : EnvR L.K m H env σ) (o : OutI L W σ m H Q ((f env h).bind g))
    (k : ∀ d h' m' H' v, Grow L.K m H m' H' → Sim L m' H' h' → EnvR L.K m' H' env σ → Rep L.K m' H' d v → OutI L W σ m' H' Q (g d h') → Q' v H') : cE L W f σ H Q' := by
  refine ⟨m, env, h, S, ev, ?_⟩
  cases e : f env h with
  | ok d h' =>
    rw [e] at o
    exact fun m' H' v g' S' r => k d h' m' H' v g' S' (ev.grow g') r (OutI.mono g' o)
  | exc c h' => rw [e] at o; exact o
  | bad => rw [e] at o; exact o
/-- a value walked, whatever it is -/
def iAny (L : Lk) (tl : TE) : TI := fun σ H Rr => tl σ H fun x H1 => (∃ a, x = .ref a ∧ (∃ xs, SqL L.K H1 a xs) ∧ Rr (Itl L.K a) H1) ∨ (∃ a, x = .ref a ∧ (∃ xs, SqT L.K H1 a xs) ∧ Rr (Itt L.K a) H1) ∨ (∃ x', x = .str x' ∧ Rr (Its x') H1)
theorem pi_any {l : Expr} {tl : TE} (xo : XOk L X) (hl : PE X l tl) : PI X tg l (iAny L tl) := by
  refine ⟨fun pins s σ H Rr I h => ?_⟩
  refine thn (hl.run pins s σ H _ I h) fun v s1 ⟨x, H1, I1, r1, q1⟩ => ?_
  rcases q1 with ⟨a, rfl, ⟨xs, hq⟩, q⟩ | ⟨a, rfl, ⟨xs, hq⟩, q⟩ | ⟨x', rfl, q⟩
  · cases r1
    rw [← xo.eK] at hq q
    obtain ⟨its, rv, p, hz⟩ := I1.list hq
    exact wpAny_pyIter_list p.isList (pi_one (tk := s1.toks) I1 _ (turn_list a _) ⟨_, Heap.get?_push_size _ rfl, rfl, rfl⟩ q)
  · cases r1
    rw [← xo.eK] at hq q
    obtain ⟨its, rv, p, hz⟩ := I1.tuple hq
    exact wpAny_pyIter_tuple (show s1.heap.IsTuple a its.toArray from p) (pi_one (tk := s1.toks) I1 _ (turn_tuple a _) ⟨_, Heap.get?_push_size _ rfl, rfl, rfl⟩ q)
  · obtain ⟨t, rfl⟩ := r1
    cases ha : x'.cps.all (· < 128)
    · exact wpAny_pyIter_wide ha (pi_one (tk := s1.toks) I1 _ (turn_str _ x' t "str_iterator" (.inr rfl)) ⟨_, Heap.get?_push_size _ rfl, rfl, rfl⟩ q)
    · exact wpAny_pyIter_ascii ha (pi_one (tk := s1.toks) I1 _ (turn_str _ x' t "str_ascii_iterator" (.inl rfl)) ⟨_, Heap.get?_push_size _ rfl, rfl, rfl⟩ q)
theorem chk_now {a : Nat} {o : Ob} {h : Hs} (e : h[a]? = some o) : chk [(a, o)] h = true := by simp [chk, e]
theorem sI_val (xo : XOk L X) (ha : PE X a (cE L W (evE c ia))) : PI X tg a (cI L W (evIt c (.val ia))) :=
  (pi_any xo ha).imp fun σ H Q ⟨m, env, h, S, ev, o⟩ => runI (g := fun x h => R.opt (valItems x h) h) S ev o fun x h1 m1 H1 v g1 S1 ev1 r1 o1 => by
    cases e : valItems x h1 with
    | none => rw [e] at o1; exact o1.elim
    | some p =>
      rw [e] at o1
      unfold valItems at e
      split at e
      · cases e
        cases r1 with
        | tup hx q => exact .inr (.inl ⟨_, rfl, ⟨_, hx⟩, o1 m1 H1 _ .refl S1 rfl (run_tup hx q)⟩)
      · cases e
        cases r1
        exact .inr (.inr ⟨_, rfl, o1 m1 H1 _ .refl S1 rfl run_str⟩)
      · split at e
        · rename_i xs e1
          cases e
          obtain ⟨a1, rfl, hi, ws, ha, qa⟩ := S1.atR r1 e1
          exact .inl ⟨a1, rfl, ⟨ws, .inl (.inl ha)⟩, o1 m1 H1 _ .refl S1 (chk_now e1) (run_lst hi)⟩
        · cases e
      · cases e
theorem sI_rng1 {p : Pos} (hg : Gl X "range") (hm : X.mg "range" = none) (ha : PE X a (cE L W (evE c ia))) (hs : starEach [a] X.env = [(false, eval a X.env)]) : PI X tg (.Call (.Name "range" p) [a] [] pos) (cI L W (evIt c (.rng1 ia))) := by
  have hA : PA X [a] (tCons (cE L W (evE c ia)) tNil) := pa_cons ha pa_nil hs
  refine (pi_range1 hg hm hA hs).imp fun σ H Q ⟨m, env, h, S, ev, o⟩ => ?_
  refine runI (g := fun x h => match x with
    | .int j => if smallR j then .ok (rangeL 0 j, []) h else .bad
    | _ => .bad) S ev o fun x h1 m1 H1 v g1 S1 ev1 r1 o1 => ?_
  split at o1
  · rename_i j
    split at o1
    · rename_i hj
      cases r1
      have := smallR_of hj
      refine ⟨j, rfl, this.1, this.2, o1 m1 H1 _ .refl S1 rfl (run_rng ?_)⟩
      show rangeL 0 j = _
      unfold rangeL
      rw [show j - 0 = j by omega]
    · exact o1.elim
  · exact o1.elim
theorem sI_rng2 {p : Pos} (hg : Gl X "range") (hm : X.mg "range" = none) (ha : PE X a (cE L W (evE c ia))) (hb : PE X b (cE L W (evE c ib))) (hs : starEach [a, b] X.env = [(false, eval a X.env), (false, eval b X.env)]) (hs2 : starEach [b] X.env = [(false, eval b X.env)]) :
    PI X tg (.Call (.Name "range" p) [a, b] [] pos) (cI L W (evIt c (.rng2 ia ib))) := by
  have hA : PA X [a, b] (tCons (cE L W (evE c ia)) (tCons (cE L W (evE c ib)) tNil)) := pa_cons ha (pa_cons hb pa_nil hs2) (by rw [hs, hs2])
  refine (pi_range2 hg hm hA hs hs2).imp fun σ H Q ⟨m, env, h, S, ev, o⟩ => ?_
  refine runI (g := fun x h => (evE c ib env h).bind fun y h => match x, y with
    | .int i, .int j => if smallR i && smallR j then .ok (rangeL i j, []) h else .bad
    | _, _ => .bad) S ev o fun x h1 m1 H1 v g1 S1 ev1 r1 o1 => ?_
  refine runI S1 ev1 o1 fun y h2 m2 H2 u g2 S2 ev2 r2 o2 => ?_
  split at o2
  · rename_i i j
    split at o2
    · rename_i hj
      rw [Bool.and_eq_true] at hj
      cases r1; cases r2
      have h1 := smallR_of hj.1
      have h2 := smallR_of hj.2
      exact ⟨i, j, rfl, ⟨h1.1, h1.2, h2.1, h2.2⟩, o2 m2 H2 _ .refl S2 rfl (run_rng rfl)⟩
    · exact o2.elim
  · exact o2.elim
theorem sI_enum {elts : List Expr} {kk : Nat} {p tpos : Pos} (xo : XOk L X) (hg : Gl X "enumerate") (hm : X.mg "enumerate" = none) (ha : PE X a (cE L W (evE c ia))) (hs : starEach [a] X.env = [(false, eval a X.env)]) :
    PI X (.Tuple elts kk tpos) (.Call (.Name "enumerate" p) [a] [] pos) (cI L W (evIt c (.enum ia))) := by
  have hA : PA X [a] (tCons (cE L W (evE c ia)) tNil) := pa_cons ha pa_nil hs
  have P := pi_enum (elts := elts) (kk := kk) (tpos := tpos) (pos := pos) (p := p) hg hm hA hs
  rw [xo.eK] at P
  refine P.imp fun σ H Q ⟨m, env, h, S, ev, o⟩ => ?_
  refine runI (g := fun x h => R.opt (enumItems x h) h) S ev o fun x h1 m1 H1 v g1 S1 ev1 r1 o1 => ?_
  cases e : enumItems x h1 with
  | none => rw [e] at o1; exact o1.elim
  | some p =>
    rw [e] at o1
    unfold enumItems at e
    split at e
    · split at e
      · rename_i xs e1
        cases e
        obtain ⟨a1, rfl, hi, ws, ha, qa⟩ := S1.atR r1 e1
        exact ⟨a1, ws, rfl, .inl (.inl ha), o1 m1 H1 (Ite L.K a1) .refl S1 (chk_now e1) (run_enumL hi)⟩
      · cases e
    · cases e

/-! ### targets -/
mutual
def tgSlots : Tg → List Nat
  | .nm i => [i]
  | .tp ts => tgsSlots ts
  | .fld _ _ => []
  | .sub _ _ => []
def tgsSlots : Tgs → List Nat
  | .nil => []
  | .cons t ts => tgSlots t ++ tgsSlots ts
end
def Off (sl : List Nat) (σ σ' : St) : Prop := σ'.length = σ.length ∧ ∀ j, j ∉ sl → σ'[j]? = σ[j]?
theorem Off.refl (sl : List Nat) (σ : St) : Off sl σ σ := ⟨rfl, fun _ _ => rfl⟩
theorem Off.trans {a b : List Nat} {σ σ' σ'' : St} (h : Off a σ σ') (h' : Off b σ' σ'') : Off (a ++ b) σ σ'' :=
  ⟨h'.1.trans h.1, fun j hj => by rw [List.mem_append, not_or] at hj; exact (h'.2 j hj.2).trans (h.2 j hj.1)⟩
def OutG (L : Lk) (sl : List Nat) (σ : St) (m : List Addr) (H : Hp) (Q : St → Hp → Prop) : R Env → Prop
  | .ok env h => ∀ m' H' σ', Grow L.K m H m' H' → Sim L m' H' h → EnvR L.K m' H' env σ' → Off sl σ σ' → Q σ' H'
  | _ => False
def cG (L : Lk) (sl : List Nat) (f : D → Env → Hs → R Env) : TG := fun v σ H Q => ∃ m env h d, Sim L m H h ∧ EnvR L.K m H env σ ∧ Rep L.K m H d v ∧ OutG L sl σ m H Q (f d env h)
def cGs (L : Lk) (sl : List Nat) (f : List D → Env → Hs → R Env) : TGs := fun vs σ H Q => ∃ m env h ds, Sim L m H h ∧ EnvR L.K m H env σ ∧ Reps L.K m H ds vs ∧ OutG L sl σ m H Q (f ds env h)
theorem _root_.L2.PG.imp {X : L2.Cx} {tg : Expr} {t t' : TG} (p : PG X tg t) (i : ∀ v σ H Q, t' v σ H Q → t v σ H Q) : PG X tg t' := ⟨fun pins s σ H v u Q I r q => p.run pins s σ H v u Q I r (i v σ H Q q)⟩
theorem _root_.L2.PGs.imp {X : L2.Cx} {tg : List Expr} {t t' : TGs} (p : PGs X tg t) (i : ∀ v σ H Q, t' v σ H Q → t v σ H Q) : PGs X tg t' := ⟨fun pins s σ H v u Q I r q => p.run pins s σ H v u Q I r (i v σ H Q q)⟩
theorem sG_name {i : Nat} {x : Str} (hN : X.N.Nodup) (hi : X.N[i]? = some x) (hx : Loc X.env.scope x) (hf : X.fn x = true ∨ X.env.scope.names.lookup x = some .local) : PG X (.Name x pos) (cG L (tgSlots (.nm i)) (evTg c (.nm i))) :=
  (pg_name hN hi hx hf).imp fun v σ H Q ⟨m, env, h, d, S, ev, r, o⟩ => o m H _ .refl S (ev.set r i) ⟨by simp, fun j hj => by
    have : j ≠ i := fun e => hj (by simp [tgSlots, e])
    rw [List.getElem?_set_ne (Ne.symm this)]⟩
theorem sGs_nil : PGs X [] (cGs L (tgsSlots .nil) (evTgs c .nil)) :=
  pgs_nil.imp fun v σ H Q ⟨m, env, h, ds, S, ev, r, o⟩ => by
    have o' : OutG L [] σ m H Q (if ds.isEmpty then R.ok env h else R.bad) := o
    cases r with
    | nil => exact ⟨rfl, o' m H σ .refl S ev (.refl _ _)⟩
    | cons r rs => exact o'.elim
theorem OutG.mono {sl : List Nat} {σ : St} {m m' : List Addr} {H H' : Hp} {Q : St → Hp → Prop} {r : R Env} (g : Grow L.K m H m' H') (o : OutG L sl σ m H Q r) : OutG L sl σ m' H' Q r := by
  cases r with
  | ok d h => exact fun m2 H2 J g2 => o m2 H2 J (g.trans g2)
  | exc c h => exact o
  | bad => exact o
theorem sGs_cons {t : Tg} {ts : Tgs} {es : List Expr} (h1 : PG X e (cG L (tgSlots t) (evTg c t))) (h2 : PGs X es (cGs L (tgsSlots ts) (evTgs c ts)))
    (hs : (assignEach (e :: es) X.env).map (·.2) = assign e X.env :: (assignEach es X.env).map (·.2)) : PGs X (e :: es) (cGs L (tgsSlots (.cons t ts)) (evTgs c (.cons t ts))) :=
  (pgs_cons h1 h2 hs).imp fun v σ H Q ⟨m, env, h, ds, S, ev, r, o⟩ => by
    cases r with
    | nil => exact (show False from o).elim
    | @cons d v ds vs r rs =>
      have o' : OutG L (tgSlots t ++ tgsSlots ts) σ m H Q ((evTg c t d env h).bind fun env h => evTgs c ts ds env h) := o
      refine ⟨v, vs, rfl, m, env, h, d, S, ev, r, ?_⟩
      cases e1 : evTg c t d env h with
      | ok env1 h1 =>
        rw [e1] at o'
        intro m1 H1 σ1 g1 S1 ev1 off1
        refine ⟨m1, env1, h1, ds, S1, ev1, rs.grow g1, ?_⟩
        rw [R.bind_ok] at o'
        cases e2 : evTgs c ts ds env1 h1 with
        | ok env2 h2 =>
          rw [e2] at o'
          exact fun m2 H2 σ2 g2 S2 ev2 off2 => o' m2 H2 σ2 (g1.trans g2) S2 ev2 (off1.trans off2)
        | exc k h2 => rw [e2] at o'; exact o'
        | bad => rw [e2] at o'; exact o'
      | exc k h1 => rw [e1] at o'; exact o'
      | bad => rw [e1] at o'; exact o'
end
end Ev
end

section
set_option Elab.async false
set_option autoImplicit false
set_option linter.all false
set_option maxRecDepth 100000
set_option maxHeartbeats 1000000
/-! EvL: targets (pairs, fields, places); list comprehensions. -/
namespace Ev
open PySem L2
section
variable {L : Lk} {W : WX} {X : L2.Cx} {c : Cx} {a b d e tg o : Expr} {ia ib ic io : IE} {pos : Pos}
def lenTgs : Tgs → Nat
  | .nil => 0
  | .cons _ ts => lenTgs ts + 1
theorem evTgs_len : ∀ (ts : Tgs) (xs : List D) (env env' : Env) (h h' : Hs), evTgs c ts xs env h = .ok env' h' → xs.length = lenTgs ts
  | .nil, xs, env, env', h, h', e => by
    have e : (if xs.isEmpty then R.ok env h else R.bad) = .ok env' h' := e
    cases xs with
    | nil => rfl
    | cons _ _ => cases e
  | .cons t ts, xs, env, env', h, h', e => by
    cases xs with
    | nil => exact absurd (show R.bad = R.ok env' h' from e) (by intro z; cases z)
    | cons x r =>
      have e : (evTg c t x env h).bind (fun env h => evTgs c ts r env h) = .ok env' h' := e
      cases e1 : evTg c t x env h with
      | ok env1 h1 =>
        rw [e1] at e
        rw [R.bind_ok] at e
        have := evTgs_len ts r env1 env' h1 h' e
        simp [lenTgs, this]
      | exc k h1 => rw [e1] at e; cases e
      | bad => rw [e1] at e; cases e
theorem sG_tup {ts : Tgs} {es : List Expr} {k : Nat} (xo : XOk L X) (hc : X.calm = true) (h : PGs X es (cGs L (tgsSlots ts) (evTgs c ts))) (hn : (assignEach es X.env).length = lenTgs ts) (hst : (assignEach es X.env).findIdx? (·.1) = none) : PG X (.Tuple es k pos) (cG L (tgSlots (.tp ts)) (evTg c (.tp ts))) :=
  (pg_tup hc h hn hst).imp fun v σ H Q ⟨m, env, h, d, S, ev, r, o⟩ => by
    cases d with
    | tup xs =>
      have o' : OutG L (tgsSlots ts) σ m H Q (evTgs c ts xs env h) := o
      cases r with
      | tup hx q =>
        refine ⟨_, _, rfl, by rw [xo.eK]; exact hx, ?_, m, env, h, xs, S, ev, q, o'⟩
        cases e : evTgs c ts xs env h with
        | ok env' h' => rw [← evTgs_len ts xs env env' h h' e, q.len]
        | exc k h' => rw [e] at o'; exact o'.elim
        | bad => rw [e] at o'; exact o'.elim
    | _ => exact (show False from o).elim
/-- an expression first, then the rest of a store -/
theorem runG {sl : List Nat} {σ : St} {m : List Addr} {H : Hp} {env : Env} {h : Hs} {Q' : VK} {Q : St → Hp → Prop} {f : Env → Hs → R D} {g : D → Hs → R Env} (S : Sim L m H h) (ev : EnvR L.K m H env σ) (o : OutG L sl σ m H Q ((f env h).bind g))
    (k : ∀ d h' m' H' v, Grow L.K m H m' H' → Sim L m' H' h' → EnvR L.K m' H' env σ → Rep L.K m' H' d v → OutG L sl σ m' H' Q (g d h') → Q' v H') : cE L W f σ H Q' := by
  refine ⟨m, env, h, S, ev, ?_⟩
  cases e : f env h with
  | ok d h' =>
    rw [e] at o
    exact fun m' H' v g' S' r => k d h' m' H' v g' S' (ev.grow g') r (OutG.mono g' o)
  | exc c h' => rw [e] at o; exact o.elim
  | bad => rw [e] at o; exact o.elim
/-- one field set -/
theorem set_fld (xo : XOk L X) (co : ClsOk L X.K) {f : Nat} {x : Str} (hx : L.nm.fldL[f]? = some x) {m : List Addr} {H : Hp} {h h' : Hs} {d o : D} {v ov : V} (S : Sim L m H h) (ro : Rep L.K m H o ov) (rd : Rep L.K m H d v) (e : setFld o f d h = .ok () h') :
    ∃ a C dx fs, ov = .ref a ∧ H a = some (.ins C dx fs) ∧ Cls X.K C ∧ NoAttr X.K C x ∧ fs.length < 1000 ∧ Sim L m (L2.upd H a (.ins C dx (putF x v fs))) h' ∧ Grow L.K m H m (L2.upd H a (.ins C dx (putF x v fs))) := by
  unfold setFld at e
  split at e
  · split at e
    · rename_i i k fs e1
      split at e
      · rename_i hl
        cases e
        obtain ⟨a1, rfl, hi, dx, gs, hH, fr, y, hy⟩ := S.atR ro e1
        obtain ⟨c1, c2⟩ := co.cls k y hy
        have hm : ∀ u, H a1 = some u → Mut (some u) := fun u eu => by rw [hH] at eu; cases eu; trivial
        have gg : Grow L.K m H m (L2.upd H a1 (.ins (L.ca k) dx (putF x v gs))) := Grow.upd hm
        refine ⟨a1, _, dx, gs, rfl, hH, c1, c2 f x hx, by rw [← fr.length]; omega, ?_, gg⟩
        exact S.set hi hm ⟨dx, _, upd_same, (fr.put co.nd hx rd).grow gg, y, hy⟩
      · cases e
    · cases e
  · cases e
theorem sG_fld {f : Nat} {x : Str} (xo : XOk L X) (co : ClsOk L X.K) (hx : L.nm.fldL[f]? = some x) (ha : PE X o (cE L W (evE c io))) : PG X (.Attribute o x pos) (cG L (tgSlots (.fld io f)) (evTg c (.fld io f))) := by
  refine ⟨fun pins s σ H v u Q I r ⟨m, env, h, d, S, ev, rd, o⟩ => ?_⟩
  show wpAny _ _ (do
    let ov ← holding [u] (eval _ X.env)
    standAt pos.atName
    holding [u, ov] (setAttr ov x u)
    release [u, ov] []) _ _ _
  have o' : OutG L [] σ m H Q ((evE c io env h).bind fun x h => (setFld x f d h).bind fun _ h => .ok env h) := o
  have P : cE L W (evE c io) σ H (fun ov H1 => ∃ a C dx fs, ov = .ref a ∧ H1 a = some (.ins C dx fs) ∧ Cls X.K C ∧ NoAttr X.K C x ∧ fs.length < 1000 ∧ Q σ (L2.upd H1 a (.ins C dx (putF x v fs)))) := by
    cases e0 : evE c io env h with
    | ok d1 h1 =>
      refine ⟨m, env, h, S, ev, ?_⟩
      rw [e0]
      intro m1 H1 ov g1 S1 r1
      rw [e0, R.bind_ok] at o'
      cases e2 : setFld d1 f d h1 with
      | ok z h2 =>
        rw [e2, R.bind_ok] at o'
        obtain ⟨a, C, dx, fs, p1, p2, p3, p4, p5, p6, p7⟩ := set_fld xo co hx S1 r1 (rd.grow g1) e2
        exact ⟨a, C, dx, fs, p1, p2, p3, p4, p5, o' m1 _ σ (g1.trans p7) p6 ((ev.grow g1).grow p7) (.refl _ _)⟩
      | exc k h2 => rw [e2] at o'; exact o'.elim
      | bad => rw [e2] at o'; exact o'.elim
    | exc k h1 => rw [e0] at o'; exact o'.elim
    | bad => rw [e0] at o'; exact o'.elim
  refine wpAny_bind (wpAny_holding (thn (ha.run pins s σ H _ I P) fun ov s1 ⟨x1, H1, I1, r1, a, C, dx, fs, ex, ea, p3, p4, p5, q⟩ => ?_))
  subst ex
  obtain rfl : ov = Value.ref a := r1
  refine wpAny_bind (wpAny_standAt (wpAny_bind (wpAny_holding ?_)))
  exact setattr_ok I1 ea p3 p4 p5 r fun s2 I2 => wpAny_release ⟨σ, _, I2, q⟩

def rSetU (L : Lk) : TSet := fun o i v H Q => rSetL o i v H Q ∨ rDicSet L o i v H Q
theorem set_u (xo : XOk L X) (hu : X.A.units + 16 < cLine) : PSet X (rSetU L) := fun pins s σ H o i v ov iv u Q I ro ri rv h =>
  h.elim (set_list pins s σ H o i v ov iv u Q I ro ri rv) (set_dic xo hu pins s σ H o i v ov iv u Q I ro ri rv)
theorem set_sub {m : List Addr} {H : Hp} {h h' : Hs} {x y d : D} {ov iv v : V} {Q : Hp → Prop} (S : Sim L m H h) (rx : Rep L.K m H x ov) (ry : Rep L.K m H y iv) (rd : Rep L.K m H d v) (e : setIx x y d h = .ok () h')
    (k : ∀ H', Sim L m H' h' → Grow L.K m H m H' → Q H') : rSetU L ov iv v H Q := by
  unfold setIx at e
  split at e
  · split at e
    · rename_i i xs e1
      split at e
      · split at e
        · rename_i j0 j ej
          cases e
          obtain ⟨a1, rfl, hi, vs, hH, q⟩ := S.atR rx e1
          cases ry
          have hm : ∀ u, H a1 = some u → Mut (some u) := fun u eu => by rw [hH] at eu; cases eu; trivial
          have gg : Grow L.K m H m (L2.upd H a1 (.lst (vs.set j v))) := Grow.upd hm
          refine .inl ⟨a1, vs, _, j, rfl, rfl, hH, by rw [← ixN_eq, ← q.len]; exact ej, k _ ?_ gg⟩
          exact S.set hi hm ⟨_, upd_same, (q.set rd j).grow gg⟩
        · cases e
      · cases e
    · rename_i i kvs e1
      split at e
      · rename_i hk
        cases e
        obtain ⟨a1, rfl, hi, ob⟩ := S.atR rx e1
        obtain ⟨u0, hu0, mu0⟩ := ob.tracked
        have hm : ∀ u, H a1 = some u → Mut (some u) := fun u eu => by rw [hu0] at eu; cases eu; exact mu0
        refine .inr ⟨m, kvs, a1, y, d, rfl, ob, ry, rd, hk.1, hk.2, fun o mo ob' => k _ (S.set hi hm ob') (Grow.upd hm)⟩
      · cases e
    · cases e
  · cases e
theorem sG_sub (xo : XOk L X) (hu : X.A.units + 16 < cLine) (ha : PE X o (cE L W (evE c io))) (hb : PE X b (cE L W (evE c ib))) (hs : ∀ v, assign (.Subscript o b pos) X.env v = (do
      let ov ← holding [v] (eval o X.env)
      let iv ← holding [v, ov] (eval b X.env)
      standAt pos
      holding [v, ov, iv] (setItem ov iv v)
      release [v, ov, iv] [])) : PG X (.Subscript o b pos) (cG L (tgSlots (.sub io ib)) (evTg c (.sub io ib))) :=
  (pg_sub ha hb (set_u xo hu) hs).imp fun v σ H Q ⟨m, env, h, d, S, ev, rd, o⟩ => by
    have o' : OutG L [] σ m H Q ((evE c io env h).bind fun x h => (evE c ib env h).bind fun y h => (setIx x y d h).bind fun _ h => .ok env h) := o
    refine runG S ev o' fun x h1 m1 H1 ov g1 S1 ev1 r1 o1 => ?_
    refine runG S1 ev1 o1 fun y h2 m2 H2 iv g2 S2 ev2 r2 o2 => ?_
    cases e : setIx x y d h2 with
    | ok z h3 =>
      rw [e, R.bind_ok] at o2
      exact set_sub S2 (r1.grow g2) r2 (rd.grow (g1.trans g2)) e fun H' S' g' => o2 m2 H' σ g' S' (ev2.grow g') (.refl _ _)
    | exc k h3 => rw [e] at o2; exact o2.elim
    | bad => rw [e] at o2; exact o2.elim
end
end Ev
end

section
set_option Elab.async false
set_option autoImplicit false
set_option linter.all false
set_option maxRecDepth 100000
set_option maxHeartbeats 1000000
/-! EvM: list comprehensions; list(range). -/
namespace Ev
open PySem L2
section
variable {L : Lk} {W : WX} {X : L2.Cx} {c : Cx} {a b d e tg o elt iter : Expr} {ia ib ic io ielt icnd : IE} {pos : Pos}
theorem off_wipe_get : ∀ (vs : List Nat) (σ σ' : St), σ'.length = σ.length → (∀ j, j ∉ vs → σ'[j]? = σ[j]?) → L2.wipe σ' vs = L2.wipe σ vs := by
  intro vs σ σ' hl h
  have key : ∀ (vs : List Nat) (σ : St) (j : Nat), (L2.wipe σ vs)[j]? = if j < σ.length then (if j ∈ vs then some none else σ[j]?) else none := by
    intro vs
    induction vs with
    | nil =>
      intro σ j
      by_cases hj : j < σ.length
      · simp [L2.wipe, hj]
      · simp [L2.wipe, hj]
    | cons v vs ih =>
      intro σ j
      unfold L2.wipe
      rw [List.getElem?_set, ih, wipe_length]
      by_cases e : v = j
      · subst e
        by_cases hj : v < σ.length
        · simp [hj]
        · simp [hj]
      · simp only [e, if_false, List.mem_cons]
        have : ¬ j = v := fun q => e q.symm
        simp [this]
  apply List.ext_getElem?
  intro j
  rw [key, key, hl]
  by_cases hj : j < σ.length
  · by_cases hm : j ∈ vs
    · simp [hj, hm]
    · simp [hj, hm, h j hm]
  · simp [hj]
theorem wipe_twice (vs : List Nat) (σ : St) : L2.wipe (L2.wipe σ vs) vs = L2.wipe σ vs :=
  off_wipe_get vs σ (L2.wipe σ vs) (wipe_length σ vs) fun j hj => by
    induction vs generalizing j with
    | nil => rfl
    | cons v vs ih =>
      simp only [List.mem_cons, not_or] at hj
      unfold L2.wipe
      rw [List.getElem?_set_ne (fun e => hj.1 e.symm)]
      exact ih j hj.2
theorem off_wipe {sl vs : List Nat} {σ σ2 : St} (o : Off sl (L2.wipe σ vs) σ2) (hs : ∀ j ∈ sl, j ∈ vs) : L2.wipe σ2 vs = L2.wipe σ vs := by
  rw [off_wipe_get vs (L2.wipe σ vs) σ2 o.1 fun j hj => o.2 j fun z => hj (hs j z), wipe_twice]
/-- no raised error here -/
def W0 : WX := fun _ _ _ _ => False
def compF (c : Cx) (ielt : IE) (tg : Tg) (icnd : IE) (own : List Nat) (env : Env) : D → Hs → R (Option D) := fun x h => (evTg c tg x (wipe env own) h).bind fun env' h => (evE c icnd env' h).bind fun b h => match b with
        | .bl true => (evE c ielt env' h).bind fun y h => .ok (some y) h
        | .bl false => .ok none h
        | _ => .bad
theorem lc_law {it : It} {t : Tg} {own : List Nat} (hsl : ∀ j ∈ tgSlots t, j ∈ own) {σ : St} {m : List Addr} {H : Hp} {env : Env} {h : Hs} {Q : VK} (S : Sim L m H h) (ev : EnvR L.K m H env σ) (o : OutE L W σ m H Q (evE c (.comp ielt t it icnd own) env h)) :
    tLc (cI L W (evIt c it)) (cG L (tgSlots t) (evTg c t)) (cT L W0 (evE c icnd)) (cE L W0 (evE c ielt)) own σ H Q := by
  have o' : OutE L W σ m H Q ((evIt c it env h).bind fun p h => match compGo (compF c ielt t icnd own env) h.length p.2 p.1 (h ++ [.lst []]) with
    | .ok _ h' => .ok (.ref h.length) h'
    | _ => .bad) := o
  refine ⟨m, env, h, S, ev, ?_⟩
  cases ei : evIt c it env h with
  | exc k h1 => rw [ei] at o'; exact o'
  | bad => rw [ei] at o'; exact o'
  | ok p h1 =>
    rw [ei, R.bind_ok] at o'
    intro m1 H1 J g1 S1 hch rj D hD
    cases ec : compGo (compF c ielt t icnd own env) h1.length p.2 p.1 (h1 ++ [.lst []]) with
    | exc k h2 => rw [ec] at o'; exact o'.elim
    | bad => rw [ec] at o'; exact o'.elim
    | ok _ h2 =>
      rw [ec] at o'
      have S2 : Sim L (m1 ++ [D]) (L2.upd H1 D (.lst [])) (h1 ++ [.lst []]) := S1.new hD ⟨[], upd_same, .nil⟩
      have gN : Grow L.K m1 H1 (m1 ++ [D]) (L2.upd H1 D (.lst [])) := Grow.new hD
      have rj2 := rj.grow gN
      have hDi : (m1 ++ [D])[h1.length]? = some D := S1.lenRef
      refine ⟨fun i n Hx => ∃ mx hx, Grow L.K (m1 ++ [D]) (L2.upd H1 D (.lst [])) mx Hx ∧ Sim L mx Hx hx ∧ i ≤ p.1.length ∧ n = p.1.length - i ∧ compGo (compF c ielt t icnd own env) h1.length p.2 (p.1.drop i) hx = .ok () h2, ⟨_, m1 ++ [D], _, .refl, S2, Nat.zero_le _, rfl, by rw [List.drop_zero]; exact ec⟩, ?_⟩
      rintro i n Hx ⟨mx, hx, gx, Sx, hi, rfl, ex⟩
      by_cases hlt : i < p.1.length
      · refine .inr ?_
        rw [List.drop_eq_getElem_cons hlt] at ex
        unfold compGo at ex
        split at ex
        rotate_left
        · cases ex
        rename_i hc
        refine ⟨rj2.go i mx Hx hx gx Sx hc hlt, fun H' => ∃ mx hx, Grow L.K (m1 ++ [D]) (L2.upd H1 D (.lst [])) mx H' ∧ Sim L mx H' hx ∧ compGo (compF c ielt t icnd own env) h1.length p.2 (p.1.drop (i + 1)) hx = .ok () h2, ?_, ?_⟩
        · rintro H' ⟨mx, hx, q1, q2, q3⟩
          exact ⟨p.1.length - (i + 1), by omega, mx, hx, q1, q2, by omega, rfl, q3⟩
        · intro x H3 hy
          obtain ⟨d, hd, rd, S3, g3⟩ := rj2.yld i mx Hx hx x H3 gx Sx hc hlt hy
          rw [List.getElem?_eq_getElem hlt] at hd
          cases hd
          have ev3 := ((((ev.grow g1).grow gN).grow gx).grow g3).wipe own
          refine ⟨mx, Ev.wipe env own, hx, p.1[i], S3, ev3, rd, ?_⟩
          have e3 : compF c ielt t icnd own env p.1[i] hx = (evTg c t p.1[i] (Ev.wipe env own) hx).bind fun env' h => (evE c icnd env' h).bind fun b h => match b with
            | .bl true => (evE c ielt env' h).bind fun y h => .ok (some y) h
            | .bl false => .ok none h
            | _ => .bad := rfl
          rw [e3] at ex
          cases et : evTg c t p.1[i] (Ev.wipe env own) hx with
          | exc k h4 => rw [et] at ex; cases ex
          | bad => rw [et] at ex; cases ex
          | ok env4 h4 =>
            rw [et, R.bind_ok] at ex
            intro m4 H4 σ4 g4 S4 ev4 off4
            refine ⟨off_wipe off4 hsl, m4, env4, h4, S4, ev4, ?_⟩
            cases eb : evE c icnd env4 h4 with
            | exc k h5 => rw [eb] at ex; cases ex
            | bad => rw [eb] at ex; cases ex
            | ok b h5 =>
              rw [eb, R.bind_ok] at ex
              cases b with
              | bl b =>
                intro m5 H5 g5 S5
                have gg : Grow L.K (m1 ++ [D]) (L2.upd H1 D (.lst [])) m5 H5 := ((gx.trans g3).trans g4).trans g5
                cases b with
                | false => exact ⟨m5, h5, gg, S5, ex⟩
                | true =>
                  rw [if_pos rfl]
                  refine ⟨m5, env4, h5, S5, ev4.grow g5, ?_⟩
                  cases ee : evE c ielt env4 h5 with
                  | exc k h6 => rw [ee] at ex; cases ex
                  | bad => rw [ee] at ex; cases ex
                  | ok y h6 =>
                    rw [ee, R.bind_ok] at ex
                    intro m6 H6 v6 g6 S6 r6
                    simp only at ex
                    split at ex
                    · rename_i acc ea
                      split at ex
                      · rename_i hl
                        obtain ⟨a6, ha6, vs, hv, q⟩ := S6.at ea
                        have e6 : a6 = D := by
                          have := (gg.trans g6).pre _ _ hDi
                          rw [this] at ha6; cases ha6; rfl
                        subst e6
                        have hm : ∀ u, H6 a6 = some u → Mut (some u) := fun u eu => by rw [hv] at eu; cases eu; trivial
                        have g7 : Grow L.K m6 H6 m6 (L2.upd H6 a6 (.lst (vs ++ [v6]))) := Grow.upd hm
                        refine ⟨vs, hv, by rw [← q.len, sizeLine_eq]; exact hl, m6, _, (gg.trans g6).trans g7, ?_, ex⟩
                        exact S6.set ha6 hm ⟨_, upd_same, (q.grow g7).app (.cons (r6.grow g7) .nil)⟩
                      · cases ex
                    · cases ex
              | _ => cases ex
      · refine .inl ?_
        have e0 : i = p.1.length := by omega
        subst e0
        rw [List.drop_length] at ex
        unfold compGo at ex
        split at ex
        rotate_left
        · cases ex
        rename_i hc
        cases ex
        exact ⟨rj2.stop mx Hx h2 gx Sx hc, o' mx Hx _ ((g1.trans gN).trans gx) Sx (.ref (gx.pre _ _ hDi))⟩

/-- the tests of a block -/
inductive TestsOk (c : Cx) (X : L2.Cx) : List Expr → IE → Prop
  | nil : TestsOk c X [] (.const (.bl true))
theorem pts0 : PTs X [] (cT L W0 (evE c (.const (.bl true)))) := ⟨fun pins s σ H Q I ⟨m, env, h, S, ev, o⟩ => pts_nil.run pins s σ H Q I (show Q true H from o m H .refl S)⟩
theorem pts1 {cnd : Expr} (h : PT X cnd (cT L W0 (evE c icnd))) : PTs X [cnd] (cT L W0 (evE c icnd)) := pts_one h
theorem sE_comp {it : It} {t : Tg} {ifs : List Expr} {scope : Scope} {own : List (Str × Nat)} (hc : X.calm = true) (hN : X.N.Nodup) (hsl : ∀ j ∈ tgSlots t, j ∈ own.map (·.2)) (hi : PI X tg iter (cI L W (evIt c it))) (ok : BlkOk X.N X.env.scope scope own)
    (hg : ∀ (s : Shared) (H : Hp) (C : Addr) (cl : List (Str × Addr)) (fp : List Addr), PG (X.blk s H scope (compEnvC scope cl C X.env) fp) tg (cG L (tgSlots t) (evTg c t)))
    (ht : ∀ (s : Shared) (H : Hp) (C : Addr) (cl : List (Str × Addr)) (fp : List Addr), PTs (X.blk s H scope (compEnvC scope cl C X.env) fp) ifs (cT L W0 (evE c icnd)))
    (he : ∀ (s : Shared) (H : Hp) (C : Addr) (cl : List (Str × Addr)) (fp : List Addr), PE (X.blk s H scope (compEnvC scope cl C X.env) fp) elt (cE L W0 (evE c ielt))) (hs : ∀ x, foldedSetIterable iter X.env x = pure x) :
    PE X (.ListComp elt [⟨tg, iter, ifs, 0⟩] scope pos) (cE L W (evE c (.comp ielt t it icnd (own.map (·.2))))) :=
  (pe_lc hc hN hi ok hg ht he hs).imp fun σ H Q ⟨m, env, h, S, ev, o⟩ => lc_law hsl S ev o
/-- a whole-number range as an argument -/
theorem sE_lrng {it : It} {p : Pos} {tr : St → Hp → (Int → Int → Hp → Prop) → Prop} (xo : XOk L X) (hc : X.calm = true) (hg : Gl X "list") (hm : X.mg "list" = none) (he : PRg X iter tr) (na : starEach [iter] X.env = [(false, eval iter X.env)])
    (hw : ∀ {σ : St} {m : List Addr} {H : Hp} {env : Env} {h : Hs} {Q : VK}, Sim L m H h → EnvR L.K m H env σ → OutE L W σ m H Q ((evIt c it env h).bind fun p h => if p.1.length ≤ LIM then listNew p.1 h else .bad) → tr σ H fun a b H1 => RgOk a b ∧ ∀ q, H1 q = none → Q (.ref q) (upd H1 q (.lst (rgV a b)))) :
    PE X (.Call (.Name "list" p) [iter] [] pos) (cE L W (evE c (.lrng it))) :=
  (pe_listRg hc hg hm he na).imp fun σ H Q ⟨m, env, h, S, ev, o⟩ => hw S ev o
theorem reps_rg {m : List Addr} {H : Hp} (a b : Int) : Reps L.K m H (rangeL a b) (rgV a b) := by
  unfold rangeL rgV
  generalize (b - a).toNat = n
  have : ∀ l : List Nat, Reps L.K m H (l.map fun (k : Nat) => D.int (a + (k : Int))) (l.map fun (i : Nat) => V.int (a + (i : Nat))) := by
    intro l
    induction l with
    | nil => exact .nil
    | cons x xs ih => exact .cons (.int _) ih
  exact this _
theorem rg_ok {a b : Int} (ha : smallR a = true) (hb : smallR b = true) (hl : (rangeL a b).length ≤ LIM) : RgOk a b := by
  have h1 := smallR_of ha
  have h2 := smallR_of hb
  refine ⟨by omega, by omega, by omega, by omega, ?_⟩
  unfold rangeL at hl
  simpa [LIM] using hl
theorem lrng_new {σ : St} {m : List Addr} {H : Hp} {h : Hs} {Q : VK} {a b : Int} (S : Sim L m H h) (ha : smallR a = true) (hb : smallR b = true) (o : OutE L W σ m H Q (if (rangeL a b).length ≤ LIM then listNew (rangeL a b) h else .bad)) : RgOk a b ∧ ∀ q, H q = none → Q (.ref q) (upd H q (.lst (rgV a b))) := by
  split at o
  · rename_i hl
    refine ⟨rg_ok ha hb hl, fun q hq => ?_⟩
    exact o _ _ _ (Grow.new hq) (S.new hq ⟨_, upd_same, (reps_rg a b)⟩) (.ref S.lenRef)
  · exact o.elim
theorem sE_lrng1 {p p1 p2 : Pos} (xo : XOk L X) (hc : X.calm = true) (hgl : Gl X "list") (hml : X.mg "list" = none) (hg : Gl X "range") (hm : X.mg "range" = none) (ha : PE X a (cE L W (evE c ia))) (hs : starEach [a] X.env = [(false, eval a X.env)])
    (na : starEach [.Call (.Name "range" p1) [a] [] p2] X.env = [(false, eval (.Call (.Name "range" p1) [a] [] p2) X.env)]) :
    PE X (.Call (.Name "list" p) [.Call (.Name "range" p1) [a] [] p2] [] pos) (cE L W (evE c (.lrng (.rng1 ia)))) :=
  sE_lrng (it := .rng1 ia) xo hc hgl hml (prg_1 hg hm ha hs) na fun {σ m H env h Q} S ev o => by
    have o' : OutE L W σ m H Q ((evE c ia env h).bind fun x h => (match x with
      | .int j => if smallR j then R.ok (rangeL 0 j, ([] : Watch)) h else .bad
      | _ => .bad).bind fun p h => if p.1.length ≤ LIM then listNew p.1 h else .bad) := by
      have e : (evIt c (.rng1 ia) env h).bind (fun p h => if p.1.length ≤ LIM then listNew p.1 h else .bad) = (evE c ia env h).bind fun x h => (match x with
        | .int j => if smallR j then R.ok (rangeL 0 j, ([] : Watch)) h else .bad
        | _ => .bad).bind fun p h => if p.1.length ≤ LIM then listNew p.1 h else .bad := by
        show ((evE c ia env h).bind _).bind _ = _
        cases evE c ia env h <;> rfl
      rw [← e]; exact o
    refine run1 S ev o' fun x h1 m1 H1 v g1 S1 ev1 r1 o1 => ?_
    split at o1
    · rename_i j
      split at o1
      · rename_i hj
        cases r1
        exact ⟨_, rfl, lrng_new S1 (by decide) hj o1⟩
      · exact o1.elim
    · exact o1.elim
theorem sE_lrng2 {p p1 p2 : Pos} (xo : XOk L X) (hc : X.calm = true) (hgl : Gl X "list") (hml : X.mg "list" = none) (hg : Gl X "range") (hm : X.mg "range" = none) (ha : PE X a (cE L W (evE c ia))) (hb : PE X b (cE L W (evE c ib)))
    (hs : starEach [a, b] X.env = (false, eval a X.env) :: starEach [b] X.env) (hs2 : starEach [b] X.env = [(false, eval b X.env)])
    (na : starEach [.Call (.Name "range" p1) [a, b] [] p2] X.env = [(false, eval (.Call (.Name "range" p1) [a, b] [] p2) X.env)]) (hp : (backTo p2 (starEach [b] X.env)).any (·.1) = false) :
    PE X (.Call (.Name "list" p) [.Call (.Name "range" p1) [a, b] [] p2] [] pos) (cE L W (evE c (.lrng (.rng2 ia ib)))) :=
  sE_lrng (it := .rng2 ia ib) xo hc hgl hml (prg_2 hg hm ha hb hs hs2 hp) na fun {σ m H env h Q} S ev o => by
    have o' : OutE L W σ m H Q ((evE c ia env h).bind fun x h => (evE c ib env h).bind fun y h => (match x, y with
      | .int i, .int j => if smallR i && smallR j then R.ok (rangeL i j, ([] : Watch)) h else .bad
      | _, _ => .bad).bind fun p h => if p.1.length ≤ LIM then listNew p.1 h else .bad) := by
      have e : (evIt c (.rng2 ia ib) env h).bind (fun p h => if p.1.length ≤ LIM then listNew p.1 h else .bad) = (evE c ia env h).bind fun x h => (evE c ib env h).bind fun y h => (match x, y with
        | .int i, .int j => if smallR i && smallR j then R.ok (rangeL i j, ([] : Watch)) h else .bad
        | _, _ => .bad).bind fun p h => if p.1.length ≤ LIM then listNew p.1 h else .bad := by
        show ((evE c ia env h).bind _).bind _ = _
        cases evE c ia env h with
        | ok x h1 => 
          show ((evE c ib env h1).bind _).bind _ = (evE c ib env h1).bind _
          cases evE c ib env h1 <;> rfl
        | exc k h1 => rfl
        | bad => rfl
      rw [← e]; exact o
    refine run1 S ev o' fun x h1 m1 H1 v g1 S1 ev1 r1 o1 => ?_
    refine run1 S1 ev1 o1 fun y h2 m2 H2 u g2 S2 ev2 r2 o2 => ?_
    split at o2
    · rename_i i j
      split at o2
      · rename_i hj
        rw [Bool.and_eq_true] at hj
        cases r1; cases r2
        exact ⟨_, _, rfl, rfl, lrng_new S2 hj.1 hj.2 o2⟩
      · exact o2.elim
    · exact o2.elim
end
end Ev
end

section
set_option Elab.async false
set_option autoImplicit false
set_option linter.all false
set_option maxRecDepth 100000
set_option maxHeartbeats 1000000
/-! EvN: statements. -/
namespace Ev
open PySem L2
section
variable (L : Lk) (W : WX)
def OutS (Z : Ends) (m : List Addr) (H : Hp) : RS → Prop
  | .nx env h => ∀ m' H' σ', Grow L.K m H m' H' → Sim L m' H' h → EnvR L.K m' H' env σ' → Z.nx σ' H'
  | .brk env h => ∀ m' H' σ', Grow L.K m H m' H' → Sim L m' H' h → EnvR L.K m' H' env σ' → Z.bk σ' H'
  | .ret d h => ∀ m' H' v, Grow L.K m H m' H' → Sim L m' H' h → Rep L.K m' H' d v → Z.rt v H'
  | .exc k env h => ∀ m' H' σ', Grow L.K m H m' H' → Sim L m' H' h → EnvR L.K m' H' env σ' → W (.ref (L.ca k)) none σ' H'
  | .bad => False
def cS (f : Env → Hs → RS) : TS := fun Z σ H => ∃ m env h, Sim L m H h ∧ EnvR L.K m H env σ ∧ OutS L W Z m H (f env h)
end
section
variable {L : Lk} {W : WX} {X : L2.Cx} {c : Cx} {a b d e tg o iter : Expr} {ia ib ic io ie : IE} {pos : Pos} {Z : Ends} {m m' : List Addr} {H H' : Hp} {σ : St} {env : Env} {h : Hs}
theorem OutS.mono {r : RS} (g : Grow L.K m H m' H') (o : OutS L W Z m H r) : OutS L W Z m' H' r := by
  cases r with
  | nx env h => exact fun m2 H2 σ g2 => o m2 H2 σ (g.trans g2)
  | brk env h => exact fun m2 H2 σ g2 => o m2 H2 σ (g.trans g2)
  | ret d h => exact fun m2 H2 σ g2 => o m2 H2 σ (g.trans g2)
  | exc k env h => exact fun m2 H2 σ g2 => o m2 H2 σ (g.trans g2)
  | bad => exact o
/-- an expression first, then the rest of a statement -/
theorem runS {Q' : VK} {f : Env → Hs → R D} {g : D → Hs → RS} (S : Sim L m H h) (ev : EnvR L.K m H env σ) (o : OutS L W Z m H (liftS env (f env h) g))
    (k : ∀ d h' m' H' v, Grow L.K m H m' H' → Sim L m' H' h' → EnvR L.K m' H' env σ → Rep L.K m' H' d v → OutS L W Z m' H' (g d h') → Q' v H') : cE L W f σ H Q' := by
  refine ⟨m, env, h, S, ev, ?_⟩
  cases e : f env h with
  | ok d h' =>
    rw [e] at o
    exact fun m' H' v g' S' r => k d h' m' H' v g' S' (ev.grow g') r (OutS.mono g' o)
  | exc c h' => rw [e] at o; exact fun m' H' g' S' => o m' H' σ g' S' (ev.grow g')
  | bad => rw [e] at o; exact o
theorem runST {Q' : Bool → Hp → Prop} {f : Env → Hs → R D} {g : D → Hs → RS} (S : Sim L m H h) (ev : EnvR L.K m H env σ) (o : OutS L W Z m H (liftS env (f env h) g)) (nb : ∀ d h', (∀ b, d ≠ .bl b) → g d h' = .bad)
    (k : ∀ b h' m' H', Grow L.K m H m' H' → Sim L m' H' h' → EnvR L.K m' H' env σ → OutS L W Z m' H' (g (.bl b) h') → Q' b H') : cT L W f σ H Q' := by
  refine ⟨m, env, h, S, ev, ?_⟩
  cases e : f env h with
  | ok d h' =>
    rw [e] at o
    cases d with
    | bl b => exact fun m' H' g' S' => k b h' m' H' g' S' (ev.grow g') (OutS.mono g' o)
    | _ =>
      have o : OutS L W Z m H (g _ h') := o
      rw [nb _ _ (by intro b; simp)] at o; exact o.elim
  | exc c h' => rw [e] at o; exact fun m' H' g' S' => o m' H' σ g' S' (ev.grow g')
  | bad => rw [e] at o; exact o
/-- a target stored to -/
theorem runTg {t : Tg} {d : D} {v : V} {Q : St → Hp → Prop} {g : Env → Hs → RS} (S : Sim L m H h) (ev : EnvR L.K m H env σ) (rd : Rep L.K m H d v) (o : OutS L W Z m H (liftE (evTg c t d env h) g))
    (k : ∀ env' h' m' H' σ', Grow L.K m H m' H' → Sim L m' H' h' → EnvR L.K m' H' env' σ' → OutS L W Z m' H' (g env' h') → Q σ' H') : cG L (tgSlots t) (evTg c t) v σ H Q := by
  refine ⟨m, env, h, d, S, ev, rd, ?_⟩
  cases e : evTg c t d env h with
  | ok env' h' =>
    rw [e] at o
    exact fun m' H' σ' g' S' ev' _ => k env' h' m' H' σ' g' S' ev' (OutS.mono g' o)
  | exc c h' => rw [e] at o; exact o.elim
  | bad => rw [e] at o; exact o.elim
theorem asg_law {t : Tg} (S : Sim L m H h) (ev : EnvR L.K m H env σ) (o : OutS L W Z m H (exS c (.asg t ie) env h)) : tAsg (cE L W (evE c ie)) (cG L (tgSlots t) (evTg c t)) Z σ H :=
  runS S ev (show OutS L W Z m H (liftS env (evE c ie env h) fun d h => liftE (evTg c t d env h) fun env h => .nx env h) from o) fun d h1 m1 H1 v g1 S1 ev1 r1 o1 =>
    runTg S1 ev1 r1 o1 fun env' h' m' H' σ' g' S' ev' o' => o' m' H' σ' .refl S' ev'
theorem sS_asg {t : Tg} (he : PE X e (cE L W (evE c ie))) (hg : PG X tg (cG L (tgSlots t) (evTg c t))) (hs : swapsWithSole [tg] e pos.line X.env = pure false) (hw : swappedStores [tg] e X.env = pure none)
    (h1 : (assignEach [tg] X.env).map (·.2) = [assign tg X.env]) : PS X (.Assign [tg] e pos) (cS L W (exS c (.asg t ie))) :=
  (ps_asg he hg hs hw h1).imp fun Z σ H ⟨m, env, h, S, ev, o⟩ => asg_law S ev o
theorem sS_set {i : Nat} {x : Str} {pos' : Pos} (hN : X.N.Nodup) (hi : X.N[i]? = some x) (hx : Loc X.env.scope x) (he : PE X e (cE L W (evE c ie))) (hs : swapsWith e (some (.Name x pos')) pos.line X.env = pure false) (hf : X.fn x = true ∨ X.env.scope.names.lookup x = some .local) :
    PS X (.Assign [.Name x pos'] e pos) (cS L W (exS c (.asg (.nm i) ie))) :=
  (ps_set hN hi hx he hs hf).imp fun Z σ H ⟨m, env, h, S, ev, o⟩ =>
    runS S ev (show OutS L W Z m H (liftS env (evE c ie env h) fun d h => .nx (env.set i (some d)) h) from o) fun d h1 m1 H1 v g1 S1 ev1 r1 o1 => o1 m1 H1 _ .refl S1 (ev1.set r1 i)
theorem sS_setLc {i : Nat} {x : Str} {px spos : Pos} {elt : Expr} {ielt icnd : IE} {it : It} {t : Tg} {ifs : List Expr} {scope : Scope} {own : List (Str × Nat)} (hc : X.calm = true) (hN : X.N.Nodup) (hi0 : X.N[i]? = some x) (hxl : X.env.scope.names.lookup x = some .local)
    (hsw : swapsWith (.ListComp elt [⟨tg, iter, ifs, 0⟩] scope pos) (some (.Name x px)) spos.line X.env = pure true) (hsl : ∀ j ∈ tgSlots t, j ∈ own.map (·.2)) (hi : PI X tg iter (cI L W (evIt c it))) (ok : BlkOk X.N X.env.scope scope own)
    (hg : ∀ (s : Shared) (H : Hp) (C : Addr) (cl : List (Str × Addr)) (fp : List Addr), PG (X.blk s H scope (compEnvC scope cl C X.env) fp) tg (cG L (tgSlots t) (evTg c t)))
    (ht : ∀ (s : Shared) (H : Hp) (C : Addr) (cl : List (Str × Addr)) (fp : List Addr), PTs (X.blk s H scope (compEnvC scope cl C X.env) fp) ifs (cT L W0 (evE c icnd)))
    (he : ∀ (s : Shared) (H : Hp) (C : Addr) (cl : List (Str × Addr)) (fp : List Addr), PE (X.blk s H scope (compEnvC scope cl C X.env) fp) elt (cE L W0 (evE c ielt))) (hs : ∀ x, foldedSetIterable iter X.env x = pure x) :
    PS X (.Assign [.Name x px] (.ListComp elt [⟨tg, iter, ifs, 0⟩] scope pos) spos) (cS L W (exS c (.asg (.nm i) (.comp ielt t it icnd (own.map (·.2)))))) :=
  (ps_setLc hc hN hi0 hxl hsw hi ok hg ht he hs).imp fun Z σ H ⟨m, env, h, S, ev, o⟩ => by
    have o' : OutS L W Z m H (liftS env (evE c (.comp ielt t it icnd (own.map (·.2))) env h) fun d h => .nx (env.set i (some d)) h) := o
    refine lc_law hsl S ev ?_
    cases e : evE c (.comp ielt t it icnd (own.map (·.2))) env h with
    | ok d h1 => rw [e] at o'; exact fun m1 H1 v g1 S1 r1 => o' m1 H1 _ g1 S1 ((ev.grow g1).set r1 i)
    | exc k h1 => rw [e] at o'; exact fun m1 H1 g1 S1 => o' m1 H1 _ g1 S1 (ev.grow g1)
    | bad => rw [e] at o'; exact o'
theorem sS_par {i j : Nat} {x y : Str} {px py pt : Pos} {kt k2 pt2} (hc : X.calm = true) (hN : X.N.Nodup) (hi : X.N[i]? = some x) (hj : X.N[j]? = some y) (hij : i ≠ j)
    (hx : X.env.scope.names.lookup x = some .local) (hy : X.env.scope.names.lookup y = some .local) (ha : PE X a (cE L W (evE c ia))) (hb : PE X b (cE L W (evE c ib))) (hsa : starEach [a, b] X.env = (false, eval a X.env) :: starEach [b] X.env) (hsb : starEach [b] X.env = (false, eval b X.env) :: starEach [] X.env)
    (hw : swappedStores [.Tuple [.Name x px, .Name y py] kt pt] (.Tuple [a, b] k2 pt2) X.env = pure (some [x, y]))
    (hs : swapsWithSole [.Tuple [.Name x px, .Name y py] kt pt] (.Tuple [a, b] k2 pt2) pos.line X.env = pure false) :
    PS X (.Assign [.Tuple [.Name x px, .Name y py] kt pt] (.Tuple [a, b] k2 pt2) pos) (cS L W (exS c (.asg (.tp (.cons (.nm i) (.cons (.nm j) .nil))) (.tup (.cons ia (.cons ib .nil)))))) := by
  have hA : PA X [a, b] (cA L W (evEs c (.cons ia (.cons ib .nil)))) := sA_cons ha (sA_cons hb sA_nil hsb) hsa
  refine (ps_par hc hN hi hj hij hx hy hA hw hs).imp fun Z σ H ⟨m, env, h, S, ev, o⟩ => ?_
  refine ⟨m, env, h, S, ev, ?_⟩
  have o' : OutS L W Z m H (liftS env ((evEs c (.cons ia (.cons ib .nil)) env h).bind fun xs h => .ok (.tup xs) h) fun d h => liftE (evTg c (.tp (.cons (.nm i) (.cons (.nm j) .nil))) d env h) fun env h => .nx env h) := o
  cases e : evEs c (.cons ia (.cons ib .nil)) env h with
  | ok ds h1 =>
    rw [e] at o'
    have hl := evEs_len _ _ _ _ _ e
    intro m1 H1 vs g1 S1 r1
    match ds, vs, r1, hl with
    | [d1, d2], _, .cons r1 (.cons r2 .nil), _ => exact ⟨_, _, rfl, o' m1 H1 _ g1 S1 (((ev.grow g1).set r1 i).set r2 j)⟩
  | exc k h1 => rw [e] at o'; exact fun m1 H1 g1 S1 => o' m1 H1 _ g1 S1 (ev.grow g1)
  | bad => rw [e] at o'; exact o'
theorem sS_par3 {i j l : Nat} {x y z : Str} {px py pz pt : Pos} {kt k2 pt2} (hc : X.calm = true) (hN : X.N.Nodup) (hi : X.N[i]? = some x) (hj : X.N[j]? = some y) (hl : X.N[l]? = some z) (hij : i ≠ j) (hil : i ≠ l) (hjl : j ≠ l)
    (hx : X.env.scope.names.lookup x = some .local) (hy : X.env.scope.names.lookup y = some .local) (hz : X.env.scope.names.lookup z = some .local) (ha : PE X a (cE L W (evE c ia))) (hb : PE X b (cE L W (evE c ib))) (hd : PE X d (cE L W (evE c ic)))
    (hsa : starEach [a, b, d] X.env = (false, eval a X.env) :: starEach [b, d] X.env) (hsb : starEach [b, d] X.env = (false, eval b X.env) :: starEach [d] X.env) (hsd : starEach [d] X.env = (false, eval d X.env) :: starEach [] X.env)
    (hw : swappedStores [.Tuple [.Name x px, .Name y py, .Name z pz] kt pt] (.Tuple [a, b, d] k2 pt2) X.env = pure (some [x, y, z]))
    (hs : swapsWithSole [.Tuple [.Name x px, .Name y py, .Name z pz] kt pt] (.Tuple [a, b, d] k2 pt2) pos.line X.env = pure false) :
    PS X (.Assign [.Tuple [.Name x px, .Name y py, .Name z pz] kt pt] (.Tuple [a, b, d] k2 pt2) pos) (cS L W (exS c (.asg (.tp (.cons (.nm i) (.cons (.nm j) (.cons (.nm l) .nil)))) (.tup (.cons ia (.cons ib (.cons ic .nil))))))) := by
  have hA : PA X [a, b, d] (cA L W (evEs c (.cons ia (.cons ib (.cons ic .nil))))) := sA_cons ha (sA_cons hb (sA_cons hd sA_nil hsd) hsb) hsa
  refine (ps_par3 hc hN hi hj hl hij hil hjl hx hy hz hA hw hs).imp fun Z σ H ⟨m, env, h, S, ev, o⟩ => ?_
  refine ⟨m, env, h, S, ev, ?_⟩
  have o' : OutS L W Z m H (liftS env ((evEs c (.cons ia (.cons ib (.cons ic .nil))) env h).bind fun xs h => .ok (.tup xs) h) fun d h => liftE (evTg c (.tp (.cons (.nm i) (.cons (.nm j) (.cons (.nm l) .nil)))) d env h) fun env h => .nx env h) := o
  cases e : evEs c (.cons ia (.cons ib (.cons ic .nil))) env h with
  | ok ds h1 =>
    rw [e] at o'
    have hl := evEs_len _ _ _ _ _ e
    intro m1 H1 vs g1 S1 r1
    match ds, vs, r1, hl with
    | [d1, d2, d3], _, .cons r1 (.cons r2 (.cons r3 .nil)), _ => exact ⟨_, _, _, rfl, o' m1 H1 _ g1 S1 ((((ev.grow g1).set r1 i).set r2 j).set r3 l)⟩
  | exc k h1 => rw [e] at o'; exact fun m1 H1 g1 S1 => o' m1 H1 _ g1 S1 (ev.grow g1)
  | bad => rw [e] at o'; exact o'
theorem sS_expr (he : PE X e (cE L W (evE c ie))) (hs : swapsWith e none pos.line X.env = pure false) : PS X (.Expr e pos) (cS L W (exS c (.expr ie))) :=
  (ps_expr he hs).imp fun Z σ H ⟨m, env, h, S, ev, o⟩ => runS S ev (show OutS L W Z m H (liftS env (evE c ie env h) fun _ h => .nx env h) from o) fun d h1 m1 H1 v g1 S1 ev1 r1 o1 => o1 m1 H1 _ .refl S1 ev1
theorem sS_ret (he : PE X e (cE L W (evE c ie))) : PS X (.Return (some e) pos) (cS L W (exS c (.ret ie))) :=
  (ps_ret he).imp fun Z σ H ⟨m, env, h, S, ev, o⟩ => runS S ev (show OutS L W Z m H (liftS env (evE c ie env h) fun d h => .ret d h) from o) fun d h1 m1 H1 v g1 S1 ev1 r1 o1 => o1 m1 H1 _ .refl S1 r1
theorem sS_pass : PS X (.Pass pos) (cS L W (exS c .pass)) :=
  ps_pass.imp fun Z σ H ⟨m, env, h, S, ev, o⟩ => (show OutS L W Z m H (.nx env h) from o) m H _ .refl S ev
theorem sS_brk : PS X (.Break pos) (cS L W (exS c .brk)) :=
  ps_break.imp fun Z σ H ⟨m, env, h, S, ev, o⟩ => (show OutS L W Z m H (.brk env h) from o) m H _ .refl S ev
theorem sS_nil : PSs X [] (cS L W (exB c .nil)) :=
  ⟨fun pins s σ H Z I ⟨m, env, h, S, ev, o⟩ => pss_nil.run pins s σ H Z I ((show OutS L W Z m H (.nx env h) from o) m H _ .refl S ev)⟩
theorem OutS.seq {r : RS} {f : Env → Hs → RS} (o : OutS L W Z m H (match r with
    | .nx env h => f env h
    | .brk env h => .brk env h
    | .ret d h => .ret d h
    | .exc k env h => .exc k env h
    | .bad => .bad)) : OutS L W { Z with nx := cS L W f Z } m H r := by
  cases r with
  | nx env h => exact fun m' H' σ' g S ev => ⟨m', env, h, S, ev, OutS.mono g o⟩
  | brk env h => exact o
  | ret d h => exact o
  | exc k env h => exact o
  | bad => exact o
theorem _root_.L2.PSs.imp {X : L2.Cx} {e : List Stmt} {t t' : TS} (p : PSs X e t) (i : ∀ Z σ H, t' Z σ H → t Z σ H) : PSs X e t' := ⟨fun pins s σ H Z I q => p.run pins s σ H Z I (i Z σ H q)⟩
theorem sS_cons {st : Stmt} {sts : List Stmt} {i : IS} {is : ISs} (h1 : PS X st (cS L W (exS c i))) (h2 : PSs X sts (cS L W (exB c is))) : PSs X (st :: sts) (cS L W (exB c (.cons i is))) :=
  (pss_cons h1 h2).imp fun Z σ H ⟨m, env, h, S, ev, o⟩ => ⟨m, env, h, S, ev, OutS.seq (f := exB c is) o⟩
theorem sS_if {t : Expr} {it : IE} {p q : List Stmt} {ip iq : ISs} (ht : PT X t (cT L W (evE c it))) (hp : PSs X p (cS L W (exB c ip))) (hq : PSs X q (cS L W (exB c iq))) : PS X (.If t p q pos) (cS L W (exS c (.ifS it ip iq))) :=
  (ps_if ht hp hq).imp fun Z σ H ⟨m, env, h, S, ev, o⟩ => by
    have o' : OutS L W Z m H (liftS env (evE c it env h) fun x h => match x with
      | .bl true => exB c ip env h
      | .bl false => exB c iq env h
      | _ => .bad) := o
    refine runST S ev o' (fun d h' nb => ?_) fun b h1 m1 H1 g1 S1 ev1 o1 => ?_
    · cases d with
      | bl b => exact absurd rfl (nb b)
      | _ => rfl
    · cases b with
      | true => exact ⟨m1, env, h1, S1, ev1, o1⟩
      | false => exact ⟨m1, env, h1, S1, ev1, o1⟩
theorem OutS.turn {r : RS} {f : Env → Hs → RS} (o : OutS L W Z m H (match r with
    | .nx env h => f env h
    | .brk env h => .nx env h
    | .ret d h => .ret d h
    | .exc k env h => .exc k env h
    | .bad => .bad)) {N : St → Hp → Prop} (hN : ∀ m' H' σ' env h, Grow L.K m H m' H' → Sim L m' H' h → EnvR L.K m' H' env σ' → OutS L W Z m' H' (f env h) → N σ' H') : OutS L W { Z with nx := N, ct := N, bk := Z.nx } m H r := by
  cases r with
  | nx env h => exact fun m' H' σ' g S ev => hN m' H' σ' env h g S ev (OutS.mono g o)
  | brk env h => exact o
  | ret d h => exact o
  | exc k env h => exact o
  | bad => exact o
theorem sS_while {t : Expr} {it : IE} {body : List Stmt} {ib : ISs} (hp : PassesOwn (model X.prog X.w) X.A X.env X.xe) (ht : PT X t (cT L W (evE c it))) (hb : PSs X body (cS L W (exB c ib))) : PS X (.While t body [] pos) (cS L W (exS c (.whileS it ib))) :=
  (ps_while hp ht hb).imp fun Z σ H ⟨m, env, h, S, ev, o⟩ => by
    have o' : OutS L W Z m H (whileGo (evE c it) (exB c ib) c.fuel env h) := o
    refine ⟨fun n σ H => ∃ m env h, Sim L m H h ∧ EnvR L.K m H env σ ∧ OutS L W Z m H (whileGo (evE c it) (exB c ib) n env h), ⟨c.fuel, m, env, h, S, ev, o'⟩, ?_⟩
    rintro n σ H ⟨m, env, h, S, ev, o⟩
    cases n with
    | zero => exact o.elim
    | succ n =>
      have o1 : OutS L W Z m H (match evE c it env h with
        | .ok (.bl true) h => (match exB c ib env h with
          | .nx env h => whileGo (evE c it) (exB c ib) n env h
          | .brk env h => .nx env h
          | .ret d h => .ret d h
          | .exc c env h => .exc c env h
          | .bad => .bad)
        | .ok (.bl false) h => .nx env h
        | .exc c h => .exc c env h
        | _ => .bad) := o
      refine ⟨m, env, h, S, ev, ?_⟩
      cases e : evE c it env h with
      | ok d h1 =>
        rw [e] at o1
        cases d with
        | bl b =>
          cases b with
          | true =>
            intro m1 H1 g1 S1
            rw [if_pos rfl]
            refine ⟨fun σ H => ∃ m env h, Sim L m H h ∧ EnvR L.K m H env σ ∧ OutS L W Z m H (whileGo (evE c it) (exB c ib) n env h), fun σ' H' w => ⟨n, Nat.lt_succ_self n, w⟩, m1, env, h1, S1, ev.grow g1, ?_⟩
            exact OutS.turn (OutS.mono g1 o1) fun m' H' σ' env h g S ev o => ⟨m', env, h, S, ev, o⟩
          | false =>
            intro m1 H1 g1 S1
            rw [if_neg (by decide)]
            exact o1 m1 H1 _ g1 S1 (ev.grow g1)
        | _ => exact o1.elim
      | exc k h1 => rw [e] at o1; exact fun m1 H1 g1 S1 => o1 m1 H1 _ g1 S1 (ev.grow g1)
      | bad => rw [e] at o1; exact o1.elim
theorem sS_for {it : It} {t : Tg} {body : List Stmt} {ib : ISs} (hp : PassesOwn (model X.prog X.w) X.A X.env X.xe) (hc : X.calm = true) (hi : PI X tg iter (cI L W (evIt c it))) (hg : PG X tg (cG L (tgSlots t) (evTg c t))) (hb : PSs X body (cS L W (exB c ib)))
    (hs : ∀ x, foldedSetIterable iter X.env x = pure x) : PS X (.For tg iter body [] pos) (cS L W (exS c (.forS t it ib))) :=
  (ps_for hp hc hi hg hb hs).imp fun Z σ H ⟨m, env, h, S, ev, o⟩ => by
    have o' : OutS L W Z m H (match evIt c it env h with
      | .ok p h => forGo (fun x env h => liftE (evTg c t x env h) fun env h => exB c ib env h) p.2 p.1 env h
      | .exc k h => .exc k env h
      | .bad => .bad) := o
    refine ⟨m, env, h, S, ev, ?_⟩
    cases e : evIt c it env h with
    | exc k h1 => rw [e] at o'; exact fun m1 H1 g1 S1 => o' m1 H1 _ g1 S1 (ev.grow g1)
    | bad => rw [e] at o'; exact o'.elim
    | ok p h1 =>
      rw [e] at o'
      intro m1 H1 J g1 S1 hch rj
      refine ⟨fun i n σ H => ∃ mx env hx, Grow L.K m1 H1 mx H ∧ Sim L mx H hx ∧ EnvR L.K mx H env σ ∧ i ≤ p.1.length ∧ n = p.1.length - i ∧ OutS L W Z mx H (forGo (fun x env h => liftE (evTg c t x env h) fun env h => exB c ib env h) p.2 (p.1.drop i) env hx),
        ⟨_, m1, env, h1, .refl, S1, ev.grow g1, Nat.zero_le _, rfl, by rw [List.drop_zero]; exact OutS.mono g1 o'⟩, ?_⟩
      rintro i n σ Hx ⟨mx, env, hx, gx, Sx, evx, hi, rfl, ox⟩
      by_cases hlt : i < p.1.length
      · refine .inr ?_
        rw [List.drop_eq_getElem_cons hlt] at ox
        unfold forGo at ox
        split at ox
        rotate_left
        · exact ox.elim
        rename_i hc
        refine ⟨rj.go i mx Hx hx gx Sx hc hlt, fun σ H => ∃ mx env hx, Grow L.K m1 H1 mx H ∧ Sim L mx H hx ∧ EnvR L.K mx H env σ ∧ OutS L W Z mx H (forGo (fun x env h => liftE (evTg c t x env h) fun env h => exB c ib env h) p.2 (p.1.drop (i + 1)) env hx), ?_, ?_⟩
        · rintro σ' H' ⟨mx, env, hx, q1, q2, q3, q4⟩
          exact ⟨p.1.length - (i + 1), by omega, mx, env, hx, q1, q2, q3, by omega, rfl, q4⟩
        · intro x H3 hy
          obtain ⟨d, hd, rd, S3, g3⟩ := rj.yld i mx Hx hx x H3 gx Sx hc hlt hy
          rw [List.getElem?_eq_getElem hlt] at hd
          cases hd
          refine ⟨mx, env, hx, p.1[i], S3, evx.grow g3, rd, ?_⟩
          cases et : evTg c t p.1[i] env hx with
          | exc k h4 => rw [et] at ox; exact ox.elim
          | bad => rw [et] at ox; exact ox.elim
          | ok env4 h4 =>
            rw [et] at ox
            intro m4 H4 σ4 g4 S4 ev4 _
            refine ⟨m4, env4, h4, S4, ev4, ?_⟩
            exact OutS.turn (OutS.mono (g3.trans g4) ox) fun m' H' σ' env h g S ev o => ⟨m', env, h, ((gx.trans g3).trans g4).trans g, S, ev, o⟩
      · refine .inl ?_
        have e0 : i = p.1.length := by omega
        subst e0
        rw [List.drop_length] at ox
        unfold forGo at ox
        split at ox
        rotate_left
        · exact ox.elim
        rename_i hc
        exact ⟨rj.stop mx Hx hx gx Sx hc, ox mx Hx σ .refl Sx evx⟩
end
end Ev
end

section
set_option Elab.async false
set_option autoImplicit false
set_option linter.all false
set_option maxRecDepth 100000
set_option maxHeartbeats 1000000
/-! EvO: augmented statements, raise, try. -/
namespace Ev
open PySem PySem.Spec PyProof.Rows L2
section
variable {L : Lk} {W : WX} {X : L2.Cx} {c : Cx} {a b d e tg o iter : Expr} {ia ib ic io ie : IE} {pos : Pos} {Z : Ends} {m m' : List Addr} {H H' : Hp} {σ : L2.St} {env : Env} {h : Hs}
/-- + in place -/
def rAug : R2 := fun x y H Q => rI0 (fun i j => .int (i + j)) x y H Q ∨ (∃ i j, x = V.str i ∧ y = V.str j ∧ i.length + j.length ≤ sizeLine ∧ Q (.str (i ++ j)) H) ∨ rExt2 x y H Q
theorem iop_aug : OpR X (inplaceOp .Add) rAug := fun pins s σ H x y v u Q I rx ry q => by
  rcases q with q | q | q
  · exact iop_add pins s σ H x y v u Q I rx ry q
  · exact iop_add_str pins s σ H x y v u Q I rx ry q
  · exact iop_ext pins s σ H x y v u Q I rx ry q
theorem aug_law {x y : D} {v u : V} {Q : VK} (S : Sim L m H h) (rx : Rep L.K m H x v) (ry : Rep L.K m H y u) {z : D} {h' : Hs} (e : aop .add x y h = .ok z h') (k : ∀ H' w, Sim L m H' h' → Grow L.K m H m H' → Rep L.K m H' z w → Q w H') : rAug v u H Q := by
  unfold aop at e
  split at e
  · cases e; cases rx; cases ry
    exact .inl ⟨_, _, rfl, rfl, k H _ S .refl (.int _)⟩
  · split at e
    · rename_i hl
      cases e; cases rx; cases ry
      refine .inr (.inl ⟨_, _, rfl, rfl, by rw [stx_len, stx_len, sizeL]; exact hl, ?_⟩)
      rw [stx_app]
      exact k H _ S .refl (.str _)
    · cases e
  · rename_i i j
    split at e
    · rename_i xs ys e1 e2
      split at e
      · rename_i hl
        cases e
        obtain ⟨a1, rfl, hi, vs, ha, qa⟩ := S.atR rx e1
        obtain ⟨a2, rfl, hj, ws, hb, qb⟩ := S.atR ry e2
        have hm : ∀ u, H a1 = some u → Mut (some u) := fun u eu => by rw [ha] at eu; cases eu; trivial
        have gg : Grow L.K m H m (L2.upd H a1 (.lst (vs ++ ws))) := Grow.upd hm
        refine .inr (.inr ⟨a1, a2, vs, ws, rfl, rfl, ha, hb, by rw [← qa.len, ← qb.len, sizeLine_eq]; exact hl, ?_⟩)
        exact k _ _ (S.set hi hm ⟨_, upd_same, (qa.app qb).grow gg⟩) gg (.ref (gg.pre _ _ hi))
      · cases e
    · cases e
  · cases e
theorem sS_aug {i : Nat} {x : Str} {pos' : Pos} (hN : X.N.Nodup) (hi : X.N[i]? = some x) (hx : Loc X.env.scope x) (he : PE X e (cE L W (evE c ie))) (hf : X.fn x = true ∨ X.env.scope.names.lookup x = some .local) :
    PS X (.AugAssign (.Name x pos') .Add e pos) (cS L W (exS c (.aug i .add ie))) :=
  (ps_aug (ti := rAug) hN hi hx he iop_aug hf).imp fun Z σ H ⟨m, env, h, S, ev, o⟩ => by
    have o' : OutS L W Z m H (match env[i]? with
      | some (some x) => liftS env (evE c ie env h) fun y h => liftS env (aop .add x y h) fun z h => .nx (env.set i (some z)) h
      | _ => .bad) := o
    split at o'
    · rename_i d e0
      obtain ⟨v, ex, rd⟩ := ev.at_ i d e0
      refine ⟨v, ex, runS S ev o' fun y h1 m1 H1 u g1 S1 ev1 r1 o1 => ?_⟩
      cases e1 : aop .add d y h1 with
      | ok z h2 =>
        rw [e1] at o1
        exact aug_law S1 (rd.grow g1) r1 e1 fun H' w S' g' r' => o1 m1 H' _ g' S' ((ev1.grow g').set r' i)
      | exc k h2 =>
        unfold aop at e1
        split at e1 <;> (try cases e1)
        · split at e1 <;> cases e1
        · split at e1
          · split at e1 <;> cases e1
          · cases e1
      | bad => rw [e1] at o1; exact o1.elim
    · exact o'.elim
/-- a class's exception, raised -/
def RaiseOk (L : Lk) (X : L2.Cx) (x : Str) (k : Nat) : Prop := ∃ B newId initId bmB, ExcBaseFacts B newId initId bmB ∧ PySem.W.excIn X.K (L.ca k) bmB newId = true ∧ X.mg x = some (.ref (L.ca k)) ∧ PySem.W.keepIn X.K (.ref (L.ca k)) = true ∧ Raises X (.ref (L.ca k))
theorem sS_raise {x t : Str} {k j : Nat} {p p2 pos2 : Pos} (hc : X.calm = true) (tk : Takes X W) (R : RaiseOk L X x k) (hg : Gl X x) (hdb : (x == ("__debug__" : Str)) = false) : PS X (.Raise (some (.Call (.Name x p) [.Constant (.str t) j p2] [] pos2)) none pos) (cS L W (exS c (.raise k))) := by
  obtain ⟨B, newId, initId, bmB, F, q, gC, kC, r⟩ := R
  exact (ps_raise hc tk (pmk_own F q gC kC r hg hdb)).imp fun Z σ H ⟨m, env, h, S, ev, o⟩ => (show OutS L W Z m H (.exc k env h) from o) m H σ .refl S ev
end
end Ev
end

section
set_option Elab.async false
set_option autoImplicit false
set_option linter.all false
set_option maxRecDepth 100000
set_option maxHeartbeats 1000000
/-! EvP: try with a clause that keeps the exception; a field's += . -/
namespace Ev
open PySem PySem.Spec PyProof.Rows L2
section
variable {L : Lk} {W : WX} {X : L2.Cx} {c : Cx} {a b d e tg o iter : Expr} {ia ib ic io ie : IE} {pos : Pos} {Z : Ends} {m m' : List Addr} {H H' : Hp} {σ : L2.St} {env : Env} {h : Hs} {pins : List (Addr × Obj)} {s : Shared}
/-- an object that stands in the heap, not told so far, is told from here on -/
theorem inv_told {ad C : Addr} {oe : Obj} {vs : Array Value} (I : L2.Inv X pins σ H s) (ha : s.heap.get? ad = some oe) (hz : Zc (.ref C) none oe) (hd : oe.data = .fields vs) (na : H ad = none) (n0 : X.s_0.heap.get? ad = none) (nL : ad ≠ X.env.locals)
    (nC : ∀ x c, X.env.cells.lookup x = some c → c ≠ ad) (nP : ∀ p ∈ X.pn ++ pins, p.1 ≠ ad) : L2.Inv X pins σ (L2.upd H ad (excH C ad)) s := by
  have ne : ∀ b, b ≠ ad → L2.upd H ad (excH C ad) b = H b := fun b hb => upd_ne hb
  have ok1 : ObjOk X.prog X.w (L2.upd H ad (excH C ad)) s.heap ad (excH C ad) := ⟨⟨oe, vs, ha, hz.1, hz.2, hd⟩, ⟨oe, ha⟩, fun h1 h2 ⟨o1, v1, q1, q2⟩ k => ⟨o1, v1, k o1 q1, q2⟩⟩
  refine ⟨I.ok, I.os, I.bare, ⟨I.base.keep, I.base.slot, fun b u q n hx => ?_, I.base.there, fun b xs q => ?_, fun b u xs q => ?_, fun b ps q => ?_⟩, I.loc, I.cell, ?_, fun y c0 q => ?_, fun p hp => ?_, ?_, I.len⟩
  · rw [ne b (fun z => by rw [z, n0] at q; cases q)]; exact I.base.free b u q n hx
  · have := I.base.tups b xs q
    rw [ne b (ne_of_none this na)]; exact this
  · have := I.base.frzs b u xs q
    rw [ne b (ne_of_none this na)]; exact this
  · obtain ⟨more, this⟩ := I.base.tbls b ps q
    exact ⟨more, by rw [ne b (ne_of_none this na)]; exact this⟩
  · rw [ne _ (Ne.symm nL)]; exact I.free
  · rw [ne _ (nC y c0 q)]; exact I.freeC y c0 q
  · obtain ⟨p1, p2, p3⟩ := I.pin p hp
    exact ⟨p1, by rw [ne _ (nP p hp)]; exact p2, p3⟩
  · intro b u q
    by_cases hb : b = ad
    · subst hb
      rw [upd_same] at q
      cases q
      exact ok1
    · rw [ne b hb] at q
      exact (I.hok b u q).stay (fun c0 v _ q => q) (fun c0 q => by rw [upd_ne (ne_of_none q na)]; exact q) fun c0 xs q => by rw [upd_ne (ne_of_none q na)]; exact q
def Wtry (L : Lk) (vi ei : Nat) (Wout : WX) (Z : Ends) : WX := fun cls dd σ H => ∃ k env h m, cls = .ref (L.ca k) ∧ dd = none ∧ k ≤ 5 ∧ Sim L m H h ∧ EnvR L.K m H env σ ∧ OutS L Wout Z m H (.nx ((env.set vi (some (.ref h.length))).set ei none) (h ++ [.exn k]))
theorem try_set (vi ei : Nat) {α : Type} (l : List α) (x y z : α) (hne : vi ≠ ei) : ((l.set ei x).set vi y).set ei z = (l.set vi y).set ei z := by
  rw [List.set_comm _ _ (Ne.symm hne), List.set_set]
theorem sS_try {x n v : Str} {vi ei : Nat} {cv : Value} {body : List Stmt} {b₀ : ISs} {np vp ep ap pos' : Pos} (hs : X.stack = X.env :: X.outer) (hf : X.env.frame = some X.env.locals) (hex : X.ex = []) (hN : X.N.Nodup) (hi : X.N[ei]? = some n) (hvi : X.N[vi]? = some v) (hne : vi ≠ ei)
    (hln : X.env.kindOf n = some .local) (hlv : X.env.kindOf v = some .local) (hc : Names X x cv) (exm : ∀ k, k ≤ 5 → PySem.W.exmOne X.K (.ref (L.ca k)) cv = some true)
    (hd1 : (n == ("__debug__" : Str)) = false) (hd2 : (n == ("__classdict__" : Str)) = false) (tk : Takes X W)
    (hb : ∀ (W : WX) (pn : List (Addr × Obj)) (xe : Value → Shared → Prop), Takes (X.tr pn xe) W → PassesOwn (model X.prog X.w) X.A X.env xe → PSs (X.tr pn xe) body (cS L W (exB c b₀))) :
    PS X (.Try body [.ExceptHandler (some (.Name x np)) (some n) [.Assign [.Name v vp] (.Name n ep) ap] pos'] [] [] pos) (cS L W (exS c (.tryAs b₀ vi ei))) := by
  refine ⟨fun pins s σ H Z I ⟨m, env, h, S, ev, o⟩ => ?_⟩
  have ok := I.ok
  have hfr : X.A.frames = some (X.env :: X.outer) := by rw [ok.frames, hs]
  have hloc : Loc X.env.scope n := .inl hln
  have o' : OutS L W Z m H (match exB c b₀ env h with
    | .exc k env h => if k ≤ 5 then .nx ((env.set vi (some (.ref h.length))).set ei none) (h ++ [.exn k]) else .bad
    | .nx env h => .nx env h
    | _ => .bad) := o
  have ob : OutS L (Wtry L vi ei W Z) Z m H (exB c b₀ env h) := by
    cases e : exB c b₀ env h with
    | nx env1 h1 => rw [e] at o'; exact o'
    | brk env1 h1 => rw [e] at o'; exact o'.elim
    | ret d1 h1 => rw [e] at o'; exact o'.elim
    | bad => rw [e] at o'; exact o'.elim
    | exc k env1 h1 =>
      rw [e] at o'
      simp only at o'
      split at o'
      · rename_i hk
        exact fun m1 H1 σ1 g1 S1 ev1 => ⟨k, env1, h1, m1, rfl, rfl, hk, S1, ev1, OutS.mono g1 o'⟩
      · exact o'.elim
  refine wpAny_Try_except ?_
  refine wpAny_mono ((hb (Wtry L vi ei W Z) (X.pn ++ pins) (fun e s₁ => wpAny (model X.prog X.w) X.A (noteFrame e X.env) (fun _ s₂ => wpAny (model X.prog X.w) X.A (setFlight e none) (fun _ s₃ =>
    wpAny (model X.prog X.w) X.A (handleBy e X.env [.ExceptHandler (some (.Name x np)) (some n) [.Assign [.Name v vp] (.Name n ep) ap] pos']) (SP X pins Z) X.xe s₃) X.xe s₂) X.xe s₁) (fun u s' xx => ?_) PassesOwn.looking).run [] s σ H Z (I.toTry _) ⟨m, env, h, S, ev, ob⟩) (fun f s1 hsp => ?_) (fun e s1 he => he)
  · obtain ⟨ad, B, sI, pins', σ', H', cls, dd, rfl, J', nb, up, sky, na, os, ag, k, env1, h1, m1, rfl, rfl, hk, S1, ev1, o1⟩ := xx
    have J : L2.Inv X pins σ' H' sI := J'.ofTry ok
    have sky' : Sky B (X.env :: X.outer) ad (Zc (.ref (L.ca k)) none) X.env.locals s'.heap := by rw [← hs]; exact sky
    refine Sky.land Zc.steady hfr hf sky' fun h3 fl3 up3 => ?_
    have J3 : L2.Inv X pins σ' H' { s' with heap := h3 } := J.landed nb fl3.1 (up.trans up3) os ag
    obtain ⟨oe3, vs3, he3, hz3, hd3⟩ := fl3.there
    have nfr : ad ∉ frs (X.env :: X.outer) := fun hm => by
      obtain ⟨_, o2, e2, hnf⟩ := fl3.2.2.1.mem hm
      rw [he3] at e2; cases e2
      exact hnf _ hd3
    have nL : ad ≠ X.env.locals := fun z => nfr (List.mem_filterMap.mpr ⟨X.env, List.mem_cons_self, by rw [hf, z]⟩)
    have nF : ad ∉ X.fs := fun hm => by
      obtain ⟨e2, he2, q⟩ := List.mem_filterMap.mp hm
      exact nfr (List.mem_filterMap.mpr ⟨e2, List.mem_cons_of_mem _ he2, q⟩)
    have nS : sI.heap.get? ad = none := by
      cases q : sI.heap.get? ad with
      | none => rfl
      | some o2 =>
        have := nb ad o2 q (by rw [show (X.tr (X.pn ++ pins) _).stack = X.stack from rfl, hs]; exact nfr)
        rw [fl3.2.1] at this
        cases this
    have n0 : X.s_0.heap.get? ad = none := by
      cases q : X.s_0.heap.get? ad with
      | none => rfl
      | some o2 =>
        obtain ⟨o3, q3⟩ := J.base.there ad o2 q (by rw [hex]; exact fun z => nomatch z)
        rw [nS] at q3
        cases q3
    have S3 := J3.suite he3 hd3 na nL nF
    refine wpAny_handleBy_cons (codeAny_handlers_test ?_) (by intro q; cases q)
    have LT : PySem.W.Looks (model X.prog X.w) h3 (typeOf (.ref ad)) (.ref (L.ca k)) := fun A Q E s2 k2 q => wpAny_typeOf_ref (k2 _ _ he3) (by rw [hz3.1]; exact q)
    have LM := PySem.W.exm_one (M := model X.prog X.w) (J3.kIn) LT (exm k hk)
    have test : ∀ {Q : Value → Shared → Prop} {E : Value → Shared → Prop}, Q cv { s' with heap := h3 } → wpAny (model X.prog X.w) (X.A.mark (some (.ref ad))) (eval (.Name x np) X.env) Q E { s' with heap := h3 } := fun {Q E} q => by
      obtain ⟨hg, hdbg, hm | ⟨hm, hv, hnn⟩⟩ := hc
      · exact ld_glob (X := X.suite ad ((ad, oe3) :: (X.pn ++ pins))) S3 hg hm q hdbg
      · exact ld_blt (X := X.suite ad ((ad, oe3) :: (X.pn ++ pins))) S3 hg hm hv q hnn hdbg
    refine test (LM.here ?_)
    refine codeAny_handlers_suite_as ?_
    refine HandSPX.lands_againZ fl3 fun h4 fl4 up4 => ?_
    have J4 : L2.Inv X pins σ' H' { s' with heap := h4 } := J.landed nb fl4.1 ((up.trans up3).trans up4) os ag
    obtain ⟨oe4, vs4, he4, hz4, hd4⟩ := fl4.there
    have S4 := J4.suite he4 hd4 na nL nF
    refine store_ok (X := X.suite ad ((ad, oe4) :: (X.pn ++ pins))) (v := .ref ad) S4 hN hi hloc rfl (fun s5 S5 => ?_) (.inr hln)
    have hl : ei < σ'.length := by rw [J.len]; exact (List.getElem?_eq_some_iff.mp hi).1
    have run := (pss_one (ps_set (X := X.suite ad ((ad, oe4) :: (X.pn ++ pins))) (pos := ap) (pos' := vp) hN hvi (.inl hlv) (pe_var (X := X.suite ad ((ad, oe4) :: (X.pn ++ pins))) (pos := ep) hi (.inl hln) hd1 hd2) rfl (.inr hlv))).run [] s5 (σ'.set ei (some (.ref ad))) H' { nx := fun σ6 H6 => σ6 = (σ'.set ei (some (.ref ad))).set vi (some (.ref ad)) ∧ H6 = H', rt := fun _ _ => False } S5
      ⟨.ref ad, List.getElem?_set_self hl, rfl, rfl⟩
    refine wpAny_mono run (fun f s6 hsp => ?_) (fun _ _ z => False.elim z)
    cases f with
    | next =>
      obtain ⟨σ6, H6, S6, rfl, rfl⟩ := hsp
      have J6 := S6.unsuite ok
      have p6 := S6.pin (ad, oe4) (List.mem_append_left _ (List.mem_cons_self))
      have nC : ∀ y c0, X.env.cells.lookup y = some c0 → c0 ≠ ad := fun y c0 q z => by
        obtain ⟨v6, q6⟩ := J6.cell y c0 q
        rw [z] at q6
        exact p6.2.2.2.2 _ (by
          obtain ⟨o6, e6, d6⟩ := q6
          rw [p6.1] at e6
          cases e6
          exact d6)
      have nP : ∀ p ∈ X.pn ++ pins, p.1 ≠ ad := fun p hp z => by
        have q1 := (J.pin p hp).1
        rw [z, nS] at q1
        cases q1
      have J7 := inv_told J6 p6.1 hz4 hd4 na n0 nL nC nP
      refine gone_ok J7 hN hi hln fun s7 J8 => ⟨_, _, J8, ?_⟩
      rw [try_set vi ei _ _ _ _ hne]
      have gN : Grow L.K m1 H6 (m1 ++ [ad]) (L2.upd H6 ad (excH (L.ca k) ad)) := Grow.new na
      refine o1 _ _ _ gN (S1.new na ⟨upd_same, hk⟩) ?_
      have := ((ev1.grow gN).set (.ref S1.lenRef) vi).clear ei
      exact this
    | brk => obtain ⟨σ6, H6, S6, q⟩ := hsp; exact q.elim
    | cont => obtain ⟨σ6, H6, S6, q⟩ := hsp; exact q.elim
    | ret u => obtain ⟨v6, σ6, H6, S6, r6, q⟩ := hsp; exact q.elim
  · cases f with
    | next =>
      obtain ⟨σ', H', J', q⟩ := hsp
      exact wpAny_execs_nil ⟨σ', H', J'.ofTry ok, q⟩
    | brk =>
      obtain ⟨σ', H', J', q⟩ := hsp
      exact ⟨σ', H', J'.ofTry ok, q⟩
    | cont =>
      obtain ⟨σ', H', J', q⟩ := hsp
      exact ⟨σ', H', J'.ofTry ok, q⟩
    | ret u =>
      obtain ⟨v, σ', H', J', r, q⟩ := hsp
      exact ⟨v, σ', H', J'.ofTry ok, r, q⟩
end
end Ev
end

section
set_option Elab.async false
set_option autoImplicit false
set_option linter.all false
set_option maxRecDepth 100000
set_option maxHeartbeats 1000000
/-! EvQ: is a tree the text's? -/
namespace Ev
open PySem L2
/-- what the trees' numbers mean, besides the names -/
structure Gi where
  nm : Nm
  gd : Nat → Option D
  np : Nat → Option Nat
  ini : Nat → Option Nat
  mnp : Nat → Option Nat
def nst : Expr → Bool
  | .Starred .. => false
  | _ => true
def starless : List Expr → Bool
  | [] => true
  | e :: es => nst e && starless es
def glo (sc : Scope) (x : Str) : Bool := decide (sc.names.lookup x = some .globalImplicit)
def vis (sc : Scope) (x : Str) : Bool := match sc.names.lookup x with
  | some .local => true
  | some .cell => true
  | some .free => true
  | _ => false
def loc (sc : Scope) (x : Str) : Bool := match sc.names.lookup x with
  | some .local => true
  | some .cell => true
  | _ => false
def isLocal (sc : Scope) (x : Str) : Bool := decide (sc.names.lookup x = some .local)
def nod (x : Str) : Bool := !(x == ("__debug__" : Str)) && !(x == ("__classdict__" : Str))
/-- the object of a field or a method is no bare call -/
def abOk : Expr → Bool
  | .Call .. => false
  | _ => true
def plainIxB : Expr → Bool
  | .Slice .. => false
  | _ => true
def notSet : Expr → Bool
  | .Set .. => false
  | _ => true
def isLc : Expr → Bool
  | .ListComp .. => true
  | .SetComp .. => true
  | .DictComp .. => true
  | _ => false
def bopIs : BOp → Operator → Bool
  | .add, .Add => true
  | .sub, .Sub => true
  | .mul, .Mult => true
  | .fdiv, .FloorDiv => true
  | .mod, .Mod => true
  | .pow, .Pow => true
  | _, _ => false
def copIs : COp → CmpOp → Bool
  | .eq, .Eq => true
  | .ne, .NotEq => true
  | .lt, .Lt => true
  | .le, .LtE => true
  | .gt, .Gt => true
  | .ge, .GtE => true
  | .inn, .In => true
  | .nin, .NotIn => true
  | .is_, .Is => true
  | .isn, .IsNot => true
  | _, _ => false
def constIs : D → Const → Bool
  | .non, .none => true
  | .bl a, .bool b => decide (a = b)
  | .int a, .int b => decide (a = b)
  | .str a, .str b => decide (b = stx a)
  | _, _ => false
/-- a built-in function's name -/
def bfName : BF → Option Str
  | .len => some "len" | .all => some "all" | .min1 => some "min" | .max1 => some "max" | .min2 => some "min" | .max2 => some "max" | .sum => some "sum"
  | .listOf => some "list" | .tupOf => some "tuple" | .strOf => some "str" | .intOf => some "int"
  | _ => none
def bfNum : BF → Nat
  | .min2 => 2 | .max2 => 2 | _ => 1
def tyStr : Ty → Option Str
  | .int => some "int" | .bool => some "bool" | .str => some "str" | .tuple => some "tuple" | .list => some "list" | .verr => some "ValueError"
  | .cls _ => none
/-- names of built-ins that the text must not shadow -/
def bNames : List Str := ["len", "all", "min", "max", "sum", "list", "tuple", "str", "int", "isinstance", "bool", "ValueError", "range", "enumerate", "zip", "sorted", "set"]
def ownL (N : List Str) (own : List Nat) : List (Str × Nat) := own.filterMap fun i => (N[i]?).map fun x => (x, i)
def sub (a b : List Nat) : Bool := a.all fun i => b.any fun j => Nat.beq i j
mutual
def ckE (G : Gi) (N : List Str) (sc : Scope) (fn : Str → Bool) : IE → Expr → Bool
  | .const d, e => match e with
    | .Constant k _ _ => constIs d k
    | _ => false
  | .glob g d, e => match e with
    | .Name x _ => decide (G.nm.gloN g = some x) && decide (G.gd g = some d) && glo sc x && nod x
    | _ => false
  | .var i, e => match e with
    | .Name x _ => decide (N[i]? = some x) && vis sc x && nod x
    | _ => false
  | .bin op a b, e => match e with
    | .BinOp l o r _ => bopIs op o && ckE G N sc fn a l && ckE G N sc fn b r
    | _ => false
  | .neg a, e => match e with
    | .UnaryOp .USub l _ => ckE G N sc fn a l
    | _ => false
  | .not a, e => match e with
    | .UnaryOp .Not l _ => ckE G N sc fn a l
    | _ => false
  | .and a b, e => match e with
    | .BoolOp .And (x :: y :: r) p => ckE G N sc fn a x && (match r with
      | [] => ckE G N sc fn b y
      | _ => ckE G N sc fn b (.BoolOp .And (y :: r) p))
    | _ => false
  | .or a b, e => match e with
    | .BoolOp .Or (x :: y :: r) p => ckE G N sc fn a x && (match r with
      | [] => ckE G N sc fn b y
      | _ => ckE G N sc fn b (.BoolOp .Or (y :: r) p))
    | _ => false
  | .cmp op a b, e => match e with
    | .Compare l [o] [r] _ => copIs op o && !(behindInMarks o r) && ckE G N sc fn a l && ckE G N sc fn b r
    | _ => false
  | .cmp2 op op' a b d, e => match e with
    | .Compare l [o, o'] [r, r'] _ => copIs op o && copIs op' o' && !(lastMarks [o, o'] [r, r']) && ckE G N sc fn a l && ckE G N sc fn b r && ckE G N sc fn d r'
    | _ => false
  | .ite t a b, e => match e with
    | .IfExp t' a' b' _ => ckE G N sc fn t t' && ckE G N sc fn a a' && ckE G N sc fn b b'
    | _ => false
  | .tup es, e => match e with
    | .Tuple l _ _ => Nat.ble (lenIEs es) 1000 && ckEs G N sc fn es l
    | _ => false
  | .lst es, e => match e with
    | .List l _ => Nat.ble (lenIEs es) 1000 && ckEs G N sc fn es l
    | _ => false
  | .dic0, e => match e with
    | .Dict [] [] _ => true
    | _ => false
  | .dic1 _ _, _ => false
  | .call f es, e => match e with
    | .Call (.Name x _) l [] _ => decide (G.nm.fnN f = some x) && decide (G.np f = some (lenIEs es)) && glo sc x && nod x && ckEs G N sc fn es l
    | _ => false
  | .new k es, e => match e with
    | .Call (.Name x _) (a :: l) [] _ => decide (G.nm.clsN k = some x) && (match G.ini k with
        | some i => decide (G.np i = some (lenIEs es + 1))
        | none => false) && glo sc x && nod x && ckEs G N sc fn es (a :: l)
    | _ => false
  | .meth o m es, e => match e with
    | .Call (.Attribute ob x ap) l [] p => decide (G.nm.metL[m]? = some x) && decide (G.mnp m = some (lenIEs es + 1)) && abOk ob && Nat.blt l.length 25 && (ap.endLine == p.line) && ckE G N sc fn o ob && ckEs G N sc fn es l
    | _ => false
  | .bm m o es, e => match e with
    | .Call (.Attribute ob x ap) (a :: l) [] p => bmHas m && decide (x = bmName m) && abOk ob && Nat.blt l.length 25 && (ap.endLine == p.line) && ckE G N sc fn o ob && ckEs G N sc fn es (a :: l)
    | _ => false
  | .bf f es, e => match e with
    | .Call (.Name x _) (a :: l) [] _ => (match f with
      | .isin t => (match es, l with
        | .cons ia .nil, [.Name y _] => decide (x = "isinstance") && glo sc x && ckE G N sc fn ia a && nst a && glo sc y && nod y && (match t with
          | .cls k => Nat.ble k 5 && decide (G.nm.exN k = some y)
          | t => decide (tyStr t = some y))
        | _, _ => false)
      | f => decide (bfName f = some x) && Nat.beq (lenIEs es) (bfNum f) && glo sc x && ckEs G N sc fn es (a :: l))
    | _ => false
  | .fld o f, e => match e with
    | .Attribute ob x _ => decide (G.nm.fldL[f]? = some x) && abOk ob && ckE G N sc fn o ob
    | _ => false
  | .idx a b, e => match e with
    | .Subscript l r _ => plainIxB r && ckE G N sc fn a l && ckE G N sc fn b r
    | _ => false
  | .slc a b d, e => match e with
    | .Subscript l (.Slice (some r) (some r') none _) _ => ckE G N sc fn a l && ckE G N sc fn b r && ckE G N sc fn d r'
    | _ => false
  | .slcF a b, e => match e with
    | .Subscript l (.Slice (some r) none none _) _ => ckE G N sc fn a l && ckE G N sc fn b r
    | _ => false
  | .slcT a b, e => match e with
    | .Subscript l (.Slice none (some r) none _) _ => ckE G N sc fn a l && ckE G N sc fn b r
    | _ => false
  | .rev a, e => match e with
    | .Subscript l (.Slice none none (some (.UnaryOp .USub (.Constant (.int 1) _ _) _)) _) _ => ckE G N sc fn a l
    | _ => false
  | .comp elt t it cnd own, e => match e with
    | .ListComp el [⟨tg, iter, ifs, 0⟩] scope _ => blkC N sc scope (ownL N own) && decide ((ownL N own).map (·.2) = own) && sub (tgSlots t) own && notSet iter && ckI G N sc fn it tg iter &&
        ckT G N (relS scope sc) (fun x => scope.names.lookup x == some .cell) t tg && (match ifs with
          | [] => (match cnd with | .const (.bl true) => true | _ => false)
          | [i] => ckE G N (relS scope sc) (fun x => scope.names.lookup x == some .cell) cnd i
          | _ => false) && ckE G N (relS scope sc) (fun x => scope.names.lookup x == some .cell) elt el
    | _ => false
  | .lrng it, e => match e with
    | .Call (.Name x _) [.Call (.Name y _) l [] _] [] _ => decide (x = "list") && decide (y = "range") && glo sc x && glo sc y && (match it with
      | .rng1 a => (match l with
        | [b] => starless [b] && ckE G N sc fn a b
        | _ => false)
      | .rng2 a a' => (match l with
        | [b, b'] => starless [b, b'] && ckE G N sc fn a b && ckE G N sc fn a' b'
        | _ => false)
      | _ => false)
    | _ => false
def ckEs (G : Gi) (N : List Str) (sc : Scope) (fn : Str → Bool) : IEs → List Expr → Bool
  | .nil, l => (match l with | [] => true | _ => false)
  | .cons e es, l => match l with
    | x :: xs => nst x && ckE G N sc fn e x && ckEs G N sc fn es xs
    | _ => false
def ckI (G : Gi) (N : List Str) (sc : Scope) (fn : Str → Bool) : It → Expr → Expr → Bool
  | .val a, _, e => ckE G N sc fn a e
  | .rng1 a, _, e => match e with
    | .Call (.Name x _) [l] [] _ => decide (x = "range") && glo sc x && starless [l] && ckE G N sc fn a l
    | _ => false
  | .rng2 a b, _, e => match e with
    | .Call (.Name x _) [l, r] [] _ => decide (x = "range") && glo sc x && starless [l, r] && ckE G N sc fn a l && ckE G N sc fn b r
    | _ => false
  | .rng3 _ _ _, _, _ => false
  | .enum a, tg, e => match tg with
    | .Tuple _ _ _ => (match e with
      | .Call (.Name x _) [l] [] _ => decide (x = "enumerate") && glo sc x && starless [l] && ckE G N sc fn a l
      | _ => false)
    | _ => false
  | .zip _ _, _, _ => false
def ckT (G : Gi) (N : List Str) (sc : Scope) (fn : Str → Bool) : Tg → Expr → Bool
  | .nm i, e => match e with
    | .Name x _ => decide (N[i]? = some x) && (isLocal sc x || (loc sc x && fn x))
    | _ => false
  | .tp ts, e => match e with
    | .Tuple l _ _ => ckTs G N sc fn ts l
    | _ => false
  | .fld o f, e => match e with
    | .Attribute ob x _ => decide (G.nm.fldL[f]? = some x) && ckE G N sc fn o ob
    | _ => false
  | .sub o i, e => match e with
    | .Subscript l r _ => plainIxB r && ckE G N sc fn o l && ckE G N sc fn i r
    | _ => false
def ckTs (G : Gi) (N : List Str) (sc : Scope) (fn : Str → Bool) : Tgs → List Expr → Bool
  | .nil, l => (match l with | [] => true | _ => false)
  | .cons t ts, l => match l with
    | x :: xs => nst x && ckT G N sc fn t x && ckTs G N sc fn ts xs
    | _ => false
end
/-- the names that a pair's stores go to from behind, where they do -/
def swNames (sc : Scope) (ts vs : List Expr) : Option (Option (List Str)) :=
  if !(ts.length == 2 || ts.length == 3) || vs.length != ts.length then some none
  else
    let line := (ts.head?.map (·.pos.line)).getD 0
    let names := ts.filterMap fun
      | .Name id pos => if sc.names.lookup id == some .local && pos.line == line then some id else none
      | _ => none
    if names.length != ts.length || names.eraseDups.length != names.length then some none
    else if vs.all (foldedForSure 8) then some none
    else if vs.all (constantsAlone 8) then none
    else some (some names)
/-- is name = [..] told apart -/
def swLc (sc : Scope) (x : Str) (px pv : Pos) (own : Scope) : Bool :=
  sc.names.lookup x == some .local && px.line == pv.line && !(own.names.any fun (n, k) => n == x && (k == .local || k == .cell))
mutual
def ckS (G : Gi) (N : List Str) (sc : Scope) : IS → Stmt → Bool
  | .asg t e, s => match s with
    | .Assign [tg] v _ => ckT G N sc (fun _ => true) t tg && ckE G N sc (fun _ => true) e v && (match tg with
      | .Name x px => (match v with
        | .ListComp el gs scope pv => if swLc sc x px pv scope then (match e, t with | .comp .., .nm _ => true | _, _ => false) else true
        | v => !(isLc v))
      | .Tuple ts _ _ => (match v with
        | .Tuple vs _ _ => starless vs && (match swNames sc ts vs with
          | none => false
          | some none => true
          | some (some _) => (match t, e with
            | .tp (.cons (.nm i) (.cons (.nm j) .nil)), .tup (.cons _ (.cons _ .nil)) => !(Nat.beq i j)
            | .tp (.cons (.nm i) (.cons (.nm j) (.cons (.nm l) .nil))), .tup (.cons _ (.cons _ (.cons _ .nil))) => !(Nat.beq i j) && !(Nat.beq i l) && !(Nat.beq j l)
            | _, _ => false))
        | v => !(isLc v))
      | .Starred .. => false
      | .List .. => false
      | _ => !(isLc v))
    | _ => false
  | .aug i op e, s => match s with
    | .AugAssign (.Name x _) .Add v _ => decide (op = .add) && decide (N[i]? = some x) && loc sc x && ckE G N sc (fun _ => true) e v
    | _ => false
  | .augF _ _ _ _, _ => false
  | .expr e, s => match s with
    | .Expr v _ => !(isLc v) && ckE G N sc (fun _ => true) e v
    | _ => false
  | .ret e, s => match s with
    | .Return (some v) _ => ckE G N sc (fun _ => true) e v
    | _ => false
  | .ifS t a b, s => match s with
    | .If t' a' b' _ => ckE G N sc (fun _ => true) t t' && ckB G N sc a a' && ckB G N sc b b'
    | _ => false
  | .forS t it b, s => match s with
    | .For tg iter b' [] _ => notSet iter && ckI G N sc (fun _ => true) it tg iter && ckT G N sc (fun _ => true) t tg && ckB G N sc b b'
    | _ => false
  | .whileS t b, s => match s with
    | .While t' b' [] _ => ckE G N sc (fun _ => true) t t' && ckB G N sc b b'
    | _ => false
  | .brk, s => match s with
    | .Break _ => true
    | _ => false
  | .pass, s => match s with
    | .Pass _ => true
    | _ => false
  | .raise k, s => match s with
    | .Raise (some (.Call (.Name x _) [.Constant (.str _) _ _] [] _)) none _ => Nat.ble k 5 && decide (G.nm.exN k = some x) && glo sc x && nod x
    | _ => false
  | .tryAs b v e, s => match s with
    | .Try b' [.ExceptHandler (some (.Name x _)) (some n) [.Assign [.Name w _] (.Name n' _) _] _] [] [] _ => decide (G.nm.exN 0 = some x) && glo sc x && nod x && decide (n = n') && decide (N[e]? = some n) && decide (N[v]? = some w) && !(Nat.beq v e) &&
        isLocal sc n && isLocal sc w && nod n && ckB G N sc b b'
    | _ => false
def ckB (G : Gi) (N : List Str) (sc : Scope) : ISs → List Stmt → Bool
  | .nil, l => (match l with | [] => true | _ => false)
  | .cons s ss, l => match l with
    | x :: xs => ckS G N sc s x && ckB G N sc ss xs
    | _ => false
end
end Ev
end

section
set_option Elab.async false
set_option autoImplicit false
set_option linter.all false
set_option maxRecDepth 100000
set_option maxHeartbeats 1000000
/-! EvR: a tree that is the text's runs as the text: expressions. -/
namespace Ev
open PySem L2
/-- what the text's names stand for -/
structure Facts (L : Lk) (G : Gi) (c : Cx) (k : Nat) (X : L2.Cx) : Prop where
  xo : XOk L X
  nm : L.nm = G.nm
  fn : ∀ i x n, G.nm.fnN i = some x → G.np i = some n → FnIs L X x k n (c.call i)
  me : MesOk L X c k fun f => (G.np f).getD 0
  mnp : ∀ i n cl f, G.mnp i = some n → c.meth cl i = some f → (G.np f).getD 0 = n
  mks : ∀ cl i x n, G.nm.clsN cl = some x → G.ini cl = some i → G.np i = some n → c.init cl = some i ∧ ∃ k', k' + 1 ≤ k ∧ MkIs L X (L.ca cl) x k' n (c.make i)
  glo : ∀ g x d, G.nm.gloN g = some x → G.gd g = some d → ∃ v u, X.mg x = some u ∧ RelV v u ∧ ∀ m H, Rep L.K m H d v
  bl : ∀ x ∈ bNames, X.mg x = none
  co : ClsOk L X.K
  ex : ExOk L X.K
  rs : ∀ j x, j ≤ 5 → G.nm.exN j = some x → RaiseOk L X x j
  exm : ∀ j, j ≤ 5 → PySem.W.exmOne X.K (.ref (L.ca j)) (.ref (L.ca 0)) = some true
structure Good (L : Lk) (G : Gi) (c : Cx) (k : Nat) (N : List Str) (sc : Scope) (fn : Str → Bool) (X : L2.Cx) (W : WX) : Prop where
  eN : X.N = N
  nd : X.N.Nodup
  calm : X.calm = true
  sc : X.env.scope = sc
  fn : ∀ x, fn x = true → X.fn x = true
  tk : Takes X W
  rm : Room k X.A
  fa : Facts L G c k X
section
variable {L : Lk} {G : Gi} {c : Cx} {k : Nat} {N : List Str} {sc : Scope} {fn : Str → Bool} {X : L2.Cx} {W : WX}
theorem Facts.to {Y : L2.Cx} (f : Facts L G c k X) (h1 : Y.prog = X.prog) (h2 : Y.w = X.w) (h3 : Y.K = X.K) (h4 : Y.mg = X.mg) (h5 : Y.base = X.base) : Facts L G c k Y := by
  obtain ⟨P1, w1, K1, mg1, base1, A1, N1, s1, H1, env1, outer1, stack1, ex1, fn1, calm1, pn1, xe1⟩ := X
  obtain ⟨P2, w2, K2, mg2, base2, A2, N2, s2, H2, env2, outer2, stack2, ex2, fn2, calm2, pn2, xe2⟩ := Y
  simp only at h1 h2 h3 h4 h5
  subst h1 h2 h3 h4 h5
  exact ⟨⟨f.xo.eK, f.xo.eP, f.xo.ew⟩, f.nm, f.fn, f.me, f.mnp, f.mks, f.glo, f.bl, f.co, f.ex, f.rs, f.exm⟩
theorem Good.un (g : Good L G c k N sc fn X W) : X.A.units + 65 < cLine := by have := g.rm.un; omega
theorem Good.gl (g : Good L G c k N sc fn X W) {x : Str} (h : glo sc x = true) : Gl X x := by
  unfold glo at h
  show X.env.scope.names.lookup x = _
  rw [g.sc]
  exact of_decide_eq_true h
theorem Good.vis (g : Good L G c k N sc fn X W) {x : Str} (h : vis sc x = true) : Vis X.env.scope x := by
  unfold Ev.vis at h
  unfold Vis
  rw [g.sc]
  split at h
  · exact .inl (by assumption)
  · exact .inr (.inl (by assumption))
  · exact .inr (.inr (by assumption))
  · cases h
theorem Good.loc (g : Good L G c k N sc fn X W) {x : Str} (h : loc sc x = true) : L2.Loc X.env.scope x := by
  unfold Ev.loc at h
  unfold L2.Loc
  rw [g.sc]
  split at h
  · exact .inl (by assumption)
  · exact .inr (by assumption)
  · cases h
theorem Good.isl (g : Good L G c k N sc fn X W) {x : Str} (h : isLocal sc x = true) : X.env.scope.names.lookup x = some .local := by
  rw [g.sc]
  exact of_decide_eq_true h
theorem loc_isl {x : Str} (h : isLocal sc x = true) : loc sc x = true := by
  have h' : sc.names.lookup x = some .local := of_decide_eq_true h
  unfold loc
  rw [h']
theorem nod1 {x : Str} (h : nod x = true) : (x == ("__debug__" : Str)) = false := by
  unfold nod at h
  rw [Bool.and_eq_true, Bool.not_eq_true', Bool.not_eq_true'] at h
  exact h.1
theorem nod2 {x : Str} (h : nod x = true) : (x == ("__classdict__" : Str)) = false := by
  unfold nod at h
  rw [Bool.and_eq_true, Bool.not_eq_true', Bool.not_eq_true'] at h
  exact h.2
theorem Good.blk (g : Good L G c k N sc fn X W) (s : Shared) (H : Hp) (scope : Scope) (C : Addr) (cl : List (Str × Addr)) (fp : List Addr) :
    Good L G c k N (relS scope sc) (fun x => scope.names.lookup x == some .cell) (X.blk s H scope (compEnvC scope cl C X.env) fp) W0 where
  eN := g.eN
  nd := g.nd
  calm := g.calm
  sc := by show relS scope X.env.scope = _; rw [g.sc]
  fn := fun _ h => h
  tk := fun u s' ⟨_, _, _, _, _, _, _, _, _, _, _, _, _, _, _, _, w⟩ => w.elim
  rm := g.rm
  fa := g.fa.to rfl rfl rfl rfl rfl
theorem star1 {e : Expr} {es : List Expr} {env : PySem.Env} (h : nst e = true) : starEach (e :: es) env = (false, eval e env) :: starEach es env := by
  cases e <;> first | rfl | cases h
theorem starless_cons {e : Expr} {es : List Expr} (h : starless (e :: es) = true) : nst e = true ∧ starless es = true := by
  unfold starless at h
  rw [Bool.and_eq_true] at h
  exact h
theorem star_any {p : Pos} {env : PySem.Env} : ∀ {es : List Expr}, starless es = true → (backTo p (starEach es env)).any (·.1) = false
  | [], _ => rfl
  | e :: es, h => by
    obtain ⟨h1, h2⟩ := starless_cons h
    rw [star1 h1]
    show (false || (backTo p (starEach es env)).any (·.1)) = false
    rw [star_any h2]; rfl
theorem star_all {p : Pos} {env : PySem.Env} : ∀ {es : List Expr}, starless es = true → (backTo p (starEach es env)).all (fun x => !x.1) = true
  | [], _ => rfl
  | e :: es, h => by
    obtain ⟨h1, h2⟩ := starless_cons h
    rw [star1 h1]
    show (true && (backTo p (starEach es env)).all (fun x => !x.1)) = true
    rw [star_all h2]; rfl
theorem asg1 {e : Expr} {es : List Expr} {env : PySem.Env} (h : nst e = true) : assignEach (e :: es) env = (false, assign e env) :: assignEach es env := by
  cases e <;> first | rfl | cases h
theorem abOk_of {o : Expr} {x : Str} {env : PySem.Env} (h : abOk o = true) : attributeBase o x env (eval o env) = eval o env := by
  cases o <;> first | rfl | cases h
theorem plain_of {b : Expr} (h : plainIxB b = true) : PlainIx b := by
  intro o i
  cases b <;> first | rfl | cases h
theorem notSet_of {e : Expr} {env : PySem.Env} (h : notSet e = true) : ∀ x, foldedSetIterable e env x = pure x := by
  intro x
  cases e <;> first | rfl | cases h
theorem sub_of {a b : List Nat} (h : sub a b = true) : ∀ j ∈ a, j ∈ b := by
  unfold sub at h
  rw [List.all_eq_true] at h
  intro j hj
  have := h j hj
  rw [List.any_eq_true] at this
  obtain ⟨i, hi, e⟩ := this
  rw [Nat.eq_of_beq_eq_true e]
  exact hi
theorem PW.of_pt {op : PySem.BoolOp} {vs : List Expr} {p : Pos} {t : TT} (h : PT X (.BoolOp op vs p) t) : PW X (.BoolOp op vs p) t := ⟨fun wh pins s σ H Q I q => h.run pins s σ H Q I q⟩
theorem sT_ite {e a b : Expr} {ic ia ib : IE} {pos : Pos} (ht : PT X e (cT L W (evE c ic))) (ha : PT X a (cT L W (evE c ia))) (hb : PT X b (cT L W (evE c ib))) : PT X (.IfExp e a b pos) (cT L W (evE c (.ite ic ia ib))) := by
  refine ⟨fun pins s σ H Q I ⟨m, env, h, S, ev, o⟩ => ?_⟩
  have o' : OutT L W σ m H Q ((evE c ic env h).bind fun x h => match x with
    | .bl true => evE c ia env h
    | .bl false => evE c ib env h
    | _ => .bad) := o
  have q : cT L W (evE c ic) σ H fun b H1 => if b = true then cT L W (evE c ia) σ H1 Q else cT L W (evE c ib) σ H1 Q := by
    refine runTT S ev o' (fun d h' hd => ?_) fun k h1 m1 H1 g1 S1 ev1 o1 => ?_
    · cases d <;> first | rfl | exact absurd rfl (hd _)
    · cases k with
      | true => rw [if_pos rfl]; exact ⟨m1, env, h1, S1, ev1, o1⟩
      | false => rw [if_neg Bool.false_ne_true]; exact ⟨m1, env, h1, S1, ev1, o1⟩
  show wpAny _ _ (do if ← isTrue e X.env (eval e X.env) then isTrue a X.env (eval a X.env) else isTrue b X.env (eval b X.env)) _ _ _
  refine wpAny_bind (thn (ht.run pins s σ H _ I q) fun d s1 ⟨H1, I1, q1⟩ => ?_)
  cases d with
  | true => rw [if_pos rfl] at q1; exact ha.run pins s1 σ H1 Q I1 q1
  | false => rw [if_neg Bool.false_ne_true] at q1; exact hb.run pins s1 σ H1 Q I1 q1
theorem sE_dic0 {pos : Pos} : PE X (.Dict [] [] pos) (cE L W (evE c .dic0)) :=
  pe_dnewK.imp fun σ H Q ⟨m, env, h, S, ev, o⟩ => by
    have o' : OutE L W σ m H Q (.ok (.ref h.length) (h ++ [.dic []])) := o
    intro p hp
    exact o' (m ++ [p]) _ _ (Grow.new hp) (S.new hp (.inl ⟨[], upd_same, .nil⟩)) (.ref S.lenRef)
end
end Ev
end

section
set_option Elab.async false
set_option autoImplicit false
set_option linter.all false
set_option maxRecDepth 100000
set_option maxHeartbeats 2000000
/-! EvS: a tree that is the text's runs as the text: expressions. -/
namespace Ev
open PySem L2
section
variable {L : Lk} {G : Gi} {c : Cx} {k : Nat} {N : List Str} {sc : Scope} {fn : Str → Bool} {X : L2.Cx} {W : WX}
/-- an expression's two readings -/
def Both (L : Lk) (c : Cx) (W : WX) (X : L2.Cx) (ia : IE) (a : Expr) : Prop := PE X a (cE L W (evE c ia)) ∧ PT X a (cT L W (evE c ia))
theorem both {ia : IE} {a : Expr} (p : PE X a (cE L W (evE c ia))) (he : ∀ whole, isTrue a X.env whole = (do let v ← whole; standAt a.pos; holding [v] (truthy v))) : Both L c W X ia a := ⟨p, sT_val p he⟩
theorem b_const {d : D} {a : Expr} (h : ckE G N sc fn (.const d) a = true) : Both L c W X (.const d) a := by
  unfold ckE at h
  split at h
  · unfold constIs at h
    split at h
    · exact both sE_non fun _ => rfl
    · obtain rfl := of_decide_eq_true h; exact both sE_bl fun _ => rfl
    · obtain rfl := of_decide_eq_true h; exact both sE_int fun _ => rfl
    · obtain rfl := of_decide_eq_true h; exact both sE_str fun _ => rfl
    · cases h
  · cases h
theorem b_glob {i : Nat} {d : D} {a : Expr} (g : Good L G c k N sc fn X W) (h : ckE G N sc fn (.glob i d) a = true) : Both L c W X (.glob i d) a := by
  unfold ckE at h
  split at h
  · simp only [Bool.and_eq_true] at h
    obtain ⟨⟨⟨h1, h2⟩, h3⟩, h4⟩ := h
    obtain ⟨v, u, q1, q2, q3⟩ := g.fa.glo _ _ _ (of_decide_eq_true h1) (of_decide_eq_true h2)
    exact both (sE_glob (g.gl h3) q1 q2 q3 (nod1 h4)) fun _ => rfl
  · cases h
theorem b_var {i : Nat} {a : Expr} (g : Good L G c k N sc fn X W) (h : ckE G N sc fn (.var i) a = true) : Both L c W X (.var i) a := by
  unfold ckE at h
  split at h
  · simp only [Bool.and_eq_true] at h
    obtain ⟨⟨h1, h3⟩, h4⟩ := h
    exact both (sE_var (by rw [g.eN]; exact of_decide_eq_true h1) (g.vis h3) (nod1 h4) (nod2 h4)) fun _ => rfl
  · cases h
theorem e_bin {op : BOp} {o : Operator} {ia ib : IE} {a b : Expr} {pos : Pos} (xo : XOk L X) (h : bopIs op o = true) (ha : PE X a (cE L W (evE c ia))) (hb : PE X b (cE L W (evE c ib))) : PE X (.BinOp a o b pos) (cE L W (evE c (.bin op ia ib))) := by
  unfold bopIs at h
  split at h
  · exact sE_bin (op_add.or (op_add_str.or ((by rw [← xo.eK]; exact op_catA : OpR X (binaryOp .Add) (rCatA L.K)).or op_cat))) op2_add ha hb
  · exact sE_bin op_sub op2_sub ha hb
  · exact sE_bin (op_mul.or (op_repS.or (op_rep.or ((by rw [← xo.eK]; exact op_repT : OpR X (binaryOp .Mult) (rRepT L.K)).or (by rw [← xo.eK]; exact op_repT1 : OpR X (binaryOp .Mult) (rRepT1 L.K)))))) op2_mul ha hb
  · exact sE_bin op_fdiv op2_fdiv ha hb
  · exact sE_bin op_mod op2_mod ha hb
  · exact sE_bin op_pow op2_pow ha hb
  · cases h
/-- a comparison's rule -/
theorem cop_rule {op : COp} {o : CmpOp} (xo : XOk L X) (hu : X.A.units + 65 < cLine) (h : copIs op o = true) : ∃ r, OpR X (compareOp o) r ∧ Op2 L r (copR op) := by
  unfold copIs at h
  split at h
  · exact ⟨_, op_eq.or (by rw [← xo.eK]; exact op_eqD (by omega) : OpR X (compareOp .Eq) (rEqD L.K)), op2_eq⟩
  · exact ⟨_, op_ne.or (by rw [← xo.eK]; exact op_neD (by omega) : OpR X (compareOp .NotEq) (rNeD L.K)), op2_ne⟩
  · exact ⟨_, op_lt, op2_lt⟩
  · exact ⟨_, op_le, op2_le⟩
  · exact ⟨_, op_gt, op2_gt⟩
  · exact ⟨_, op_ge, op2_ge⟩
  · exact ⟨_, or_in xo hu, op2_inn⟩
  · exact ⟨_, or_nin xo hu, op2_nin⟩
  · exact ⟨_, op_isN.or op_isBl, op2_is⟩
  · exact ⟨_, op_notN.or op_notBl, op2_isn⟩
  · cases h
/-- the rules of built-in functions -/
theorem e_bf {f : BF} {x : Str} {ies : IEs} {e : Expr} {es : List Expr} {p pos : Pos} (xo : XOk L X) (hc : X.calm = true) (hg : Gl X x) (hm : X.mg x = none) (hf : bfName f = some x) (ha : PA X (e :: es) (cA L W (evEs c ies)))
    (he : starEach (e :: es) X.env = (false, eval e X.env) :: starEach es X.env) (hpl : (backTo pos (starEach es X.env)).any (·.1) = false) : PE X (.Call (.Name x p) (e :: es) [] pos) (cE L W (evE c (.bf f ies))) := by
  cases f <;> first | cases hf | (obtain rfl : _ = x := Option.some.inj hf)
  · exact sE_bfB (by have q := (call_len_seq (X := X)).or call_len_str; rw [xo.eK] at q; exact q) cs_len hg hm (by decide +kernel) ha (by decide +kernel) (by decide +kernel) he hpl
  · exact sE_bfB (by rw [← xo.eK]; exact cr_all hc) cs_all hg hm (by decide +kernel) ha (by decide +kernel) (by decide +kernel) he hpl
  · exact sE_bfB (by rw [← xo.eK]; exact cr_min hc) cs_min1 hg hm (by decide +kernel) ha (by decide +kernel) (by decide +kernel) he hpl
  · exact sE_bfB (by rw [← xo.eK]; exact cr_max hc) cs_max1 hg hm (by decide +kernel) ha (by decide +kernel) (by decide +kernel) he hpl
  · exact sE_bfB (call_min2 hc) cs_min2 hg hm (by decide +kernel) ha (by decide +kernel) (by decide +kernel) he hpl
  · exact sE_bfB (call_max2 hc) cs_max2 hg hm (by decide +kernel) ha (by decide +kernel) (by decide +kernel) he hpl
  · exact sE_bfB (by rw [← xo.eK]; exact cr_sum hc) cs_sum hg hm (by decide +kernel) ha (by decide +kernel) (by decide +kernel) he hpl
  · exact sE_bfT (by have q := (call_list_of (X := X)).or (call_listS hc); rw [xo.eK] at q; exact q) cs_listOf hg hm (by decide +kernel) ha (by decide +kernel) (by decide +kernel) he hpl
  · exact sE_bfT (by rw [← xo.eK]; exact call_tuple_of) cs_tupOf hg hm (by decide +kernel) ha (by decide +kernel) (by decide +kernel) he hpl
  · exact sE_bfT (call_str_int.or SkE.call_str_str) cs_strOf hg hm (by decide +kernel) ha (by decide +kernel) (by decide +kernel) he hpl
  · exact sE_bfT call_int_str cs_intOf hg hm (by decide +kernel) ha (by decide +kernel) (by decide +kernel) he hpl

theorem e_isin {t : Ty} {y : Str} {ia : IE} {a : Expr} {p p2 pos : Pos} (g : Good L G c k N sc fn X W) (hg : glo sc "isinstance" = true) (ha : PE X a (cE L W (evE c ia))) (hn : nst a = true) (hy : glo sc y = true) (hd : nod y = true)
    (ht : (match t with
      | .cls k => Nat.ble k 5 && decide (G.nm.exN k = some y)
      | t => decide (tyStr t = some y)) = true) : PE X (.Call (.Name "isinstance" p) [a, .Name y p2] [] pos) (cE L W (evE c (.bf (.isin t) (.cons ia .nil)))) := by
  have hb : X.mg "isinstance" = none := g.fa.bl _ (by decide +kernel)
  have e1 : starEach [a, .Name y p2] X.env = (false, eval a X.env) :: starEach [.Name y p2] X.env := star1 hn
  have e2 : (backTo pos (starEach [.Name y p2] X.env)).any (·.1) = false := rfl
  have base : ∀ {T : String} {w : V} {u : Value}, tyStr t = some y → X.mg y = none → bootBuiltins y = some u → RelV w u → (∀ u, RelV w u → ClV L t u) → y ≠ "__name__" → PE X (.Call (.Name "isinstance" p) [a, .Name y p2] [] pos) (cE L W (evE c (.bf (.isin t) (.cons ia .nil)))) := fun {T w u} _ h2 h3 h4 h5 h6 =>
    sE_isin g.fa.xo g.fa.ex (g.gl hg) hb ha (pe_bltn (g.gl hy) h2 h3 h4 h6 (nod1 hd)) h5 e1 rfl e2
  cases t with
  | cls j =>
    simp only [Bool.and_eq_true] at ht
    obtain ⟨h1, h2⟩ := ht
    have hj := Nat.le_of_ble_eq_true h1
    obtain ⟨B, newId, initId, bmB, F, q, gC, kC, r⟩ := g.fa.rs j y hj (of_decide_eq_true h2)
    exact sE_isin (w := .ref (L.ca j)) g.fa.xo g.fa.ex (g.gl hg) hb ha (pe_glob (g.gl hy) gC rfl (nod1 hd)) (fun u hu => ⟨hj, hu⟩) e1 rfl e2
  | int => obtain rfl : _ = y := Option.some.inj (of_decide_eq_true ht); exact base (T := "int") (w := .ty "int") rfl (g.fa.bl _ (by decide +kernel)) (by decide +kernel) rfl (fun u hu => ⟨"int", rfl, hu⟩) (by decide +kernel)
  | bool => obtain rfl : _ = y := Option.some.inj (of_decide_eq_true ht); exact base (T := "bool") (w := .ty "bool") rfl (g.fa.bl _ (by decide +kernel)) (by decide +kernel) rfl (fun u hu => ⟨"bool", rfl, hu⟩) (by decide +kernel)
  | str => obtain rfl : _ = y := Option.some.inj (of_decide_eq_true ht); exact base (T := "str") (w := .ty "str") rfl (g.fa.bl _ (by decide +kernel)) (by decide +kernel) rfl (fun u hu => ⟨"str", rfl, hu⟩) (by decide +kernel)
  | tuple => obtain rfl : _ = y := Option.some.inj (of_decide_eq_true ht); exact base (T := "tuple") (w := .ty "tuple") rfl (g.fa.bl _ (by decide +kernel)) (by decide +kernel) rfl (fun u hu => ⟨"tuple", rfl, hu⟩) (by decide +kernel)
  | list => obtain rfl : _ = y := Option.some.inj (of_decide_eq_true ht); exact base (T := "list") (w := .ty "list") rfl (g.fa.bl _ (by decide +kernel)) (by decide +kernel) rfl (fun u hu => ⟨"list", rfl, hu⟩) (by decide +kernel)
  | verr => obtain rfl : _ = y := Option.some.inj (of_decide_eq_true ht); exact base (T := "ValueError") (w := .ty "ValueError") rfl (g.fa.bl _ (by decide +kernel)) (by decide +kernel) rfl (fun u hu => ⟨"ValueError", rfl, hu⟩) (by decide +kernel)
theorem meth_line {o : Expr} {es : List Expr} {x : Str} {ap p : Pos} (ho : abOk o = true) (hl : es.length < 28) (hs : starless es = true) (hp : (ap.endLine == p.line) = true) : eval (.Call (.Attribute o x ap) es [] p) X.env = (do
      let ov ← eval o X.env
      standAt ap.atName
      let (f, first) ← holding [ov] (getMethod ov x (plainOf o X.env))
      callWith p f first (backTo p (starEach es X.env)) (backToKw p (keywordEach [] X.env))) := by
  have e0 : eval (.Call (.Attribute o x ap) es [] p) X.env = (do
      let ov ← attributeBase o x X.env (eval o X.env)
      standAt ap.atName
      methodCall o x ap p X.env ov (es.length + ([] : List Keyword).length) (backTo p (starEach es X.env)) (backToKw p (keywordEach [] X.env))) := rfl
  have hf : methodCallForm (es.length + ([] : List Keyword).length) (backTo p (starEach es X.env)) (backToKw p (keywordEach [] X.env)) = true := by
    unfold methodCallForm
    rw [star_all hs]
    show (true && true && decide (es.length + 0 + 0 < 30)) = true
    simp; omega
  have e1 : ∀ ov, methodCall o x ap p X.env ov (es.length + ([] : List Keyword).length) (backTo p (starEach es X.env)) (backToKw p (keywordEach [] X.env)) = (do
      let (f, first) ← holding [ov] (getMethod ov x (plainOf o X.env))
      callWith p f first (backTo p (starEach es X.env)) (backToKw p (keywordEach [] X.env))) := fun ov => mcall_line hf hp
  rw [e0, abOk_of ho]
  simp only [e1]
end
end Ev
end

section
set_option Elab.async false
set_option autoImplicit false
set_option linter.all false
set_option maxRecDepth 100000
set_option maxHeartbeats 2000000
/-! EvT: a tree that is the text's runs as the text: the induction. -/
namespace Ev
open PySem L2
section
variable {L : Lk} {G : Gi} {c : Cx} {k : Nat}
theorem tgs_nil {N : List Str} {sc : Scope} {fn : Str → Bool} {l : List Expr} (h : ckTs G N sc fn .nil l = true) : l = [] := by
  unfold ckTs at h
  split at h
  · rfl
  · cases h
mutual
theorem okE : ∀ (ia : IE) (N : List Str) (sc : Scope) (fn : Str → Bool) (X : L2.Cx) (W : WX) (a : Expr), Good L G c k N sc fn X W → ckE G N sc fn ia a = true → Both L c W X ia a
  | .const d, N, sc, fn, X, W, a, g, h => b_const h
  | .glob i d, N, sc, fn, X, W, a, g, h => b_glob g h
  | .var i, N, sc, fn, X, W, a, g, h => b_var g h
  | .bin op x y, N, sc, fn, X, W, a, g, h => by
    unfold ckE at h
    split at h
    · simp only [Bool.and_eq_true] at h
      exact both (e_bin g.fa.xo h.1.1 (okE x N sc fn X W _ g h.1.2).1 (okE y N sc fn X W _ g h.2).1) fun _ => rfl
    · cases h
  | .neg x, N, sc, fn, X, W, a, g, h => by
    unfold ckE at h
    split at h
    · exact both (sE_neg (okE x N sc fn X W _ g h).1) fun _ => rfl
    · cases h
  | .not x, N, sc, fn, X, W, a, g, h => by
    unfold ckE at h
    split at h
    · have q := okE x N sc fn X W _ g h
      exact ⟨sE_not q.1, sT_not q.2⟩
    · cases h
  | .and x y, N, sc, fn, X, W, a, g, h => by
    unfold ckE at h
    split at h
    · simp only [Bool.and_eq_true] at h
      obtain ⟨h1, h2⟩ := h
      have q1 := okE x N sc fn X W _ g h1
      split at h2
      · have q2 := okE y N sc fn X W _ g h2
        exact ⟨sE_and q1.1 (pe_one q2.1), (sW_and q1.2 (pw_and1 q2.2)).pt⟩
      · have q2 := okE y N sc fn X W _ g h2
        exact ⟨sE_and q1.1 q2.1, (sW_and q1.2 (PW.of_pt q2.2)).pt⟩
    · cases h
  | .or x y, N, sc, fn, X, W, a, g, h => by
    unfold ckE at h
    split at h
    · simp only [Bool.and_eq_true] at h
      obtain ⟨h1, h2⟩ := h
      have q1 := okE x N sc fn X W _ g h1
      split at h2
      · have q2 := okE y N sc fn X W _ g h2
        exact ⟨sE_or q1.1 (pe_one q2.1), (sW_or q1.2 (pw_or1 q2.2)).pt⟩
      · have q2 := okE y N sc fn X W _ g h2
        exact ⟨sE_or q1.1 q2.1, (sW_or q1.2 (PW.of_pt q2.2)).pt⟩
    · cases h
  | .cmp op x y, N, sc, fn, X, W, a, g, h => by
    unfold ckE at h
    split at h
    · simp only [Bool.and_eq_true, Bool.not_eq_true'] at h
      obtain ⟨⟨⟨h1, h2⟩, h3⟩, h4⟩ := h
      obtain ⟨r, ho, hr⟩ := cop_rule (L := L) g.fa.xo g.un h1
      have q1 := (okE x N sc fn X W _ g h3).1
      have q2 := (okE y N sc fn X W _ g h4).1
      exact ⟨sE_cmp ho hr q1 q2 h2, sT_cmp ho hr q1 q2 h2⟩
    · cases h
  | .cmp2 op op' x y z, N, sc, fn, X, W, a, g, h => by
    unfold ckE at h
    split at h
    · simp only [Bool.and_eq_true, Bool.not_eq_true'] at h
      obtain ⟨⟨⟨⟨⟨h1, h1'⟩, h2⟩, h3⟩, h4⟩, h5⟩ := h
      obtain ⟨r, ho, hr⟩ := cop_rule (L := L) g.fa.xo g.un h1
      obtain ⟨r', ho', hr'⟩ := cop_rule (L := L) g.fa.xo g.un h1'
      have q1 := (okE x N sc fn X W _ g h3).1
      have q2 := (okE y N sc fn X W _ g h4).1
      have q3 := (okE z N sc fn X W _ g h5).1
      exact ⟨sE_cmp2 ho hr ho' hr' q1 q2 q3 h2, sT_cmp2 ho hr ho' hr' q1 q2 q3 h2⟩
    · cases h
  | .ite t x y, N, sc, fn, X, W, a, g, h => by
    unfold ckE at h
    split at h
    · simp only [Bool.and_eq_true] at h
      have q1 := okE t N sc fn X W _ g h.1.1
      have q2 := okE x N sc fn X W _ g h.1.2
      have q3 := okE y N sc fn X W _ g h.2
      exact ⟨sE_ite q1.2 q2.1 q3.1, sT_ite q1.2 q2.2 q3.2⟩
    · cases h
  | .tup es, N, sc, fn, X, W, a, g, h => by
    unfold ckE at h
    split at h
    · simp only [Bool.and_eq_true] at h
      exact both (sE_tup (okEs es N sc fn X W _ g h.2).1 (Nat.le_of_ble_eq_true h.1)) fun _ => rfl
    · cases h
  | .lst es, N, sc, fn, X, W, a, g, h => by
    unfold ckE at h
    split at h
    · simp only [Bool.and_eq_true] at h
      exact both (sE_lst (okEs es N sc fn X W _ g h.2).1 (Nat.le_of_ble_eq_true h.1)) fun _ => rfl
    · cases h
  | .dic0, N, sc, fn, X, W, a, g, h => by
    unfold ckE at h
    split at h
    · exact both sE_dic0 fun _ => rfl
    · cases h
  | .dic1 _ _, N, sc, fn, X, W, a, g, h => by
    unfold ckE at h
    cases h
  | .call f es, N, sc, fn, X, W, a, g, h => by
    unfold ckE at h
    split at h
    · rename_i x p l pos
      simp only [Bool.and_eq_true] at h
      obtain ⟨⟨⟨⟨h1, h2⟩, h3⟩, h4⟩, h5⟩ := h
      have F := g.fa.fn f x _ (of_decide_eq_true h1) (of_decide_eq_true h2)
      obtain ⟨q1, q2⟩ := okEs es N sc fn X W _ g h5
      cases l with
      | nil =>
        have e0 : es = .nil := by
          cases es with
          | nil => rfl
          | cons _ _ => unfold ckEs at h5; cases h5
        subst e0
        exact both (sE_call0 F g.rm (g.gl h3) g.tk (nod1 h4)) fun _ => rfl
      | cons e l =>
        obtain ⟨s1, s2⟩ := starless_cons q2
        exact both (sE_call F g.rm (g.gl h3) g.tk q1 rfl (nod1 h4) (star1 s1) (star_any s2)) fun _ => rfl
    · cases h
  | .new cl es, N, sc, fn, X, W, a, g, h => by
    unfold ckE at h
    split at h
    · rename_i x p e l pos
      simp only [Bool.and_eq_true] at h
      obtain ⟨⟨⟨⟨h1, h2⟩, h3⟩, h4⟩, h5⟩ := h
      split at h2
      · rename_i i hi
        obtain ⟨e1, k', hk, M⟩ := g.fa.mks cl i x _ (of_decide_eq_true h1) hi (of_decide_eq_true h2)
        obtain ⟨q1, q2⟩ := okEs es N sc fn X W _ g h5
        obtain ⟨s1, s2⟩ := starless_cons q2
        exact both (sE_new (by rw [g.fa.nm]; exact of_decide_eq_true h1) e1 M (g.rm.mono hk) (g.gl h3) g.tk q1 rfl (nod1 h4) (star1 s1) (star_any s2)) fun _ => rfl
      · cases h2
    · cases h
  | .meth o m es, N, sc, fn, X, W, a, g, h => by
    unfold ckE at h
    split at h
    · rename_i ob x ap l pos
      simp only [Bool.and_eq_true] at h
      obtain ⟨⟨⟨⟨⟨⟨h1, h2⟩, h3⟩, h4⟩, h5⟩, h6⟩, h7⟩ := h
      have hm : L.nm.metL[m]? = some x := by rw [g.fa.nm]; exact of_decide_eq_true h1
      have hn : ∀ cl f, c.meth cl m = some f → (G.np f).getD 0 = lenIEs es + 1 := fun cl f e => g.fa.mnp m _ cl f (of_decide_eq_true h2) e
      have hl : l.length < 28 := by have := Nat.le_of_ble_eq_true h4; omega
      obtain ⟨q1, q2⟩ := okEs es N sc fn X W _ g h7
      have q0 := (okE o N sc fn X W _ g h6).1
      have ml := meth_line (X := X) (x := x) h3 hl q2 h5
      cases l with
      | nil =>
        have e0 : es = .nil := by
          cases es with
          | nil => rfl
          | cons _ _ => unfold ckEs at h7; cases h7
        subst e0
        exact both (sE_meth0 g.fa.me g.fa.co hm g.rm g.tk q0 hn ml) fun _ => rfl
      | cons e l =>
        obtain ⟨s1, s2⟩ := starless_cons q2
        exact both (sE_meth (n := 0) g.fa.me g.fa.co hm g.rm g.tk q0 q1 hn (star1 s1) (star_any s2) ml) fun _ => rfl
    · cases h
  | .bm m o es, N, sc, fn, X, W, a, g, h => by
    unfold ckE at h
    split at h
    · rename_i ob x ap e l pos
      simp only [Bool.and_eq_true] at h
      obtain ⟨⟨⟨⟨⟨⟨h1, h2⟩, h3⟩, h4⟩, h5⟩, h6⟩, h7⟩ := h
      obtain rfl := of_decide_eq_true h2
      obtain ⟨q1, q2⟩ := okEs es N sc fn X W _ g h7
      obtain ⟨s1, s2⟩ := starless_cons q2
      have hl : (e :: l).length < 30 := by have := Nat.le_of_ble_eq_true h4; simp; omega
      refine both (sE_bm g.fa.xo (by have := g.un; omega) h1 (okE o N sc fn X W _ g h6).1 q1 (abOk_of h3) ?_ h5 (star1 s1) (star_any s2)) fun _ => rfl
      rw [star_all q2]
      show (true && true && decide ((e :: l).length + 0 + 0 < 30)) = true
      simpa using hl
    · cases h
  | .bf f es, N, sc, fn, X, W, a, g, h => by
    unfold ckE at h
    split at h
    · rename_i x p e l pos
      split at h
      · rename_i t
        split at h
        · rename_i ia y p2
          simp only [Bool.and_eq_true] at h
          obtain ⟨⟨⟨⟨⟨⟨h1, h2⟩, h3⟩, h4⟩, h5⟩, h6⟩, h7⟩ := h
          obtain rfl := of_decide_eq_true h1
          exact both (e_isin g h2 (okE ia N sc fn X W _ g h3).1 h4 h5 h6 h7) fun _ => rfl
        · cases h
      · simp only [Bool.and_eq_true] at h
        obtain ⟨⟨⟨h1, h2⟩, h3⟩, h4⟩ := h
        obtain ⟨q1, q2⟩ := okEs es N sc fn X W _ g h4
        obtain ⟨s1, s2⟩ := starless_cons q2
        refine both (e_bf g.fa.xo g.calm (g.gl h3) (g.fa.bl x ?_) (of_decide_eq_true h1) q1 (star1 s1) (star_any s2)) fun _ => rfl
        have := of_decide_eq_true h1
        cases f <;> first | (obtain rfl : _ = x := Option.some.inj this; decide +kernel) | cases this
    · cases h
  | .fld o f, N, sc, fn, X, W, a, g, h => by
    unfold ckE at h
    split at h
    · simp only [Bool.and_eq_true] at h
      exact both (sE_fld g.fa.xo g.fa.co (by rw [g.fa.nm]; exact of_decide_eq_true h.1.1) (okE o N sc fn X W _ g h.2).1 (abOk_of h.1.2)) fun _ => rfl
    · cases h
  | .idx x y, N, sc, fn, X, W, a, g, h => by
    unfold ckE at h
    split at h
    · simp only [Bool.and_eq_true] at h
      exact both (sE_idx g.fa.xo (by have := g.un; omega) (okE x N sc fn X W _ g h.1.2).1 (okE y N sc fn X W _ g h.2).1 (plain_of h.1.1)) fun _ => rfl
    · cases h
  | .slc x y z, N, sc, fn, X, W, a, g, h => by
    unfold ckE at h
    split at h
    · simp only [Bool.and_eq_true] at h
      exact both (sE_slc g.fa.xo (okE x N sc fn X W _ g h.1.1).1 (okE y N sc fn X W _ g h.1.2).1 (okE z N sc fn X W _ g h.2).1) fun _ => rfl
    · cases h
  | .slcF x y, N, sc, fn, X, W, a, g, h => by
    unfold ckE at h
    split at h
    · simp only [Bool.and_eq_true] at h
      exact both (sE_slcF g.fa.xo (okE x N sc fn X W _ g h.1).1 (okE y N sc fn X W _ g h.2).1) fun _ => rfl
    · cases h
  | .slcT x y, N, sc, fn, X, W, a, g, h => by
    unfold ckE at h
    split at h
    · simp only [Bool.and_eq_true] at h
      exact both (sE_slcT g.fa.xo (okE x N sc fn X W _ g h.1).1 (okE y N sc fn X W _ g h.2).1) fun _ => rfl
    · cases h
  | .rev x, N, sc, fn, X, W, a, g, h => by
    unfold ckE at h
    split at h
    · exact both (sE_rev g.fa.xo (okE x N sc fn X W _ g h).1) fun _ => rfl
    · cases h
  | .comp elt t it cnd own, N, sc, fn, X, W, a, g, h => by
    unfold ckE at h
    split at h
    · rename_i el tg iter ifs scope pos
      simp only [Bool.and_eq_true] at h
      obtain ⟨⟨⟨⟨⟨⟨⟨h1, h2⟩, h3⟩, h4⟩, h5⟩, h6⟩, h7⟩, h8⟩ := h
      have eo := of_decide_eq_true h2
      have bk : BlkOk X.N X.env.scope scope (ownL N own) := by rw [g.eN, g.sc]; exact blkOk_by h1
      have hsl : ∀ j ∈ tgSlots t, j ∈ (ownL N own).map (·.2) := by rw [eo]; exact sub_of h3
      have p := sE_comp (W := W) (c := c) (pos := pos) (ielt := elt) (icnd := cnd) (ifs := ifs) (elt := el) g.calm g.nd hsl (okI it N sc fn X W tg iter g h5) bk
        (fun s H C cl fp => okT t N _ _ _ W0 tg (g.blk s H scope C cl fp) h6)
        (fun s H C cl fp => by
          split at h7
          · split at h7
            · exact pts0
            · cases h7
          · exact pts1 (okE cnd N _ _ _ W0 _ (g.blk s H scope C cl fp) h7).2
          · cases h7)
        (fun s H C cl fp => (okE elt N _ _ _ W0 _ (g.blk s H scope C cl fp) h8).1) (notSet_of h4)
      rw [eo] at p
      exact both p fun _ => rfl
    · cases h
  | .lrng it, N, sc, fn, X, W, a, g, h => by
    unfold ckE at h
    split at h
    · rename_i x px y py l pl pos
      simp only [Bool.and_eq_true] at h
      obtain ⟨⟨⟨⟨h1, h2⟩, h3⟩, h4⟩, h5⟩ := h
      obtain rfl := of_decide_eq_true h1
      obtain rfl := of_decide_eq_true h2
      have b1 : X.mg "list" = none := g.fa.bl _ (by decide +kernel)
      have b2 : X.mg "range" = none := g.fa.bl _ (by decide +kernel)
      split at h5
      · rename_i ia
        split at h5
        · rename_i b
          simp only [Bool.and_eq_true] at h5
          exact both (sE_lrng1 g.fa.xo g.calm (g.gl h3) b1 (g.gl h4) b2 (okE ia N sc fn X W _ g h5.2).1 (star1 (starless_cons h5.1).1) rfl) fun _ => rfl
        · cases h5
      · rename_i ia ib
        split at h5
        · rename_i b b'
          simp only [Bool.and_eq_true] at h5
          obtain ⟨⟨s0, h6⟩, h7⟩ := h5
          obtain ⟨s1, s2⟩ := starless_cons s0
          exact both (sE_lrng2 g.fa.xo g.calm (g.gl h3) b1 (g.gl h4) b2 (okE ia N sc fn X W _ g h6).1 (okE ib N sc fn X W _ g h7).1 (star1 s1) (star1 (starless_cons s2).1) rfl (star_any s2)) fun _ => rfl
        · cases h5
      · cases h5
    · cases h
theorem okEs : ∀ (es : IEs) (N : List Str) (sc : Scope) (fn : Str → Bool) (X : L2.Cx) (W : WX) (l : List Expr), Good L G c k N sc fn X W → ckEs G N sc fn es l = true → PA X l (cA L W (evEs c es)) ∧ starless l = true
  | .nil, N, sc, fn, X, W, l, g, h => by
    unfold ckEs at h
    split at h
    · exact ⟨sA_nil, rfl⟩
    · cases h
  | .cons e es, N, sc, fn, X, W, l, g, h => by
    unfold ckEs at h
    split at h
    · simp only [Bool.and_eq_true] at h
      obtain ⟨⟨h1, h2⟩, h3⟩ := h
      obtain ⟨q1, q2⟩ := okEs es N sc fn X W _ g h3
      refine ⟨sA_cons (okE e N sc fn X W _ g h2).1 q1 (star1 h1), ?_⟩
      unfold starless
      rw [h1, q2]; rfl
    · cases h
theorem okI : ∀ (it : It) (N : List Str) (sc : Scope) (fn : Str → Bool) (X : L2.Cx) (W : WX) (tg e : Expr), Good L G c k N sc fn X W → ckI G N sc fn it tg e = true → PI X tg e (cI L W (evIt c it))
  | .val a, N, sc, fn, X, W, tg, e, g, h => by
    unfold ckI at h
    exact sI_val g.fa.xo (okE a N sc fn X W _ g h).1
  | .rng1 a, N, sc, fn, X, W, tg, e, g, h => by
    unfold ckI at h
    split at h
    · simp only [Bool.and_eq_true] at h
      obtain ⟨⟨⟨h1, h2⟩, h3⟩, h4⟩ := h
      obtain rfl := of_decide_eq_true h1
      exact sI_rng1 (g.gl h2) (g.fa.bl _ (by decide +kernel)) (okE a N sc fn X W _ g h4).1 (star1 (starless_cons h3).1)
    · cases h
  | .rng2 a b, N, sc, fn, X, W, tg, e, g, h => by
    unfold ckI at h
    split at h
    · simp only [Bool.and_eq_true] at h
      obtain ⟨⟨⟨⟨h1, h2⟩, h3⟩, h4⟩, h5⟩ := h
      obtain rfl := of_decide_eq_true h1
      obtain ⟨s1, s2⟩ := starless_cons h3
      have e2 := star1 (env := X.env) (es := []) (starless_cons s2).1
      refine sI_rng2 (g.gl h2) (g.fa.bl _ (by decide +kernel)) (okE a N sc fn X W _ g h4).1 (okE b N sc fn X W _ g h5).1 ?_ e2
      rw [star1 s1, e2]; rfl
    · cases h
  | .rng3 _ _ _, N, sc, fn, X, W, tg, e, g, h => by
    unfold ckI at h
    cases h
  | .enum a, N, sc, fn, X, W, tg, e, g, h => by
    unfold ckI at h
    split at h
    · split at h
      · simp only [Bool.and_eq_true] at h
        obtain ⟨⟨⟨h1, h2⟩, h3⟩, h4⟩ := h
        obtain rfl := of_decide_eq_true h1
        exact sI_enum g.fa.xo (g.gl h2) (g.fa.bl _ (by decide +kernel)) (okE a N sc fn X W _ g h4).1 (star1 (starless_cons h3).1)
      · cases h
    · cases h
  | .zip _ _, N, sc, fn, X, W, tg, e, g, h => by
    unfold ckI at h
    cases h
theorem okT : ∀ (t : Tg) (N : List Str) (sc : Scope) (fn : Str → Bool) (X : L2.Cx) (W : WX) (a : Expr), Good L G c k N sc fn X W → ckT G N sc fn t a = true → PG X a (cG L (tgSlots t) (evTg c t))
  | .nm i, N, sc, fn, X, W, a, g, h => by
    unfold ckT at h
    split at h
    · rename_i x p
      simp only [Bool.and_eq_true, Bool.or_eq_true] at h
      obtain ⟨h1, h2⟩ := h
      have hi : X.N[i]? = some x := by rw [g.eN]; exact of_decide_eq_true h1
      rcases h2 with h2 | ⟨h2, h3⟩
      · exact sG_name g.nd hi (g.loc (loc_isl h2)) (.inr (g.isl h2))
      · exact sG_name g.nd hi (g.loc h2) (.inl (g.fn x h3))
    · cases h
  | .tp ts, N, sc, fn, X, W, a, g, h => by
    unfold ckT at h
    split at h
    · obtain ⟨q1, q2, q3⟩ := okTs ts N sc fn X W _ g h
      exact sG_tup g.fa.xo g.calm q1 q2 q3
    · cases h
  | .fld o f, N, sc, fn, X, W, a, g, h => by
    unfold ckT at h
    split at h
    · simp only [Bool.and_eq_true] at h
      exact sG_fld (W := W) g.fa.xo g.fa.co (by rw [g.fa.nm]; exact of_decide_eq_true h.1) (okE o N sc fn X W _ g h.2).1
    · cases h
  | .sub o i, N, sc, fn, X, W, a, g, h => by
    unfold ckT at h
    split at h
    · rename_i l r p
      simp only [Bool.and_eq_true] at h
      refine sG_sub (W := W) g.fa.xo (by have := g.un; omega) (okE o N sc fn X W _ g h.1.2).1 (okE i N sc fn X W _ g h.2).1 fun v => ?_
      have h0 := h.1.1
      cases r <;> first | rfl | cases h0
    · cases h
theorem okTs : ∀ (ts : Tgs) (N : List Str) (sc : Scope) (fn : Str → Bool) (X : L2.Cx) (W : WX) (l : List Expr), Good L G c k N sc fn X W → ckTs G N sc fn ts l = true → PGs X l (cGs L (tgsSlots ts) (evTgs c ts)) ∧ (assignEach l X.env).length = lenTgs ts ∧ (assignEach l X.env).findIdx? (·.1) = none
  | .nil, N, sc, fn, X, W, l, g, h => by
    obtain rfl := tgs_nil h
    exact ⟨sGs_nil, rfl, rfl⟩
  | .cons t ts, N, sc, fn, X, W, l, g, h => by
    unfold ckTs at h
    split at h
    · simp only [Bool.and_eq_true] at h
      obtain ⟨⟨h1, h2⟩, h3⟩ := h
      obtain ⟨q1, q2, q3⟩ := okTs ts N sc fn X W _ g h3
      refine ⟨sGs_cons (okT t N sc fn X W _ g h2) q1 (by rw [asg1 h1]; rfl), ?_, ?_⟩
      · rw [asg1 h1, List.length_cons, q2]; rfl
      · rw [asg1 h1, List.findIdx?_cons, q3]; rfl
    · cases h
end
end
end Ev
end

section
set_option Elab.async false
set_option autoImplicit false
set_option linter.all false
set_option maxRecDepth 100000
set_option maxHeartbeats 2000000
/-! EvU: a tree that is the text's runs as the text: statements. -/
namespace Ev
open PySem L2
structure GoodS (L : Lk) (G : Gi) (c : Cx) (k : Nat) (N : List Str) (sc : Scope) (X : L2.Cx) (W : WX) : Prop where
  g : Good L G c k N sc (fun _ => true) X W
  kind : sc.kind = .function
  own : PassesOwn (model X.prog X.w) X.A X.env X.xe
  stk : X.stack = X.env :: X.outer
  frm : X.env.frame = some X.env.locals
  ex : X.ex = []
section
variable {L : Lk} {G : Gi} {c : Cx} {k : Nat} {N : List Str} {sc : Scope} {X : L2.Cx} {W : WX}
theorem GoodS.blk (g : GoodS L G c k N sc X W) : X.env.blockKind = .function := by
  unfold PySem.Env.blockKind
  rw [g.g.sc, g.kind]; rfl
theorem GoodS.tr (g : GoodS L G c k N sc X W) {W' : WX} {pn : List (Addr × Obj)} {xe : Value → Shared → Prop} (tk : Takes (X.tr pn xe) W') (ow : PassesOwn (model X.prog X.w) X.A X.env xe) : GoodS L G c k N sc (X.tr pn xe) W' where
  g := { eN := g.g.eN, nd := g.g.nd, calm := g.g.calm, sc := g.g.sc, fn := g.g.fn, tk := tk, rm := g.g.rm, fa := g.g.fa.to rfl rfl rfl rfl rfl }
  kind := g.kind
  own := ow
  stk := g.stk
  frm := g.frm
  ex := g.ex
theorem sw_lc (g : GoodS L G c k N sc X W) {el : Expr} {gs : List Comprehension} {scope : Scope} {pv px : Pos} {x : Str} {ln : Nat} : swapsWith (.ListComp el gs scope pv) (some (.Name x px)) ln X.env = pure (swLc sc x px pv scope) := by
  unfold swapsWith swLc
  show (pure (X.env.blockKind == .function && X.env.kindOf x == some .local && px.line == pv.line && !(scope.names.any fun (n, k) => n == x && (k == .local || k == .cell))) : Sem Bool) = _
  rw [g.blk]
  unfold PySem.Env.kindOf
  rw [g.g.sc]
  rfl
theorem sw_no {v : Expr} {t : Option Expr} {ln : Nat} (h : isLc v = false) : swapsWith v t ln X.env = pure false := by
  cases v <;> first | rfl | cases h
theorem sw_tg {v tg : Expr} {ln : Nat} (h : ∀ x p, tg ≠ .Name x p) : swapsWithSole [tg] v ln X.env = pure false := by
  show swapsWith v (some tg) ln X.env = _
  cases v <;> first | rfl | (cases tg <;> first | rfl | exact absurd rfl (h _ _))
theorem sw_names (g : GoodS L G c k N sc X W) {ts vs : List Expr} {k1 k2 : Nat} {p1 p2 : Pos} {r : Option (List Str)} (hs : starless vs = true) (h : swNames sc ts vs = some r) : swappedStores [.Tuple ts k1 p1] (.Tuple vs k2 p2) X.env = pure r := by
  have st : (vs.any fun | .Starred .. => true | _ => false) = false := by
    clear h
    induction vs with
    | nil => rfl
    | cons v vs ih =>
      obtain ⟨s1, s2⟩ := starless_cons hs
      rw [List.any_cons, ih s2]
      cases v <;> first | rfl | cases s1
  unfold swNames at h
  unfold swappedStores
  simp only [g.blk]
  have ek : ∀ x, X.env.kindOf x = sc.names.lookup x := fun x => by unfold PySem.Env.kindOf; rw [g.g.sc]
  simp only [ek]
  split at h
  · rename_i c1
    cases h
    exact if_pos (by rw [c1]; rfl)
  · rename_i c1
    refine (if_neg (by rw [Bool.or_eq_true, not_or]; exact ⟨c1, by decide⟩)).trans ?_
    refine (if_neg (fun z => Bool.false_ne_true (st.symm.trans z))).trans ?_
    simp only at h
    split at h
    · rename_i c2
      cases h
      exact if_pos c2
    · rename_i c2
      refine (if_neg c2).trans ?_
      split at h
      · rename_i c3
        cases h
        exact if_pos c3
      · rename_i c3
        refine (if_neg c3).trans ?_
        split at h
        · cases h
        · rename_i c4
          cases h
          exact if_neg c4
theorem sw2 {x y : Str} {px py : Pos} {vs : List Expr} {names : List Str} (h : swNames sc [.Name x px, .Name y py] vs = some (some names)) : names = [x, y] ∧ sc.names.lookup x = some .local ∧ sc.names.lookup y = some .local := by
  unfold swNames at h
  split at h
  · cases h
  · simp only at h
    split at h
    · cases h
    · rename_i c2
      split at h
      · cases h
      · split at h
        · cases h
        · have h := Option.some.inj (Option.some.inj h)
          rw [Bool.or_eq_true, not_or] at c2
          have c2 := c2.1
          rw [h] at c2
          simp only [List.filterMap_cons, List.filterMap_nil] at h
          split at h
          · split at h
            · subst h; simp at c2
            · subst h; simp at c2
          · rename_i e1
            split at h
            · subst h; simp at c2
            · rename_i e2
              subst h
              split at e1
              · rename_i q1
                cases e1
                split at e2
                · rename_i q2
                  cases e2
                  simp only [Bool.and_eq_true, beq_iff_eq] at q1 q2
                  exact ⟨rfl, q1.1, q2.1⟩
                · cases e2
              · cases e1
theorem sw3 {x y z : Str} {px py pz : Pos} {vs : List Expr} {names : List Str} (h : swNames sc [.Name x px, .Name y py, .Name z pz] vs = some (some names)) : names = [x, y, z] ∧ sc.names.lookup x = some .local ∧ sc.names.lookup y = some .local ∧ sc.names.lookup z = some .local := by
  unfold swNames at h
  split at h
  · cases h
  · simp only at h
    split at h
    · cases h
    · rename_i c2
      split at h
      · cases h
      · split at h
        · cases h
        · have h := Option.some.inj (Option.some.inj h)
          rw [Bool.or_eq_true, not_or] at c2
          have c2 := c2.1
          rw [h] at c2
          have key : ∀ (c1 c2 c3 : Bool), ([Expr.Name x px, .Name y py, .Name z pz].filterMap fun e => match e with
            | .Name id pos => if (sc.names.lookup id == some .local && pos.line == (([Expr.Name x px, .Name y py, .Name z pz].head?.map (·.pos.line)).getD 0)) = true then some id else none
            | _ => none) = names → names.length = 3 → names = [x, y, z] ∧ sc.names.lookup x = some .local ∧ sc.names.lookup y = some .local ∧ sc.names.lookup z = some .local := by
            intro _ _ _ hh hl
            simp only [List.filterMap_cons, List.filterMap_nil] at hh
            by_cases q1 : (sc.names.lookup x == some .local && px.line == (([Expr.Name x px, .Name y py, .Name z pz].head?.map (·.pos.line)).getD 0)) = true <;>
            by_cases q2 : (sc.names.lookup y == some .local && py.line == (([Expr.Name x px, .Name y py, .Name z pz].head?.map (·.pos.line)).getD 0)) = true <;>
            by_cases q3 : (sc.names.lookup z == some .local && pz.line == (([Expr.Name x px, .Name y py, .Name z pz].head?.map (·.pos.line)).getD 0)) = true <;>
            simp only [q1, q2, q3, if_true, if_false] at hh <;> subst hh <;> simp at hl
            simp only [Bool.and_eq_true, beq_iff_eq] at q1 q2 q3
            exact ⟨rfl, q1.1, q2.1, q3.1⟩
          exact key true true true h (by simpa using c2)
end
end Ev
end

section
set_option Elab.async false
set_option autoImplicit false
set_option linter.all false
set_option maxRecDepth 100000
set_option maxHeartbeats 2000000
/-! EvV: statements: the induction. -/
namespace Ev
open PySem L2
section
variable {L : Lk} {G : Gi} {c : Cx} {k : Nat}
theorem asg_gen {N : List Str} {sc : Scope} {X : L2.Cx} {W : WX} {t : Tg} {e : IE} {tg v : Expr} {pos : Pos} (g : GoodS L G c k N sc X W) (h1 : ckT G N sc (fun _ => true) t tg = true) (h2 : ckE G N sc (fun _ => true) e v = true) (hn : nst tg = true)
    (hs : swapsWithSole [tg] v pos.line X.env = pure false) (hw : swappedStores [tg] v X.env = pure none) : PS X (.Assign [tg] v pos) (cS L W (exS c (.asg t e))) :=
  sS_asg (okE e N sc _ X W v g.g h2).1 (okT t N sc _ X W tg g.g h1) hs hw (by rw [asg1 hn]; rfl)
theorem asg_name {N : List Str} {sc : Scope} {X : L2.Cx} {W : WX} {t : Tg} {e : IE} {x : Str} {v : Expr} {px pos : Pos} (g : GoodS L G c k N sc X W) (h1 : ckT G N sc (fun _ => true) t (.Name x px) = true) (h2 : ckE G N sc (fun _ => true) e v = true)
    (hs : swapsWith v (some (.Name x px)) pos.line X.env = pure false) : PS X (.Assign [.Name x px] v pos) (cS L W (exS c (.asg t e))) := by
  cases t with
  | nm i =>
    unfold ckT at h1
    simp only [Bool.and_eq_true, Bool.or_eq_true] at h1
    obtain ⟨q1, q2⟩ := h1
    have hi : X.N[i]? = some x := by rw [g.g.eN]; exact of_decide_eq_true q1
    have q := (okE e N sc _ X W v g.g h2).1
    rcases q2 with q2 | ⟨q2, q3⟩
    · exact sS_set g.g.nd hi (g.g.loc (loc_isl q2)) q hs (.inr (g.g.isl q2))
    · exact sS_set g.g.nd hi (g.g.loc q2) q hs (.inl (g.g.fn x rfl))
  | tp ts => unfold ckT at h1; cases h1
  | fld o f => unfold ckT at h1; cases h1
  | sub o i => unfold ckT at h1; cases h1
theorem asg_lc {N : List Str} {sc : Scope} {X : L2.Cx} {W : WX} {i : Nat} {elt cnd : IE} {t : Tg} {it : It} {own : List Nat} {x : Str} {el : Expr} {gs : List Comprehension} {scope : Scope} {px pv pos : Pos} (g : GoodS L G c k N sc X W) (h1 : ckT G N sc (fun _ => true) (.nm i) (.Name x px) = true)
    (h : ckE G N sc (fun _ => true) (.comp elt t it cnd own) (.ListComp el gs scope pv) = true) (hs : swLc sc x px pv scope = true) : PS X (.Assign [.Name x px] (.ListComp el gs scope pv) pos) (cS L W (exS c (.asg (.nm i) (.comp elt t it cnd own)))) := by
  unfold ckT at h1
  simp only [Bool.and_eq_true, Bool.or_eq_true] at h1
  have hi : X.N[i]? = some x := by rw [g.g.eN]; exact of_decide_eq_true h1.1
  have hsw : swapsWith (.ListComp el gs scope pv) (some (.Name x px)) pos.line X.env = pure true := by rw [sw_lc g, hs]
  have hxl : X.env.scope.names.lookup x = some .local := by
    rw [g.g.sc]
    unfold swLc at hs
    simp only [Bool.and_eq_true, beq_iff_eq] at hs
    exact hs.1.1
  unfold ckE at h
  split at h
  · rename_i el tg iter ifs scope pos hh
    cases hh
    simp only [Bool.and_eq_true] at h
    obtain ⟨⟨⟨⟨⟨⟨⟨h1, h2⟩, h3⟩, h4⟩, h5⟩, h6⟩, h7⟩, h8⟩ := h
    have eo := of_decide_eq_true h2
    have bk : BlkOk X.N X.env.scope scope (ownL N own) := by rw [g.g.eN, g.g.sc]; exact blkOk_by h1
    have hsl : ∀ j ∈ tgSlots t, j ∈ (ownL N own).map (·.2) := by rw [eo]; exact sub_of h3
    have p := sS_setLc (W := W) (c := c) (ielt := elt) (icnd := cnd) (ifs := ifs) (elt := el) g.g.calm g.g.nd hi hxl hsw hsl (okI it N sc _ X W tg iter g.g h5) bk
      (fun s H C cl fp => okT t N _ _ _ W0 tg (g.g.blk s H scope C cl fp) h6)
      (fun s H C cl fp => by
        split at h7
        · split at h7
          · exact pts0
          · cases h7
        · exact pts1 (okE cnd N _ _ _ W0 _ (g.g.blk s H scope C cl fp) h7).2
        · cases h7)
      (fun s H C cl fp => (okE elt N _ _ _ W0 _ (g.g.blk s H scope C cl fp) h8).1) (notSet_of h4)
    rw [eo] at p
    exact p
  · cases h
theorem sw_none {tg v : Expr} {env : PySem.Env} (h : (∀ ts k p, tg ≠ .Tuple ts k p) ∧ (∀ ts p, tg ≠ .List ts p) ∨ ∀ vs k p, v ≠ .Tuple vs k p) : swappedStores [tg] v env = pure none := by
  rcases h with ⟨h, h'⟩ | h
  · cases tg <;> first | rfl | exact absurd rfl (h _ _ _) | exact absurd rfl (h' _ _)
  · cases tg <;> first | rfl | (cases v <;> first | rfl | exact absurd rfl (h _ _ _))
section
variable {N : List Str} {sc : Scope} {fn : Str → Bool}
theorem ckTs_cons {t : Tg} {ts : Tgs} {l : List Expr} (h : ckTs G N sc fn (.cons t ts) l = true) : ∃ x xs, l = x :: xs ∧ nst x = true ∧ ckT G N sc fn t x = true ∧ ckTs G N sc fn ts xs = true := by
  unfold ckTs at h
  cases l with
  | nil => cases h
  | cons x xs => simp only [Bool.and_eq_true] at h; exact ⟨x, xs, rfl, h.1.1, h.1.2, h.2⟩
theorem ckEs_cons {t : IE} {ts : IEs} {l : List Expr} (h : ckEs G N sc fn (.cons t ts) l = true) : ∃ x xs, l = x :: xs ∧ nst x = true ∧ ckE G N sc fn t x = true ∧ ckEs G N sc fn ts xs = true := by
  unfold ckEs at h
  cases l with
  | nil => cases h
  | cons x xs => simp only [Bool.and_eq_true] at h; exact ⟨x, xs, rfl, h.1.1, h.1.2, h.2⟩
theorem ckEs_nil {l : List Expr} (h : ckEs G N sc fn .nil l = true) : l = [] := by
  unfold ckEs at h
  cases l with
  | nil => rfl
  | cons x xs => cases h
theorem ckT_nm {i : Nat} {e : Expr} (h : ckT G N sc fn (.nm i) e = true) : ∃ x p, e = .Name x p ∧ N[i]? = some x := by
  unfold ckT at h
  split at h
  · simp only [Bool.and_eq_true] at h; exact ⟨_, _, rfl, of_decide_eq_true h.1⟩
  · cases h
theorem ckT_tp {ts : Tgs} {l : List Expr} {k : Nat} {p : Pos} (h : ckT G N sc fn (.tp ts) (.Tuple l k p) = true) : ckTs G N sc fn ts l = true := by
  unfold ckT at h
  exact h
theorem ckE_tp {es : IEs} {l : List Expr} {k : Nat} {p : Pos} (h : ckE G N sc fn (.tup es) (.Tuple l k p) = true) : ckEs G N sc fn es l = true := by
  unfold ckE at h
  simp only [Bool.and_eq_true] at h
  exact h.2
end
mutual
theorem okS : ∀ (i : IS) (N : List Str) (sc : Scope) (X : L2.Cx) (W : WX) (s : Stmt), GoodS L G c k N sc X W → ckS G N sc i s = true → PS X s (cS L W (exS c i))
  | .asg t e, N, sc, X, W, s, g, h => by
    unfold ckS at h
    split at h
    · rename_i tg v pos
      simp only [Bool.and_eq_true] at h
      obtain ⟨⟨h1, h2⟩, h3⟩ := h
      split at h3
      · rename_i x px
        split at h3
        · rename_i el gs scope pv
          split at h3
          · rename_i hs
            split at h3
            · exact asg_lc g h1 h2 hs
            · cases h3
          · rename_i hs
            exact asg_name g h1 h2 (by rw [sw_lc g, Bool.not_eq_true _ |>.mp hs])
        · exact asg_name g h1 h2 (sw_no (by simpa using h3))
      · rename_i ts k1 p1
        have hsw : swapsWithSole [.Tuple ts k1 p1] v pos.line X.env = pure false := sw_tg fun x p z => by cases z
        split at h3
        · rename_i vs k2 p2
          simp only [Bool.and_eq_true] at h3
          obtain ⟨hst, h3⟩ := h3
          split at h3
          · cases h3
          · rename_i hn
            exact asg_gen g h1 h2 rfl hsw (sw_names g hst hn)
          · rename_i names hn
            split at h3
            · rename_i i j ia ib
              have hne : i ≠ j := fun z => by rw [z, Nat.beq_refl] at h3; cases h3
              obtain ⟨_, r1, rfl, _, h11, h12⟩ := ckTs_cons (ckT_tp h1)
              obtain ⟨_, r2, rfl, _, h21, h22⟩ := ckTs_cons h12
              obtain rfl := tgs_nil h22
              obtain ⟨x, px, rfl, hi⟩ := ckT_nm h11
              obtain ⟨y, py, rfl, hj⟩ := ckT_nm h21
              obtain ⟨a1, l1, rfl, s1, q1, h2⟩ := ckEs_cons (ckE_tp h2)
              obtain ⟨a2, l2, rfl, s2, q2, h2⟩ := ckEs_cons h2
              obtain rfl := ckEs_nil h2
              obtain ⟨e1, e2, e3⟩ := sw2 hn
              have hw := sw_names g (k1 := k1) (k2 := k2) (p1 := p1) (p2 := p2) hst hn
              rw [e1] at hw
              exact sS_par g.g.calm g.g.nd (by rw [g.g.eN]; exact hi) (by rw [g.g.eN]; exact hj) hne (by rw [g.g.sc]; exact e2) (by rw [g.g.sc]; exact e3) (okE ia N sc _ X W _ g.g q1).1 (okE ib N sc _ X W _ g.g q2).1 (star1 s1) (star1 s2) hw hsw
            · rename_i i j l ia ib ic
              simp only [Bool.and_eq_true, Bool.not_eq_true'] at h3
              have nij : i ≠ j := fun z => by rw [z, Nat.beq_refl] at h3; cases h3.1.1
              have nil' : i ≠ l := fun z => by rw [z, Nat.beq_refl] at h3; cases h3.1.2
              have njl : j ≠ l := fun z => by rw [z, Nat.beq_refl] at h3; cases h3.2
              obtain ⟨_, r1, rfl, _, h11, h12⟩ := ckTs_cons (ckT_tp h1)
              obtain ⟨_, r2, rfl, _, h21, h22⟩ := ckTs_cons h12
              obtain ⟨_, r3, rfl, _, h31, h32⟩ := ckTs_cons h22
              obtain rfl := tgs_nil h32
              obtain ⟨x, px, rfl, hi⟩ := ckT_nm h11
              obtain ⟨y, py, rfl, hj⟩ := ckT_nm h21
              obtain ⟨z, pz, rfl, hl⟩ := ckT_nm h31
              obtain ⟨a1, l1, rfl, s1, q1, h2⟩ := ckEs_cons (ckE_tp h2)
              obtain ⟨a2, l2, rfl, s2, q2, h2⟩ := ckEs_cons h2
              obtain ⟨a3, l3, rfl, s3, q3, h2⟩ := ckEs_cons h2
              obtain rfl := ckEs_nil h2
              obtain ⟨e1, e2, e3, e4⟩ := sw3 hn
              have hw := sw_names g (k1 := k1) (k2 := k2) (p1 := p1) (p2 := p2) hst hn
              rw [e1] at hw
              exact sS_par3 g.g.calm g.g.nd (by rw [g.g.eN]; exact hi) (by rw [g.g.eN]; exact hj) (by rw [g.g.eN]; exact hl) nij nil' njl (by rw [g.g.sc]; exact e2) (by rw [g.g.sc]; exact e3) (by rw [g.g.sc]; exact e4)
                (okE ia N sc _ X W _ g.g q1).1 (okE ib N sc _ X W _ g.g q2).1 (okE ic N sc _ X W _ g.g q3).1 (star1 s1) (star1 s2) (star1 s3) hw hsw
            · cases h3
        · rename_i hv
          exact asg_gen g h1 h2 rfl hsw (sw_none (.inr fun vs k p z => hv vs k p z))
      · cases h3
      · cases h3
      · rename_i n1 n2 n3 n4
        have hn : nst tg = true := by cases tg <;> first | rfl | exact absurd rfl (n3 _ _)
        exact asg_gen g h1 h2 hn (sw_tg fun x p z => n1 x p z) (sw_none (.inl ⟨fun ts k p z => n2 ts k p z, fun ts p z => n4 ts p z⟩))
    · cases h
  | .aug i op e, N, sc, X, W, s, g, h => by
    unfold ckS at h
    split at h
    · simp only [Bool.and_eq_true] at h
      obtain ⟨⟨⟨h1, h2⟩, h3⟩, h4⟩ := h
      obtain rfl := of_decide_eq_true h1
      exact sS_aug g.g.nd (by rw [g.g.eN]; exact of_decide_eq_true h2) (g.g.loc h3) (okE e N sc _ X W _ g.g h4).1 (.inl (g.g.fn _ rfl))
    · cases h
  | .augF _ _ _ _, N, sc, X, W, s, g, h => by
    unfold ckS at h
    cases h
  | .expr e, N, sc, X, W, s, g, h => by
    unfold ckS at h
    split at h
    · simp only [Bool.and_eq_true, Bool.not_eq_true'] at h
      exact sS_expr (okE e N sc _ X W _ g.g h.2).1 (sw_no h.1)
    · cases h
  | .ret e, N, sc, X, W, s, g, h => by
    unfold ckS at h
    split at h
    · exact sS_ret (okE e N sc _ X W _ g.g h).1
    · cases h
  | .ifS t a b, N, sc, X, W, s, g, h => by
    unfold ckS at h
    split at h
    · simp only [Bool.and_eq_true] at h
      exact sS_if (okE t N sc _ X W _ g.g h.1.1).2 (okB a N sc X W _ g h.1.2) (okB b N sc X W _ g h.2)
    · cases h
  | .forS t it b, N, sc, X, W, s, g, h => by
    unfold ckS at h
    split at h
    · simp only [Bool.and_eq_true] at h
      obtain ⟨⟨⟨h1, h2⟩, h3⟩, h4⟩ := h
      exact sS_for g.own g.g.calm (okI it N sc _ X W _ _ g.g h2) (okT t N sc _ X W _ g.g h3) (okB b N sc X W _ g h4) (notSet_of h1)
    · cases h
  | .whileS t b, N, sc, X, W, s, g, h => by
    unfold ckS at h
    split at h
    · simp only [Bool.and_eq_true] at h
      exact sS_while g.own (okE t N sc _ X W _ g.g h.1).2 (okB b N sc X W _ g h.2)
    · cases h
  | .brk, N, sc, X, W, s, g, h => by
    unfold ckS at h
    split at h
    · exact sS_brk
    · cases h
  | .pass, N, sc, X, W, s, g, h => by
    unfold ckS at h
    split at h
    · exact sS_pass
    · cases h
  | .raise k, N, sc, X, W, s, g, h => by
    unfold ckS at h
    split at h
    · simp only [Bool.and_eq_true] at h
      obtain ⟨⟨⟨h1, h2⟩, h3⟩, h4⟩ := h
      exact sS_raise g.g.calm g.g.tk (g.g.fa.rs k _ (Nat.le_of_ble_eq_true h1) (of_decide_eq_true h2)) (g.g.gl h3) (nod1 h4)
    · cases h
  | .tryAs b v e, N, sc, X, W, s, g, h => by
    unfold ckS at h
    split at h
    · simp only [Bool.and_eq_true, Bool.not_eq_true'] at h
      obtain ⟨⟨⟨⟨⟨⟨⟨⟨⟨⟨h1, h2⟩, h3⟩, h4⟩, h5⟩, h6⟩, h7⟩, h8⟩, h9⟩, h10⟩, h11⟩ := h
      obtain rfl := of_decide_eq_true h4
      obtain ⟨B, newId, initId, bmB, F, q, gC, kC, r⟩ := g.g.fa.rs 0 _ (Nat.zero_le _) (of_decide_eq_true h1)
      have hk : ∀ y, isLocal sc y = true → X.env.kindOf y = some .local := fun y hy => by unfold PySem.Env.kindOf; exact g.g.isl hy
      exact sS_try (cv := .ref (L.ca 0)) g.stk g.frm g.ex g.g.nd (by rw [g.g.eN]; exact of_decide_eq_true h5) (by rw [g.g.eN]; exact of_decide_eq_true h6) (fun z => by rw [z, Nat.beq_refl] at h7; cases h7) (hk _ h8) (hk _ h9) ⟨g.g.gl h2, nod1 h3, .inl gC⟩ g.g.fa.exm (nod1 h10) (nod2 h10) g.g.tk
        fun W pn xe tk ow => okB b N sc _ W _ (g.tr tk ow) h11
    · cases h
theorem okB : ∀ (i : ISs) (N : List Str) (sc : Scope) (X : L2.Cx) (W : WX) (l : List Stmt), GoodS L G c k N sc X W → ckB G N sc i l = true → PSs X l (cS L W (exB c i))
  | .nil, N, sc, X, W, l, g, h => by
    unfold ckB at h
    split at h
    · exact sS_nil
    · cases h
  | .cons s ss, N, sc, X, W, l, g, h => by
    unfold ckB at h
    split at h
    · simp only [Bool.and_eq_true] at h
      exact sS_cons (okS s N sc X W _ g h.1) (okB ss N sc X W _ g h.2)
    · cases h
end
end
end Ev
end

section
set_option Elab.async false
set_option autoImplicit false
set_option linter.all false
set_option maxRecDepth 100000
set_option maxHeartbeats 2000000
/-! EvW: defs, by the depth of calls. -/
namespace Ev
open PySem L2
/-- a def of the text and its tree -/
structure FunOk (L : Lk) (G : Gi) (d : Fn) (f : Addr) (fd : FuncData) (ps : List Str) : Prop where
  ok : ∃ (name qual : Str) (params : Arguments) (body : List Stmt) (scope : Scope) (dV kV doc pm cdv ct oc : Value) (an od : Option Addr) (osl : Array (Option Value)) (N : List Str),
    fd = PySem.W.fnOf name qual params body scope dV kV doc pm an cdv ct ∧ L.K.lookup f = some ⟨oc, od, .func (PySem.W.fnOf name qual params body scope dV kV doc pm an cdv ct), osl⟩ ∧ PySem.W.codeIn L.K cdv qual = true ∧ FnScope N ps scope ∧ N.length = d.nl ∧ ckB G N scope d.body body = true
  np : ps.length = d.np
  bn : Binds L.K fd ps []
/-- what is asked of a text and its trees -/
structure Base (L : Lk) (G : Gi) (P : Pr) (mg : Str → Option Value) (fa : Nat → Addr) : Prop where
  nm : L.nm = G.nm
  fns : ∀ i d, P.fn i = some d → ∃ fd ps, FunOk L G d (fa i) fd ps
  np : ∀ i n, G.np i = some n → ∃ d, P.fn i = some d ∧ d.np = n
  np' : ∀ i d, P.fn i = some d → G.np i = some d.np
  fn : ∀ i x n, G.nm.fnN i = some x → G.np i = some n → mg x = some (.ref (fa i)) ∧ PySem.W.keepIn L.K (.ref (fa i)) = true
  ini : ∀ cl i x, G.nm.clsN cl = some x → G.ini cl = some i → P.init cl = some i ∧ Mk L.K (L.ca cl) (fa i) ∧ mg x = some (.ref (L.ca cl))
  met : ∀ cl i f y mth, G.nm.clsN cl = some y → G.nm.metL[i]? = some mth → P.meth cl i = some f → Cls L.K (L.ca cl) ∧ Meth L.K (L.ca cl) mth (fa f) ∧ (P.fn f).isSome = true
  mnp : ∀ i n cl f, G.mnp i = some n → P.meth cl i = some f → (G.np f).getD 0 = n
  glo : ∀ g x d, G.nm.gloN g = some x → G.gd g = some d → ∃ v u, mg x = some u ∧ RelV v u ∧ ∀ m H, Rep L.K m H d v
  bl : ∀ x ∈ bNames, mg x = none
  co : ClsOk L L.K
  ex : ExOk L L.K
  rs : ∀ j x, j ≤ 5 → G.nm.exN j = some x → ∀ X : L2.Cx, X.K = L.K → X.mg = mg → RaiseOk L X x j
  exm : ∀ j, j ≤ 5 → PySem.W.exmOne L.K (.ref (L.ca j)) (.ref (L.ca 0)) = some true
section
variable {L : Lk} {G : Gi} {P : Pr} {mg : Str → Option Value} {fa : Nat → Addr} {base : Heap} {F : Nat}
/-- every def's promise at a depth -/
def Lev (L : Lk) (P : Pr) (mg : Str → Option Value) (fa : Nat → Addr) (base : Heap) (F n : Nat) : Prop := ∀ i d, P.fn i = some d → ∃ fd ps, FnOk L.P L.w L.K mg base (L2.CX L.P L.w) n (fa i) fd ps (spC L d.np (callN P F n i)) ∧ Binds L.K fd ps []
theorem lev_bad (B : Base L G P mg fa) {n : Nat} (hb : ∀ i a h, callN P F n i a h = .bad) : Lev L P mg fa base F n := fun i d hd => by
  obtain ⟨fd, ps, K⟩ := B.fns i d hd
  refine ⟨fd, ps, ⟨fun vs H Q E ⟨hl, _⟩ => by rw [hl, K.np], fun A outer s H args us vs Q E _ _ _ _ ⟨_, m, h, ds, _, _, o⟩ => ?_⟩, K.bn⟩
  rw [hb] at o
  exact o.elim
theorem fnIs_of (B : Base L G P mg fa) {n : Nat} (v : Lev L P mg fa base F n) {X : L2.Cx} (h1 : X.prog = L.P) (h2 : X.w = L.w) (h3 : X.K = L.K) (h4 : X.mg = mg) (h5 : X.base = base) {i j : Nat} {x : Str} (hn : G.nm.fnN i = some x) (hp : G.np i = some j) : FnIs L X x n j (callN P F n i) := by
  obtain ⟨d, hd, rfl⟩ := B.np i j hp
  obtain ⟨fd, ps, Fo, hb⟩ := v i d hd
  obtain ⟨q1, q2⟩ := B.fn i x _ hn hp
  refine ⟨fa i, fd, ps, ?_, by rw [h4]; exact q1, by rw [h3]; exact q2, by rw [h3]; exact hb⟩
  rw [h1, h2, h3, h4, h5]
  exact Fo
theorem facts_of (B : Base L G P mg fa) {n : Nat} (v1 : Lev L P mg fa base F (n + 1)) (v0 : Lev L P mg fa base F n) {X : L2.Cx} (h1 : X.prog = L.P) (h2 : X.w = L.w) (h3 : X.K = L.K) (h4 : X.mg = mg) (h5 : X.base = base) :
    Facts L G ⟨callN P F (n + 1), callN P F n, P.init, P.meth, F⟩ (n + 1) X where
  xo := ⟨h3, h1, h2⟩
  nm := B.nm
  fn := fun i x j hn hp => fnIs_of B v1 h1 h2 h3 h4 h5 hn hp
  me := fun cl i f y mth hc hm hf => by
    rw [B.nm] at hc hm
    obtain ⟨q1, q2, q3⟩ := B.met cl i f y mth hc hm hf
    obtain ⟨d, hd⟩ := Option.isSome_iff_exists.mp q3
    obtain ⟨fd, ps, Fo, hb⟩ := v1 f d hd
    refine ⟨fa f, fd, ps, by rw [h3]; exact q1, by rw [h3]; exact q2, ?_, by rw [h3]; exact hb⟩
    have e : (G.np f).getD 0 = d.np := by rw [B.np' f d hd]; rfl
    rw [h1, h2, h3, h4, h5]
    show FnOk L.P L.w L.K mg base (L2.CX L.P L.w) (n + 1) (fa f) fd ps (spC L ((G.np f).getD 0) (callN P F (n + 1) f))
    rw [e]
    exact Fo
  mnp := B.mnp
  mks := fun cl i x j hc hi hp => by
    obtain ⟨q1, q2, q3⟩ := B.ini cl i x hc hi
    refine ⟨q1, n, Nat.le_refl _, ?_⟩
    obtain ⟨d, hd, rfl⟩ := B.np i j hp
    obtain ⟨fd, ps, Fo, hb⟩ := v0 i d hd
    refine ⟨fa i, fd, ps, by rw [h3]; exact q2, ?_, by rw [h4]; exact q3, by rw [h3]; exact hb⟩
    rw [h1, h2, h3, h4, h5]
    exact Fo
  glo := by rw [h4]; exact B.glo
  bl := by rw [h4]; exact B.bl
  co := by rw [h3]; exact B.co
  ex := by rw [h3]; exact B.ex
  rs := fun j x hj hx => B.rs j x hj hx X h3 h4
  exm := by rw [h3]; exact B.exm
theorem env_start {m : List Addr} {H : Hp} {N : List Str} {ds : List D} {vs : List V} {nl np : Nat} (r : Reps L.K m H ds vs) (hN : N.length = nl) (hl : ds.length = np) (hle : np ≤ nl) : EnvR L.K m H (ds.map some ++ List.replicate (nl - np) none) (L2.start N vs) where
  len := by
    unfold L2.start
    have := r.len
    simp; omega
  at_ := fun i d e => by
    by_cases hi : i < ds.length
    · rw [List.getElem?_append_left (by simpa using hi), List.getElem?_map] at e
      cases q : ds[i]? with
      | none => rw [q] at e; cases e
      | some d' =>
        rw [q] at e
        cases e
        obtain ⟨v, hv, rv⟩ := r.get q
        refine ⟨v, ?_, rv⟩
        unfold L2.start
        have hi2 : i < vs.length := by rw [← r.len]; exact hi
        rw [List.getElem?_append_left (by simpa using hi2), List.getElem?_map, hv]; rfl
    · rw [List.getElem?_append_right (by simpa using hi), List.getElem?_replicate] at e
      split at e
      · cases e
      · cases e
theorem lev_next (B : Base L G P mg fa) {n : Nat} (v1 : Lev L P mg fa base F (n + 1)) (v0 : Lev L P mg fa base F n) : Lev L P mg fa base F (n + 2) := fun i d hd => by
  obtain ⟨fd, ps, ⟨⟨name, qual, params, body, scope, dV, kV, doc, pm, cdv, ct, oc, an, od, osl, N, rfl, lk, hcd, S, hN, ck⟩, hnp, hb⟩⟩ := B.fns i d hd
  refine ⟨_, ps, fn_of lk hcd S (fun vs H Q E ⟨hl, _⟩ => by rw [hl, hnp]) (fun A outer s H vs Q E hr ⟨hl, m, h, ds, Sm, rd, o⟩ => ?_), hb⟩
  have hle : d.np ≤ d.nl := by
    have := congrArg List.length S.pre
    rw [List.length_take] at this
    rw [← hnp, ← hN]; omega
  let c : Cx := ⟨callN P F (n + 1), callN P F n, P.init, P.meth, F⟩
  have dl : ds.length = d.np := by rw [rd.len, hl]
  have fc : Facts L G c (n + 1) (cxOf (L2.CX L.P L.w) L.P L.w L.K mg base N qual scope (fa i) cdv A outer s H E) := facts_of B v1 v0 rfl rfl rfl rfl rfl
  have gd : GoodS L G c (n + 1) N scope (cxOf (L2.CX L.P L.w) L.P L.w L.K mg base N qual scope (fa i) cdv A outer s H E) (fun cls dd _ H => E cls dd H) :=
    { g := { eN := rfl, nd := S.nd, calm := rfl, sc := rfl, fn := fun _ _ => rfl, tk := takes_of rfl rfl rfl rfl, rm := hr, fa := fc }
      kind := S.kind, own := passes_of (K := fun e s'' => L2.CX L.P L.w outer H s E e s'') rfl, stk := rfl, frm := rfl, ex := rfl }
  refine ⟨_, okB d.body N scope _ _ body gd ck, m, ds.map some ++ List.replicate (d.nl - d.np) none, h, Sm, env_start rd hN dl hle, ?_⟩
  have o' : OutC L m H Q E (match P.fn i with
    | none => .bad
    | some d => if ds.length = d.np then finish (exB c d.body (ds.map some ++ List.replicate (d.nl - d.np) none) h) else .bad) := o
  rw [hd] at o'
  simp only [dl, if_true] at o'
  cases e : exB c d.body (ds.map some ++ List.replicate (d.nl - d.np) none) h with
  | nx env h1 => rw [e] at o'; exact fun m' H' σ' g S' ev' => o' m' H' .non g S' .non
  | ret d1 h1 => rw [e] at o'; exact o'
  | brk env h1 => rw [e] at o'; exact o'.elim
  | exc j env h1 => rw [e] at o'; exact fun m' H' σ' g S' ev' => o' m' H' g S'
  | bad => rw [e] at o'; exact o'.elim
theorem lev_all (B : Base L G P mg fa) : ∀ n, Lev L P mg fa base F n ∧ Lev L P mg fa base F (n + 1)
  | 0 => ⟨lev_bad B fun _ _ _ => rfl, lev_bad B fun _ _ _ => rfl⟩
  | n + 1 => ⟨(lev_all B n).2, lev_next B (lev_all B n).2 (lev_all B n).1⟩
end
end Ev
end

section
set_option Elab.async false
set_option autoImplicit false
set_option linter.all false
set_option maxRecDepth 100000
set_option maxHeartbeats 2000000
/-! EvX: from what the head leaves to the trees. -/
namespace Ev
open PySem PySem.Spec PyProof.Rows L2
/-! ### plain parameters -/
theorem fm_congr {α β : Type} {f g : α → Option β} : ∀ {l : List α}, (∀ x ∈ l, f x = g x) → l.filterMap f = l.filterMap g
  | [], _ => rfl
  | x :: l, h => by
    rw [List.filterMap_cons, List.filterMap_cons, h x List.mem_cons_self, fm_congr fun y hy => h y (List.mem_cons_of_mem _ hy)]
theorem lookup_zip {us : List Value} : ∀ {ps : List Str}, us.length = ps.length → ∀ x ∈ ps, ((ps.zip us).lookup x).isNone = false := by
  induction us with
  | nil => intro ps h x hx; cases ps with
    | nil => cases hx
    | cons _ _ => cases h
  | cons u us ih =>
    intro ps h x hx
    cases ps with
    | nil => cases hx
    | cons p ps =>
      simp only [List.zip_cons_cons, List.lookup_cons]
      cases q : (x == p) with
      | true => rfl
      | false =>
        simp only [List.length_cons, Nat.add_right_cancel_iff] at h
        rcases List.mem_cons.mp hx with e | e
        · subst e; simp at q
        · exact ih h x e
theorem zip_look {us : List Value} : ∀ {ps : List Str}, us.length = ps.length → ps.Nodup → (ps.filterMap fun n => ((ps.zip us).lookup n).map (n, ·)) = ps.zip us := by
  induction us with
  | nil => intro ps h _; cases ps with
    | nil => rfl
    | cons _ _ => cases h
  | cons u us ih =>
    intro ps h nd
    cases ps with
    | nil => rfl
    | cons p ps =>
      simp only [List.length_cons, Nat.add_right_cancel_iff] at h
      rw [List.nodup_cons] at nd
      rw [List.filterMap_cons]
      simp only [List.zip_cons_cons, List.lookup_cons, beq_self_eq_true, Option.map_some]
      congr 1
      have e := ih h nd.2
      rw [← e]
      apply fm_congr
      intro x hx
      have hne : (x == p) = false := by
        rw [beq_eq_false_iff_ne]
        intro z; subst z; exact nd.1 hx
      rw [hne, e]
theorem bind_plain {fd : FuncData} (h1 : fd.params.posonlyargs = []) (h2 : fd.params.vararg = none) (h3 : fd.params.kwonlyargs = []) (h4 : fd.params.kwarg = none) (hd : fd.defaults = .none) {us : List Value} (hl : us.length = (fd.params.args.map (·.arg)).length) (nd : (fd.params.args.map (·.arg)).Nodup) :
    bindArgs fd ⟨us, []⟩ = pure ((fd.params.args.map (·.arg)).zip us) := by
  generalize hps : fd.params.args.map (·.arg) = ps at hl nd
  unfold bindArgs
  simp only [h1, h2, h3, h4, hd, hps, List.map_nil, List.nil_append, List.append_nil]
  have e1 : (ps.filter fun n => ((ps.zip us).lookup n).isNone) = [] := by
    rw [List.filter_eq_nil_iff]
    intro x hx
    rw [lookup_zip hl x hx]; simp
  have e2 := zip_look hl nd
  have e3 : (seqItems? Value.none : Sem (Option (Array Value))) = pure none := rfl
  simp [e3, hl, e1, e2]
/-! ### a law's data -/
structure Row where
  id : Nat
  df : He.DefD
  N : List Str
  d : Fn
def Row.ps (r : Row) : List Str := r.df.params.args.map (·.arg)
def plainP (p : Arguments) : Bool := p.posonlyargs.isEmpty && p.vararg.isNone && p.kwonlyargs.isEmpty && p.kwarg.isNone
def rowC (G : Gi) (r : Row) : Bool := ckB G r.N r.df.scope r.d.body r.df.body && C8.scC r.N r.ps r.df.scope && Nat.beq r.N.length r.d.nl && Nat.beq r.ps.length r.d.np && plainP r.df.params && decide r.ps.Nodup && r.df.dfl.isEmpty && r.df.kwd.isEmpty
structure Tab where
  rows : List Row
  /-- defs of the module: number, name -/
  fns : List (Nat × Str)
  /-- classes with objects: number, name -/
  own : List (Nat × Str)
  /-- exceptions: number, name -/
  exn : List (Nat × Str)
  /-- class, its __init__ -/
  ini : List (Nat × Nat)
  /-- class, method, def -/
  met : List (Nat × Nat × Nat)
  con : List (Nat × Str × D)
  fld : List Str
  mtn : List Str
  /-- a method's number of parameters -/
  mnp : List (Nat × Nat)
def Tab.P (T : Tab) : Pr := ⟨fun i => (T.rows.find? fun r => Nat.beq r.id i).map (·.d), fun k => T.ini.lookup k, fun k m => (T.met.find? fun z => Nat.beq z.1 k && Nat.beq z.2.1 m).map (·.2.2)⟩
def Tab.nm (T : Tab) : Nm := ⟨fun i => T.fns.lookup i, fun k => T.own.lookup k, fun k => T.exn.lookup k, fun g => T.con.lookup g |>.map (·.1), T.fld, T.mtn⟩
def Tab.G (T : Tab) : Gi := ⟨T.nm, fun g => T.con.lookup g |>.map (·.2), fun i => (T.rows.find? fun r => Nat.beq r.id i).map (·.d.np), fun k => T.ini.lookup k, fun m => T.mnp.lookup m⟩
def Tab.ca (T : Tab) (K : PySem.W.Frag) (k : Nat) : Addr := match T.exn.lookup k with
  | some x => He.ga K x
  | none => match T.own.lookup k with
    | some x => He.ga K x
    | none => 0
def Tab.fa (T : Tab) (K : PySem.W.Frag) (i : Nat) : Addr := match T.rows.find? fun r => Nat.beq r.id i with
  | some r => He.fAd K r.df.at_
  | none => 0
def Tab.at_ (T : Tab) (i : Nat) : Option (Str × Option Str) := (T.rows.find? fun r => Nat.beq r.id i).map (·.df.at_)
def dvs : List D → Option (List He.Dv)
  | [] => some []
  | .int i :: r => (dvs r).map (.int i :: ·)
  | .str s :: r => (dvs r).map (.str (stx s) :: ·)
  | _ :: _ => none
def conC (K : PySem.W.Frag) (x : Str) : D → Bool
  | .int i => (He.Fa.int x i).ok K
  | .str s => (He.Fa.str x (stx s)).ok K
  | .tup ds => (He.Fa.glo x).ok K && (match dvs ds with
    | some l => He.tupB K x l
    | none => false)
  | _ => false
def excC (K : PySem.W.Frag) (D : Addr) : Bool := He.eqO (PySem.W.findIn K (.ref D) "__getattribute__") (some (some (.builtin "BaseException.__getattribute__"))) && (He.eqO (PySem.W.findIn K (.ref D) "__getattr__") (some none) && (decide (PySem.W.subIn K (.ref D) (.type "BaseException") = some true) &&
  (PySem.W.hasDictIn K D && (He.eqO (PySem.W.findIn K (.ref D) "__class__") (some (some (.builtin "object.__class__"))) && (He.eqO (PySem.W.specialIn K (.builtin "object.__class__") "__get__") (some (some (.builtin "getset_descriptor.__get__"))) &&
  (decide (PySem.W.takesIn K (.builtin "object.__class__") = some true) && decide (PySem.W.mroIn K D (.type "object") = some true)))))))
/-- what is asked of K -/
def Tab.exK (T : Tab) (K : PySem.W.Frag) : Bool :=
  (T.fns.all fun p => decide (T.at_ p.1 = some (p.2, none)) && (He.Fa.glo p.2).ok K && (He.Fa.keep p.2).ok K) &&
  (T.own.all fun p => (He.Fa.glo p.2).ok K && (He.Fa.cls p.2).ok K && (T.fld.all fun f => (He.Fa.noat p.2 f).ok K) && decide (T.exn.lookup p.1 = none)) &&
  (T.ini.all fun p => match T.own.lookup p.1 with
    | some x => decide (T.at_ p.2 = some (x, some ("__init__" : Str))) && (He.Fa.mkr x).ok K
    | none => false) &&
  (T.met.all fun z => match T.own.lookup z.1, T.mtn[z.2.1]? with
    | some x, some m => decide (T.at_ z.2.2 = some (x, some m)) && (He.Fa.meth x m).ok K && (match T.mnp.lookup z.2.1 with
      | some n => decide (T.G.np z.2.2 = some n)
      | none => true)
    | _, _ => false) &&
  (T.con.all fun z => conC K z.2.1 z.2.2) &&
  (bNames.all fun x => (He.Fa.free x).ok K) &&
  decide T.fld.Nodup && (T.mtn.all fun x => decide (x ∉ T.fld)) &&
  (T.exn.all fun p => Nat.ble p.1 5 && (He.Fa.glo p.2).ok K && (He.Fa.exc p.2).ok K) &&
  (List.range 6).all fun k => excC K (T.ca K k) && decide (PySem.W.kitOne K (.ref (T.ca K k)) (.type "ValueError") = some true) && decide (PySem.W.exmOne K (.ref (T.ca K k)) (.ref (T.ca K 0)) = some true) &&
    (List.range 6).all fun j => decide (PySem.W.kitOne K (.ref (T.ca K k)) (.ref (T.ca K j)) = some (j == 0 || k == j))
def Tab.fn (T : Tab) : List He.DefD := T.rows.map (·.df)
def Tab.rowsC (T : Tab) : Bool := T.rows.all fun r => rowC T.G r

def Tab.L (T : Tab) (P : Program) (w : World) (K : PySem.W.Frag) : Lk := ⟨P, w, K, T.nm, T.ca K⟩
section
variable {T : Tab} {P : Program} {w : World} {K : PySem.W.Frag} {mg : Str → Option Value} {h : Heap}
theorem look_mem {α : Type} {i : Nat} {x : α} : ∀ {l : List (Nat × α)}, l.lookup i = some x → (i, x) ∈ l
  | [], e => by cases e
  | (j, y) :: l, e => by
    rw [List.lookup_cons] at e
    cases q : (i == j) with
    | true =>
      rw [q] at e
      obtain rfl := beq_iff_eq.mp q
      cases e
      exact List.mem_cons_self
    | false =>
      rw [q] at e
      exact List.mem_cons_of_mem _ (look_mem e)
theorem all_at {α : Type} {l : List α} {p : α → Bool} (e : l.all p = true) {x : α} (hx : x ∈ l) : p x = true := List.all_eq_true.mp e x hx
theorem dvs_rep {m : List Addr} {H : Hp} {K : PySem.W.Frag} : ∀ {ds : List D} {l : List He.Dv}, dvs ds = some l → Reps K m H ds (l.map (He.Dv.v K))
  | [], _, e => by cases e; exact .nil
  | d :: r, l, e => by
    cases d with
    | int i =>
      have e' : (dvs r).map (He.Dv.int i :: ·) = some l := e
      rw [Option.map_eq_some_iff] at e'
      obtain ⟨l', e1, rfl⟩ := e'
      exact .cons (.int i) (dvs_rep e1)
    | str s =>
      have e' : (dvs r).map (He.Dv.str (stx s) :: ·) = some l := e
      rw [Option.map_eq_some_iff] at e'
      obtain ⟨l', e1, rfl⟩ := e'
      exact .cons (.str s) (dvs_rep e1)
    | _ => cases e
theorem con_ok (X : K.In h) (N : h.Ns mainGlobals mg) {x : Str} {d : D} (c : conC K x d = true) : ∃ v u, mg x = some u ∧ RelV v u ∧ ∀ m H, Rep K m H d v := by
  unfold conC at c
  split at c
  · rename_i i
    obtain ⟨t, e⟩ := He.int_ok X N c
    exact ⟨.int i, _, e, ⟨t, rfl⟩, fun m H => .int i⟩
  · rename_i s
    obtain ⟨t, e⟩ := He.str_ok X N c
    exact ⟨.str (stx s), _, e, ⟨t, rfl⟩, fun m H => .str s⟩
  · rename_i ds
    rw [Bool.and_eq_true] at c
    obtain ⟨c1, c2⟩ := c
    split at c2
    · rename_i l e
      exact ⟨.ref (He.ga K x), _, He.glo_ok X N c1, rfl, fun m H => .tup (He.tupB_ok c2 H) (dvs_rep e)⟩
    · cases c2
  · cases c
theorem exc_c {D : Addr} (c : excC K D = true) : ExcC K D := by
  unfold excC at c
  simp only [Bool.and_eq_true] at c
  obtain ⟨c1, c2, c3, c4, c5, c6, c7, c8⟩ := c
  exact ⟨He.eqO_ok c1, He.eqO_ok c2, of_decide_eq_true c3, c4, He.eqO_ok c5, He.eqO_ok c6, of_decide_eq_true c7, of_decide_eq_true c8⟩
theorem find_id {rows : List Row} {i : Nat} {r : Row} (e : (rows.find? fun r => Nat.beq r.id i) = some r) : r ∈ rows := List.mem_of_find?_eq_some e
theorem row_fun {r : Row} (c : rowC T.G r = true) {f : Addr} {fd : FuncData} (F : FunD K r.df.name r.df.qual r.df.params r.df.body r.df.scope (r.df.dvs K) (r.df.kws K) f fd) : ∃ fd ps, FunOk (T.L P w K) T.G r.d f fd ps := by
  unfold rowC at c
  simp only [Bool.and_eq_true] at c
  obtain ⟨⟨⟨⟨⟨⟨⟨c1, c2⟩, c3⟩, c4⟩, c5⟩, c6⟩, c7⟩, c8⟩ := c
  obtain ⟨oc, od, dV, kV, doc, pm, an, cdv, ct, osl, rfl, lk, hcd, hD, hK⟩ := F.ex
  have e0 : r.df.dvs K = [] := by
    unfold He.DefD.dvs
    rw [List.isEmpty_iff.mp c7]; rfl
  have hdV : dV = .none := by
    rw [e0] at hD
    rcases hD with ⟨_, q⟩ | ⟨q, _⟩
    · exact q
    · exact absurd rfl q
  subst hdV
  refine ⟨_, r.ps, ⟨⟨_, _, _, _, _, _, kV, doc, pm, cdv, ct, oc, an, od, osl, r.N, rfl, lk, hcd, C8.fnScope_by c2, Nat.eq_of_beq_eq_true c3, c1⟩, Nat.eq_of_beq_eq_true c4, ?_⟩⟩
  unfold plainP at c5
  simp only [Bool.and_eq_true, Option.isNone_iff_eq_none] at c5
  obtain ⟨⟨⟨p1, p2⟩, p3⟩, p4⟩ := c5
  exact .all fun us hl => bind_plain (List.isEmpty_iff.mp p1) p2 (List.isEmpty_iff.mp p3) p4 rfl hl (of_decide_eq_true c6)
theorem base_of (X : K.In h) (N : h.Ns mainGlobals mg) (c : T.exK K = true) (rc : T.rowsC = true) (fs : ∀ r ∈ T.rows, ∃ fd, FunD K r.df.name r.df.qual r.df.params r.df.body r.df.scope (r.df.dvs K) (r.df.kws K) (He.fAd K r.df.at_) fd) :
    Base (T.L P w K) T.G T.P mg (T.fa K) := by
  unfold Tab.exK at c
  simp only [Bool.and_eq_true] at c
  obtain ⟨⟨⟨⟨⟨⟨⟨⟨⟨c1, c2⟩, c3⟩, c4⟩, c5⟩, c6⟩, c7⟩, c8⟩, c9⟩, c10⟩ := c
  have faAt : ∀ i p, T.at_ i = some p → T.fa K i = He.fAd K p := fun i p e => by
    unfold Tab.at_ at e
    unfold Tab.fa
    cases q : T.rows.find? fun r => Nat.beq r.id i with
    | none => rw [q] at e; cases e
    | some r => rw [q] at e; cases e; rfl
  have caO : ∀ k x, T.own.lookup k = some x → T.ca K k = He.ga K x := fun k x e => by
    have q := all_at c2 (look_mem e)
    simp only [Bool.and_eq_true] at q
    unfold Tab.ca
    rw [of_decide_eq_true q.2, e]
  have caE : ∀ k x, T.exn.lookup k = some x → T.ca K k = He.ga K x := fun k x e => by
    unfold Tab.ca
    rw [e]
  refine { nm := rfl, fns := fun i d e => ?_, np := fun i n e => ?_, np' := fun i d e => ?_, fn := fun i x n e _ => ?_, ini := fun cl i x e1 e2 => ?_, met := fun cl i f y mth e1 e2 e3 => ?_, mnp := fun i n cl f e1 e2 => ?_, glo := fun g x d e1 e2 => ?_, bl := fun x hx => ?_, co := ?_, ex := ?_, rs := fun j x hj e Y h1 h2 => ?_, exm := fun j hj => ?_ }
  · have e' : (T.rows.find? fun r => Nat.beq r.id i).map (·.d) = some d := e
    rw [Option.map_eq_some_iff] at e'
    obtain ⟨r, hr, rfl⟩ := e'
    obtain ⟨fd, F⟩ := fs r (find_id hr)
    have ef : T.fa K i = He.fAd K r.df.at_ := faAt i _ (by unfold Tab.at_; rw [hr]; rfl)
    rw [ef]
    exact row_fun (all_at rc (find_id hr)) F
  · have e' : (T.rows.find? fun r => Nat.beq r.id i).map (·.d.np) = some n := e
    rw [Option.map_eq_some_iff] at e'
    obtain ⟨r, hr, rfl⟩ := e'
    exact ⟨r.d, by show (T.rows.find? fun r => Nat.beq r.id i).map (·.d) = _; rw [hr]; rfl, rfl⟩
  · have e' : (T.rows.find? fun r => Nat.beq r.id i).map (·.d) = some d := e
    rw [Option.map_eq_some_iff] at e'
    obtain ⟨r, hr, rfl⟩ := e'
    show (T.rows.find? fun r => Nat.beq r.id i).map (·.d.np) = _
    rw [hr]; rfl
  · have q := all_at c1 (look_mem (show T.fns.lookup i = some x from e))
    simp only [Bool.and_eq_true] at q
    obtain ⟨⟨q1, q2⟩, q3⟩ := q
    have ef : T.fa K i = He.ga K x := faAt i _ (of_decide_eq_true q1)
    rw [ef]
    exact ⟨He.glo_ok X N q2, q3⟩
  · have q := all_at c3 (look_mem (show T.ini.lookup cl = some i from e2))
    have e1' : T.own.lookup cl = some x := e1
    rw [e1'] at q
    simp only [Bool.and_eq_true] at q
    have q0 := all_at c2 (look_mem e1')
    simp only [Bool.and_eq_true] at q0
    have ef : T.fa K i = He.ma K (He.ga K x) "__init__" := faAt i _ (of_decide_eq_true q.1)
    refine ⟨e2, ?_, ?_⟩
    · rw [ef]
      show Mk K (T.ca K cl) _
      rw [caO cl x e1']
      exact He.mkr_ok q.2
    · show mg x = some (.ref (T.ca K cl))
      rw [caO cl x e1']
      exact He.glo_ok X N q0.1.1.1
  · have e3' : (T.met.find? fun z => Nat.beq z.1 cl && Nat.beq z.2.1 i).map (·.2.2) = some f := e3
    rw [Option.map_eq_some_iff] at e3'
    obtain ⟨⟨z1, z2, z3⟩, hz, rfl⟩ := e3'
    have hm := List.mem_of_find?_eq_some hz
    have hp := List.find?_some hz
    simp only [Bool.and_eq_true] at hp
    obtain rfl := Nat.eq_of_beq_eq_true hp.1
    obtain rfl := Nat.eq_of_beq_eq_true hp.2
    have q := all_at c4 hm
    have e1' : T.own.lookup z1 = some y := e1
    have e2' : T.mtn[z2]? = some mth := e2
    simp only [e1', e2', Bool.and_eq_true] at q
    obtain ⟨⟨q1, q2⟩, q3⟩ := q
    have q0 := all_at c2 (look_mem e1')
    simp only [Bool.and_eq_true] at q0
    have ef : T.fa K z3 = He.ma K (He.ga K y) mth := faAt z3 _ (of_decide_eq_true q1)
    refine ⟨?_, ?_, ?_⟩
    · show Cls K (T.ca K z1)
      rw [caO z1 y e1']
      exact He.cls_ok q0.1.1.2
    · show Meth K (T.ca K z1) mth (T.fa K z3)
      rw [caO z1 y e1', ef]
      exact He.meth_ok q2
    · have := of_decide_eq_true q1
      unfold Tab.at_ at this
      show ((T.rows.find? fun r => Nat.beq r.id z3).map (·.d)).isSome = true
      cases q : T.rows.find? fun r => Nat.beq r.id z3 with
      | none => rw [q] at this; cases this
      | some r => rfl
  · have e2' : (T.met.find? fun z => Nat.beq z.1 cl && Nat.beq z.2.1 i).map (·.2.2) = some f := e2
    rw [Option.map_eq_some_iff] at e2'
    obtain ⟨⟨z1, z2, z3⟩, hz, rfl⟩ := e2'
    have hm := List.mem_of_find?_eq_some hz
    have hp := List.find?_some hz
    simp only [Bool.and_eq_true] at hp
    obtain rfl := Nat.eq_of_beq_eq_true hp.2
    have q := all_at c4 hm
    have e1' : T.mnp.lookup z2 = some n := e1
    split at q
    · simp only [e1', Bool.and_eq_true] at q
      rw [of_decide_eq_true q.2]; rfl
    · cases q
  · have e1' : (T.con.lookup g).map (·.1) = some x := e1
    have e2' : (T.con.lookup g).map (·.2) = some d := e2
    rw [Option.map_eq_some_iff] at e1' e2'
    obtain ⟨⟨y, d'⟩, q1, rfl⟩ := e1'
    obtain ⟨⟨y2, d2⟩, q2, rfl⟩ := e2'
    rw [q1] at q2
    cases q2
    exact con_ok X N (all_at c5 (look_mem q1))
  · exact He.free_ok X N (all_at c6 hx)
  · refine ⟨of_decide_eq_true c7, fun x hx => of_decide_eq_true (all_at c8 hx), fun k x e => ?_⟩
    have e' : T.own.lookup k = some x := e
    have q0 := all_at c2 (look_mem e')
    simp only [Bool.and_eq_true] at q0
    refine ⟨?_, fun i f hf => ?_⟩
    · show Cls K (T.ca K k)
      rw [caO k x e']
      exact He.cls_ok q0.1.1.2
    · show NoAttr K (T.ca K k) f
      rw [caO k x e']
      exact He.noat_ok (all_at q0.1.2 (List.mem_of_getElem? hf))
  · have key : ∀ k, k ≤ 5 → _ := fun k hk => all_at c10 (List.mem_range.mpr (Nat.lt_succ_of_le hk))
    refine ⟨fun k hk => ?_, fun k j hk hj => ?_, fun k hk => ?_⟩
    · have q := key k hk
      simp only [Bool.and_eq_true] at q
      exact exc_c q.1.1.1
    · have q := key k hk
      simp only [Bool.and_eq_true] at q
      exact of_decide_eq_true (all_at q.2 (List.mem_range.mpr (Nat.lt_succ_of_le hj)))
    · have q := key k hk
      simp only [Bool.and_eq_true] at q
      exact of_decide_eq_true q.1.1.2
  · have e' : T.exn.lookup j = some x := e
    have q := all_at c9 (look_mem e')
    simp only [Bool.and_eq_true] at q
    obtain ⟨q1, q2, q3, q4⟩ := He.exc_ok q.2
    have g := He.glo_ok X N q.1.2
    have ec : (T.L P w K).ca j = He.ga K x := caE j x e'
    have hK : Y.K = K := h1
    refine ⟨"ValueError", "ValueError.__new__", "ValueError.__init__", He.veBase, PySem.F.excBase_ValueError, ?_, ?_, ?_, ?_⟩
    · rw [ec, hK]; exact q1
    · rw [ec, h2]; exact g
    · rw [ec, hK]; exact q2
    · rw [ec]; exact raises_own (by rw [hK]; exact q3) (by rw [hK]; exact q4)
  · have q := all_at c10 (List.mem_range.mpr (Nat.lt_succ_of_le hj))
    simp only [Bool.and_eq_true] at q
    exact of_decide_eq_true q.1.2
end
end Ev
end

section
set_option Elab.async false
set_option autoImplicit false
set_option linter.all false
set_option maxRecDepth 100000
set_option maxHeartbeats 2000000
/-! EvY: the law's own def: its first row takes the script, then the trees run. -/
namespace Ev
open PySem PySem.Spec PyProof.Rows L2
/-- the numbers that a script stands for -/
def fstN (ns : List Int) : List Int := if ns.isEmpty then [0] else ns
def h0 (ns : List Int) : Hs := [.lst ((fstN ns).map D.int), .lst [.ref 0, .int 0]]
def startB : List Stmt → Bool
  | [.Return (some (.List [.IfExp (.Compare (.Name x1 _) [.NotEq] [.List [] _] _) (.Call (.Name x2 _) [.Name x3 _] [] _) (.List [.Constant (.int 0) _ _] _) _, .Constant (.int 0) _ _] _)) _] => decide (x1 = "_law_script") && decide (x2 = "list") && decide (x3 = "_law_script")
  | _ => false
def lawB : List Stmt → Option (List Stmt)
  | .Assign [.Name x1 _] (.Call (.Name x2 _) [.Name x3 _] [] _) _ :: r => if x1 = "_law_draws" ∧ x2 = "_law_start" ∧ x3 = "_law_script" then some r else none
  | _ => none
def spStart (L : Lk) : Sp := fun vs H Q E => ∃ (a : Addr) (ns : List Int), vs = [.ref a] ∧ SqL L.K H a (ns.map V.int) ∧ ns.length ≤ 63 ∧ ∀ H' p q, Sim L [p, q] H' (h0 ns) → Q (.ref q) H'
def spLaw (L : Lk) : Sp := fun vs H Q E => ∃ (a : Addr) (ns : List Int), vs = [.ref a] ∧ SqL L.K H a (ns.map V.int) ∧ ns.length ≤ 63 ∧ ∀ H', Q (.bl true) H'
theorem sim_nil {L : Lk} {H : Hp} : Sim L [] H [] := ⟨rfl, List.nodup_nil, fun i o a e _ => by simp at e⟩
theorem reps_int {K : PySem.W.Frag} {m : List Addr} {H : Hp} : ∀ ns : List Int, Reps K m H (ns.map D.int) (ns.map V.int)
  | [] => .nil
  | i :: r => .cons (.int i) (reps_int r)
theorem dp_ints {K : PySem.W.Frag} {H : Hp} : ∀ ns : List Int, DpAll K H (ns.map V.int) (ns.map PyData.int)
  | [] => .nil
  | i :: r => .cons (.int i) (dp_ints r)
theorem lay_ints : ∀ ns : List Int, PyData.canLayAll0 (ns.map PyData.int) = true
  | [] => rfl
  | i :: r => by rw [List.map_cons, PyData.canLayAll0, lay_ints r]; rfl
theorem depth_ints : ∀ ns : List Int, PyData.depthAll (ns.map PyData.int) ≤ 1
  | [] => Nat.zero_le _
  | i :: r => by
    have := depth_ints r
    rw [List.map_cons, PyData.depthAll, PyData.depth]
    omega

theorem sql_upd {K : PySem.W.Frag} {H : Hp} {a p : Addr} {xs : List V} {o : HO} (h : SqL K H a xs) (hp : H p = none) : SqL K (L2.upd H p o) a xs := by
  rcases h with (h | ⟨u, h⟩) | h
  · exact .inl (.inl (by rw [upd_ne (ne_of_none h hp)]; exact h))
  · exact .inl (.inr ⟨u, by rw [upd_ne (ne_of_none h hp)]; exact h⟩)
  · exact .inr h
section
variable {L : Lk} {mg : Str → Option Value} {base : Heap} {f : Addr} {fd : FuncData} {df : He.DefD}
theorem start_ok (F : FunD L.K df.name df.qual df.params df.body df.scope (df.dvs L.K) (df.kws L.K) f fd) (hb : startB df.body = true) (hs : C8.scC ["_law_script"] ["_law_script"] df.scope = true) (hl : isLocal df.scope "_law_script" = true) (hg : glo df.scope "list" = true) (hm : mg "list" = none) :
    FnOk L.P L.w L.K mg base (L2.CX L.P L.w) 1 f fd ["_law_script"] (spStart L) := by
  refine F.ok (C8.fnScope_by hs) (fun vs H Q E ⟨a, ns, e, _⟩ => by rw [e]; rfl) (fun cdv A outer s H vs Q E hr h => ?_)
  obtain ⟨a, ns, rfl, hS, hlen, hq⟩ := h
  unfold startB at hb
  split at hb
  rotate_left
  · cases hb
  rename_i hbody
  simp only [Bool.and_eq_true, decide_eq_true_eq] at hb
  obtain ⟨⟨rfl, rfl⟩, rfl⟩ := hb
  generalize hX : cxOf (L2.CX L.P L.w) L.P L.w L.K mg base ["_law_script"] df.qual df.scope f cdv A outer s H E = X
  have eK : X.K = L.K := by rw [← hX]; rfl
  have eN : X.N[0]? = some ("_law_script" : Str) := by rw [← hX]; rfl
  have eS : X.env.scope = df.scope := by rw [← hX]; rfl
  have eV : Vis X.env.scope "_law_script" := .inl (by rw [eS]; exact of_decide_eq_true hl)
  have eG : Gl X "list" := by show X.env.scope.names.lookup _ = _; rw [eS]; exact of_decide_eq_true hg
  have eM : X.mg "list" = none := by rw [← hX]; exact hm
  have eU : X.A.units + 64 < cLine := by rw [← hX]; exact hr.units
  rw [hbody]
  refine ⟨_, pss_one (ps_ret (pe_lst (pa_cons (pe_ifExp (pt_cmpR (op_neD eU) (pe_var eN eV (by decide +kernel) (by decide +kernel)) (pe_lst pa_nil) rfl)
    (pe_callTy call_list_of eG eM (by decide +kernel) (pa_cons (pe_var eN eV (by decide +kernel) (by decide +kernel)) pa_nil) (by decide +kernel) (by decide +kernel)) (pe_lst (pa_cons pe_int pa_nil))) (pa_cons pe_int pa_nil)))), ?_⟩
  rw [eK]
  refine ⟨.ref a, rfl, Nat.zero_le _, fun e0 n0 => ?_⟩
  have hS1 := sql_upd (o := .lst []) hS n0
  refine ⟨.list (ns.map PyData.int), .list [], .lst hS1 (dp_ints ns), .lst (.inl (.inl upd_same)) .nil, ?_, rfl, _, rfl, ?_⟩
  · unfold SeqAt.shaped
    rw [PyData.canLay0, lay_ints, decide_eq_true (by have := depth_ints ns; rw [PyData.depth]; omega)]; rfl
  cases ns with
  | nil =>
    rw [if_neg (by decide)]
    refine ⟨by show 1 ≤ sizeLine; rw [sizeLine_eq]; omega, fun p np => ?_⟩
    refine ⟨by show 2 ≤ sizeLine; rw [sizeLine_eq]; omega, fun q nq => ?_⟩
    have S1 : Sim L ([] ++ [p]) _ ([] ++ [.lst [.int 0]]) := sim_nil.new np ⟨[V.int 0], upd_same, .cons (.int 0) .nil⟩
    have S2 : Sim L (([] ++ [p]) ++ [q]) _ (([] ++ [.lst [.int 0]]) ++ [.lst [.ref 0, .int 0]]) := S1.new nq ⟨[.ref p, .int 0], upd_same, .cons (.ref rfl) (.cons (.int 0) .nil)⟩
    exact hq _ p q S2
  | cons i r =>
    have e : (!PyData.eqv (.list ((i :: r).map PyData.int)) (.list [])) = true := rfl
    rw [if_pos e]
    refine ⟨.ref a, rfl, a, _, rfl, .inl hS1, fun p np => ?_⟩
    refine ⟨by show 2 ≤ sizeLine; rw [sizeLine_eq]; omega, fun q nq => ?_⟩
    have S1 : Sim L ([] ++ [p]) _ ([] ++ [.lst ((i :: r).map D.int)]) := sim_nil.new np ⟨_, upd_same, reps_int (i :: r)⟩
    have S2 : Sim L (([] ++ [p]) ++ [q]) _ (([] ++ [.lst ((i :: r).map D.int)]) ++ [.lst [.ref 0, .int 0]]) := S1.new nq ⟨[.ref p, .int 0], upd_same, .cons (.ref rfl) (.cons (.int 0) .nil)⟩
    exact hq _ p q S2

/-- the law's def: its first row, then the tree -/
theorem law_ok {G : Gi} {P : Pr} {fa : Nat → Addr} {F n : Nat} {fs : Addr} {fds : FuncData} {rest : List Stmt} {tree : ISs} {N : List Str} (B : Base L G P mg fa)
    (FS : FnOk L.P L.w L.K mg base (L2.CX L.P L.w) 1 fs fds ["_law_script"] (spStart L)) (bS : Binds L.K fds ["_law_script"] []) (gS : mg "_law_start" = some (.ref fs)) (kS : PySem.W.keepIn L.K (.ref fs) = true)
    (Fl : FunD L.K df.name df.qual df.params df.body df.scope (df.dvs L.K) (df.kws L.K) f fd) (hb : lawB df.body = some rest) (hs : C8.scC N ["_law_script"] df.scope = true) (h0N : N[0]? = some ("_law_script" : Str)) (h1N : N[1]? = some ("_law_draws" : Str))
    (hl0 : isLocal df.scope "_law_script" = true) (hl1 : isLocal df.scope "_law_draws" = true) (hg : glo df.scope "_law_start" = true) (hck : ckB G N df.scope tree rest = true)
    (plain : ∀ ns : List Int, ns.length ≤ 63 → ∃ h', exB ⟨callN P F (n + 1), callN P F n, P.init, P.meth, F⟩ tree (none :: some (.ref 1) :: List.replicate (N.length - 2) none) (h0 ns) = .ret (.bl true) h') :
    FnOk L.P L.w L.K mg base (L2.CX L.P L.w) (n + 2) f fd ["_law_script"] (spLaw L) := by
  have S := C8.fnScope_by hs
  refine Fl.ok S (fun vs H Q E ⟨a, ns, e, _⟩ => by rw [e]; rfl) (fun cdv A outer s H vs Q E hr h => ?_)
  obtain ⟨a, ns, rfl, hS, hlen, hq⟩ := h
  unfold lawB at hb
  split at hb
  rotate_left
  · cases hb
  rename_i hbody
  split at hb
  rotate_left
  · cases hb
  rename_i hx
  obtain ⟨rfl, rfl, rfl⟩ := hx
  cases hb
  rw [hbody]
  let c : Cx := ⟨callN P F (n + 1), callN P F n, P.init, P.meth, F⟩
  have fc : Facts L G c (n + 1) (cxOf (L2.CX L.P L.w) L.P L.w L.K mg base N df.qual df.scope f cdv A outer s H E) := facts_of B (lev_all B n).2 (lev_all B n).1 rfl rfl rfl rfl rfl
  have gd : GoodS L G c (n + 1) N df.scope (cxOf (L2.CX L.P L.w) L.P L.w L.K mg base N df.qual df.scope f cdv A outer s H E) (fun cls dd _ H => E cls dd H) :=
    { g := { eN := rfl, nd := S.nd, calm := rfl, sc := rfl, fn := fun _ _ => rfl, tk := takes_of rfl rfl rfl rfl, rm := hr, fa := fc }
      kind := S.kind, own := passes_of (K := fun e s'' => L2.CX L.P L.w outer H s E e s'') rfl, stk := rfl, frm := rfl, ex := rfl }
  have v0 : Vis df.scope "_law_script" := .inl (of_decide_eq_true hl0)
  have l1 : df.scope.names.lookup ("_law_draws" : Str) = some .local := of_decide_eq_true hl1
  have hg' : df.scope.names.lookup ("_law_start" : Str) = some .globalImplicit := of_decide_eq_true hg
  have body := okB tree N df.scope _ _ rest gd hck
  have px : ∀ σ, PassesAt (L2.CX L.P L.w) (cxOf (L2.CX L.P L.w) L.P L.w L.K mg base N df.qual df.scope f cdv A outer s H E) σ (WE (fun cls dd _ H => E cls dd H) σ) := fun σ => passAt gd.g.tk σ
  refine ⟨_, pss_cons (ps_set (i := 1) S.nd h1N (.inl l1) (pe_callSD (E := WE (fun cls dd _ H => E cls dd H)) (FS.mono (Nat.succ_le_succ (Nat.zero_le n))) hr hg' gS kS bS .nil px (pa_cons (pe_var h0N v0 (by decide +kernel) (by decide +kernel)) pa_nil) (by decide +kernel) rfl rfl) rfl (.inr l1)) body, ?_⟩
  have hlenN : 2 ≤ N.length := (List.getElem?_eq_some_iff.mp h1N).1
  have st0 : (L2.start N [V.ref a])[0]? = some (some (.ref a)) := rfl
  refine ⟨.ref a, st0, a, ns, rfl, hS, hlen, fun H' p q Sm => ?_⟩
  refine ⟨[p, q], none :: some (.ref 1) :: List.replicate (N.length - 2) none, h0 ns, Sm, ⟨?_, fun i d e => ?_⟩, ?_⟩
  · unfold L2.start
    simp; omega
  · match i, e with
    | 0, e => cases e
    | 1, e =>
      cases e
      refine ⟨.ref q, ?_, .ref rfl⟩
      rw [List.getElem?_set_self]
      unfold L2.start
      simp; omega
    | j + 2, e =>
      have e' : (List.replicate (N.length - 2) (none : Option D))[j]? = some (some d) := e
      rw [List.getElem?_replicate] at e'
      split at e' <;> cases e'
  · obtain ⟨h', e⟩ := plain ns hlen
    have e' : exB c tree (none :: some (.ref 1) :: List.replicate (N.length - 2) none) (h0 ns) = .ret (.bl true) h' := e
    rw [e']
    intro m' H'' v g S' r
    cases r
    exact hq H''
end
end Ev
end

section
set_option Elab.async false
set_option autoImplicit false
set_option linter.all false
set_option maxRecDepth 100000
set_option maxHeartbeats 2000000
/-! EvZ: the end of a law. -/
namespace Ev
open PySem PySem.Spec PyProof.Rows L2
/-- what a law's text adds to its table -/
structure Top where
  T : Tab
  /-- _law_start, law -/
  dS : He.DefD
  dL : He.DefD
  /-- the law's names, the rest of its body, its tree -/
  N : List Str
  rest : List Stmt
  tree : ISs
def Top.fn (A : Top) : List He.DefD := A.dS :: A.dL :: A.T.fn
def Top.ex (A : Top) (K : PySem.W.Frag) : Bool := A.T.exK K && (He.Fa.glo "_law_start").ok K && (He.Fa.keep "_law_start").ok K && (He.Fa.glo "law").ok K
/-- what is asked of the text alone -/
structure Top.Ok (A : Top) : Prop where
  rc : A.T.rowsC = true
  s1 : startB A.dS.body = true
  s2 : C8.scC ["_law_script"] ["_law_script"] A.dS.scope = true
  s3 : isLocal A.dS.scope "_law_script" = true
  s4 : glo A.dS.scope "list" = true
  s5 : A.dS.at_ = (("_law_start" : Str), none)
  s6 : plainP A.dS.params = true
  s7 : A.dS.params.args.map (·.arg) = [("_law_script" : Str)]
  s8 : A.dS.dfl = []
  l1 : lawB A.dL.body = some A.rest
  l2 : C8.scC A.N ["_law_script"] A.dL.scope = true
  l3 : A.N[0]? = some ("_law_script" : Str)
  l4 : A.N[1]? = some ("_law_draws" : Str)
  l5 : isLocal A.dL.scope "_law_script" = true
  l6 : isLocal A.dL.scope "_law_draws" = true
  l7 : glo A.dL.scope "_law_start" = true
  l8 : ckB A.T.G A.N A.dL.scope A.tree A.rest = true
  l9 : A.dL.at_ = (("law" : Str), none)
  l10 : plainP A.dL.params = true
  l11 : A.dL.params.args.map (·.arg) = [("_law_script" : Str)]
  l12 : A.dL.dfl = []
/-- the law in plain words -/
def Top.Plain (A : Top) (F n : Nat) : Prop := ∀ ns : List Int, ns.length ≤ 63 →
  ∃ h', exB ⟨callN A.T.P F (n + 1), callN A.T.P F n, A.T.P.init, A.T.P.meth, F⟩ A.tree (none :: some (.ref 1) :: List.replicate (A.N.length - 2) none) (h0 ns) = .ret (.bl true) h'
def CXa (P : Program) : CXT := fun outer H s E e s' => ∃ w, L2.CX P w outer H s E e s'
section
variable {P : Program} {w : World} {K : PySem.W.Frag} {mg : Str → Option Value} {h : Heap}
theorem fnOk_any {base : Heap} {k : Nat} {f : Addr} {fd : FuncData} {ps : List Str} {sp : Sp} (F : FnOk P w K mg base (L2.CX P w) k f fd ps sp) : FnOk P w K mg base (CXa P) k f fd ps sp :=
  ⟨F.len, fun A outer s H args us vs Q E hr e0 hb r hsp => codeAny_mono (F.run A outer s H args us vs Q E hr e0 hb r hsp) fun r s' q => by
    cases r with
    | error e => exact ⟨w, q⟩
    | ok fl =>
      cases fl with
      | ret u => exact q
      | next => exact q
      | brk => exact q
      | cont => exact q⟩
theorem one_bind {df : He.DefD} {f : Addr} {fd : FuncData} (F : FunD K df.name df.qual df.params df.body df.scope (df.dvs K) (df.kws K) f fd) (hp : plainP df.params = true) (ha : df.params.args.map (·.arg) = [("_law_script" : Str)]) (hd : df.dfl = []) (s : Shared) (us : List Value) (hl : us.length = 1) :
    BindsTo s fd ⟨us, []⟩ ([("_law_script" : Str)].zip us) := by
  have e0 : df.dvs K = [] := by
    unfold He.DefD.dvs
    rw [hd]; rfl
  unfold plainP at hp
  simp only [Bool.and_eq_true, Option.isNone_iff_eq_none] at hp
  obtain ⟨⟨⟨p1, p2⟩, p3⟩, p4⟩ := hp
  rw [e0] at F
  refine FunD.bindsA (ps := [("_law_script" : Str)]) F (fun kV doc pm an cdv ct us hl => ?_) s us hl
  have q := bind_plain (fd := PySem.W.fnOf df.name df.qual df.params df.body df.scope .none kV doc pm an cdv ct) (us := us) (List.isEmpty_iff.mp p1) p2 (List.isEmpty_iff.mp p3) p4 rfl (by
    show us.length = (df.params.args.map (·.arg)).length
    rw [ha, hl]) (by
    show (df.params.args.map (·.arg)).Nodup
    rw [ha]; decide +kernel)
  rw [q]
  show pure ((df.params.args.map (·.arg)).zip us) = _
  rw [ha]
theorem top_end (A : Top) (ok : A.Ok) {F n : Nat} (plain : A.Plain F n) {fa : List He.Fa} (c : He.SaysX fa A.fn [] [] A.ex w h K) (X : K.In h) (N : h.Ns mainGlobals mg) {f : Addr} (hf : mg "law" = some (.ref f)) :
    ∃ fd : FuncData, (∀ (s : Shared) (u : Value), BindsTo s fd ⟨[u], []⟩ [("_law_script", u)]) ∧ ∀ base : Heap, K.In base → base.Ns mainGlobals mg → FnOk P w K mg base (CXa P) (n + 2) f fd ["_law_script"] (spLaw (A.T.L P w K)) := by
  have c1 := c.more
  unfold Top.ex at c1
  simp only [Bool.and_eq_true] at c1
  obtain ⟨⟨⟨c1, c2⟩, c3⟩, c4⟩ := c1
  have d := c.t.d
  obtain ⟨fdS, FS⟩ := d.defs (d := A.dS) List.mem_cons_self
  obtain ⟨fdL, FL⟩ := d.defs (d := A.dL) (List.mem_cons_of_mem _ List.mem_cons_self)
  have aS : He.fAd K A.dS.at_ = He.ga K "_law_start" := by rw [ok.s5]; rfl
  have aL : He.fAd K A.dL.at_ = He.ga K "law" := by rw [ok.l9]; rfl
  rw [aS] at FS
  rw [aL] at FL
  have gL := He.glo_ok X N c4
  rw [gL] at hf
  cases hf
  have B : Base (A.T.L P w K) A.T.G A.T.P mg (A.T.fa K) := base_of X N c1 ok.rc fun r hr => d.defs (d := r.df) (List.mem_cons_of_mem _ (List.mem_cons_of_mem _ (List.mem_map_of_mem hr)))
  have bS := one_bind FS ok.s6 ok.s7 ok.s8
  have bL := one_bind FL ok.l10 ok.l11 ok.l12
  refine ⟨fdL, fun s u => bL s [u] rfl, fun base hK hN => fnOk_any ?_⟩
  have FSok := start_ok (L := A.T.L P w K) (mg := mg) (base := base) FS ok.s1 ok.s2 ok.s3 ok.s4 (B.bl _ (by decide +kernel : ("list" : Str) ∈ bNames))
  exact law_ok B FSok (fun s us hK hl => by
    rw [List.append_nil] at hl ⊢
    exact bS s us hl) (He.glo_ok X N c2) c3 FL ok.l1 ok.l2 ok.l3 ok.l4 ok.l5 ok.l6 ok.l7 ok.l8 plain
theorem cxa_no {H : Hp} {s : Shared} {e : Value} {s' : Shared} (q : CXa P [] H s (fun _ _ _ => False) e s') : False := by
  obtain ⟨w, a, B, H', cls, d, _, _, _, _, _, _, _, z⟩ := q
  exact z
end
end Ev
end

section
set_option autoImplicit false
/-! VeA: the machine of plain values: lists and dicts by value, objects by number. No heap is in sight here. -/
namespace Ve
open Ev
inductive V where
  | non | bl (b : Bool) | int (i : Int) | str (s : Tx) | tup (xs : List V) | lst (xs : List V) | dic (kvs : List (D × V)) | obj (i : Nat) | drw | exn (k : Nat)
  deriving Inhabited
/-- what stands in the store -/
inductive SO where
  | ins (c : Nat) (fs : List (Nat × V)) | dic (kvs : List (D × V))
  deriving Inhabited
/-- the draws -/
structure Dr where
  xs : List Int
  c : Int
  ne : xs ≠ []
  nn : 0 ≤ c
structure St where
  ob : List SO
  dr : Dr
/-- sh: a value; bo: the value of a name that owns its cell; fr: made just now -/
inductive Fl where | sh | bo | fr
  deriving DecidableEq
abbrev FV := Fl × V
abbrev VEnv := List (Option (Bool × V))
inductive VR (α : Type) where
  | ok (a : α) (s : St) | exc (c : Nat) (s : St) | bad
namespace VR
def bind {α β : Type} (x : VR α) (f : α → St → VR β) : VR β := match x with
  | .ok a s => f a s
  | .exc c s => .exc c s
  | .bad => .bad
@[simp] theorem bind_ok {α β : Type} (a : α) (s : St) (f : α → St → VR β) : (VR.ok a s).bind f = f a s := rfl
@[simp] theorem bind_exc {α β : Type} (c : Nat) (s : St) (f : α → St → VR β) : (VR.exc c s : VR α).bind f = .exc c s := rfl
@[simp] theorem bind_bad {α β : Type} (f : α → St → VR β) : (VR.bad : VR α).bind f = .bad := rfl
def opt {α : Type} (x : Option α) (s : St) : VR α := match x with
  | some a => .ok a s
  | none => .bad
@[simp] theorem opt_some {α : Type} (a : α) (s : St) : opt (some a) s = .ok a s := rfl
@[simp] theorem opt_none {α : Type} (s : St) : opt (none : Option α) s = .bad := rfl
end VR
inductive VRS where
  | nx (env : VEnv) (s : St) | ret (v : V) (s : St) | brk (env : VEnv) (s : St) | exc (c : Nat) (env : VEnv) (s : St) | bad
/-! ### data -/
mutual
def prD : D → Bool
  | .ref _ => false
  | .tup xs => prDs xs
  | _ => true
def prDs : List D → Bool
  | [] => true
  | x :: xs => prD x && prDs xs
end
mutual
def ofD : D → V
  | .non => .non
  | .bl b => .bl b
  | .int i => .int i
  | .str s => .str s
  | .tup xs => .tup (ofDs xs)
  | .ref _ => .non
def ofDs : List D → List V
  | [] => []
  | x :: xs => ofD x :: ofDs xs
end
mutual
def key : V → Option D
  | .non => some .non
  | .bl b => some (.bl b)
  | .int i => some (.int i)
  | .str s => some (.str s)
  | .tup xs => (keys xs).map .tup
  | _ => none
def keys : List V → Option (List D)
  | [] => some []
  | x :: xs => match key x, keys xs with
    | some d, some ds => some (d :: ds)
    | _, _ => none
end
/-! ### equality -/
def vT : Nat → V → Option T
  | 0, _ => none
  | n + 1, v => match v with
    | .non => some .non
    | .bl b => some (.num (if b then 1 else 0))
    | .int i => some (.num i)
    | .str s => if s.all (fun c => decide (c < 1114112)) then some (.str s) else none
    | .tup xs => (omap (vT n) xs).map .tup
    | .lst xs => (omap (vT n) xs).map .lst
    | _ => none
def veq : V → V → Option Bool
  | .str s, .str t => some (decide (s = t))
  | .int i, .int j => some (decide (i = j))
  | .non, .non => some true
  | .bl i, .bl j => some (decide (i = j))
  | .non, .str _ => some false
  | .str _, .non => some false
  | .non, .int _ => some false
  | .int _, .non => some false
  | .int _, .str _ => some false
  | .str _, .int _ => some false
  | a, b => match vT 40 a, vT 40 b with
    | some x, some y => some (T.beq x y)
    | _, _ => none
def flatV : V → Bool
  | .non => true
  | .bl _ => true
  | .int _ => true
  | .str _ => true
  | _ => false
def vseq : V → V → Bool
  | .non, .non => true
  | .bl a, .bl b => a == b
  | .bl a, .int b => (if a then 1 else 0) == b
  | .int a, .bl b => a == (if b then 1 else 0)
  | .int a, .int b => a == b
  | .str a, .str b => decide (a = b)
  | _, _ => false
def vmem (x : V) (ys : List V) : Option Bool :=
  if flatV x && ys.all flatV then some (ys.any fun y => vseq y x) else match vT 40 x, omap (vT 40) ys with
    | some t, some ts => some (ts.any fun z => T.beq z t)
    | _, _ => none
def vcount (x : V) (ys : List V) : Option Nat :=
  if flatV x && ys.all flatV then some (ys.filter fun y => vseq y x).length else none
def vfirst (p : V → Bool) : List V → Option Nat
  | [] => none
  | y :: ys => if p y then some 0 else (vfirst p ys).map (· + 1)
def vindex (x : V) (ys : List V) : Option Nat :=
  if flatV x && ys.all flatV then vfirst (fun y => vseq y x) ys else none
/-! ### dicts -/
def vget (k : D) : List (D × V) → Option V
  | [] => none
  | (k', v) :: r => if k' = k then some v else vget k r
def vput (k : D) (v : V) : List (D × V) → List (D × V)
  | [] => [(k, v)]
  | (k', v') :: r => if k' = k then (k', v) :: r else (k', v') :: vput k v r
def vkin (k : D) (kvs : List (D × V)) : Bool := keyOk k && kvs.all fun p => isTup p.1 == isTup k
/-! ### texts and numbers in lists -/
def strsV : List V → Option (List Tx)
  | [] => some []
  | .str s :: r => (strsV r).map (s :: ·)
  | _ :: _ => none
def intsV : List V → Option (List Int)
  | [] => some []
  | .int s :: r => (intsV r).map (s :: ·)
  | _ :: _ => none
def bolsV : List V → Option (List Bool)
  | [] => some []
  | .bl s :: r => (bolsV r).map (s :: ·)
  | _ :: _ => none
/-! ### operators -/
def vbop (op : BOp) (x y : V) : Option FV := match op with
  | .add => match x, y with
    | .int a, .int b => some (.sh, .int (a + b))
    | .str a, .str b => if a.length + b.length ≤ LIM then some (.sh, .str (a ++ b)) else none
    | .tup a, .tup b => if a.isEmpty = false ∧ a.length + b.length ≤ LIM then some (.sh, .tup (a ++ b)) else none
    | .lst a, .lst b => if a.length + b.length ≤ LIM then some (.fr, .lst (a ++ b)) else none
    | _, _ => none
  | .sub => match x, y with
    | .int a, .int b => some (.sh, .int (a - b))
    | _, _ => none
  | .mul => match x, y with
    | .int a, .int b => if smallI a || smallI b then some (.sh, .int (a * b)) else none
    | .str a, .int n => if a.length * n.toNat ≤ LIM ∧ smallR n then some (.sh, .str (List.replicate n.toNat a).flatten) else none
    | .tup a, .int n => if a.isEmpty = false ∧ 1 ≤ n ∧ n ≤ 1000 ∧ a.length ≤ 1000 then some (.sh, .tup (List.replicate n.toNat a).flatten) else none
    | .lst a, .int n => if a.length * n.toNat ≤ LIM ∧ smallR n then some (.fr, .lst (List.replicate n.toNat a).flatten) else none
    | _, _ => none
  | .fdiv => match x, y with
    | .int a, .int b => if 0 < b ∧ b < 1073741824 then some (.sh, .int (a / b)) else none
    | _, _ => none
  | .mod => match x, y with
    | .int a, .int b => if 0 < b then some (.sh, .int (a % b)) else none
    | _, _ => none
  | .pow => match x, y with
    | .int a, .int b => if smallI a ∧ 0 ≤ b ∧ b ≤ 1000 then some (.sh, .int (a ^ b.toNat)) else none
    | _, _ => none
/-- x += y, but for lists -/
def vaop (op : BOp) (x y : V) : Option V := match op, x, y with
  | .add, .int a, .int b => some (.int (a + b))
  | .add, .str a, .str b => if a.length + b.length ≤ LIM then some (.str (a ++ b)) else none
  | _, _, _ => none
def isNon : V → Bool
  | .non => true
  | _ => false
def vin (s : St) (x y : V) : Option Bool := match y with
  | .str t => match x with
    | .str s => if s.isEmpty then none else some (subIn s t)
    | _ => none
  | .tup ys => vmem x ys
  | .lst ys => vmem x ys
  | .dic kvs => match key x with
    | some k => if vkin k kvs then some (vget k kvs).isSome else none
    | none => none
  | .obj j => match s.ob[j]? with
    | some (.dic kvs) => match key x with
      | some k => if vkin k kvs then some (vget k kvs).isSome else none
      | none => none
    | _ => none
  | _ => none
def vis_ (x y : V) : Option Bool := match y with
  | .non => some (isNon x)
  | .bl b => match x with
    | .bl a => some (decide (a = b))
    | _ => none
  | _ => none
def vcop (s : St) (op : COp) (x y : V) : Option Bool := match op with
  | .eq => veq x y
  | .ne => (veq x y).map not
  | .lt => match x, y with
    | .int a, .int b => some (decide (a < b))
    | _, _ => none
  | .le => match x, y with
    | .int a, .int b => some (decide (a ≤ b))
    | _, _ => none
  | .gt => match x, y with
    | .int a, .int b => some (decide (b < a))
    | _, _ => none
  | .ge => match x, y with
    | .int a, .int b => some (decide (b ≤ a))
    | _, _ => none
  | .inn => vin s x y
  | .nin => (vin s x y).map not
  | .is_ => vis_ x y
  | .isn => (vis_ x y).map not
/-! ### subscripts -/
def vIx (s : St) (x i : V) : Option V := match x with
  | .tup xs => match i with
    | .int k => (ixN xs.length k).bind fun j => xs[j]?
    | _ => none
  | .lst xs => match i with
    | .int k => (ixN xs.length k).bind fun j => xs[j]?
    | _ => none
  | .str t => match i with
    | .int k => if t.length ≤ LIM then ((ixN t.length k).bind fun j => t[j]?).map fun c => .str [c] else none
    | _ => none
  | .dic kvs => match key i with
    | some k => if vkin k kvs then vget k kvs else none
    | none => none
  | .obj j => match s.ob[j]? with
    | some (.dic kvs) => match key i with
      | some k => if vkin k kvs then vget k kvs else none
      | none => none
    | _ => none
  | _ => none
def vSl (x : V) (l u : Option Int) : Option FV := match x with
  | .str s => if s.length ≤ LIM then some (.sh, .str (cut s l u)) else none
  | .tup xs => some (.sh, .tup (cut xs l u))
  | .lst xs => some (.fr, .lst (cut xs l u))
  | _ => none
def vfget (f : Nat) : List (Nat × V) → Option V
  | [] => none
  | (g, v) :: r => if g = f then some v else vfget f r
def vfput (f : Nat) (v : V) : List (Nat × V) → List (Nat × V)
  | [] => [(f, v)]
  | (g, w) :: r => if g = f then (g, v) :: r else (g, w) :: vfput f v r
def St.put (s : St) (j : Nat) (o : SO) : St := ⟨s.ob.set j o, s.dr⟩
def St.push (s : St) (o : SO) : St := ⟨s.ob ++ [o], s.dr⟩
def vFld (s : St) (x : V) (f : Nat) : Option V := match x with
  | .obj j => match s.ob[j]? with
    | some (.ins _ fs) => vfget f fs
    | _ => none
  | _ => none
def vSetF (s : St) (x : V) (f : Nat) (v : V) : Option St := match x with
  | .obj j => match s.ob[j]? with
    | some (.ins c fs) => if fs.length < 100 then some (s.put j (.ins c (vfput f v fs))) else none
    | _ => none
  | _ => none
/-- a dict in the store -/
def vSetI (s : St) (x i v : V) : Option St := match x with
  | .obj j => match s.ob[j]? with
    | some (.dic kvs) => match key i with
      | some k => if vkin k kvs ∧ kvs.length < LIM then some (s.put j (.dic (vput k v kvs))) else none
      | none => none
    | _ => none
  | _ => none
/-! ### built-in functions and methods -/
def vseqOf (x : V) : Option (List V) := match x with
  | .tup xs => some xs
  | .lst xs => some xs
  | _ => none
def vlstOf (x : V) : Option (List V) := match x with
  | .lst xs => some xs
  | _ => none
def visTy (t : Ty) (x : V) : Option Bool := match x with
  | .lst _ => match t with
    | .cls _ => none
    | .verr => none
    | t => some (t == .list)
  | .exn c => match t with
    | .cls d => some (d == 0 || c == d)
    | .verr => some true
    | _ => none
  | .non => match t with
    | .cls _ => none
    | .verr => none
    | _ => some false
  | .bl _ => match t with
    | .cls _ => none
    | .verr => none
    | .int => some true
    | .bool => some true
    | _ => some false
  | .int _ => match t with
    | .cls _ => none
    | .verr => none
    | .int => some true
    | _ => some false
  | .str _ => match t with
    | .cls _ => none
    | .verr => none
    | .str => some true
    | _ => some false
  | .tup _ => match t with
    | .cls _ => none
    | .verr => none
    | .tuple => some true
    | _ => some false
  | _ => none
def vstrT : V → Option Tx
  | .str s => some s
  | .int i => if 0 ≤ i ∧ i ≤ 9 then some [48 + i.toNat] else none
  | _ => none
def vbf (f : BF) (args : List V) : Option FV := match args with
  | [x] => match f with
    | .len => match x with
      | .str s => if s.length ≤ LIM then some (.sh, .int s.length) else none
      | .tup xs => some (.sh, .int xs.length)
      | .lst xs => some (.sh, .int xs.length)
      | _ => none
    | .all => match (vlstOf x).bind bolsV with
      | some bs => some (.sh, .bl (bs.all id))
      | none => none
    | .min1 => match (vlstOf x).bind intsV with
      | some (a :: r) => some (.sh, .int (minL a r))
      | _ => none
    | .max1 => match (vlstOf x).bind intsV with
      | some (a :: r) => some (.sh, .int (maxL a r))
      | _ => none
    | .sum => match (vlstOf x).bind intsV with
      | some ns => some (.sh, .int ns.sum)
      | none => none
    | .listOf => match x with
      | .str s => if s.length ≤ LIM then some (.fr, .lst (s.map fun c => .str [c])) else none
      | _ => match vseqOf x with
        | some xs => some (.fr, .lst xs)
        | none => none
    | .tupOf => match vseqOf x with
      | some xs => some (.sh, .tup xs)
      | none => none
    | .strOf => match vstrT x with
      | some s => some (.sh, .str s)
      | none => none
    | .intOf => match x with
      | .str [c] => if 48 ≤ c ∧ c ≤ 57 then some (.sh, .int (c - 48 : Nat)) else none
      | _ => none
    | .isin t => match visTy t x with
      | some b => some (.sh, .bl b)
      | none => none
    | _ => none
  | [x, y] => match f with
    | .min2 => match x, y with
      | .int a, .int b => some (.sh, .int (if b < a then b else a))
      | _, _ => none
    | .max2 => match x, y with
      | .int a, .int b => some (.sh, .int (if b > a then b else a))
      | _, _ => none
    | _ => none
  | _ => none
/-- methods that change nothing -/
def vbm (s : St) (m : BM) (o : V) (args : List V) : Option FV := match args with
  | [x] => match m with
    | .count => match o with
      | .str s => match x with
        | .str [c] => some (.sh, .int (s.count c))
        | _ => none
      | .lst ys => match vcount x ys with
        | some n => some (.sh, .int n)
        | none => none
      | _ => none
    | .index => match o with
      | .lst ys => match vindex x ys with
        | some n => some (.sh, .int n)
        | none => none
      | _ => none
    | .split => match o with
      | .str s => match x with
        | .str [c] => if s.length + 2 ≤ LIM ∧ c < 256 then some (.fr, .lst ((splitC c s).map .str)) else none
        | _ => none
      | _ => none
    | .join => match o with
      | .str s => match (vseqOf x).bind strsV with
        | some ps => if (ps.map List.length).sum + ps.length * s.length ≤ LIM then some (.sh, .str (joinT s ps)) else none
        | none => none
      | _ => none
    | .strip => match o with
      | .str s => match x with
        | .str cs => if s.length ≤ LIM then some (.sh, .str (dropR cs (dropC cs s))) else none
        | _ => none
      | _ => none
    | .lstrip => match o with
      | .str s => match x with
        | .str cs => if s.length ≤ LIM then some (.sh, .str (dropC cs s)) else none
        | _ => none
      | _ => none
    | .rstrip => match o with
      | .str s => match x with
        | .str cs => if s.length ≤ LIM then some (.sh, .str (dropR cs s)) else none
        | _ => none
      | _ => none
    | _ => none
  | [x, y] => match m with
    | .get => match o with
      | .dic kvs => match key x with
        | some k => if vkin k kvs then some (.sh, (vget k kvs).getD y) else none
        | none => none
      | .obj j => match s.ob[j]? with
        | some (.dic kvs) => match key x with
          | some k => if vkin k kvs then some (.sh, (vget k kvs).getD y) else none
          | none => none
        | _ => none
      | _ => none
    | .replace => match x, y with
      | .str [a], .str b => match o with
        | .str s => if s.length ≤ 1000 ∧ b.length ≤ 1 then some (.sh, .str (s.flatMap fun c => if c = a then b else [c])) else none
        | _ => none
      | _, _ => none
    | _ => none
  | _ => none
/-- whether the receiver is of a type with the method -/
def vbmTy (s : St) (m : BM) (o : V) : Bool := match o with
  | .str _ => match m with
    | .append => false
    | .index => false
    | .get => false
    | .setdefault => false
    | _ => true
  | .lst _ => match m with
    | .count => true
    | .index => true
    | _ => false
  | .dic _ => match m with
    | .get => true
    | _ => false
  | .obj j => match s.ob[j]? with
    | some (.dic _) => match m with
      | .get => true
      | _ => false
    | _ => false
  | _ => false
/-! ### walks -/
def vrange (i j : Int) : List V := (List.range (j - i).toNat).map fun (k : Nat) => V.int (i + (k : Int))
def vrange3 (i j c : Int) : List V := (List.range ((j - i + (c - 1)) / c).toNat).map fun (k : Nat) => V.int (i + (k : Int) * c)
def venum : Nat → List V → List V
  | _, [] => []
  | n, x :: xs => .tup [.int n, x] :: venum (n + 1) xs
def vzip : List V → List V → List V
  | x :: xs, y :: ys => .tup [x, y] :: vzip xs ys
  | _, _ => []
def vItems (x : V) : Option (List V) := match x with
  | .tup xs => some xs
  | .str s => some (s.map fun c => .str [c])
  | .lst xs => some xs
  | _ => none
def vcomp (f : V → St → VR (Option V)) : List V → List V → St → VR (List V)
  | [], acc, s => .ok acc s
  | x :: xs, acc, s => match f x s with
    | .ok none s => vcomp f xs acc s
    | .ok (some y) s => if acc.length < LIM then vcomp f xs (acc ++ [y]) s else .bad
    | _ => .bad
def vfor (f : V → VEnv → St → VRS) : List V → VEnv → St → VRS
  | [], env, s => .nx env s
  | x :: xs, env, s => match f x env s with
    | .nx env s => vfor f xs env s
    | .brk env s => .nx env s
    | .ret v s => .ret v s
    | .exc c env s => .exc c env s
    | .bad => .bad
def vwipe (env : VEnv) : List Nat → VEnv
  | [] => env
  | v :: vs => (vwipe env vs).set v none
/-- these names own their cells no more -/
def clr (env : VEnv) : List Nat → VEnv
  | [] => env
  | v :: vs => let e := clr env vs
    match e[v]? with
    | some (some (true, x)) => e.set v (some (false, x))
    | _ => e
/-! ### names whose cells a value may be handed on of -/
mutual
def shr : IE → List Nat
  | .var i => [i]
  | .ite t a b => shb t ++ (shr a ++ shr b)
  | .const _ => []
  | .glob _ _ => []
  | .bin _ a b => shb a ++ shb b
  | .neg a => shb a
  | .not a => shb a
  | .and a b => shb a ++ shb b
  | .or a b => shb a ++ shb b
  | .cmp _ a b => shb a ++ shb b
  | .cmp2 _ _ a b d => shb a ++ (shb b ++ shb d)
  | .tup es => shrs es
  | .lst es => shrs es
  | .dic0 => []
  | .dic1 k v => shb k ++ shr v
  | .call _ es => shrs es
  | .new _ es => shrs es
  | .meth o _ es => shb o ++ shrs es
  | .bm _ o es => shb o ++ shrs es
  | .bf _ es => shbs es
  | .fld o _ => shb o
  | .idx o i => shb o ++ shb i
  | .slc o l u => shb o ++ (shb l ++ shb u)
  | .slcF o l => shb o ++ shb l
  | .slcT o u => shb o ++ shb u
  | .rev o => shb o
  | .comp elt _ it cnd _ => shi it ++ (shb cnd ++ shr elt)
  | .lrng it => shi it
def shb : IE → List Nat
  | .var _ => []
  | .ite t a b => shb t ++ (shb a ++ shb b)
  | .const _ => []
  | .glob _ _ => []
  | .bin _ a b => shb a ++ shb b
  | .neg a => shb a
  | .not a => shb a
  | .and a b => shb a ++ shb b
  | .or a b => shb a ++ shb b
  | .cmp _ a b => shb a ++ shb b
  | .cmp2 _ _ a b d => shb a ++ (shb b ++ shb d)
  | .tup es => shrs es
  | .lst es => shrs es
  | .dic0 => []
  | .dic1 k v => shb k ++ shr v
  | .call _ es => shrs es
  | .new _ es => shrs es
  | .meth o _ es => shb o ++ shrs es
  | .bm _ o es => shb o ++ shrs es
  | .bf _ es => shbs es
  | .fld o _ => shb o
  | .idx o i => shb o ++ shb i
  | .slc o l u => shb o ++ (shb l ++ shb u)
  | .slcF o l => shb o ++ shb l
  | .slcT o u => shb o ++ shb u
  | .rev o => shb o
  | .comp elt _ it cnd _ => shi it ++ (shb cnd ++ shr elt)
  | .lrng it => shi it
def shrs : IEs → List Nat
  | .nil => []
  | .cons e es => shr e ++ shrs es
def shbs : IEs → List Nat
  | .nil => []
  | .cons e es => shb e ++ shbs es
def shi : It → List Nat
  | .val e => shb e
  | .rng1 a => shb a
  | .rng2 a b => shb a ++ shb b
  | .rng3 a b d => shb a ++ (shb b ++ shb d)
  | .enum e => shb e
  | .zip a b => shb a ++ shb b
end
/-- in a for: the list that is walked is handed on -/
def shf : It → List Nat
  | .val e => shr e
  | .enum e => shr e
  | .zip a b => shr a ++ shr b
  | i => shi i
/-! ### the runs -/
structure VCx where
  call : Nat → List V → St → VR V
  make : Nat → List V → St → VR V
  init : Nat → Option Nat
  meth : Nat → Nat → Option Nat
  fuel : Nat
def vmethOf (c : VCx) (o : V) (m : Nat) (s : St) : Option Nat := match o with
  | .obj j => match s.ob[j]? with
    | some (.ins cl _) => c.meth cl m
    | _ => none
  | _ => none
def vNew (c : VCx) (cl : Nat) (args : List V) (s : St) : VR V := match c.init cl with
  | some f => match c.make f (.obj s.ob.length :: args) (s.push (.ins cl [])) with
    | .ok .non s' => .ok (.obj s.ob.length) s'
    | .exc k s' => .exc k s'
    | _ => .bad
  | none => if args.isEmpty then .ok (.obj s.ob.length) (s.push (.ins cl [])) else .bad
/-- not a value that a name owns -/
def unb (x : FV) (s : St) : VR V := match x.1 with
  | .bo => .bad
  | _ => .ok x.2 s
def toSh (x : VR V) : VR FV := x.bind fun v s => .ok (.sh, v) s
mutual
def vE (c : VCx) : IE → VEnv → St → VR FV
  | .const d, _, s => if prD d then .ok (.sh, ofD d) s else .bad
  | .glob _ d, _, s => if prD d then .ok (.sh, ofD d) s else .bad
  | .var i, env, s => match env[i]? with
    | some (some (b, v)) => .ok (if b then .bo else .sh, v) s
    | _ => .bad
  | .bin op a b, env, s => (vE c a env s).bind fun x s => (vE c b env s).bind fun y s => VR.opt (vbop op x.2 y.2) s
  | .neg a, env, s => (vE c a env s).bind fun x s => match x.2 with
    | .int i => .ok (.sh, .int (-i)) s
    | _ => .bad
  | .not a, env, s => (vE c a env s).bind fun x s => match x.2 with
    | .bl b => .ok (.sh, .bl (!b)) s
    | _ => .bad
  | .and a b, env, s => (vE c a env s).bind fun x s => match x.2 with
    | .bl true => (vE c b env s).bind fun y s => match y.2 with
      | .bl k => .ok (.sh, .bl k) s
      | _ => .bad
    | .bl false => .ok (.sh, .bl false) s
    | _ => .bad
  | .or a b, env, s => (vE c a env s).bind fun x s => match x.2 with
    | .bl true => .ok (.sh, .bl true) s
    | .bl false => (vE c b env s).bind fun y s => match y.2 with
      | .bl k => .ok (.sh, .bl k) s
      | _ => .bad
    | _ => .bad
  | .cmp op a b, env, s => (vE c a env s).bind fun x s => (vE c b env s).bind fun y s => VR.opt ((vcop s op x.2 y.2).map fun k => (.sh, .bl k)) s
  | .cmp2 op op' a b d, env, s => (vE c a env s).bind fun x s => (vE c b env s).bind fun y s => match vcop s op x.2 y.2 with
    | some true => (vE c d env s).bind fun z s => VR.opt ((vcop s op' y.2 z.2).map fun k => (.sh, .bl k)) s
    | some false => .ok (.sh, .bl false) s
    | none => .bad
  | .ite t a b, env, s => (vE c t env s).bind fun x s => match x.2 with
    | .bl true => vE c a env s
    | .bl false => vE c b env s
    | _ => .bad
  | .tup es, env, s => (vEs c es env s).bind fun xs s => .ok (.sh, .tup xs) s
  | .lst es, env, s => (vEs c es env s).bind fun xs s => .ok (.fr, .lst xs) s
  | .dic0, _, s => .ok (.fr, .dic []) s
  | .dic1 k v, env, s => (vE c k env s).bind fun x s => (vE c v env s).bind fun y s => (unb y s).bind fun y s => match key x.2 with
    | some d => if keyOk d then .ok (.fr, .dic [(d, y)]) s else .bad
    | none => .bad
  | .call f es, env, s => (vEs c es env s).bind fun xs s => toSh (c.call f xs s)
  | .new cl es, env, s => (vEs c es env s).bind fun xs s => toSh (vNew c cl xs s)
  | .meth o m es, env, s => (vE c o env s).bind fun x s => match vmethOf c x.2 m s with
    | some f => (vEs c es env s).bind fun xs s => toSh (c.call f (x.2 :: xs) s)
    | none => .bad
  | .bm m o es, env, s => (vE c o env s).bind fun x s => if vbmTy s m x.2 then (vEs c es env s).bind fun xs s => VR.opt (vbm s m x.2 xs) s else .bad
  | .bf f es, env, s => (vEb c es env s).bind fun xs s => VR.opt (vbf f xs) s
  | .fld o f, env, s => (vE c o env s).bind fun x s => VR.opt ((vFld s x.2 f).map fun v => (.sh, v)) s
  | .idx o i, env, s => (vE c o env s).bind fun x s => (vE c i env s).bind fun y s => VR.opt ((vIx s x.2 y.2).map fun v => (.sh, v)) s
  | .slc o lo hi, env, s => (vE c o env s).bind fun x s => (vE c lo env s).bind fun l s => match l.2 with
    | .int i => (vE c hi env s).bind fun u s => match u.2 with
      | .int j => VR.opt (vSl x.2 (some i) (some j)) s
      | _ => .bad
    | _ => .bad
  | .slcF o lo, env, s => (vE c o env s).bind fun x s => (vE c lo env s).bind fun l s => match l.2 with
    | .int i => VR.opt (vSl x.2 (some i) none) s
    | _ => .bad
  | .slcT o hi, env, s => (vE c o env s).bind fun x s => (vE c hi env s).bind fun u s => match u.2 with
    | .int j => VR.opt (vSl x.2 none (some j)) s
    | _ => .bad
  | .rev o, env, s => (vE c o env s).bind fun x s => match x.2 with
    | .lst xs => .ok (.fr, .lst xs.reverse) s
    | _ => .bad
  | .comp elt tg it cnd own, env, s => (vIt c it env s).bind fun p s =>
    match vcomp (fun x s => (vTg c tg x (vwipe env own) s).bind fun env' s => (vE c cnd env' s).bind fun b s => match b.2 with
        | .bl true => (vE c elt env' s).bind fun y s => (unb y s).bind fun y s => .ok (some y) s
        | .bl false => .ok none s
        | _ => .bad) p.2 [] s with
    | .ok ys s => .ok (.fr, .lst ys) s
    | _ => .bad
  | .lrng it, env, s => (vIt c it env s).bind fun p s => if p.2.length ≤ LIM then .ok (.fr, .lst p.2) s else .bad
/-- values that are handed on -/
def vEs (c : VCx) : IEs → VEnv → St → VR (List V)
  | .nil, _, s => .ok [] s
  | .cons e es, env, s => (vE c e env s).bind fun x s => (unb x s).bind fun x s => (vEs c es env s).bind fun xs s => .ok (x :: xs) s
/-- values that are looked at -/
def vEb (c : VCx) : IEs → VEnv → St → VR (List V)
  | .nil, _, s => .ok [] s
  | .cons e es, env, s => (vE c e env s).bind fun x s => (vEb c es env s).bind fun xs s => .ok (x.2 :: xs) s
/-- what is walked; whether a name owns it -/
def vIt (c : VCx) : It → VEnv → St → VR (Bool × List V)
  | .val e, env, s => (vE c e env s).bind fun x s => VR.opt ((vItems x.2).map fun xs => (decide (x.1 = .bo), xs)) s
  | .rng1 a, env, s => (vE c a env s).bind fun x s => match x.2 with
    | .int j => if smallR j then .ok (false, vrange 0 j) s else .bad
    | _ => .bad
  | .rng2 a b, env, s => (vE c a env s).bind fun x s => (vE c b env s).bind fun y s => match x.2, y.2 with
    | .int i, .int j => if smallR i && smallR j then .ok (false, vrange i j) s else .bad
    | _, _ => .bad
  | .rng3 a b d, env, s => (vE c a env s).bind fun x s => (vE c b env s).bind fun y s => (vE c d env s).bind fun z s => match x.2, y.2, z.2 with
    | .int i, .int j, .int k => if 0 ≤ i ∧ i ≤ LIM ∧ 0 ≤ j ∧ j ≤ LIM ∧ 0 < k ∧ k ≤ LIM then .ok (false, vrange3 i j k) s else .bad
    | _, _, _ => .bad
  | .enum e, env, s => (vE c e env s).bind fun x s => match x.2 with
    | .lst xs => .ok (decide (x.1 = .bo), venum 0 xs) s
    | _ => .bad
  | .zip a b, env, s => (vE c a env s).bind fun x s => (vE c b env s).bind fun y s => match x.2, y.2 with
    | .lst xs, .lst ys => .ok (decide (x.1 = .bo) || decide (y.1 = .bo), vzip xs ys) s
    | _, _ => .bad
def vTg (c : VCx) : Tg → V → VEnv → St → VR VEnv
  | .nm i, v, env, s => .ok (env.set i (some (false, v))) s
  | .tp ts, v, env, s => match v with
    | .tup xs => vTgs c ts xs env s
    | _ => .bad
  | .fld o f, v, env, s => (vE c o env s).bind fun x s => match vSetF s x.2 f v with
    | some s => .ok env s
    | none => .bad
  | .sub o i, v, env, s => (vE c o env s).bind fun x s => (vE c i env s).bind fun y s => match vSetI s x.2 y.2 v with
    | some s => .ok env s
    | none => .bad
def vTgs (c : VCx) : Tgs → List V → VEnv → St → VR VEnv
  | .nil, xs, env, s => if xs.isEmpty then .ok env s else .bad
  | .cons t ts, xs, env, s => match xs with
    | x :: r => (vTg c t x env s).bind fun env s => vTgs c ts r env s
    | [] => .bad
end
/-- values each of which may be new -/
def vEf (c : VCx) : IEs → VEnv → St → VR (List FV)
  | .nil, _, s => .ok [] s
  | .cons e es, env, s => (vE c e env s).bind fun x s => (unb x s).bind fun _ s => (vEf c es env s).bind fun xs s => .ok (x :: xs) s
def isFr (x : FV) : Bool := decide (x.1 = .fr)
def vTgf (c : VCx) : Tgs → List FV → VEnv → St → VR VEnv
  | .nil, xs, env, s => if xs.isEmpty then .ok env s else .bad
  | .cons t ts, xs, env, s => match xs with
    | x :: r => match t with
      | .nm i => vTgf c ts r (env.set i (some (isFr x, x.2))) s
      | t => match x.1 with
        | .sh => (vTg c t x.2 env s).bind fun env s => vTgf c ts r env s
        | _ => .bad
    | [] => .bad
def vlift {α : Type} (env : VEnv) (x : VR α) (f : α → St → VRS) : VRS := match x with
  | .ok d s => f d s
  | .exc c s => .exc c env s
  | .bad => .bad
def vliftE (x : VR VEnv) (f : VEnv → St → VRS) : VRS := match x with
  | .ok d s => f d s
  | _ => .bad
def vclsAt (x : V) (s : St) : Option Nat := match x with
  | .obj j => match s.ob[j]? with
    | some (.ins k _) => some k
    | _ => none
  | _ => none
/-- what a name owns -/
def own? (env : VEnv) (i : Nat) : Option V := match env[i]? with
  | some (some (true, v)) => some v
  | _ => none
def vSetO (v i x : V) : Option V := match v with
  | .lst xs => match i with
    | .int k => match ixN xs.length k with
      | some j => some (.lst (xs.set j x))
      | none => none
    | _ => none
  | .dic kvs => match key i with
    | some k => if vkin k kvs ∧ kvs.length < LIM then some (.dic (vput k x kvs)) else none
    | none => none
  | _ => none
/-- t = e -/
def vAsg (c : VCx) (t : Tg) (e : IE) (env : VEnv) (s : St) : VRS := vlift env ((vE c e env s).bind unb) fun v s => vliftE (vTg c t v env s) fun env s => .nx env s
def vAsgN (c : VCx) (i : Nat) (e : IE) (env : VEnv) (s : St) : VRS := vlift env (vE c e env s) fun x s => match x.1 with
  | .bo => .bad
  | .fr => .nx (env.set i (some (true, x.2))) s
  | .sh => .nx (env.set i (some (false, x.2))) s
/-- known[k] = e at a name that owns its dict -/
def vAsgO (c : VCx) (j : Nat) (k : IE) (e : IE) (env : VEnv) (s : St) : VRS := vlift env ((vE c e env s).bind unb) fun v s => match own? env j with
  | some o => vliftE ((vE c k env s).bind fun y s => match vSetO o y.2 v with
    | some o' => .ok (env.set j (some (true, o'))) s
    | none => .bad) fun env s => .nx env s
  | none => .bad
def vwhile (c : VEnv → St → VR FV) (sh : List Nat) (f : VEnv → St → VRS) : Nat → VEnv → St → VRS
  | 0, _, _ => .bad
  | n + 1, env, s => let env := clr env sh
    match c env s with
    | .ok x s => match x.2 with
      | .bl true => match f env s with
        | .nx env s => vwhile c sh f n env s
        | .brk env s => .nx env s
        | .ret d s => .ret d s
        | .exc c env s => .exc c env s
        | .bad => .bad
      | .bl false => .nx env s
      | _ => .bad
    | .exc c s => .exc c env s
    | .bad => .bad
mutual
def vS (c : VCx) : IS → VEnv → St → VRS
  | .asg t e, env, s =>
    let env := clr env (shr e)
    match t with
    | .nm i => vAsgN c i e env s
    | .fld o f => match e with
      | .dic0 => vliftE ((vE c o env (s.push (.dic []))).bind fun x s' => match vSetF s' x.2 f (.obj s.ob.length) with
        | some s' => .ok env s'
        | none => .bad) fun env s => .nx env s
      | e => vAsg c (.fld o f) e env s
    | .sub o k => match o with
      | .var j => match own? env j with
        | some _ => vAsgO c j k e (clr env (shb k)) s
        | none => vAsg c (.sub o k) e env s
      | o => vAsg c (.sub o k) e env s
    | .tp ts => match e with
      | .tup es => vlift env (vEf c es env s) fun xs s => vliftE (vTgf c ts xs env s) fun env s => .nx env s
      | e => vAsg c (.tp ts) e env s
  | .aug i op e, env, s =>
    let env := clr env (shb e)
    match env[i]? with
    | some (some (b, x)) => vlift env (vE c e env s) fun y s => match x with
      | .lst xs => match op, y.2 with
        | .add, .lst ys => if b = true ∧ xs.length + ys.length ≤ LIM then .nx (env.set i (some (true, .lst (xs ++ ys)))) s else .bad
        | _, _ => .bad
      | x => match vaop op x y.2 with
        | some z => .nx (env.set i (some (false, z))) s
        | none => .bad
    | _ => .bad
  | .augF o f op e, env, s => 
    let env := clr env (shb o ++ shb e)
    vlift env (vE c o env s) fun x s => match vFld s x.2 f with
    | some v => vlift env (vE c e env s) fun y s' => match vaop op v y.2 with
      | some z => if vclsAt x.2 s' = vclsAt x.2 s then match vSetF s' x.2 f z with
          | some s' => .nx env s'
          | none => .bad
        else .bad
      | none => .bad
    | none => .bad
  | .expr e, env, s =>
    let env := clr env (shb e)
    match e with
    | .bm .append (.var i) (.cons e .nil) => match own? env i with
      | some (.lst xs) => vlift env ((vE c e env s).bind unb) fun v s => if xs.length < LIM then .nx (env.set i (some (true, .lst (xs ++ [v])))) s else .bad
      | _ => .bad
    | e => vlift env (vE c e env s) fun _ s => .nx env s
  | .ret e, env, s => let env := clr env (shr e)
    vlift env ((vE c e env s).bind unb) fun v s => .ret v s
  | .ifS t a b, env, s => let env := clr env (shb t)
    vlift env (vE c t env s) fun x s => match x.2 with
    | .bl true => vB c a env s
    | .bl false => vB c b env s
    | _ => .bad
  | .forS t it b, env, s => let env := clr env (shf it)
    match vIt c it env s with
    | .ok p s => if p.1 then .bad else vfor (fun x env s => vliftE (vTg c t x env s) fun env s => vB c b env s) p.2 env s
    | .exc k s => .exc k env s
    | .bad => .bad
  | .whileS t b, env, s => vwhile (fun env s => vE c t env s) (shb t) (vB c b) c.fuel env s
  | .brk, env, s => .brk env s
  | .pass, env, s => .nx env s
  | .raise k, env, s => .exc k env s
  | .tryAs b v e, env, s => match vB c b env s with
    | .exc k env s => if k ≤ 5 then .nx ((env.set v (some (false, .exn k))).set e none) s else .bad
    | .nx env s => .nx env s
    | _ => .bad
def vB (c : VCx) : ISs → VEnv → St → VRS
  | .nil, env, s => .nx env s
  | .cons i ss, env, s => match vS c i env s with
    | .nx env s => vB c ss env s
    | .brk env s => .brk env s
    | .ret d s => .ret d s
    | .exc k env s => .exc k env s
    | .bad => .bad
end
def vfinish (r : VRS) : VR V := match r with
  | .nx _ s => .ok .non s
  | .ret v s => .ok v s
  | .exc k _ s => .exc k s
  | .brk _ _ => .bad
  | .bad => .bad
/-! ### draws -/
theorem set_ne {xs : List Int} (ne : xs ≠ []) (i : Nat) (v : Int) : xs.set i v ≠ [] := fun z => ne (by simpa using z)
def Dr.at_ (d : Dr) : Nat := ((d.c + 1) % (d.xs.length : Int)).toNat
def Dr.cell (d : Dr) : Int := d.xs.getD d.at_ 0
/-- the next draw -/
def Dr.draw (d : Dr) (lim : Int) : Int × Dr :=
  if 1000000000000000000 ≤ d.cell then (d.cell % lim, ⟨d.xs.set d.at_ (d.cell / lim), d.c + 1, set_ne d.ne _ _, by have := d.nn; omega⟩)
  else ((((d.cell + 104729 * (d.c + 1)) % 4294967291) ^ 5 % 4294967279 / 64 * 69621 + ((d.cell + 104729 * (d.c + 1)) % 4294967291) ^ 5 % 4294967279) % 4294967231 / 8 % lim, ⟨d.xs, d.c + 1, d.ne, by have := d.nn; omega⟩)
theorem Dr.draw_lo (d : Dr) {lim : Int} (h : 0 < lim) : 0 ≤ (d.draw lim).1 := by
  unfold Dr.draw
  split <;> exact Int.emod_nonneg _ (by omega)
theorem Dr.draw_hi (d : Dr) {lim : Int} (h : 0 < lim) : (d.draw lim).1 < lim := by
  unfold Dr.draw
  split <;> exact Int.emod_lt_of_pos _ h
def vdraw (args : List V) (s : St) : VR V := match args with
  | [.drw, .int lim] => if 0 < lim ∧ lim < 1073741824 then .ok (.int (s.dr.draw lim).1) ⟨s.ob, (s.dr.draw lim).2⟩ else .bad
  | _ => .bad
/-- a call, at most n calls deep -/
def vcallN (P : Pr) (F : Nat) : Nat → Nat → List V → St → VR V
  | 0, _, _, _ => .bad
  | 1, _, _, _ => .bad
  | n + 2, f, args, s => if f = 23 then vdraw args s else match P.fn f with
    | none => .bad
    | some d => if args.length = d.np then
        vfinish (vB ⟨vcallN P F (n + 1), vcallN P F n, P.init, P.meth, F⟩ d.body (args.map (fun v => some (false, v)) ++ List.replicate (d.nl - d.np) none) s)
      else .bad
end Ve
end

section
set_option autoImplicit false
set_option Elab.async false
set_option linter.all false
/-! VeB: which heaps show which values. -/
namespace Ve
open Ev
def Fb (α : List Nat) (O : Nat → Prop) (a : Nat) : Prop := a < 2 ∨ a ∈ α ∨ O a
mutual
inductive Rp (α : List Nat) (O : Nat → Prop) (h : Hs) : D → V → Prop
  | non : Rp α O h .non .non
  | bl (b : Bool) : Rp α O h (.bl b) (.bl b)
  | int (i : Int) : Rp α O h (.int i) (.int i)
  | str (s : Tx) : Rp α O h (.str s) (.str s)
  | tup {ds : List D} {vs : List V} : Rps α O h ds vs → Rp α O h (.tup ds) (.tup vs)
  | lst {a : Nat} {ds : List D} {vs : List V} : ¬ Fb α O a → h[a]? = some (.lst ds) → Rps α O h ds vs → Rp α O h (.ref a) (.lst vs)
  | dic {a : Nat} {ks : List (D × D)} {vs : List (D × V)} : ¬ Fb α O a → h[a]? = some (.dic ks) → Rpk α O h ks vs → Rp α O h (.ref a) (.dic vs)
  | obj {a i : Nat} : α[i]? = some a → Rp α O h (.ref a) (.obj i)
  | drw : Rp α O h (.ref 1) .drw
  | exn {a k : Nat} : ¬ Fb α O a → h[a]? = some (.exn k) → Rp α O h (.ref a) (.exn k)
inductive Rps (α : List Nat) (O : Nat → Prop) (h : Hs) : List D → List V → Prop
  | nil : Rps α O h [] []
  | cons {d : D} {v : V} {ds : List D} {vs : List V} : Rp α O h d v → Rps α O h ds vs → Rps α O h (d :: ds) (v :: vs)
inductive Rpk (α : List Nat) (O : Nat → Prop) (h : Hs) : List (D × D) → List (D × V) → Prop
  | nil : Rpk α O h [] []
  | cons {k d : D} {v : V} {r : List (D × D)} {q : List (D × V)} : Rp α O h d v → Rpk α O h r q → Rpk α O h ((k, d) :: r) ((k, v) :: q)
end
inductive Rpf (α : List Nat) (O : Nat → Prop) (h : Hs) : List (Nat × D) → List (Nat × V) → Prop
  | nil : Rpf α O h [] []
  | cons {k : Nat} {d : D} {v : V} {r : List (Nat × D)} {q : List (Nat × V)} : Rp α O h d v → Rpf α O h r q → Rpf α O h ((k, d) :: r) ((k, v) :: q)
inductive Rpo (α : List Nat) (O : Nat → Prop) (h : Hs) : Ob → SO → Prop
  | ins {c : Nat} {fs : List (Nat × D)} {vs : List (Nat × V)} : Rpf α O h fs vs → Rpo α O h (.ins c fs) (.ins c vs)
  | dic {ks : List (D × D)} {vs : List (D × V)} : Rpk α O h ks vs → Rpo α O h (.dic ks) (.dic vs)
structure Mon (α : List Nat) (O : Nat → Prop) (h : Hs) (α' : List Nat) (O' : Nat → Prop) (h' : Hs) : Prop where
  ext : ∀ i a : Nat, α[i]? = some a → α'[i]? = some a
  kp : ∀ (a : Nat) (x : Ob), h[a]? = some x → ¬ Fb α O a → ¬ Fb α' O' a ∧ h'[a]? = some x
section
variable {α α' : List Nat} {O O' : Nat → Prop} {h h' : Hs}
mutual
theorem Rp.mono (m : Mon α O h α' O' h') : ∀ {d : D} {v : V}, Rp α O h d v → Rp α' O' h' d v
  | _, _, .non => .non
  | _, _, .bl b => .bl b
  | _, _, .int b => .int b
  | _, _, .str b => .str b
  | _, _, .tup p => .tup (Rps.mono m p)
  | _, _, .lst n e p => .lst (m.kp _ _ e n).1 (m.kp _ _ e n).2 (Rps.mono m p)
  | _, _, .dic n e p => .dic (m.kp _ _ e n).1 (m.kp _ _ e n).2 (Rpk.mono m p)
  | _, _, .obj e => .obj (m.ext _ _ e)
  | _, _, .drw => .drw
  | _, _, .exn n e => .exn (m.kp _ _ e n).1 (m.kp _ _ e n).2
theorem Rps.mono (m : Mon α O h α' O' h') : ∀ {d : List D} {v : List V}, Rps α O h d v → Rps α' O' h' d v
  | _, _, .nil => .nil
  | _, _, .cons p q => .cons (Rp.mono m p) (Rps.mono m q)
theorem Rpk.mono (m : Mon α O h α' O' h') : ∀ {d : List (D × D)} {v : List (D × V)}, Rpk α O h d v → Rpk α' O' h' d v
  | _, _, .nil => .nil
  | _, _, .cons p q => .cons (Rp.mono m p) (Rpk.mono m q)
end
theorem Rpf.mono (m : Mon α O h α' O' h') : ∀ {d : List (Nat × D)} {v : List (Nat × V)}, Rpf α O h d v → Rpf α' O' h' d v
  | _, _, .nil => .nil
  | _, _, .cons p q => .cons (p.mono m) (q.mono m)
theorem Rpo.mono (m : Mon α O h α' O' h') : ∀ {d : Ob} {v : SO}, Rpo α O h d v → Rpo α' O' h' d v
  | _, _, .ins p => .ins (p.mono m)
  | _, _, .dic p => .dic (p.mono m)
/-- a list or a dict at an address -/
inductive Ct (α : List Nat) (O : Nat → Prop) (h : Hs) : Nat → V → Prop
  | lst {a : Nat} {ds : List D} {vs : List V} : h[a]? = some (.lst ds) → Rps α O h ds vs → Ct α O h a (.lst vs)
  | dic {a : Nat} {ks : List (D × D)} {vs : List (D × V)} : h[a]? = some (.dic ks) → Rpk α O h ks vs → Ct α O h a (.dic vs)
theorem Ct.mono (m : Mon α O h α' O' h') {a : Nat} {v : V} (e : h'[a]? = h[a]?) : Ct α O h a v → Ct α' O' h' a v
  | .lst e1 p => .lst (e.trans e1) (p.mono m)
  | .dic e1 p => .dic (e.trans e1) (p.mono m)
theorem Ct.lt {a : Nat} {v : V} : Ct α O h a v → a < h.length
  | .lst e1 p => (List.getElem?_eq_some_iff.mp e1).1
  | .dic e1 p => (List.getElem?_eq_some_iff.mp e1).1
inductive Vw (α : List Nat) (O : Nat → Prop) (h : Hs) : D → V → Prop
  | rp {d : D} {v : V} : Rp α O h d v → Vw α O h d v
  | ow {a : Nat} {v : V} : 2 ≤ a → a ∉ α → Ct α O h a v → Vw α O h (.ref a) v
inductive Vws (α : List Nat) (O : Nat → Prop) (h : Hs) : List D → List V → Prop
  | nil : Vws α O h [] []
  | cons {d : D} {v : V} {ds : List D} {vs : List V} : Vw α O h d v → Vws α O h ds vs → Vws α O h (d :: ds) (v :: vs)
structure Stp (α : List Nat) (h : Hs) (α' : List Nat) (h' : Hs) : Prop where
  pre : ∃ β, α' = α ++ β ∧ ∀ b ∈ β, h.length ≤ b
  le : h.length ≤ h'.length
  eq : ∀ a : Nat, 2 ≤ a → a < h.length → a ∉ α → h'[a]? = h[a]?
theorem Stp.refl (α : List Nat) (h : Hs) : Stp α h α h := ⟨⟨[], by simp, by simp⟩, Nat.le_refl _, fun _ _ _ _ => rfl⟩
theorem Stp.trans {α'' : List Nat} {h'' : Hs} (s : Stp α h α' h') (t : Stp α' h' α'' h'') : Stp α h α'' h'' := by
  obtain ⟨b1, e1, l1⟩ := s.pre
  obtain ⟨b2, e2, l2⟩ := t.pre
  refine ⟨⟨b1 ++ b2, by rw [e2, e1, List.append_assoc], fun b hb => ?_⟩, Nat.le_trans s.le t.le, fun a a2 al an => ?_⟩
  · rcases List.mem_append.mp hb with m | m
    · exact l1 b m
    · exact Nat.le_trans s.le (l2 b m)
  · rw [t.eq a a2 (Nat.lt_of_lt_of_le al s.le) ?_, s.eq a a2 al an]
    rw [e1]
    intro m
    rcases List.mem_append.mp m with m | m
    · exact an m
    · have := l1 a m; omega
theorem Stp.app (α : List Nat) (h ex : Hs) : Stp α h α (h ++ ex) := ⟨⟨[], by simp, by simp⟩, by simp, fun a _ al _ => List.getElem?_append_left al⟩
theorem Stp.nin (s : Stp α h α' h') {a : Nat} (al : a < h.length) (an : a ∉ α) : a ∉ α' := by
  obtain ⟨b1, e1, l1⟩ := s.pre
  rw [e1]
  intro m
  rcases List.mem_append.mp m with m | m
  · exact an m
  · have := l1 a m; omega
theorem Stp.ext (s : Stp α h α' h') (i a : Nat) (e : α[i]? = some a) : α'[i]? = some a := by
  obtain ⟨b1, e1, l1⟩ := s.pre
  rw [e1, List.getElem?_append_left (List.getElem?_eq_some_iff.mp e).1, e]
theorem Stp.mon (s : Stp α h α' h') (ho : ∀ a, O' a → O a ∨ h.length ≤ a) : Mon α O h α' O' h' := ⟨s.ext, fun a x e n => by
  have al := (List.getElem?_eq_some_iff.mp e).1
  have a2 : 2 ≤ a := by
    rcases Nat.lt_or_ge a 2 with q | q
    · exact absurd (.inl q) n
    · exact q
  have an : a ∉ α := fun m => n (.inr (.inl m))
  refine ⟨fun f => ?_, (s.eq a a2 al an).trans e⟩
  rcases f with f | f | f
  · omega
  · exact s.nin al an f
  · rcases ho a f with f | f
    · exact n (.inr (.inr f))
    · omega⟩
theorem Stp.mon0 (s : Stp α h α' h') : Mon α O h α' O h' := s.mon fun _ z => .inl z
/-- fewer cells that are owned -/
theorem Mon.weak (ho : ∀ a, O' a → O a) : Mon α O h α O' h := ⟨fun _ _ e => e, fun a x e n => ⟨fun f => n (by
  rcases f with f | f | f
  · exact .inl f
  · exact .inr (.inl f)
  · exact .inr (.inr (ho a f))), e⟩⟩
theorem Vw.mono (s : Stp α h α' h') {d : D} {v : V} : Vw α O h d v → Vw α' O h' d v
  | .rp p => .rp (p.mono s.mon0)
  | .ow a2 an c => .ow a2 (s.nin c.lt an) (c.mono s.mon0 (s.eq _ a2 c.lt an))
theorem Vws.mono (s : Stp α h α' h') : ∀ {d : List D} {v : List V}, Vws α O h d v → Vws α' O h' d v
  | _, _, .nil => .nil
  | _, _, .cons p q => .cons (p.mono s) (q.mono s)
structure Wd (α : List Nat) (O : Nat → Prop) (h : Hs) (s : St) : Prop where
  d0 : h[0]? = some (.lst (s.dr.xs.map .int))
  d1 : h[1]? = some (.lst [.ref 0, .int s.dr.c])
  nd : α.Nodup
  al : ∀ a ∈ α, 2 ≤ a ∧ a < h.length
  len : α.length = s.ob.length
  ob : ∀ (i a : Nat) (o : SO), α[i]? = some a → s.ob[i]? = some o → ∃ x, h[a]? = some x ∧ Rpo α O h x o
  ow : ∀ a, O a → 2 ≤ a ∧ a < h.length ∧ a ∉ α
theorem Wd.weak {s : St} (w : Wd α O h s) (ho : ∀ a, O' a → O a) : Wd α O' h s := ⟨w.d0, w.d1, w.nd, w.al, w.len, fun i a o e1 e2 => by
  obtain ⟨x, e, p⟩ := w.ob i a o e1 e2
  exact ⟨x, e, p.mono (Mon.weak ho)⟩, fun a z => w.ow a (ho a z)⟩
/-- new cells behind -/
theorem Wd.app {s : St} (w : Wd α O h s) (ex : Hs) : Wd α O (h ++ ex) s := by
  have m : Mon α O h α O (h ++ ex) := (Stp.app α h ex).mon0
  have two : 2 ≤ h.length := by have := (List.getElem?_eq_some_iff.mp w.d1).1; omega
  refine ⟨?_, ?_, w.nd, fun a ha => ⟨(w.al a ha).1, ?_⟩, w.len, fun i a o e1 e2 => ?_, fun a z => ⟨(w.ow a z).1, ?_, (w.ow a z).2.2⟩⟩
  · rw [List.getElem?_append_left (by omega)]; exact w.d0
  · rw [List.getElem?_append_left (by omega)]; exact w.d1
  · have := (w.al a ha).2; simp; omega
  · obtain ⟨x, e, p⟩ := w.ob i a o e1 e2
    exact ⟨x, by rw [List.getElem?_append_left (List.getElem?_eq_some_iff.mp e).1]; exact e, p.mono m⟩
  · have := (w.ow a z).2.1; simp; omega
def Oa (O : Nat → Prop) (a : Nat) (b : Nat) : Prop := O b ∨ b = a
/-- a new cell, owned -/
theorem Wd.own {s : St} (w : Wd α O h s) (x : Ob) : Wd α (Oa O h.length) (h ++ [x]) s := by
  have w' := w.app [x]
  have m : Mon α O h α (Oa O h.length) (h ++ [x]) := (Stp.app α h [x]).mon fun a z => by
    rcases z with z | z
    · exact .inl z
    · exact .inr (by omega)
  refine ⟨w'.d0, w'.d1, w'.nd, w'.al, w'.len, fun i a o e1 e2 => ?_, fun a z => ?_⟩
  · obtain ⟨y, e, p⟩ := w.ob i a o e1 e2
    exact ⟨y, by rw [List.getElem?_append_left (List.getElem?_eq_some_iff.mp e).1]; exact e, p.mono m⟩
  · rcases z with z | z
    · exact w'.ow a z
    · have two : 2 ≤ h.length := by have := (List.getElem?_eq_some_iff.mp w.d1).1; omega
      subst z
      refine ⟨two, by simp, fun m => ?_⟩
      have := (w.al _ m).2; omega
theorem Wd.two {s : St} (w : Wd α O h s) : 2 ≤ h.length := by have := (List.getElem?_eq_some_iff.mp w.d1).1; omega
inductive Res (lo : Nat) (O : Nat → Prop) (α : List Nat) (h : Hs) (s : St) : D → FV → Prop
  | sh {d : D} {v : V} : Wd α O h s → Rp α O h d v → Res lo O α h s d (.sh, v)
  | bo {a : Nat} {v : V} : Wd α O h s → O a → Ct α O h a v → Res lo O α h s (.ref a) (.bo, v)
  | fr {a : Nat} {v : V} : Wd α (Oa O a) h s → lo ≤ a → Ct α (Oa O a) h a v → Res lo O α h s (.ref a) (.fr, v)
theorem Res.lo {lo lo' : Nat} (hl : lo' ≤ lo) {s : St} {d : D} {x : FV} : Res lo O α h s d x → Res lo' O α h s d x
  | .sh w p => .sh w p
  | .bo w o c => .bo w o c
  | .fr w l c => .fr w (Nat.le_trans hl l) c
theorem Res.wd {lo : Nat} {s : St} {d : D} {x : FV} : Res lo O α h s d x → Wd α O h s
  | .sh w p => w
  | .bo w o c => w
  | .fr w l c => w.weak fun _ z => .inl z
theorem Res.vw {lo : Nat} {s : St} {d : D} {x : FV} : Res lo O α h s d x → Vw α O h d x.2
  | .sh w p => .rp p
  | .bo w o c => .ow (w.ow _ o).1 (w.ow _ o).2.2 c
  | .fr w l c => .ow (w.ow _ (.inr rfl)).1 (w.ow _ (.inr rfl)).2.2 (c.mono (Mon.weak fun _ z => .inl z) rfl)
theorem Ct.rp {a : Nat} {v : V} (n : ¬ Fb α O a) : Ct α O h a v → Rp α O h (.ref a) v
  | .lst e p => .lst n e p
  | .dic e p => .dic n e p
theorem Res.rp {lo : Nat} (hO : ∀ a, O a → a < lo) {s : St} {d : D} {x : FV} (r : Res lo O α h s d x) (hx : x.1 ≠ .bo) : Rp α O h d x.2 := by
  cases r with
  | sh w p => exact p
  | bo w o c => exact absurd rfl hx
  | fr w l c =>
    have o := w.ow _ (.inr rfl)
    refine (c.mono (Mon.weak fun _ z => .inl z) rfl).rp fun f => ?_
    rcases f with f | f | f
    · omega
    · exact o.2.2 f
    · have := hO _ f; omega
/-! ### runs side by side -/
def Sim {A B : Type} (α : List Nat) (O : Nat → Prop) (h : Hs) (r : R A) (q : VR B) (Q : List Nat → Hs → St → A → B → Prop) : Prop := match q with
  | .ok x s => ∃ α' h' d, r = .ok d h' ∧ Stp α h α' h' ∧ Q α' h' s d x
  | .exc k s => ∃ α' h', r = .exc k h' ∧ Stp α h α' h' ∧ Wd α' O h' s
  | .bad => True
theorem Sim.bind {A B C E : Type} {r : R A} {q : VR B} {Q : List Nat → Hs → St → A → B → Prop} {f : A → Hs → R C} {g : B → St → VR E} {Q' : List Nat → Hs → St → C → E → Prop}
    (H : Sim α O h r q Q) (K : ∀ α' h' s d x, Stp α h α' h' → Q α' h' s d x → Sim α' O h' (f d h') (g x s) Q') : Sim α O h (r.bind f) (q.bind g) Q' := by
  cases q with
  | ok x s =>
    obtain ⟨α', h', d, e, st, hq⟩ := H
    subst e
    have k := K α' h' s d x st hq
    simp only [R.bind, VR.bind]
    revert k
    unfold Sim
    cases g x s with
    | ok y s2 =>
      rintro ⟨α2, h2, d2, e2, st2, q2⟩
      exact ⟨α2, h2, d2, e2, st.trans st2, q2⟩
    | exc k s2 =>
      rintro ⟨α2, h2, e2, st2, q2⟩
      exact ⟨α2, h2, e2, st.trans st2, q2⟩
    | bad => exact id
  | exc k s =>
    obtain ⟨α', h', e, st, hq⟩ := H
    subst e
    exact ⟨α', h', rfl, st, hq⟩
  | bad => trivial
theorem Sim.step {A B : Type} {r : R A} {q : VR B} {Q : List Nat → Hs → St → A → B → Prop} (st : Stp α h α' h') (H : Sim α' O h' r q Q) : Sim α O h r q Q := by
  revert H
  unfold Sim
  cases q with
  | ok y s2 =>
    rintro ⟨α2, h2, d2, e2, st2, q2⟩
    exact ⟨α2, h2, d2, e2, st.trans st2, q2⟩
  | exc k s2 =>
    rintro ⟨α2, h2, e2, st2, q2⟩
    exact ⟨α2, h2, e2, st.trans st2, q2⟩
  | bad => exact id
theorem Sim.mp {A B : Type} {r : R A} {q : VR B} {Q Q' : List Nat → Hs → St → A → B → Prop} (H : Sim α O h r q Q) (k : ∀ α' h' s d x, Q α' h' s d x → Q' α' h' s d x) : Sim α O h r q Q' := by
  revert H
  unfold Sim
  cases q with
  | ok y s2 =>
    rintro ⟨α2, h2, d2, e2, st2, q2⟩
    exact ⟨α2, h2, d2, e2, st2, k _ _ _ _ _ q2⟩
  | exc k s2 => exact id
  | bad => exact id
theorem Sim.bind' {A B : Type} {r : R A} {q : VR B} {Q Q' : List Nat → Hs → St → A → B → Prop} (H : Sim α O h r q Q) (k : ∀ α' h' s d x, Stp α h α' h' → Q α' h' s d x → Q' α' h' s d x) : Sim α O h r q Q' := by
  revert H
  unfold Sim
  cases q with
  | ok y s2 =>
    rintro ⟨α2, h2, d2, e2, st2, q2⟩
    exact ⟨α2, h2, d2, e2, st2, k _ _ _ _ _ st2 q2⟩
  | exc k s2 => exact id
  | bad => exact id
theorem Sim.unb {A B : Type} {lo : Nat} (hO : ∀ a, O a → a < lo) {r : R A} {g : V → St → VR B} {Q : List Nat → Hs → St → A → B → Prop} {s : St} {d : D} {x : FV} (rs : Res lo O α h s d x)
    (K : Rp α O h d x.2 → Sim α O h r (g x.2 s) Q) : Sim α O h r ((unb x s).bind g) Q := by
  obtain ⟨f, v⟩ := x
  cases f with
  | sh => exact K (rs.rp hO (by simp))
  | bo => trivial
  | fr => exact K (rs.rp hO (by simp))
theorem Sim.val {lo : Nat} {s : St} (w : Wd α O h s) {d : D} {v : V} (p : Rp α O h d v) : Sim α O h (.ok d h) (.ok (.sh, v) s) (Res lo O) := ⟨α, h, d, rfl, .refl α h, .sh w p⟩
theorem Wd.new {lo : Nat} {s : St} (w : Wd α O h s) (hl : lo ≤ h.length) {ds : List D} {vs : List V} (p : Rps α O h ds vs) : Res lo O α (h ++ [.lst ds]) s (.ref h.length) (.fr, .lst vs) :=
  .fr (w.own _) hl (.lst (by simp) (p.mono ((Stp.app α h [.lst ds]).mon fun a z => by
    rcases z with z | z
    · exact .inl z
    · exact .inr (by omega))))
theorem Wd.newd {lo : Nat} {s : St} (w : Wd α O h s) (hl : lo ≤ h.length) {ds : List (D × D)} {vs : List (D × V)} (p : Rpk α O h ds vs) : Res lo O α (h ++ [.dic ds]) s (.ref h.length) (.fr, .dic vs) :=
  .fr (w.own _) hl (.dic (by simp) (p.mono ((Stp.app α h [.dic ds]).mon fun a z => by
    rcases z with z | z
    · exact .inl z
    · exact .inr (by omega))))
theorem Sim.new {lo : Nat} {s : St} (w : Wd α O h s) (hl : lo ≤ h.length) {ds : List D} {vs : List V} (p : Rps α O h ds vs) : Sim α O h (.ok (.ref h.length) (h ++ [.lst ds])) (.ok (.fr, .lst vs) s) (Res lo O) :=
  ⟨α, _, _, rfl, .app α h _, w.new hl p⟩
end
end Ve
end

section
set_option autoImplicit false
set_option Elab.async false
set_option linter.all false
/-! VeC: data side by side. -/
namespace Ve
open Ev
section
variable {α : List Nat} {O : Nat → Prop} {h : Hs} {s : St}
theorem Vw.non' {d : D} : Vw α O h d .non → d = .non
  | .rp .non => rfl
  | .ow _ _ c => by cases c
theorem Vw.bl' {d : D} {b : Bool} : Vw α O h d (.bl b) → d = .bl b
  | .rp (.bl _) => rfl
  | .ow _ _ c => by cases c
theorem Vw.int' {d : D} {b : Int} : Vw α O h d (.int b) → d = .int b
  | .rp (.int _) => rfl
  | .ow _ _ c => by cases c
theorem Vw.str' {d : D} {b : Tx} : Vw α O h d (.str b) → d = .str b
  | .rp (.str _) => rfl
  | .ow _ _ c => by cases c
theorem Vw.tup' {d : D} {vs : List V} : Vw α O h d (.tup vs) → ∃ ds, d = .tup ds ∧ Rps α O h ds vs
  | .rp (.tup p) => ⟨_, rfl, p⟩
  | .ow _ _ c => by cases c
theorem Vw.lst' {d : D} {vs : List V} : Vw α O h d (.lst vs) → ∃ a ds, d = .ref a ∧ h[a]? = some (.lst ds) ∧ Rps α O h ds vs ∧ 2 ≤ a ∧ a ∉ α
  | .rp (.lst n e p) => ⟨_, _, rfl, e, p, Nat.le_of_not_lt fun z => n (.inl z), fun z => n (.inr (.inl z))⟩
  | .ow a2 an (.lst e p) => ⟨_, _, rfl, e, p, a2, an⟩
theorem Vw.dic' {d : D} {vs : List (D × V)} : Vw α O h d (.dic vs) → ∃ a ds, d = .ref a ∧ h[a]? = some (.dic ds) ∧ Rpk α O h ds vs
  | .rp (.dic n e p) => ⟨_, _, rfl, e, p⟩
  | .ow _ _ (.dic e p) => ⟨_, _, rfl, e, p⟩
theorem Vw.obj' {d : D} {i : Nat} : Vw α O h d (.obj i) → ∃ a, d = .ref a ∧ α[i]? = some a
  | .rp (.obj e) => ⟨_, rfl, e⟩
  | .ow _ _ c => by cases c
theorem Vw.exn' {d : D} {k : Nat} : Vw α O h d (.exn k) → ∃ a, d = .ref a ∧ h[a]? = some (.exn k)
  | .rp (.exn _ e) => ⟨_, rfl, e⟩
  | .ow _ _ c => by cases c
theorem Vw.drw' {d : D} : Vw α O h d .drw → d = .ref 1
  | .rp .drw => rfl
  | .ow _ _ c => by cases c
theorem Wd.at_ (w : Wd α O h s) {i a : Nat} {o : SO} (e1 : α[i]? = some a) (e2 : s.ob[i]? = some o) : ∃ x, h[a]? = some x ∧ Rpo α O h x o := w.ob i a o e1 e2
/-! ### rows -/
theorem Rps.len : ∀ {ds : List D} {vs : List V}, Rps α O h ds vs → ds.length = vs.length
  | _, _, .nil => rfl
  | _, _, .cons _ q => by simp [q.len]
theorem Rps.app : ∀ {ds : List D} {vs : List V} {ds' : List D} {vs' : List V}, Rps α O h ds vs → Rps α O h ds' vs' → Rps α O h (ds ++ ds') (vs ++ vs')
  | _, _, _, _, .nil, q => q
  | _, _, _, _, .cons p r, q => .cons p (r.app q)
theorem Rps.get : ∀ {ds : List D} {vs : List V} {j : Nat} {v : V}, Rps α O h ds vs → vs[j]? = some v → ∃ d, ds[j]? = some d ∧ Rp α O h d v
  | _, _, 0, _, .cons p r, e => by
    simp at e; subst e; exact ⟨_, rfl, p⟩
  | _, _, j + 1, _, .cons p r, e => by
    simp at e
    obtain ⟨d, e1, e2⟩ := r.get e
    exact ⟨d, by simpa using e1, e2⟩
theorem Rps.drop : ∀ (n : Nat) {ds : List D} {vs : List V}, Rps α O h ds vs → Rps α O h (ds.drop n) (vs.drop n)
  | 0, _, _, p => p
  | n + 1, _, _, .nil => .nil
  | n + 1, _, _, .cons p r => r.drop n
theorem Rps.take : ∀ (n : Nat) {ds : List D} {vs : List V}, Rps α O h ds vs → Rps α O h (ds.take n) (vs.take n)
  | 0, _, _, p => .nil
  | n + 1, _, _, .nil => .nil
  | n + 1, _, _, .cons p r => .cons p (r.take n)
theorem Rps.cut {ds : List D} {vs : List V} (p : Rps α O h ds vs) (l u : Option Int) : Rps α O h (Ev.cut ds l u) (Ev.cut vs l u) := by
  unfold Ev.cut
  rw [p.len]
  exact (p.drop _).take _
theorem Rps.rev : ∀ {ds : List D} {vs : List V}, Rps α O h ds vs → Rps α O h ds.reverse vs.reverse
  | _, _, .nil => .nil
  | _, _, .cons p r => by
    rw [List.reverse_cons, List.reverse_cons]
    exact r.rev.app (.cons p .nil)
theorem Rps.rep {ds : List D} {vs : List V} (p : Rps α O h ds vs) : ∀ n : Nat, Rps α O h (List.replicate n ds).flatten (List.replicate n vs).flatten
  | 0 => .nil
  | n + 1 => by
    rw [List.replicate_succ, List.replicate_succ, List.flatten_cons, List.flatten_cons]
    exact p.app (p.rep n)
theorem Rps.set : ∀ {ds : List D} {vs : List V} {d : D} {v : V} (j : Nat), Rps α O h ds vs → Rp α O h d v → Rps α O h (ds.set j d) (vs.set j v)
  | _, _, _, _, _, .nil, _ => .nil
  | _, _, _, _, 0, .cons p r, q => .cons q r
  | _, _, _, _, j + 1, .cons p r, q => .cons p (r.set j q)
theorem Rps.emp {ds : List D} {vs : List V} (p : Rps α O h ds vs) : ds.isEmpty = vs.isEmpty := by cases p <;> rfl
theorem Rps.strs : ∀ l : List Tx, Rps α O h (l.map .str) (l.map .str)
  | [] => .nil
  | t :: l => .cons (.str t) (Rps.strs l)
theorem Rps.chars : ∀ l : Tx, Rps α O h (l.map fun c => .str [c]) (l.map fun c => .str [c])
  | [] => .nil
  | t :: l => .cons (.str _) (Rps.chars l)
theorem Rps.ints {β : Type} (f : β → Int) : ∀ l : List β, Rps α O h (l.map fun c => .int (f c)) (l.map fun c => .int (f c))
  | [] => .nil
  | t :: l => .cons (.int _) (Rps.ints f l)
theorem Rps.intsE : ∀ {ds : List D} {vs : List V}, Rps α O h ds vs → intsOf ds = intsV vs
  | _, _, .nil => rfl
  | _, _, .cons p r => by
    cases p with
    | int i => simp [intsOf, intsV, r.intsE]
    | _ => rfl
theorem Rps.strsE : ∀ {ds : List D} {vs : List V}, Rps α O h ds vs → strsOf ds = strsV vs
  | _, _, .nil => rfl
  | _, _, .cons p r => by
    cases p with
    | str i => simp [strsOf, strsV, r.strsE]
    | _ => rfl
theorem Rps.bolsE : ∀ {ds : List D} {vs : List V}, Rps α O h ds vs → bolsOf ds = bolsV vs
  | _, _, .nil => rfl
  | _, _, .cons p r => by
    cases p with
    | bl i => simp [bolsOf, bolsV, r.bolsE]
    | _ => rfl
theorem Rps.vws : ∀ {ds : List D} {vs : List V}, Rps α O h ds vs → Vws α O h ds vs
  | _, _, .nil => .nil
  | _, _, .cons p r => .cons (.rp p) r.vws
mutual
theorem Rp.of : ∀ {d : D}, prD d = true → Rp α O h d (ofD d)
  | .non, _ => .non
  | .bl b, _ => .bl b
  | .int i, _ => .int i
  | .str t, _ => .str t
  | .tup xs, p => .tup (Rps.of (by simpa [prD] using p))
  | .ref _, p => by cases p
theorem Rps.of : ∀ {d : List D}, prDs d = true → Rps α O h d (ofDs d)
  | [], _ => .nil
  | x :: xs, p => by
    simp only [prDs, Bool.and_eq_true] at p
    exact .cons (Rp.of p.1) (Rps.of p.2)
end
/-! ### keys, equality -/
mutual
theorem Rp.key : ∀ {v : V} {d k : D}, Rp α O h d v → key v = some k → d = k
  | .non, _, _, p, e => by cases p; simpa [Ve.key] using e
  | .bl b, _, _, p, e => by cases p; simpa [Ve.key] using e
  | .int b, _, _, p, e => by cases p; simpa [Ve.key] using e
  | .str b, _, _, p, e => by cases p; simpa [Ve.key] using e
  | .tup vs, _, _, p, e => by
    cases p with
    | tup p =>
      simp only [Ve.key, Option.map_eq_some_iff] at e
      obtain ⟨ks, e1, e2⟩ := e
      rw [← e2, Rps.key p e1]
  | .lst _, _, _, p, e => by simp [Ve.key] at e
  | .dic _, _, _, p, e => by simp [Ve.key] at e
  | .obj _, _, _, p, e => by simp [Ve.key] at e
  | .drw, _, _, p, e => by simp [Ve.key] at e
  | .exn _, _, _, p, e => by simp [Ve.key] at e
theorem Rps.key : ∀ {v : List V} {d k : List D}, Rps α O h d v → keys v = some k → d = k
  | [], _, _, p, e => by cases p; simpa [Ve.keys] using e
  | v :: vs, _, _, p, e => by
    cases p with
    | cons p q =>
      simp only [Ve.keys] at e
      split at e
      · rename_i d ds e1 e2
        rw [Rp.key p e1, Rps.key q e2]
        simpa using e
      · cases e
end
theorem Vw.key {v : V} {d k : D} (w : Vw α O h d v) (e : Ve.key v = some k) : d = k := by
  cases w with
  | rp p => exact p.key e
  | ow _ _ c => cases c <;> simp [Ve.key] at e
theorem omap_ok {f : D → Option T} {g : V → Option T} (k : ∀ d v t, Rp α O h d v → g v = some t → f d = some t) : ∀ {ds : List D} {vs : List V} {ts : List T}, Rps α O h ds vs → omap g vs = some ts → omap f ds = some ts
  | _, _, _, .nil, e => e
  | _, _, _, .cons p r, e => by
    simp only [omap] at e
    split at e
    · rename_i y ys e1 e2
      simp only [omap, k _ _ _ p e1, omap_ok k r e2]
      exact e
    · cases e
theorem reify_ok : ∀ (n : Nat) (d : D) (v : V) (t : T), Rp α O h d v → vT n v = some t → reify h n d = some t
  | 0, _, _, _, _, e => by simp [vT] at e
  | n + 1, d, v, t, p, e => by
    cases p with
    | tup p =>
      simp only [vT, Option.map_eq_some_iff] at e
      obtain ⟨ts, e1, e2⟩ := e
      simp only [reify, omap_ok (reify_ok n) p e1, Option.map_some, e2]
    | lst _ e0 p =>
      simp only [vT, Option.map_eq_some_iff] at e
      obtain ⟨ts, e1, e2⟩ := e
      simp only [reify, e0, omap_ok (reify_ok n) p e1, Option.map_some, e2]
    | non => exact e
    | bl b => exact e
    | int b => exact e
    | str b => exact e
    | _ => simp [vT] at e
theorem reify_vw (n : Nat) {d : D} {v : V} {t : T} (w : Vw α O h d v) (e : vT n v = some t) : reify h n d = some t := by
  cases w with
  | rp p => exact reify_ok n d v t p e
  | ow _ _ c =>
    cases n with
    | zero => simp [vT] at e
    | succ n =>
      cases c with
      | lst e0 p =>
        simp only [vT, Option.map_eq_some_iff] at e
        obtain ⟨ts, e1, e2⟩ := e
        simp only [reify, e0, omap_ok (reify_ok n) p e1, Option.map_some, e2]
      | dic e0 p => simp [vT] at e
theorem deq_ok {d e : D} {v w : V} {b : Bool} (p : Vw α O h d v) (q : Vw α O h e w) (hb : veq v w = some b) : deq h d e = some b := by
  have gen : (match vT 40 v, vT 40 w with
    | some x, some y => some (T.beq x y)
    | _, _ => none) = some b → (match reify h 40 d, reify h 40 e with
    | some x, some y => some (T.beq x y)
    | _, _ => none) = some b := fun z => by
    cases e1 : vT 40 v with
    | none => simp [e1] at z
    | some x =>
      cases e2 : vT 40 w with
      | none => simp [e1, e2] at z
      | some y =>
        simp only [e1, e2] at z
        simp only [reify_vw 40 p e1, reify_vw 40 q e2, z]
  cases v with
  | non => cases p.non'; cases w with
    | non => cases q.non'; simpa [veq, deq] using hb
    | bl c => cases q.bl'; exact gen hb
    | int c => cases q.int'; simpa [veq, deq] using hb
    | str c => cases q.str'; simpa [veq, deq] using hb
    | tup c => obtain ⟨_, rfl, _⟩ := q.tup'; exact gen hb
    | lst c => obtain ⟨_, _, rfl, _⟩ := q.lst'; exact gen hb
    | _ => simp [veq, vT] at hb
  | bl a => cases p.bl'; cases w with
    | non => cases q.non'; exact gen hb
    | bl c => cases q.bl'; simpa [veq, deq] using hb
    | int c => cases q.int'; exact gen hb
    | str c => cases q.str'; exact gen hb
    | tup c => obtain ⟨_, rfl, _⟩ := q.tup'; exact gen hb
    | lst c => obtain ⟨_, _, rfl, _⟩ := q.lst'; exact gen hb
    | _ => simp [veq, vT] at hb
  | int a => cases p.int'; cases w with
    | non => cases q.non'; simpa [veq, deq] using hb
    | bl c => cases q.bl'; exact gen hb
    | int c => cases q.int'; simpa [veq, deq] using hb
    | str c => cases q.str'; simpa [veq, deq] using hb
    | tup c => obtain ⟨_, rfl, _⟩ := q.tup'; exact gen hb
    | lst c => obtain ⟨_, _, rfl, _⟩ := q.lst'; exact gen hb
    | _ => simp [veq, vT] at hb
  | str a => cases p.str'; cases w with
    | non => cases q.non'; simpa [veq, deq] using hb
    | bl c => cases q.bl'; exact gen hb
    | int c => cases q.int'; simpa [veq, deq] using hb
    | str c => cases q.str'; simpa [veq, deq] using hb
    | tup c => obtain ⟨_, rfl, _⟩ := q.tup'; exact gen hb
    | lst c => obtain ⟨_, _, rfl, _⟩ := q.lst'; exact gen hb
    | _ => have hb' := gen hb; simp [veq, vT] at hb
  | tup a =>
    obtain ⟨_, rfl, _⟩ := p.tup'
    cases w with
    | non => cases q.non'; exact gen hb
    | bl c => cases q.bl'; exact gen hb
    | int c => cases q.int'; exact gen hb
    | str c => cases q.str'; exact gen hb
    | tup c => obtain ⟨_, rfl, _⟩ := q.tup'; exact gen hb
    | lst c => obtain ⟨_, _, rfl, _⟩ := q.lst'; exact gen hb
    | _ => have hb' := gen hb; simp [veq, vT] at hb
  | lst a =>
    obtain ⟨_, _, rfl, _⟩ := p.lst'
    cases w with
    | non => cases q.non'; exact gen hb
    | bl c => cases q.bl'; exact gen hb
    | int c => cases q.int'; exact gen hb
    | str c => cases q.str'; exact gen hb
    | tup c => obtain ⟨_, rfl, _⟩ := q.tup'; exact gen hb
    | lst c => obtain ⟨_, _, rfl, _⟩ := q.lst'; exact gen hb
    | _ => have hb' := gen hb; simp [veq, vT] at hb
  | _ => cases w <;> simp [veq, vT] at hb

theorem flat_vw {d : D} {v : V} (p : Vw α O h d v) (f : flatV v = true) : flatD d = true := by
  cases v with
  | non => cases p.non'; rfl
  | bl b => cases p.bl'; rfl
  | int b => cases p.int'; rfl
  | str b => cases p.str'; rfl
  | _ => simp [flatV] at f
theorem flats_rp : ∀ {ds : List D} {vs : List V}, Rps α O h ds vs → vs.all flatV = true → ds.all flatD = true
  | _, _, .nil, _ => rfl
  | _, _, .cons p r, e => by
    simp only [List.all_cons, Bool.and_eq_true] at e ⊢
    exact ⟨flat_vw (.rp p) e.1, flats_rp r e.2⟩
theorem seq_vw {d e : D} {v w : V} (p : Vw α O h d v) (q : Vw α O h e w) (fv : flatV v = true) (fw : flatV w = true) : seq d e = vseq v w := by
  cases v with
  | non => cases p.non'; cases w with
    | non => cases q.non'; rfl
    | bl b => cases q.bl'; rfl
    | int b => cases q.int'; rfl
    | str b => cases q.str'; rfl
    | _ => simp [flatV] at fw
  | bl a => cases p.bl'; cases w with
    | non => cases q.non'; rfl
    | bl b => cases q.bl'; rfl
    | int b => cases q.int'; rfl
    | str b => cases q.str'; rfl
    | _ => simp [flatV] at fw
  | int a => cases p.int'; cases w with
    | non => cases q.non'; rfl
    | bl b => cases q.bl'; rfl
    | int b => cases q.int'; rfl
    | str b => cases q.str'; rfl
    | _ => simp [flatV] at fw
  | str a => cases p.str'; cases w with
    | non => cases q.non'; rfl
    | bl b => cases q.bl'; rfl
    | int b => cases q.int'; rfl
    | str b => cases q.str'; rfl
    | _ => simp [flatV] at fw
  | _ => simp [flatV] at fv
theorem any_seq {x : D} {v : V} (p : Vw α O h x v) (fv : flatV v = true) : ∀ {ds : List D} {vs : List V}, Rps α O h ds vs → vs.all flatV = true → (ds.any fun y => seq y x) = vs.any fun y => vseq y v
  | _, _, .nil, _ => rfl
  | _, _, .cons q r, e => by
    simp only [List.all_cons, Bool.and_eq_true] at e
    simp only [List.any_cons, seq_vw (.rp q) p e.1 fv, any_seq p fv r e.2]
theorem filter_seq {x : D} {v : V} (p : Vw α O h x v) (fv : flatV v = true) : ∀ {ds : List D} {vs : List V}, Rps α O h ds vs → vs.all flatV = true → (ds.filter fun y => seq y x).length = (vs.filter fun y => vseq y v).length
  | _, _, .nil, _ => rfl
  | _, _, .cons q r, e => by
    simp only [List.all_cons, Bool.and_eq_true] at e
    simp only [List.filter_cons, seq_vw (.rp q) p e.1 fv]
    split
    · simp [filter_seq p fv r e.2]
    · exact filter_seq p fv r e.2
theorem first_seq {x : D} {v : V} (p : Vw α O h x v) (fv : flatV v = true) : ∀ {ds : List D} {vs : List V}, Rps α O h ds vs → vs.all flatV = true → firstIx (fun y => seq y x) ds = vfirst (fun y => vseq y v) vs
  | _, _, .nil, _ => rfl
  | _, _, .cons q r, e => by
    simp only [List.all_cons, Bool.and_eq_true] at e
    simp only [firstIx, vfirst, seq_vw (.rp q) p e.1 fv, first_seq p fv r e.2]
/-- items that are flat are what they are -/
theorem flat_back {d : D} {v : V} (p : Vw α O h d v) (f : flatD d = true) : flatV v = true := by
  cases v with
  | non => rfl
  | bl b => rfl
  | int b => rfl
  | str b => rfl
  | tup _ => obtain ⟨_, rfl, _⟩ := p.tup'; simp [flatD] at f
  | lst _ => obtain ⟨_, _, rfl, _⟩ := p.lst'; simp [flatD] at f
  | dic _ => obtain ⟨_, _, rfl, _⟩ := p.dic'; simp [flatD] at f
  | obj _ => obtain ⟨_, rfl, _⟩ := p.obj'; simp [flatD] at f
  | drw => cases p.drw'; simp [flatD] at f
  | exn _ => obtain ⟨_, rfl, _⟩ := p.exn'; simp [flatD] at f
theorem flat_iff {d : D} {v : V} (p : Vw α O h d v) : flatD d = flatV v := by
  cases e : flatV v with
  | true => exact flat_vw p e
  | false =>
    cases e2 : flatD d with
    | true => rw [flat_back p e2] at e; cases e
    | false => rfl
theorem flats_iff : ∀ {ds : List D} {vs : List V}, Rps α O h ds vs → ds.all flatD = vs.all flatV
  | _, _, .nil => rfl
  | _, _, .cons p r => by simp only [List.all_cons, flat_iff (.rp p), flats_iff r]
theorem dmem_ok {x : D} {v : V} {ds : List D} {vs : List V} {b : Bool} (p : Vw α O h x v) (r : Rps α O h ds vs) (e : vmem v vs = some b) : dmem h x ds = some b := by
  unfold vmem at e
  unfold dmem
  rw [flat_iff p, flats_iff r]
  split at e
  · rename_i c
    rw [if_pos c]
    simp only [Bool.and_eq_true] at c
    rw [any_seq p c.1 r c.2]
    exact e
  · rename_i c
    rw [if_neg c]
    split at e
    · rename_i t ts e1 e2
      simp only [reify_vw 40 p e1, omap_ok (reify_ok 40) r e2]
      exact e
    · cases e
theorem dcount_ok {x : D} {v : V} {ds : List D} {vs : List V} {b : Nat} (p : Vw α O h x v) (r : Rps α O h ds vs) (e : vcount v vs = some b) : dcount x ds = some b := by
  unfold vcount at e
  unfold dcount
  rw [flat_iff p, flats_iff r]
  split at e
  · rename_i c
    rw [if_pos c]
    simp only [Bool.and_eq_true] at c
    rw [filter_seq p c.1 r c.2]
    exact e
  · cases e
theorem dindex_ok {x : D} {v : V} {ds : List D} {vs : List V} {b : Nat} (p : Vw α O h x v) (r : Rps α O h ds vs) (e : vindex v vs = some b) : dindex x ds = some b := by
  unfold vindex at e
  unfold dindex
  rw [flat_iff p, flats_iff r]
  split at e
  · rename_i c
    rw [if_pos c]
    simp only [Bool.and_eq_true] at c
    rw [first_seq p c.1 r c.2]
    exact e
  · cases e
/-! ### dicts -/
theorem Rpk.len : ∀ {ks : List (D × D)} {vs : List (D × V)}, Rpk α O h ks vs → ks.length = vs.length
  | _, _, .nil => rfl
  | _, _, .cons _ r => by simp [r.len]
theorem Rpk.kin (k : D) {ks : List (D × D)} {vs : List (D × V)} (p : Rpk α O h ks vs) : kinOk k ks = vkin k vs := by
  unfold kinOk vkin
  congr 1
  induction ks generalizing vs with
  | nil => cases p; rfl
  | cons a ks ih =>
    cases p with
    | cons q r => simp only [List.all_cons, ih r]
theorem Rpk.get (k : D) : ∀ {ks : List (D × D)} {vs : List (D × V)}, Rpk α O h ks vs → (vget k vs = none ∧ dget k ks = none) ∨ ∃ v d, vget k vs = some v ∧ dget k ks = some d ∧ Rp α O h d v
  | _, _, .nil => .inl ⟨rfl, rfl⟩
  | _, _, .cons (k := k') p r => by
    unfold vget dget
    split
    · exact .inr ⟨_, _, rfl, rfl, p⟩
    · exact r.get k
theorem Rpk.put (k : D) {d : D} {v : V} (q : Rp α O h d v) : ∀ {ks : List (D × D)} {vs : List (D × V)}, Rpk α O h ks vs → Rpk α O h (dput k d ks) (vput k v vs)
  | _, _, .nil => .cons q .nil
  | _, _, .cons (k := k') p r => by
    unfold dput vput
    split
    · exact .cons q r
    · exact .cons p (r.put k q)
theorem Rpf.len : ∀ {ks : List (Nat × D)} {vs : List (Nat × V)}, Rpf α O h ks vs → ks.length = vs.length
  | _, _, .nil => rfl
  | _, _, .cons _ r => by simp [r.len]
theorem Rpf.get (k : Nat) : ∀ {ks : List (Nat × D)} {vs : List (Nat × V)} {v : V}, Rpf α O h ks vs → vfget k vs = some v → ∃ d, fget k ks = some d ∧ Rp α O h d v
  | _, _, _, .nil, e => by cases e
  | _, _, _, .cons (k := k') p r, e => by
    unfold vfget at e
    unfold fget
    by_cases c : k' = k
    · rw [if_pos c] at e; rw [if_pos c]; cases e; exact ⟨_, rfl, p⟩
    · rw [if_neg c] at e; rw [if_neg c]; exact r.get k e
theorem Rpf.put (k : Nat) {d : D} {v : V} (q : Rp α O h d v) : ∀ {ks : List (Nat × D)} {vs : List (Nat × V)}, Rpf α O h ks vs → Rpf α O h (fput k d ks) (vfput k v vs)
  | _, _, .nil => .cons q .nil
  | _, _, .cons (k := k') p r => by
    unfold fput vfput
    split
    · exact .cons q r
    · exact .cons p (r.put k q)
end
end Ve
end

section
set_option autoImplicit false
set_option Elab.async false
set_option linter.all false
/-! VeD: operators, subscripts, built-ins side by side. -/
namespace Ve
open Ev
section
variable {α : List Nat} {O : Nat → Prop} {h : Hs} {s : St} {lo : Nat}
theorem Sim.none' {A B : Type} {r : R A} {Q : List Nat → Hs → St → A → B → Prop} : Sim α O h r (VR.opt none s) Q := trivial
theorem bop_ok (w : Wd α O h s) (hl : lo ≤ h.length) (op : BOp) {d e : D} {x y : V} (p : Vw α O h d x) (q : Vw α O h e y) : Sim α O h (bop op d e h) (VR.opt (vbop op x y) s) (Res lo O) := by
  cases op with
  | add =>
    cases x with
    | int a => cases p.int'; cases y with
      | int b => cases q.int'; exact .val w (.int _)
      | _ => trivial
    | str a => cases p.str'; cases y with
      | str b =>
        cases q.str'
        simp only [vbop, bop]
        split
        · exact .val w (.str _)
        · trivial
      | _ => trivial
    | tup a => obtain ⟨ds, ed, p'⟩ := p.tup'; subst ed; have p := p'; cases y with
      | tup b =>
        obtain ⟨es, ed, q'⟩ := q.tup'; subst ed; have q := q'
        simp only [vbop, bop]
        rw [← p.emp, ← p.len, ← q.len]
        split
        · exact .val w (.tup (p.app q))
        · trivial
      | _ => trivial
    | lst a => obtain ⟨i, ds, rfl, e1, p, _⟩ := p.lst'; cases y with
      | lst b =>
        obtain ⟨j, es, rfl, e2, q, _⟩ := q.lst'
        simp only [vbop, bop, e1, e2]
        rw [← p.len, ← q.len]
        split
        · exact .new w hl (p.app q)
        · trivial
      | _ => trivial
    | _ => cases y <;> trivial
  | sub =>
    cases x with
    | int a => cases p.int'; cases y with
      | int b => cases q.int'; exact .val w (.int _)
      | _ => trivial
    | _ => cases y <;> trivial
  | mul =>
    cases x with
    | int a => cases p.int'; cases y with
      | int b =>
        cases q.int'
        simp only [vbop, bop]
        split
        · exact .val w (.int _)
        · trivial
      | _ => trivial
    | str a => cases p.str'; cases y with
      | int b =>
        cases q.int'
        simp only [vbop, bop]
        split
        · exact .val w (.str _)
        · trivial
      | _ => trivial
    | tup a => obtain ⟨ds, ed, p'⟩ := p.tup'; subst ed; have p := p'; cases y with
      | int b =>
        cases q.int'
        simp only [vbop, bop]
        rw [← p.emp, ← p.len]
        split
        · exact .val w (.tup (p.rep _))
        · trivial
      | _ => trivial
    | lst a => obtain ⟨i, ds, rfl, e1, p, _⟩ := p.lst'; cases y with
      | int b =>
        cases q.int'
        simp only [vbop, bop, e1]
        rw [← p.len]
        split
        · exact .new w hl (p.rep _)
        · trivial
      | _ => trivial
    | _ => cases y <;> trivial
  | fdiv =>
    cases x with
    | int a => cases p.int'; cases y with
      | int b =>
        cases q.int'
        simp only [vbop, bop]
        split
        · exact .val w (.int _)
        · trivial
      | _ => trivial
    | _ => cases y <;> trivial
  | mod =>
    cases x with
    | int a => cases p.int'; cases y with
      | int b =>
        cases q.int'
        simp only [vbop, bop]
        split
        · exact .val w (.int _)
        · trivial
      | _ => trivial
    | _ => cases y <;> trivial
  | pow =>
    cases x with
    | int a => cases p.int'; cases y with
      | int b =>
        cases q.int'
        simp only [vbop, bop]
        split
        · exact .val w (.int _)
        · trivial
      | _ => trivial
    | _ => cases y <;> trivial
theorem non_iff {d : D} {x : V} (p : Vw α O h d x) : decide (d = .non) = isNon x := by
  cases x with
  | non => cases p.non'; rfl
  | bl b => cases p.bl'; rfl
  | int b => cases p.int'; rfl
  | str b => cases p.str'; rfl
  | tup _ => obtain ⟨_, rfl, _⟩ := p.tup'; rfl
  | lst _ => obtain ⟨_, _, rfl, _⟩ := p.lst'; rfl
  | dic _ => obtain ⟨_, _, rfl, _⟩ := p.dic'; rfl
  | obj _ => obtain ⟨_, rfl, _⟩ := p.obj'; rfl
  | drw => cases p.drw'; rfl
  | exn _ => obtain ⟨_, rfl, _⟩ := p.exn'; rfl
theorem get_some {k : D} {ks : List (D × D)} {vs : List (D × V)} (p : Rpk α O h ks vs) : (dget k ks).isSome = (vget k vs).isSome := by
  rcases p.get k with ⟨e1, e2⟩ | ⟨v, d, e1, e2, _⟩ <;> rw [e1, e2] <;> rfl
theorem in_ok (w : Wd α O h s) {d e : D} {x y : V} {b : Bool} (p : Vw α O h d x) (q : Vw α O h e y) (hb : vin s x y = some b) : cop .inn d e h = some b ∧ cop .nin d e h = some (!b) := by
  cases y with
  | str t =>
    cases q.str'
    cases x with
    | str u =>
      cases p.str'
      simp only [vin] at hb
      simp only [cop]
      split at hb
      · cases hb
      · rename_i c
        rw [if_neg c, if_neg c]
        cases hb
        exact ⟨rfl, rfl⟩
    | _ => simp [vin] at hb
  | tup ys =>
    obtain ⟨ds, rfl, r⟩ := q.tup'
    have := dmem_ok p r hb
    simp only [cop, this, Option.map_some]
    exact ⟨trivial, trivial⟩
  | lst ys =>
    obtain ⟨a, ds, rfl, e1, r, _⟩ := q.lst'
    have := dmem_ok p r hb
    simp only [cop, e1, this, Option.map_some]
    exact ⟨trivial, trivial⟩
  | dic kvs =>
    obtain ⟨a, ds, rfl, e1, r⟩ := q.dic'
    simp only [vin] at hb
    cases e2 : key x with
    | none => simp [e2] at hb
    | some k =>
      have e3 := p.key e2
      subst e3
      simp only [e2] at hb
      simp only [cop, e1, r.kin, get_some r]
      split at hb
      · rename_i c
        rw [if_pos c, if_pos c]
        cases hb
        exact ⟨rfl, rfl⟩
      · cases hb
  | obj j =>
    obtain ⟨a, rfl, ea⟩ := q.obj'
    simp only [vin] at hb
    cases e0 : s.ob[j]? with
    | none => simp [e0] at hb
    | some o =>
      cases o with
      | ins c fs => simp [e0] at hb
      | dic kvs =>
        obtain ⟨ob, e1, r⟩ := w.ob j a _ ea e0
        cases r with
        | dic r =>
          cases e2 : key x with
          | none => simp [e0, e2] at hb
          | some k =>
            have e3 := p.key e2
            subst e3
            simp only [e0, e2] at hb
            simp only [cop, e1, r.kin, get_some r]
            split at hb
            · rename_i c
              rw [if_pos c, if_pos c]
              cases hb
              exact ⟨rfl, rfl⟩
            · cases hb
  | _ => simp [vin] at hb
theorem is_ok {d e : D} {x y : V} {b : Bool} (p : Vw α O h d x) (q : Vw α O h e y) (hb : vis_ x y = some b) : cop .is_ d e h = some b ∧ cop .isn d e h = some (!b) := by
  cases y with
  | non =>
    cases q.non'
    simp only [vis_, Option.some.injEq] at hb
    subst hb
    simp only [cop, non_iff p]
    exact ⟨trivial, trivial⟩
  | bl c =>
    cases q.bl'
    cases x with
    | bl a =>
      cases p.bl'
      simp only [vis_, Option.some.injEq] at hb
      subst hb
      exact ⟨rfl, rfl⟩
    | _ => simp [vis_] at hb
  | _ => simp [vis_] at hb
theorem cop_ok (w : Wd α O h s) (op : COp) {d e : D} {x y : V} {b : Bool} (p : Vw α O h d x) (q : Vw α O h e y) (hb : vcop s op x y = some b) : cop op d e h = some b := by
  cases op with
  | eq => exact deq_ok p q hb
  | ne =>
    simp only [vcop, Option.map_eq_some_iff] at hb
    obtain ⟨c, e1, rfl⟩ := hb
    simp only [cop, deq_ok p q e1, Option.map_some]
  | lt =>
    cases x with
    | int a => cases p.int'; cases y with
      | int b => cases q.int'; exact hb
      | _ => simp [vcop] at hb
    | _ => simp [vcop] at hb
  | le =>
    cases x with
    | int a => cases p.int'; cases y with
      | int b => cases q.int'; exact hb
      | _ => simp [vcop] at hb
    | _ => simp [vcop] at hb
  | gt =>
    cases x with
    | int a => cases p.int'; cases y with
      | int b => cases q.int'; exact hb
      | _ => simp [vcop] at hb
    | _ => simp [vcop] at hb
  | ge =>
    cases x with
    | int a => cases p.int'; cases y with
      | int b => cases q.int'; exact hb
      | _ => simp [vcop] at hb
    | _ => simp [vcop] at hb
  | inn => exact (in_ok w p q hb).1
  | nin =>
    simp only [vcop, Option.map_eq_some_iff] at hb
    obtain ⟨c, e1, rfl⟩ := hb
    exact (in_ok w p q e1).2
  | is_ => exact (is_ok p q hb).1
  | isn =>
    simp only [vcop, Option.map_eq_some_iff] at hb
    obtain ⟨c, e1, rfl⟩ := hb
    exact (is_ok p q e1).2
theorem copR_ok (w : Wd α O h s) (op : COp) {d e : D} {x y : V} (p : Vw α O h d x) (q : Vw α O h e y) : Sim α O h (copR op d e h) (VR.opt ((vcop s op x y).map fun k => (.sh, .bl k)) s) (Res lo O) := by
  cases hb : vcop s op x y with
  | none => trivial
  | some b =>
    unfold copR
    rw [cop_ok w op p q hb]
    exact .val w (.bl b)
/-! ### subscripts -/
theorem ix_ok (w : Wd α O h s) {d e : D} {x y : V} {v : V} (p : Vw α O h d x) (q : Vw α O h e y) (hv : vIx s x y = some v) : ∃ z, getIx d e h = some z ∧ Rp α O h z v := by
  cases x with
  | tup xs =>
    obtain ⟨ds, ed, p'⟩ := p.tup'; subst ed; have p := p'
    cases y with
    | int k =>
      cases q.int'
      simp only [vIx] at hv
      simp only [getIx, p.len]
      cases e1 : ixN xs.length k with
      | none => simp [e1] at hv
      | some j =>
        simp only [e1, Option.bind_some] at hv ⊢
        exact p.get hv
    | _ => simp [vIx] at hv
  | lst xs =>
    obtain ⟨a, ds, rfl, e0, p, _⟩ := p.lst'
    cases y with
    | int k =>
      cases q.int'
      simp only [vIx] at hv
      simp only [getIx, e0, p.len]
      cases e1 : ixN xs.length k with
      | none => simp [e1] at hv
      | some j =>
        simp only [e1, Option.bind_some] at hv ⊢
        exact p.get hv
    | _ => simp [vIx] at hv
  | str t =>
    cases p.str'
    cases y with
    | int k =>
      cases q.int'
      simp only [vIx] at hv
      simp only [getIx]
      split at hv
      · rename_i c
        rw [if_pos c]
        rw [Option.map_eq_some_iff] at hv
        obtain ⟨u, e1, rfl⟩ := hv
        exact ⟨_, by rw [e1]; rfl, .str _⟩
      · cases hv
    | _ => simp [vIx] at hv
  | dic kvs =>
    obtain ⟨a, ds, rfl, e0, r⟩ := p.dic'
    simp only [vIx] at hv
    cases e1 : key y with
    | none => simp [e1] at hv
    | some k =>
      have e3 := q.key e1
      subst e3
      simp only [e1] at hv
      simp only [getIx, e0, r.kin]
      split at hv
      · rename_i c
        rw [if_pos c]
        rcases r.get e with ⟨f1, f2⟩ | ⟨v', d', f1, f2, f3⟩
        · rw [f1] at hv; cases hv
        · rw [f1] at hv; cases hv; exact ⟨_, f2, f3⟩
      · cases hv
  | obj j =>
    obtain ⟨a, rfl, ea⟩ := p.obj'
    simp only [vIx] at hv
    cases e0 : s.ob[j]? with
    | none => simp [e0] at hv
    | some o =>
      cases o with
      | ins c fs => simp [e0] at hv
      | dic kvs =>
        obtain ⟨ob, e1, r⟩ := w.ob j a _ ea e0
        cases r with
        | dic r =>
          cases e2 : key y with
          | none => simp [e0, e2] at hv
          | some k =>
            have e3 := q.key e2
            subst e3
            simp only [e0, e2] at hv
            simp only [getIx, e1, r.kin]
            split at hv
            · rename_i c
              rw [if_pos c]
              rcases r.get e with ⟨f1, f2⟩ | ⟨v', d', f1, f2, f3⟩
              · rw [f1] at hv; cases hv
              · rw [f1] at hv; cases hv; exact ⟨_, f2, f3⟩
            · cases hv
  | _ => simp [vIx] at hv
theorem sl_ok (w : Wd α O h s) (hl : lo ≤ h.length) {d : D} {x : V} (p : Vw α O h d x) (l u : Option Int) : Sim α O h (getSl d l u h) (VR.opt (vSl x l u) s) (Res lo O) := by
  cases x with
  | str t =>
    cases p.str'
    simp only [vSl, getSl]
    split
    · exact .val w (.str _)
    · trivial
  | tup xs =>
    obtain ⟨ds, ed, p'⟩ := p.tup'; subst ed; have p := p'
    exact .val w (.tup (p.cut l u))
  | lst xs =>
    obtain ⟨a, ds, rfl, e0, p, _⟩ := p.lst'
    simp only [vSl, getSl, e0]
    exact .new w hl (p.cut l u)
  | _ => trivial
/-! ### objects -/
theorem Wd.put (w : Wd α O h s) {j a : Nat} (ea : α[j]? = some a) {x : Ob} {o : SO} (r : Rpo α O h x o) : Stp α h α (h.set a x) ∧ Wd α O (h.set a x) (s.put j o) := by
  have am : a ∈ α := List.mem_of_getElem? ea
  have ha := w.al a am
  have st : Stp α h α (h.set a x) := ⟨⟨[], by simp, by simp⟩, by simp, fun b b2 bl bn => by
    rw [List.getElem?_set_ne (fun z => bn (by rw [← z]; exact am))]⟩
  refine ⟨st, ?_, ?_, w.nd, fun b hb => ⟨(w.al b hb).1, by simpa using (w.al b hb).2⟩, by simpa [St.put] using w.len, fun i b o' e1 e2 => ?_, fun b z => by simpa using w.ow b z⟩
  · rw [List.getElem?_set_ne (by omega)]; exact w.d0
  · rw [List.getElem?_set_ne (by omega)]; exact w.d1
  · by_cases c : i = j
    · subst c
      rw [ea] at e1
      cases e1
      have hi : i < s.ob.length := by rw [← w.len]; exact (List.getElem?_eq_some_iff.mp ea).1
      simp only [St.put, List.getElem?_set_self hi] at e2
      cases e2
      exact ⟨x, List.getElem?_set_self ha.2, r.mono st.mon0⟩
    · simp only [St.put, List.getElem?_set_ne (Ne.symm c)] at e2
      obtain ⟨y, e3, r3⟩ := w.ob i b o' e1 e2
      have hne : a ≠ b := fun z => by
        subst z
        exact c ((List.getElem?_inj (List.getElem?_eq_some_iff.mp e1).1 w.nd).mp (e1.trans ea.symm))
      exact ⟨y, by rw [List.getElem?_set_ne hne]; exact e3, r3.mono st.mon0⟩
theorem Wd.push (w : Wd α O h s) {x : Ob} {o : SO} (r : Rpo α O h x o) : Stp α h (α ++ [h.length]) (h ++ [x]) ∧ Wd (α ++ [h.length]) O (h ++ [x]) (s.push o) ∧ (α ++ [h.length])[s.ob.length]? = some h.length := by
  have two := w.two
  have st : Stp α h (α ++ [h.length]) (h ++ [x]) := ⟨⟨[h.length], rfl, by simp⟩, by simp, fun b b2 bl bn => List.getElem?_append_left bl⟩
  refine ⟨st, ⟨?_, ?_, ?_, ?_, ?_, fun i b o' e1 e2 => ?_, fun a z => ?_⟩, ?_⟩
  · rw [List.getElem?_append_left (by omega)]; exact w.d0
  · rw [List.getElem?_append_left (by omega)]; exact w.d1
  · rw [List.nodup_append]
    refine ⟨w.nd, by simp, fun a ha b hb => ?_⟩
    simp at hb
    have := (w.al a ha).2
    omega
  · intro a ha
    rcases List.mem_append.mp ha with m | m
    · have := w.al a m; simp; omega
    · simp at m; subst m; simp; omega
  · simp [St.push, w.len]
  · by_cases c : i < α.length
    · rw [List.getElem?_append_left c] at e1
      simp only [St.push] at e2
      rw [List.getElem?_append_left (by rw [← w.len]; exact c)] at e2
      obtain ⟨y, e3, r3⟩ := w.ob i b o' e1 e2
      exact ⟨y, by rw [List.getElem?_append_left (List.getElem?_eq_some_iff.mp e3).1]; exact e3, r3.mono st.mon0⟩
    · have hi : i < (α ++ [h.length]).length := (List.getElem?_eq_some_iff.mp e1).1
      simp at hi
      have ei : i = α.length := by omega
      subst ei
      simp at e1
      subst e1
      simp only [St.push, w.len] at e2
      simp at e2
      subst e2
      exact ⟨x, by simp, r.mono st.mon0⟩
  · have := w.ow a z
    refine ⟨this.1, by simp; omega, fun m => ?_⟩
    rcases List.mem_append.mp m with m | m
    · exact this.2.2 m
    · simp at m; omega
  · rw [← w.len]; simp
theorem fld_ok (w : Wd α O h s) {d : D} {x v : V} {f : Nat} (p : Vw α O h d x) (e : vFld s x f = some v) : ∃ z, getFld d f h = some z ∧ Rp α O h z v := by
  cases x with
  | obj j =>
    obtain ⟨a, rfl, ea⟩ := p.obj'
    simp only [vFld] at e
    cases e0 : s.ob[j]? with
    | none => simp [e0] at e
    | some o =>
      cases o with
      | dic c => simp [e0] at e
      | ins c fs =>
        obtain ⟨ob, e1, r⟩ := w.ob j a _ ea e0
        cases r with
        | ins r =>
          simp only [e0] at e
          simp only [getFld, e1]
          exact r.get f e
  | _ => simp [vFld] at e
theorem setf_ok (w : Wd α O h s) {d u : D} {x v : V} {f : Nat} {s' : St} (p : Vw α O h d x) (q : Rp α O h u v) (e : vSetF s x f v = some s') : ∃ h', setFld d f u h = .ok () h' ∧ Stp α h α h' ∧ Wd α O h' s' := by
  cases x with
  | obj j =>
    obtain ⟨a, rfl, ea⟩ := p.obj'
    simp only [vSetF] at e
    cases e0 : s.ob[j]? with
    | none => simp [e0] at e
    | some o =>
      cases o with
      | dic c => simp [e0] at e
      | ins c fs =>
        obtain ⟨ob, e1, r⟩ := w.ob j a _ ea e0
        cases r with
        | ins r =>
          simp only [e0] at e
          simp only [setFld, e1, r.len]
          split at e
          · rename_i c
            rw [if_pos c]
            cases e
            exact ⟨_, rfl, w.put ea (.ins (r.put f q))⟩
          · cases e
  | _ => simp [vSetF] at e
theorem seti_ok (w : Wd α O h s) {d u y : D} {x v i : V} {s' : St} (p : Vw α O h d x) (pi : Vw α O h y i) (q : Rp α O h u v) (e : vSetI s x i v = some s') : ∃ h', setIx d y u h = .ok () h' ∧ Stp α h α h' ∧ Wd α O h' s' := by
  cases x with
  | obj j =>
    obtain ⟨a, rfl, ea⟩ := p.obj'
    simp only [vSetI] at e
    cases e0 : s.ob[j]? with
    | none => simp [e0] at e
    | some o =>
      cases o with
      | ins c fs => simp [e0] at e
      | dic kvs =>
        obtain ⟨ob, e1, r⟩ := w.ob j a _ ea e0
        cases r with
        | dic r =>
          cases e2 : key i with
          | none => simp [e0, e2] at e
          | some k =>
            have e3 := pi.key e2
            subst e3
            simp only [e0, e2] at e
            simp only [setIx, e1, r.kin, r.len]
            split at e
            · rename_i c
              rw [if_pos c]
              cases e
              exact ⟨_, rfl, w.put ea (.dic (r.put y q))⟩
            · cases e
  | _ => simp [vSetI] at e
end
end Ve
end

section
set_option autoImplicit false
set_option Elab.async false
set_option linter.all false
/-! VeE: built-in functions and methods side by side. -/
namespace Ve
open Ev
section
variable {α : List Nat} {O : Nat → Prop} {h : Hs} {s : St} {lo : Nat}
theorem seq_ok {d : D} {x : V} {xs : List V} (p : Vw α O h d x) (e : vseqOf x = some xs) : ∃ ds, seqOf d h = some ds ∧ Rps α O h ds xs := by
  cases x with
  | tup ys =>
    obtain ⟨ds, rfl, p'⟩ := p.tup'
    cases e
    exact ⟨ds, rfl, p'⟩
  | lst ys =>
    obtain ⟨a, ds, rfl, e0, p', _⟩ := p.lst'
    cases e
    exact ⟨ds, by simp only [seqOf, e0], p'⟩
  | _ => simp [vseqOf] at e
theorem lst_ok {d : D} {x : V} {xs : List V} (p : Vw α O h d x) (e : vlstOf x = some xs) : ∃ ds, lstOf d h = some ds ∧ Rps α O h ds xs := by
  cases x with
  | lst ys =>
    obtain ⟨a, ds, rfl, e0, p', _⟩ := p.lst'
    cases e
    exact ⟨ds, by simp only [lstOf, e0], p'⟩
  | _ => simp [vlstOf] at e
theorem ty_ok {d : D} {x : V} {t : Ty} {b : Bool} (p : Vw α O h d x) (e : visTy t x = some b) : isTy t d h = some b := by
  cases x with
  | non => cases p.non'; cases t <;> simpa [visTy, isTy] using e
  | bl k => cases p.bl'; cases t <;> simpa [visTy, isTy] using e
  | int k => cases p.int'; cases t <;> simpa [visTy, isTy] using e
  | str k => cases p.str'; cases t <;> simpa [visTy, isTy] using e
  | tup k => obtain ⟨_, rfl, _⟩ := p.tup'; cases t <;> simpa [visTy, isTy] using e
  | lst k => obtain ⟨_, _, rfl, e0, _⟩ := p.lst'; cases t <;> simpa [visTy, isTy, e0] using e
  | exn k => obtain ⟨_, rfl, e0⟩ := p.exn'; cases t <;> simpa [visTy, isTy, e0] using e
  | _ => simp [visTy] at e
theorem bf_ok (w : Wd α O h s) (hl : lo ≤ h.length) (f : BF) {ds : List D} {vs : List V} (p : Vws α O h ds vs) : Sim α O h (bfun f ds h) (VR.opt (vbf f vs) s) (Res lo O) := by
  cases p with
  | nil => trivial
  | cons p q =>
    rename_i d x ds vs
    cases q with
    | nil =>
      cases f with
      | len =>
        cases x with
        | str t =>
          cases p.str'
          simp only [vbf, bfun]
          split
          · exact .val w (.int _)
          · trivial
        | tup t =>
          obtain ⟨es, rfl, p'⟩ := p.tup'
          simp only [vbf, bfun, p'.len]
          exact .val w (.int _)
        | lst t =>
          obtain ⟨a, es, rfl, e0, p', _⟩ := p.lst'
          simp only [vbf, bfun, e0, p'.len]
          exact .val w (.int _)
        | _ => trivial
      | all =>
        simp only [vbf, bfun]
        cases e : vlstOf x with
        | none => simp only [Option.bind_none]; trivial
        | some xs =>
          obtain ⟨es, e1, r⟩ := lst_ok p e
          simp only [e1, Option.bind_some, r.bolsE]
          cases bolsV xs with
          | none => trivial
          | some bs => exact .val w (.bl _)
      | min1 =>
        simp only [vbf, bfun]
        cases e : vlstOf x with
        | none => simp only [Option.bind_none]; trivial
        | some xs =>
          obtain ⟨es, e1, r⟩ := lst_ok p e
          simp only [e1, Option.bind_some, r.intsE]
          cases intsV xs with
          | none => trivial
          | some bs =>
            cases bs with
            | nil => trivial
            | cons _ _ => exact .val w (.int _)
      | max1 =>
        simp only [vbf, bfun]
        cases e : vlstOf x with
        | none => simp only [Option.bind_none]; trivial
        | some xs =>
          obtain ⟨es, e1, r⟩ := lst_ok p e
          simp only [e1, Option.bind_some, r.intsE]
          cases intsV xs with
          | none => trivial
          | some bs =>
            cases bs with
            | nil => trivial
            | cons _ _ => exact .val w (.int _)
      | sum =>
        simp only [vbf, bfun]
        cases e : vlstOf x with
        | none => simp only [Option.bind_none]; trivial
        | some xs =>
          obtain ⟨es, e1, r⟩ := lst_ok p e
          simp only [e1, Option.bind_some, r.intsE]
          cases intsV xs with
          | none => trivial
          | some bs => exact .val w (.int _)
      | listOf =>
        cases x with
        | str t =>
          cases p.str'
          simp only [vbf, bfun, listNew]
          split
          · exact .new w hl (Rps.chars t)
          · trivial
        | tup t =>
          obtain ⟨es, rfl, p'⟩ := p.tup'
          exact .new w hl p'
        | lst t =>
          obtain ⟨a, es, rfl, e0, p', _⟩ := p.lst'
          simp only [vbf, bfun, seqOf, e0, listNew, vseqOf]
          exact .new w hl p'
        | _ => trivial
      | tupOf =>
        simp only [vbf, bfun]
        cases e : vseqOf x with
        | none => trivial
        | some xs =>
          obtain ⟨es, e1, r⟩ := seq_ok p e
          simp only [e1]
          exact .val w (.tup r)
      | strOf =>
        cases x with
        | str t =>
          cases p.str'
          exact .val w (.str _)
        | int i =>
          cases p.int'
          simp only [vbf, bfun, vstrT, strT]
          by_cases c : 0 ≤ i ∧ i ≤ 9
          · simp only [if_pos c]; exact .val w (.str _)
          · simp only [if_neg c]; trivial
        | _ => trivial
      | intOf =>
        cases x with
        | str t =>
          cases p.str'
          match t with
          | [] => trivial
          | [c] =>
            simp only [vbf, bfun]
            split
            · exact .val w (.int _)
            · trivial
          | _ :: _ :: _ => trivial
        | _ => trivial
      | isin t =>
        simp only [vbf, bfun]
        cases e : visTy t x with
        | none => trivial
        | some b =>
          simp only [ty_ok p e]
          exact .val w (.bl b)
      | _ => trivial
    | cons q r =>
      rename_i e y es ys
      cases r with
      | nil =>
        cases f with
        | min2 =>
          cases x with
          | int a => cases p.int'; cases y with
            | int b => cases q.int'; exact .val w (.int _)
            | _ => trivial
          | _ => cases y <;> trivial
        | max2 =>
          cases x with
          | int a => cases p.int'; cases y with
            | int b => cases q.int'; exact .val w (.int _)
            | _ => trivial
          | _ => cases y <;> trivial
        | _ => trivial
      | cons _ _ => trivial
theorem bmTy_ok (w : Wd α O h s) (m : BM) {d : D} {x : V} (p : Vw α O h d x) (e : vbmTy s m x = true) : bmTy m d h = true := by
  cases x with
  | str t => cases p.str'; cases m <;> simp_all [vbmTy, bmTy]
  | lst t => obtain ⟨a, ds, rfl, e0, _⟩ := p.lst'; cases m <;> simp_all [vbmTy, bmTy]
  | dic t => obtain ⟨a, ds, rfl, e0, _⟩ := p.dic'; cases m <;> simp_all [vbmTy, bmTy]
  | obj j =>
    obtain ⟨a, rfl, ea⟩ := p.obj'
    simp only [vbmTy] at e
    cases e0 : s.ob[j]? with
    | none => simp [e0] at e
    | some o =>
      cases o with
      | ins c fs => simp [e0] at e
      | dic kvs =>
        obtain ⟨ob, e1, r⟩ := w.ob j a _ ea e0
        cases r with
        | dic r => cases m <;> simp_all [bmTy]
  | _ => simp [vbmTy] at e
theorem get_ok {k d0 : D} {v0 : V} {ks : List (D × D)} {vs : List (D × V)} (p : Rpk α O h ks vs) (q : Rp α O h d0 v0) : Rp α O h ((dget k ks).getD d0) ((vget k vs).getD v0) := by
  rcases p.get k with ⟨e1, e2⟩ | ⟨v, d, e1, e2, r⟩
  · rw [e1, e2]; exact q
  · rw [e1, e2]; exact r
theorem bm_ok (w : Wd α O h s) (hl : lo ≤ h.length) (m : BM) {d : D} {o : V} (p : Vw α O h d o) {ds : List D} {vs : List V} (q : Rps α O h ds vs) : Sim α O h (bmeth m d ds h) (VR.opt (vbm s m o vs) s) (Res lo O) := by
  cases q with
  | nil => trivial
  | cons q r =>
    rename_i e x ds vs
    cases r with
    | nil =>
      cases m with
      | count =>
        cases o with
        | str t =>
          cases p.str'
          cases x with
          | str u =>
            cases q
            match u with
            | [] => trivial
            | [c] => exact .val w (.int _)
            | _ :: _ :: _ => trivial
          | _ => trivial
        | lst t =>
          obtain ⟨a, es, rfl, e0, p', _⟩ := p.lst'
          simp only [vbm, bmeth, seqOf, e0, Option.bind_some]
          cases e1 : vcount x t with
          | none => trivial
          | some n =>
            simp only [dcount_ok (.rp q) p' e1]
            exact .val w (.int _)
        | _ => trivial
      | index =>
        cases o with
        | lst t =>
          obtain ⟨a, es, rfl, e0, p', _⟩ := p.lst'
          simp only [vbm, bmeth, seqOf, e0, Option.bind_some]
          cases e1 : vindex x t with
          | none => trivial
          | some n =>
            simp only [dindex_ok (.rp q) p' e1]
            exact .val w (.int _)
        | _ => trivial
      | split =>
        cases o with
        | str t =>
          cases p.str'
          cases x with
          | str u =>
            cases q
            match u with
            | [] => trivial
            | [c] =>
              simp only [vbm, bmeth, listNew]
              split
              · exact .new w hl (Rps.strs _)
              · trivial
            | _ :: _ :: _ => trivial
          | _ => trivial
        | _ => trivial
      | join =>
        cases o with
        | str t =>
          cases p.str'
          simp only [vbm, bmeth]
          cases e1 : vseqOf x with
          | none => simp only [Option.bind_none]; trivial
          | some xs =>
            obtain ⟨es, e2, r⟩ := seq_ok (.rp q) e1
            simp only [e2, Option.bind_some, r.strsE]
            cases strsV xs with
            | none => trivial
            | some ps =>
              simp only
              split
              · exact .val w (.str _)
              · trivial
        | _ => trivial
      | strip =>
        cases o with
        | str t =>
          cases p.str'
          cases x with
          | str u =>
            cases q
            simp only [vbm, bmeth]
            split
            · exact .val w (.str _)
            · trivial
          | _ => trivial
        | _ => trivial
      | lstrip =>
        cases o with
        | str t =>
          cases p.str'
          cases x with
          | str u =>
            cases q
            simp only [vbm, bmeth]
            split
            · exact .val w (.str _)
            · trivial
          | _ => trivial
        | _ => trivial
      | rstrip =>
        cases o with
        | str t =>
          cases p.str'
          cases x with
          | str u =>
            cases q
            simp only [vbm, bmeth]
            split
            · exact .val w (.str _)
            · trivial
          | _ => trivial
        | _ => trivial
      | _ => trivial
    | cons r r2 =>
      rename_i e2 y es ys
      cases r2 with
      | nil =>
        cases m with
        | get =>
          cases o with
          | dic kvs =>
            obtain ⟨a, ks, rfl, e0, p'⟩ := p.dic'
            simp only [vbm, bmeth, e0]
            cases e1 : key x with
            | none => trivial
            | some k =>
              cases q.key e1
              simp only [p'.kin]
              split
              · exact .val w (get_ok p' r)
              · trivial
          | obj j =>
            obtain ⟨a, rfl, ea⟩ := p.obj'
            simp only [vbm, bmeth]
            cases e0 : s.ob[j]? with
            | none => trivial
            | some o =>
              cases o with
              | ins c fs => trivial
              | dic kvs =>
                obtain ⟨ob, e1, rr⟩ := w.ob j a _ ea e0
                cases rr with
                | dic rr =>
                  simp only [e1]
                  cases e1 : key x with
                  | none => trivial
                  | some k =>
                    cases q.key e1
                    simp only [rr.kin]
                    split
                    · exact .val w (get_ok rr r)
                    · trivial
          | _ => trivial
        | replace =>
          cases x with
          | str a =>
            cases q
            cases y with
            | str b =>
              cases r
              match a with
              | [] => trivial
              | [c] =>
                cases o with
                | str t =>
                  cases p.str'
                  simp only [vbm, bmeth]
                  split
                  · exact .val w (.str _)
                  · trivial
                | _ => trivial
              | _ :: _ :: _ => trivial
            | _ => cases a with
              | nil => trivial
              | cons _ t => cases t <;> trivial
          | _ => trivial
        | _ => trivial
      | cons _ _ => trivial
/-! ### walks -/
theorem Rps.range (i j : Int) : Rps α O h (rangeL i j) (vrange i j) := Rps.ints _ _
theorem Rps.range3 (i j c : Int) : Rps α O h (range3L i j c) (vrange3 i j c) := Rps.ints _ _
theorem Rps.enum : ∀ (n : Nat) {ds : List D} {vs : List V}, Rps α O h ds vs → Rps α O h (enumL n ds) (venum n vs)
  | _, _, _, .nil => .nil
  | n, _, _, .cons p r => .cons (.tup (.cons (.int _) (.cons p .nil))) (r.enum (n + 1))
theorem Rps.zip : ∀ {ds : List D} {vs : List V} {es : List D} {ws : List V}, Rps α O h ds vs → Rps α O h es ws → Rps α O h (zipL ds es) (vzip vs ws)
  | _, _, _, _, .nil, _ => .nil
  | _, _, _, _, .cons p r, .nil => .nil
  | _, _, _, _, .cons p r, .cons p2 r2 => .cons (.tup (.cons p (.cons p2 .nil))) (r.zip r2)
def WOk (α : List Nat) (h : Hs) (w : Watch) : Prop := ∀ q ∈ w, 2 ≤ q.1 ∧ q.1 ∉ α ∧ h[q.1]? = some q.2
theorem WOk.nil : WOk α h [] := fun _ z => by cases z
theorem WOk.chk {w : Watch} (k : WOk α h w) : Ev.chk w h = true := by
  unfold Ev.chk
  rw [List.all_eq_true]
  intro q hq
  simp [(k q hq).2.2]
theorem WOk.mono {α' : List Nat} {h' : Hs} {w : Watch} (k : WOk α h w) (st : Stp α h α' h') : WOk α' h' w := fun q hq => by
  obtain ⟨a2, an, e⟩ := k q hq
  have al := (List.getElem?_eq_some_iff.mp e).1
  exact ⟨a2, st.nin al an, (st.eq _ a2 al an).trans e⟩
theorem items_ok {d : D} {x : V} {xs : List V} (p : Vw α O h d x) (e : vItems x = some xs) : ∃ ds w, valItems d h = some (ds, w) ∧ Rps α O h ds xs ∧ WOk α h w ∧ ∀ q ∈ w, d = .ref q.1 := by
  cases x with
  | tup ys =>
    obtain ⟨ds, rfl, p'⟩ := p.tup'
    cases e
    exact ⟨_, _, rfl, p', .nil, by simp⟩
  | str t =>
    cases p.str'
    cases e
    exact ⟨_, _, rfl, Rps.chars t, .nil, by simp⟩
  | lst ys =>
    obtain ⟨a, ds, rfl, e0, p', a2, an⟩ := p.lst'
    cases e
    refine ⟨ds, [(a, .lst ds)], by simp only [valItems, e0], p', fun q hq => ?_, by simp⟩
    simp at hq
    subst hq
    exact ⟨a2, an, e0⟩
  | _ => simp [vItems] at e
end
end Ve
end

section
set_option autoImplicit false
set_option Elab.async false
set_option linter.all false
/-! VeF: names, comprehensions, making side by side. -/
namespace Ve
open Ev
section
variable {α α' : List Nat} {O O' : Nat → Prop} {h h' : Hs} {s : St} {lo : Nat}
/-- steps of statements: cells from base on that are owned may change -/
structure Ss (base : Nat) (α : List Nat) (O : Nat → Prop) (h : Hs) (α' : List Nat) (O' : Nat → Prop) (h' : Hs) : Prop where
  pre : ∃ β, α' = α ++ β ∧ ∀ b ∈ β, h.length ≤ b
  le : h.length ≤ h'.length
  eq : ∀ a : Nat, 2 ≤ a → a < h.length → a ∉ α → (O a → a < base) → h'[a]? = h[a]?
  oo : ∀ a, O' a → O a ∨ h.length ≤ a
  ok : ∀ a, O a → a < base → O' a
theorem Ss.refl (base : Nat) (α : List Nat) (O : Nat → Prop) (h : Hs) : Ss base α O h α O h := ⟨⟨[], by simp, by simp⟩, Nat.le_refl _, fun _ _ _ _ _ => rfl, fun _ z => .inl z, fun _ z _ => z⟩
theorem Stp.ss (st : Stp α h α' h') (base : Nat) : Ss base α O h α' O h' := ⟨st.pre, st.le, fun a a2 al an _ => st.eq a a2 al an, fun _ z => .inl z, fun _ z _ => z⟩
theorem Ss.trans {base : Nat} {α'' : List Nat} {O'' : Nat → Prop} {h'' : Hs} (x : Ss base α O h α' O' h') (y : Ss base α' O' h' α'' O'' h'') : Ss base α O h α'' O'' h'' := by
  obtain ⟨b1, e1, l1⟩ := x.pre
  obtain ⟨b2, e2, l2⟩ := y.pre
  refine ⟨⟨b1 ++ b2, by rw [e2, e1, List.append_assoc], fun b hb => ?_⟩, Nat.le_trans x.le y.le, fun a a2 al an ao => ?_, fun a z => ?_, fun a z b => y.ok a (x.ok a z b) b⟩
  · rcases List.mem_append.mp hb with m | m
    · exact l1 b m
    · exact Nat.le_trans x.le (l2 b m)
  · rw [y.eq a a2 (Nat.lt_of_lt_of_le al x.le) ?_ ?_, x.eq a a2 al an ao]
    · rw [e1]
      intro m
      rcases List.mem_append.mp m with m | m
      · exact an m
      · have := l1 a m; omega
    · intro z
      rcases x.oo a z with z | z
      · exact ao z
      · omega
  · rcases y.oo a z with z | z
    · exact x.oo a z
    · exact .inr (Nat.le_trans x.le z)
theorem Ss.mon {base : Nat} (x : Ss base α O h α' O' h') : Mon α O h α' O' h' := by
  obtain ⟨b1, e1, l1⟩ := x.pre
  refine ⟨fun i a e => by rw [e1, List.getElem?_append_left (List.getElem?_eq_some_iff.mp e).1, e], fun a y e n => ?_⟩
  have al := (List.getElem?_eq_some_iff.mp e).1
  have a2 : 2 ≤ a := by
    rcases Nat.lt_or_ge a 2 with q | q
    · exact absurd (.inl q) n
    · exact q
  have an : a ∉ α := fun m => n (.inr (.inl m))
  have ao : ¬ O a := fun m => n (.inr (.inr m))
  refine ⟨fun f => ?_, (x.eq a a2 al an fun z => absurd z ao).trans e⟩
  rcases f with f | f | f
  · omega
  · rw [e1] at f
    rcases List.mem_append.mp f with m | m
    · exact an m
    · have := l1 a m; omega
  · rcases x.oo a f with f | f
    · exact ao f
    · omega
/-- names and values -/
structure EnvR (α : List Nat) (O : Nat → Prop) (h : Hs) (e : Env) (env : VEnv) : Prop where
  len : e.length = env.length
  get : ∀ (i : Nat) (b : Bool) (v : V), env[i]? = some (some (b, v)) → ∃ d, e[i]? = some (some d) ∧ (b = false → Rp α O h d v) ∧ (b = true → ∃ a, d = .ref a ∧ O a ∧ Ct α O h a v)
theorem EnvR.mono {e : Env} {env : VEnv} (r : EnvR α O h e env) (m : Mon α O h α' O' h') (ho : ∀ a, O a → O' a) (he : ∀ a, O a → a < h.length → h'[a]? = h[a]?) : EnvR α' O' h' e env := ⟨r.len, fun i b v z => by
  obtain ⟨d, e1, e2, e3⟩ := r.get i b v z
  refine ⟨d, e1, fun q => (e2 q).mono m, fun q => ?_⟩
  obtain ⟨a, e4, e5, e6⟩ := e3 q
  exact ⟨a, e4, ho a e5, e6.mono m (he a e5 e6.lt)⟩⟩
theorem EnvR.step {e : Env} {env : VEnv} (r : EnvR α O h e env) (w : Wd α O h s) (st : Stp α h α' h') : EnvR α' O h' e env := r.mono st.mon0 (fun _ z => z) fun a z l => st.eq a (w.ow a z).1 l (w.ow a z).2.2
/-- a step by which some names are given values -/
structure TgR (α' : List Nat) (O : Nat → Prop) (h' : Hs) (e : Env) (env : VEnv) (e' : Env) (env' : VEnv) : Prop where
  len : e'.length = e.length
  len' : env'.length = env.length
  ch : ∀ i : Nat, (env'[i]? = env[i]? ∧ e'[i]? = e[i]?) ∨ ∃ d v, env'[i]? = some (some (false, v)) ∧ e'[i]? = some (some d) ∧ Rp α' O h' d v
theorem TgR.refl {e : Env} {env : VEnv} : TgR α' O h' e env e env := ⟨rfl, rfl, fun _ => .inl ⟨rfl, rfl⟩⟩
theorem TgR.set {e : Env} {env : VEnv} (l : e.length = env.length) (i : Nat) {d : D} {v : V} (p : Rp α' O h' d v) : TgR α' O h' e env (e.set i (some d)) (env.set i (some (false, v))) := ⟨by simp, by simp, fun j => by
  by_cases c : i = j
  · subst c
    by_cases k : i < env.length
    · exact .inr ⟨d, v, List.getElem?_set_self k, List.getElem?_set_self (by omega), p⟩
    · refine .inl ⟨?_, ?_⟩
      · rw [List.set_eq_of_length_le (by omega)]
      · rw [List.set_eq_of_length_le (by omega)]
  · exact .inl ⟨List.getElem?_set_ne c, List.getElem?_set_ne c⟩⟩
theorem TgR.trans {α'' : List Nat} {h'' : Hs} {e e1 e2 : Env} {env env1 env2 : VEnv} (x : TgR α' O h' e env e1 env1) (m : Mon α' O h' α'' O h'') (y : TgR α'' O h'' e1 env1 e2 env2) : TgR α'' O h'' e env e2 env2 :=
  ⟨y.len.trans x.len, y.len'.trans x.len', fun i => by
    rcases y.ch i with ⟨a, b⟩ | z
    · rcases x.ch i with ⟨c, d⟩ | ⟨d, v, c1, c2, c3⟩
      · exact .inl ⟨a.trans c, b.trans d⟩
      · exact .inr ⟨d, v, a.trans c1, b.trans c2, c3.mono m⟩
    · exact .inr z⟩
theorem TgR.env {e e' : Env} {env env' : VEnv} (x : TgR α' O h' e env e' env') (r : EnvR α' O h' e env) : EnvR α' O h' e' env' := ⟨by rw [x.len, x.len', r.len], fun i b v z => by
  rcases x.ch i with ⟨a, c⟩ | ⟨d, u, a, c, p⟩
  · rw [a] at z
    rw [c]
    exact r.get i b v z
  · rw [a] at z
    cases z
    exact ⟨d, c, fun _ => p, fun q => by cases q⟩⟩
theorem wipe_len : ∀ (own : List Nat) (e : Env), (wipe e own).length = e.length
  | [], e => rfl
  | v :: vs, e => by simp [wipe, wipe_len vs e]
theorem vwipe_len : ∀ (own : List Nat) (e : VEnv), (vwipe e own).length = e.length
  | [], e => rfl
  | v :: vs, e => by simp [vwipe, vwipe_len vs e]
theorem EnvR.wipe {e : Env} {env : VEnv} (r : EnvR α O h e env) : ∀ own : List Nat, EnvR α O h (Ev.wipe e own) (vwipe env own)
  | [] => r
  | x :: vs => ⟨by simp [Ev.wipe, vwipe, wipe_len, vwipe_len, r.len], fun i b v z => by
    have ih := r.wipe vs
    simp only [vwipe] at z
    simp only [Ev.wipe]
    by_cases c : x = i
    · subst c
      by_cases k : x < (vwipe env vs).length
      · rw [List.getElem?_set_self k] at z; cases z
      · rw [List.set_eq_of_length_le (by omega)] at z
        rw [List.set_eq_of_length_le (by rw [wipe_len, r.len, ← vwipe_len vs]; omega)]
        exact ih.get x b v z
    · rw [List.getElem?_set_ne c] at z
      rw [List.getElem?_set_ne c]
      exact ih.get i b v z⟩
/-- what a body of a comprehension gives -/
def RC (O : Nat → Prop) (α : List Nat) (h : Hs) (s : St) (d : Option D) (v : Option V) : Prop := Wd α O h s ∧ match d, v with
  | some d, some v => Rp α O h d v
  | none, none => True
  | _, _ => False
theorem comp_ok {f : D → Hs → R (Option D)} {g : V → St → VR (Option V)} {w : Watch} {dst : Nat} (od : O dst) (hw : ∀ q ∈ w, q.1 ≠ dst) {α0 : List Nat} {h0 : Hs} (dl : dst < h0.length)
    (k : ∀ (α : List Nat) (h : Hs) (s : St) (x : D) (v : V), Ss dst α0 O h0 α O h → Wd α O h s → Rp α O h x v → Sim α O h (f x h) (g v s) (RC O)) :
    ∀ {xs : List D} {vs acc : List V} {accD : List D} {α : List Nat} {h : Hs} {s : St}, Ss dst α0 O h0 α O h → Wd α O h s → h[dst]? = some (.lst accD) → Rps α O h accD acc → Rps α O h xs vs → WOk α h w →
    ∀ ys s', vcomp g vs acc s = .ok ys s' → ∃ α' h' ds, compGo f dst w xs h = .ok () h' ∧ Ss dst α0 O h0 α' O h' ∧ Wd α' O h' s' ∧ h'[dst]? = some (.lst ds) ∧ Rps α' O h' ds ys
  | _, _, acc, accD, α, h, s, ss, wd, hd, ra, .nil, wo, ys, s', e => by
    unfold vcomp at e
    cases e
    refine ⟨α, h, accD, ?_, ss, wd, hd, ra⟩
    unfold compGo
    rw [wo.chk]
    simp
  | _, _, acc, accD, α, h, s, ss, wd, hd, ra, .cons (ds := ds) (vs := vs) p r, wo, ys, s', e => by
    rename_i x v
    have kk := k α h s _ _ ss wd p
    unfold vcomp at e
    unfold compGo
    rw [wo.chk]
    simp only [if_true]
    cases eg : g v s with
    | bad => simp [eg] at e
    | exc _ _ => simp [eg] at e
    | ok oy s1 =>
      rw [eg] at kk
      obtain ⟨α1, h1, od1, ef, st, w1, rc⟩ := kk
      rw [ef]
      have dlh : dst < h.length := Nat.lt_of_lt_of_le dl ss.le
      have o2 := wd.ow dst od
      have hd1 : h1[dst]? = some (.lst accD) := (st.eq dst o2.1 dlh o2.2.2).trans hd
      have ss1 := ss.trans (st.ss (O := O) dst)
      have ra1 := ra.mono st.mon0
      have r1 := r.mono st.mon0
      have wo1 := wo.mono st
      simp only [eg] at e
      cases oy with
      | none =>
        cases od1 with
        | none => exact comp_ok od hw dl k ss1 w1 hd1 ra1 r1 wo1 ys s' e
        | some _ => cases rc
      | some y =>
        cases od1 with
        | none => cases rc
        | some d1 =>
          simp only at e ⊢
          rw [hd1]
          simp only [ra1.len]
          by_cases c : acc.length < LIM
          · rw [if_pos c] at e
            rw [if_pos c]
            have o3 := w1.ow dst od
            have sx : Ss dst α1 O h1 α1 O (h1.set dst (.lst (accD ++ [d1]))) := ⟨⟨[], by simp, by simp⟩, by simp, fun a a2 al an ao => by
              refine List.getElem?_set_ne fun z => ?_
              subst z
              have := ao od
              omega, fun _ z => .inl z, fun _ z _ => z⟩
            have wx : Wd α1 O (h1.set dst (.lst (accD ++ [d1]))) s1 := by
              refine ⟨?_, ?_, w1.nd, fun a ha => by simpa using w1.al a ha, w1.len, fun i a o e1 e2 => ?_, fun a z => by simpa using w1.ow a z⟩
              · rw [List.getElem?_set_ne (by omega)]; exact w1.d0
              · rw [List.getElem?_set_ne (by omega)]; exact w1.d1
              · obtain ⟨x, e3, r3⟩ := w1.ob i a o e1 e2
                refine ⟨x, ?_, r3.mono sx.mon⟩
                rw [List.getElem?_set_ne fun z => ?_]
                · exact e3
                · subst z
                  exact o3.2.2 (List.mem_of_getElem? e1)
            have wox : WOk α1 (h1.set dst (.lst (accD ++ [d1]))) w := fun q hq => by
              obtain ⟨q1, q2, q3⟩ := wo1 q hq
              exact ⟨q1, q2, by rw [List.getElem?_set_ne (Ne.symm (hw q hq))]; exact q3⟩
            exact comp_ok od hw dl k (ss1.trans sx) wx (List.getElem?_set_self o3.2.1) ((ra1.app (.cons rc .nil)).mono sx.mon) (r1.mono sx.mon) wox ys s' e
          · rw [if_neg c] at e; cases e
/-- what the calls of a context do -/
structure CxOk (c : Cx) (vc : VCx) : Prop where
  call : ∀ (f : Nat) (ds : List D) (vs : List V) (α : List Nat) (O : Nat → Prop) (h : Hs) (s : St), Wd α O h s → Rps α O h ds vs → Sim α O h (c.call f ds h) (vc.call f vs s) fun α' h' s' d v => Wd α' O h' s' ∧ Rp α' O h' d v
  make : ∀ (f : Nat) (ds : List D) (vs : List V) (α : List Nat) (O : Nat → Prop) (h : Hs) (s : St), Wd α O h s → Rps α O h ds vs → Sim α O h (c.make f ds h) (vc.make f vs s) fun α' h' s' d v => Wd α' O h' s' ∧ Rp α' O h' d v
  init : c.init = vc.init
  meth : c.meth = vc.meth
  fuel : c.fuel = vc.fuel
variable {c : Cx} {vc : VCx}
theorem toSh_ok {r : R D} {q : VR V} (H : Sim α O h r q fun α' h' s' d v => Wd α' O h' s' ∧ Rp α' O h' d v) : Sim α O h r (toSh q) (Res lo O) := by
  cases q with
  | ok v s' =>
    obtain ⟨α', h', d, e, st, w, p⟩ := H
    exact ⟨α', h', d, e, st, .sh w p⟩
  | exc k s' => exact H
  | bad => trivial
theorem new_ok (hc : CxOk c vc) (w : Wd α O h s) (cl : Nat) {ds : List D} {vs : List V} (p : Rps α O h ds vs) : Sim α O h (runNew c cl ds h) (vNew vc cl vs s) fun α' h' s' d v => Wd α' O h' s' ∧ Rp α' O h' d v := by
  unfold runNew vNew
  rw [hc.init]
  obtain ⟨st, w', ea⟩ := w.push (x := .ins cl []) (o := .ins cl []) (.ins .nil)
  cases e : vc.init cl with
  | none =>
    simp only [p.emp]
    split
    · exact ⟨_, _, _, rfl, st, w', .obj ea⟩
    · trivial
  | some f =>
    simp only
    have H := hc.make f (.ref h.length :: ds) (.obj s.ob.length :: vs) _ O _ _ w' (.cons (.obj ea) (p.mono st.mon0))
    revert H
    unfold Sim
    cases vc.make f (.obj s.ob.length :: vs) (s.push (.ins cl [])) with
    | ok v s2 =>
      cases v with
      | non =>
        rintro ⟨α2, h2, d, e2, st2, w2, p2⟩
        cases p2
        rw [e2]
        exact ⟨α2, h2, _, rfl, st.trans st2, w2, .obj (st2.ext _ _ ea)⟩
      | _ => intro _; trivial
    | exc k s2 =>
      rintro ⟨α2, h2, e2, st2, w2⟩
      rw [e2]
      exact ⟨α2, h2, rfl, st.trans st2, w2⟩
    | bad => intro _; trivial
theorem meth_ok (hc : CxOk c vc) (w : Wd α O h s) {d : D} {x : V} (p : Vw α O h d x) {m f : Nat} (e : vmethOf vc x m s = some f) : methOf c d m h = some f ∧ Rp α O h d x := by
  cases x with
  | obj j =>
    obtain ⟨a, rfl, ea⟩ := p.obj'
    simp only [vmethOf] at e
    cases e0 : s.ob[j]? with
    | none => simp [e0] at e
    | some o =>
      cases o with
      | dic _ => simp [e0] at e
      | ins cl fs =>
        obtain ⟨ob, e1, r⟩ := w.ob j a _ ea e0
        cases r with
        | ins r =>
          simp only [e0] at e
          simp only [methOf, e1, hc.meth, e]
          exact ⟨trivial, .obj ea⟩
  | _ => simp [vmethOf] at e
end
end Ve
end

section
set_option autoImplicit false
set_option Elab.async false
set_option linter.all false
set_option maxHeartbeats 1000000
/-! VeG: expressions side by side. -/
namespace Ve
open Ev
section
variable {α α' : List Nat} {O O' : Nat → Prop} {h h' : Hs} {s s' : St} {lo : Nat} {c : Cx} {vc : VCx} {e : Env} {env : VEnv}
theorem Wd.setO {a : Nat} (w : Wd α O h s) (o : O a) (x : Ob) : Wd α O (h.set a x) s ∧ ∀ base, base ≤ a → Ss base α O h α O (h.set a x) := by
  have o3 := w.ow a o
  have sx : ∀ base, base ≤ a → Ss base α O h α O (h.set a x) := fun base hb => ⟨⟨[], by simp, by simp⟩, by simp, fun b b2 bl bn bo => by
    refine List.getElem?_set_ne fun z => ?_
    subst z
    have := bo o
    omega, fun _ z => .inl z, fun _ z _ => z⟩
  refine ⟨⟨?_, ?_, w.nd, fun a ha => by simpa using w.al a ha, w.len, fun i b y e1 e2 => ?_, fun a z => by simpa using w.ow a z⟩, sx⟩
  · rw [List.getElem?_set_ne (by omega)]; exact w.d0
  · rw [List.getElem?_set_ne (by omega)]; exact w.d1
  · obtain ⟨x, e3, r3⟩ := w.ob i b y e1 e2
    refine ⟨x, ?_, r3.mono (sx a (Nat.le_refl _)).mon⟩
    rw [List.getElem?_set_ne fun z => ?_]
    · exact e3
    · subst z
      exact o3.2.2 (List.mem_of_getElem? e1)
structure Pk (lo : Nat) (O : Nat → Prop) (α : List Nat) (h : Hs) (s : St) (e : Env) (env : VEnv) : Prop where
  hO : ∀ a, O a → a < lo
  hl : lo ≤ h.length
  w : Wd α O h s
  r : EnvR α O h e env
theorem Pk.step (k : Pk lo O α h s e env) (st : Stp α h α' h') (w : Wd α' O h' s') : Pk lo O α' h' s' e env := ⟨k.hO, Nat.le_trans k.hl st.le, w, k.r.step k.w st⟩
theorem Pk.env' (k : Pk lo O α h s e env) {e' : Env} {env' : VEnv} (t : TgR α O h e env e' env') : Pk lo O α h s e' env' := ⟨k.hO, k.hl, k.w, t.env k.r⟩
def ResI (O : Nat → Prop) (α : List Nat) (h : Hs) (s : St) (p : List D × Watch) (q : Bool × List V) : Prop := Wd α O h s ∧ Rps α O h p.1 q.2 ∧ WOk α h p.2 ∧ (q.1 = false → ∀ x ∈ p.2, ¬ O x.1)
theorem rp_no {a : Nat} {v : V} {xs : List V} (p : Rp α O h (.ref a) v) (e : vItems v = some xs) : ¬ O a := by
  cases p with
  | lst n _ _ => exact fun z => n (.inr (.inr z))
  | _ => simp [vItems] at e
theorem res_no {d : D} {x : FV} {a : Nat} {xs : List V} (hO : ∀ a, O a → a < lo) (rs : Res lo O α h s d x) (ed : d = .ref a) (e : vItems x.2 = some xs) (b : decide (x.1 = .bo) = false) : ¬ O a := by
  have p := rs.rp hO (by simpa using b)
  subst ed
  exact rp_no p e
/-- a comprehension's body -/
def cFn (c : Cx) (elt : IE) (tg : Tg) (cnd : IE) (own : List Nat) (e : Env) : D → Hs → R (Option D) := fun x h => (evTg c tg x (wipe e own) h).bind fun env' h => (evE c cnd env' h).bind fun b h => match b with
  | .bl true => (evE c elt env' h).bind fun y h => .ok (some y) h
  | .bl false => .ok none h
  | _ => .bad
def vcF (c : VCx) (elt : IE) (tg : Tg) (cnd : IE) (own : List Nat) (env : VEnv) : V → St → VR (Option V) := fun x s => (vTg c tg x (vwipe env own) s).bind fun env' s => (vE c cnd env' s).bind fun b s => match b.2 with
  | .bl true => (vE c elt env' s).bind fun y s => (unb y s).bind fun y s => .ok (some y) s
  | .bl false => .ok none s
  | _ => .bad
def cFin (r : R Unit) (a : Nat) : R D := match r with
  | .ok _ h' => .ok (.ref a) h'
  | _ => .bad
def vcFin (r : VR (List V)) : VR FV := match r with
  | .ok ys s => .ok (.fr, .lst ys) s
  | _ => .bad
theorem evE_cmp (c : Cx) (elt : IE) (tg : Tg) (it : It) (cnd : IE) (own : List Nat) (env : Env) (h : Hs) : evE c (.comp elt tg it cnd own) env h = (evIt c it env h).bind fun p h => cFin (compGo (cFn c elt tg cnd own env) h.length p.2 p.1 (h ++ [.lst []])) h.length := by rw [evE]; rfl
theorem vE_cmp (c : VCx) (elt : IE) (tg : Tg) (it : It) (cnd : IE) (own : List Nat) (env : VEnv) (s : St) : vE c (.comp elt tg it cnd own) env s = (vIt c it env s).bind fun p s => vcFin (vcomp (vcF c elt tg cnd own env) p.2 [] s) := by rw [vE]; rfl
mutual
theorem vE_ok (hc : CxOk c vc) : ∀ (i : IE) {lo : Nat} {O : Nat → Prop} {α : List Nat} {h : Hs} {s : St} {e : Env} {env : VEnv}, Pk lo O α h s e env → Sim α O h (evE c i e h) (vE vc i env s) (Res lo O)
  | .const d, lo, O, α, h, s, e, env, k => by
    rw [evE, vE]
    split
    · rename_i q; exact .val k.w (.of q)
    · trivial
  | .glob _ d, lo, O, α, h, s, e, env, k => by
    rw [evE, vE]
    split
    · rename_i q; exact .val k.w (.of q)
    · trivial
  | .var i, lo, O, α, h, s, e, env, k => by
    rw [evE, vE]
    cases q : env[i]? with
    | none => trivial
    | some o =>
      cases o with
      | none => trivial
      | some p =>
        obtain ⟨b, v⟩ := p
        obtain ⟨d, e1, e2, e3⟩ := k.r.get i b v q
        simp only [e1]
        cases b with
        | false => exact ⟨α, h, d, rfl, .refl α h, .sh k.w (e2 rfl)⟩
        | true =>
          obtain ⟨a, e4, e5, e6⟩ := e3 rfl
          exact ⟨α, h, d, rfl, .refl α h, by rw [e4]; exact .bo k.w e5 e6⟩
  | .bin op a b, lo, O, α, h, s, e, env, k => by
    rw [evE, vE]
    refine (vE_ok hc a k).bind fun α1 h1 s1 d x st rs => ?_
    have k1 := k.step st rs.wd
    refine (vE_ok hc b k1).bind fun α2 h2 s2 d2 y st2 rs2 => ?_
    exact bop_ok rs2.wd (k1.step st2 rs2.wd).hl op (rs.vw.mono st2) rs2.vw
  | .neg a, lo, O, α, h, s, e, env, k => by
    rw [evE, vE]
    refine (vE_ok hc a k).bind fun α1 h1 s1 d x st rs => ?_
    obtain ⟨f, v⟩ := x
    have p := rs.vw
    cases v with
    | int i => cases p.int'; exact .val rs.wd (.int _)
    | _ => trivial
  | .not a, lo, O, α, h, s, e, env, k => by
    rw [evE, vE]
    refine (vE_ok hc a k).bind fun α1 h1 s1 d x st rs => ?_
    obtain ⟨f, v⟩ := x
    have p := rs.vw
    cases v with
    | bl i => cases p.bl'; exact .val rs.wd (.bl _)
    | _ => trivial
  | .and a b, lo, O, α, h, s, e, env, k => by
    rw [evE, vE]
    refine (vE_ok hc a k).bind fun α1 h1 s1 d x st rs => ?_
    have k1 := k.step st rs.wd
    obtain ⟨f, v⟩ := x
    have p := rs.vw
    cases v with
    | bl i =>
      cases p.bl'
      cases i with
      | true =>
        refine (vE_ok hc b k1).bind fun α2 h2 s2 d2 y st2 rs2 => ?_
        obtain ⟨f2, v2⟩ := y
        have p2 := rs2.vw
        cases v2 with
        | bl i => cases p2.bl'; exact .val rs2.wd (.bl _)
        | _ => trivial
      | false => exact .val rs.wd (.bl _)
    | _ => trivial
  | .or a b, lo, O, α, h, s, e, env, k => by
    rw [evE, vE]
    refine (vE_ok hc a k).bind fun α1 h1 s1 d x st rs => ?_
    have k1 := k.step st rs.wd
    obtain ⟨f, v⟩ := x
    have p := rs.vw
    cases v with
    | bl i =>
      cases p.bl'
      cases i with
      | false =>
        refine (vE_ok hc b k1).bind fun α2 h2 s2 d2 y st2 rs2 => ?_
        obtain ⟨f2, v2⟩ := y
        have p2 := rs2.vw
        cases v2 with
        | bl i => cases p2.bl'; exact .val rs2.wd (.bl _)
        | _ => trivial
      | true => exact .val rs.wd (.bl _)
    | _ => trivial
  | .cmp op a b, lo, O, α, h, s, e, env, k => by
    rw [evE, vE]
    refine (vE_ok hc a k).bind fun α1 h1 s1 d x st rs => ?_
    have k1 := k.step st rs.wd
    refine (vE_ok hc b k1).bind fun α2 h2 s2 d2 y st2 rs2 => ?_
    exact copR_ok rs2.wd op (rs.vw.mono st2) rs2.vw
  | .cmp2 op op' a b z, lo, O, α, h, s, e, env, k => by
    rw [evE, vE]
    refine (vE_ok hc a k).bind fun α1 h1 s1 d x st rs => ?_
    have k1 := k.step st rs.wd
    refine (vE_ok hc b k1).bind fun α2 h2 s2 d2 y st2 rs2 => ?_
    have k2 := k1.step st2 rs2.wd
    cases q : vcop s2 op x.2 y.2 with
    | none => trivial
    | some t =>
      unfold copR
      rw [cop_ok rs2.wd op (rs.vw.mono st2) rs2.vw q]
      cases t with
      | true =>
        refine (vE_ok hc z k2).bind fun α3 h3 s3 d3 w st3 rs3 => ?_
        exact copR_ok rs3.wd op' (rs2.vw.mono st3) rs3.vw
      | false => exact .val rs2.wd (.bl _)
  | .ite t a b, lo, O, α, h, s, e, env, k => by
    rw [evE, vE]
    refine (vE_ok hc t k).bind fun α1 h1 s1 d x st rs => ?_
    have k1 := k.step st rs.wd
    obtain ⟨f, v⟩ := x
    have p := rs.vw
    cases v with
    | bl i =>
      cases p.bl'
      cases i with
      | true => exact vE_ok hc a k1
      | false => exact vE_ok hc b k1
    | _ => trivial
  | .tup es, lo, O, α, h, s, e, env, k => by
    rw [evE, vE]
    refine (vEs_ok hc es k).bind fun α1 h1 s1 ds xs st rs => ?_
    exact .val rs.1 (.tup rs.2)
  | .lst es, lo, O, α, h, s, e, env, k => by
    rw [evE, vE]
    refine (vEs_ok hc es k).bind fun α1 h1 s1 ds xs st rs => ?_
    exact .new rs.1 (k.step st rs.1).hl rs.2
  | .dic0, lo, O, α, h, s, e, env, k => by
    rw [evE, vE]
    exact ⟨α, _, _, rfl, .app α h _, k.w.newd k.hl .nil⟩
  | .dic1 a b, lo, O, α, h, s, e, env, k => by
    rw [evE, vE]
    have w0 := k.w.own (.dic [])
    have k0 : Pk (h.length + 1) (Oa O h.length) α (h ++ [.dic []]) s e env := ⟨fun a z => by
      rcases z with z | z
      · have := k.hO a z; have := k.hl; omega
      · omega, by simp, w0, k.r.mono ((Stp.app α h _).mon fun a z => by
        rcases z with z | z
        · exact .inl z
        · exact .inr (by omega)) (fun _ z => .inl z) fun a z l => List.getElem?_append_left l⟩
    have Ha := vE_ok hc a k0
    revert Ha
    cases vE vc a env s with
    | bad => intro _; trivial
    | exc j s1 =>
      rintro ⟨α1, h1, e1, st1, w1⟩
      rw [e1]
      exact ⟨α1, h1, rfl, (Stp.app α h _).trans st1, w1.weak fun _ z => .inl z⟩
    | ok x s1 =>
      rintro ⟨α1, h1, d1, e1, st1, rs1⟩
      rw [e1]
      have k1 := k0.step st1 rs1.wd
      have Hb := vE_ok hc b k1
      simp only [R.bind, VR.bind]
      revert Hb
      cases vE vc b env s1 with
      | bad => intro _; trivial
      | exc j s2 =>
        rintro ⟨α2, h2, e2, st2, w2⟩
        rw [e2]
        exact ⟨α2, h2, rfl, ((Stp.app α h _).trans st1).trans st2, w2.weak fun _ z => .inl z⟩
      | ok y s2 =>
        rintro ⟨α2, h2, d2, e2, st2, rs2⟩
        rw [e2]
        have w2 := rs2.wd
        have st12 := st1.trans st2
        have o0 := w0.ow h.length (.inr rfl)
        have hd : h2[h.length]? = some (.dic []) := by
          rw [st12.eq h.length o0.1 o0.2.1 o0.2.2]; simp
        have p2 : y.1 ≠ .bo → Rp α2 (Oa O h.length) h2 d2 y.2 := rs2.rp k1.hO
        obtain ⟨fy, vy⟩ := y
        cases fy with
        | bo => trivial
        | sh =>
          have p2 := p2 (by simp)
          simp only [unb]
          cases q : key x.2 with
          | none => trivial
          | some kd =>
            have eq1 := rs1.vw.key q
            subst eq1
            simp only [setIx, hd]
            by_cases qk : keyOk d1 = true
            · simp only [qk, if_true]
              rw [if_pos ⟨by simpa [kinOk] using qk, by simp [LIM]⟩]
              obtain ⟨w3, sx⟩ := w2.setO (.inr rfl) (.dic [(d1, d2)])
              refine ⟨α2, _, _, rfl, ⟨?_, ?_, fun b b2 bl bn => ?_⟩, .fr w3 k.hl (.dic (List.getElem?_set_self (w2.ow _ (.inr rfl)).2.1) (.cons (p2.mono (sx _ (Nat.le_refl _)).mon) .nil))⟩
              · obtain ⟨u, u1, u2⟩ := ((Stp.app α h [.dic []]).trans st12).pre
                exact ⟨u, u1, u2⟩
              · have := st12.le; simp at this; simp; omega
              · rw [List.getElem?_set_ne (by omega), ((Stp.app α h [.dic []]).trans st12).eq b b2 bl bn]
            · rw [if_neg qk]; trivial
        | fr =>
          have p2 := p2 (by simp)
          simp only [unb]
          cases q : key x.2 with
          | none => trivial
          | some kd =>
            have eq1 := rs1.vw.key q
            subst eq1
            simp only [setIx, hd]
            by_cases qk : keyOk d1 = true
            · simp only [qk, if_true]
              rw [if_pos ⟨by simpa [kinOk] using qk, by simp [LIM]⟩]
              obtain ⟨w3, sx⟩ := w2.setO (.inr rfl) (.dic [(d1, d2)])
              refine ⟨α2, _, _, rfl, ⟨?_, ?_, fun b b2 bl bn => ?_⟩, .fr w3 k.hl (.dic (List.getElem?_set_self (w2.ow _ (.inr rfl)).2.1) (.cons (p2.mono (sx _ (Nat.le_refl _)).mon) .nil))⟩
              · obtain ⟨u, u1, u2⟩ := ((Stp.app α h [.dic []]).trans st12).pre
                exact ⟨u, u1, u2⟩
              · have := st12.le; simp at this; simp; omega
              · rw [List.getElem?_set_ne (by omega), ((Stp.app α h [.dic []]).trans st12).eq b b2 bl bn]
            · rw [if_neg qk]; trivial
  | .call f es, lo, O, α, h, s, e, env, k => by
    rw [evE, vE]
    refine (vEs_ok hc es k).bind fun α1 h1 s1 ds xs st rs => ?_
    exact toSh_ok (hc.call f ds xs α1 O h1 s1 rs.1 rs.2)
  | .new cl es, lo, O, α, h, s, e, env, k => by
    rw [evE, vE]
    refine (vEs_ok hc es k).bind fun α1 h1 s1 ds xs st rs => ?_
    exact toSh_ok (new_ok hc rs.1 cl rs.2)
  | .meth o m es, lo, O, α, h, s, e, env, k => by
    rw [evE, vE]
    refine (vE_ok hc o k).bind fun α1 h1 s1 d x st rs => ?_
    have k1 := k.step st rs.wd
    cases q : vmethOf vc x.2 m s1 with
    | none => trivial
    | some f =>
      obtain ⟨q1, q2⟩ := meth_ok hc rs.wd rs.vw q
      simp only [q1]
      refine (vEs_ok hc es k1).bind fun α2 h2 s2 ds xs st2 rs2 => ?_
      exact toSh_ok (hc.call f _ _ α2 O h2 s2 rs2.1 (.cons (q2.mono st2.mon0) rs2.2))
  | .bm m o es, lo, O, α, h, s, e, env, k => by
    rw [evE, vE]
    refine (vE_ok hc o k).bind fun α1 h1 s1 d x st rs => ?_
    have k1 := k.step st rs.wd
    by_cases q : vbmTy s1 m x.2 = true
    · rw [if_pos q, if_pos (bmTy_ok rs.wd m rs.vw q)]
      refine (vEs_ok hc es k1).bind fun α2 h2 s2 ds xs st2 rs2 => ?_
      exact bm_ok rs2.1 (k1.step st2 rs2.1).hl m (rs.vw.mono st2) rs2.2
    · rw [if_neg q]; trivial
  | .bf f es, lo, O, α, h, s, e, env, k => by
    rw [evE, vE]
    refine (vEb_ok hc es k).bind fun α1 h1 s1 ds xs st rs => ?_
    exact bf_ok rs.1 (k.step st rs.1).hl f rs.2
  | .fld o f, lo, O, α, h, s, e, env, k => by
    rw [evE, vE]
    refine (vE_ok hc o k).bind fun α1 h1 s1 d x st rs => ?_
    cases q : vFld s1 x.2 f with
    | none => trivial
    | some v =>
      obtain ⟨z, e1, p⟩ := fld_ok rs.wd rs.vw q
      rw [e1]
      exact .val rs.wd p
  | .idx o i, lo, O, α, h, s, e, env, k => by
    rw [evE, vE]
    refine (vE_ok hc o k).bind fun α1 h1 s1 d x st rs => ?_
    have k1 := k.step st rs.wd
    refine (vE_ok hc i k1).bind fun α2 h2 s2 d2 y st2 rs2 => ?_
    cases q : vIx s2 x.2 y.2 with
    | none => trivial
    | some v =>
      obtain ⟨z, e1, p⟩ := ix_ok rs2.wd (rs.vw.mono st2) rs2.vw q
      rw [e1]
      exact .val rs2.wd p
  | .slc o l u, lo, O, α, h, s, e, env, k => by
    rw [evE, vE]
    refine (vE_ok hc o k).bind fun α1 h1 s1 d x st rs => ?_
    have k1 := k.step st rs.wd
    refine (vE_ok hc l k1).bind fun α2 h2 s2 d2 y st2 rs2 => ?_
    have k2 := k1.step st2 rs2.wd
    obtain ⟨f2, v2⟩ := y
    have p2 := rs2.vw
    cases v2 with
    | int i =>
      cases p2.int'
      refine (vE_ok hc u k2).bind fun α3 h3 s3 d3 z st3 rs3 => ?_
      obtain ⟨f3, v3⟩ := z
      have p3 := rs3.vw
      cases v3 with
      | int j =>
        cases p3.int'
        exact sl_ok rs3.wd (k2.step st3 rs3.wd).hl ((rs.vw.mono st2).mono st3) _ _
      | _ => trivial
    | _ => trivial
  | .slcF o l, lo, O, α, h, s, e, env, k => by
    rw [evE, vE]
    refine (vE_ok hc o k).bind fun α1 h1 s1 d x st rs => ?_
    have k1 := k.step st rs.wd
    refine (vE_ok hc l k1).bind fun α2 h2 s2 d2 y st2 rs2 => ?_
    have k2 := k1.step st2 rs2.wd
    obtain ⟨f2, v2⟩ := y
    have p2 := rs2.vw
    cases v2 with
    | int i =>
      cases p2.int'
      exact sl_ok rs2.wd k2.hl (rs.vw.mono st2) _ _
    | _ => trivial
  | .slcT o l, lo, O, α, h, s, e, env, k => by
    rw [evE, vE]
    refine (vE_ok hc o k).bind fun α1 h1 s1 d x st rs => ?_
    have k1 := k.step st rs.wd
    refine (vE_ok hc l k1).bind fun α2 h2 s2 d2 y st2 rs2 => ?_
    have k2 := k1.step st2 rs2.wd
    obtain ⟨f2, v2⟩ := y
    have p2 := rs2.vw
    cases v2 with
    | int i =>
      cases p2.int'
      exact sl_ok rs2.wd k2.hl (rs.vw.mono st2) _ _
    | _ => trivial
  | .rev o, lo, O, α, h, s, e, env, k => by
    rw [evE, vE]
    refine (vE_ok hc o k).bind fun α1 h1 s1 d x st rs => ?_
    obtain ⟨f, v⟩ := x
    have p := rs.vw
    cases v with
    | lst xs =>
      obtain ⟨a, ds, rfl, e0, p', _⟩ := p.lst'
      simp only [e0]
      exact .new rs.wd (k.step st rs.wd).hl p'.rev
    | _ => trivial
  | .comp elt tg it cnd own, lo, O, α, h, s, e, env, k => by
    rw [evE_cmp, vE_cmp]
    refine (vIt_ok hc it k).bind fun α1 h1 s1 p q st rs => ?_
    obtain ⟨w1, rp, wo, _⟩ := rs
    have k1 := k.step st w1
    have w2 := w1.own (.lst [])
    have m12 : Mon α1 O h1 α1 (Oa O h1.length) (h1 ++ [.lst []]) := (Stp.app α1 h1 _).mon fun a z => by
      rcases z with z | z
      · exact .inl z
      · exact .inr (by omega)
    have hwd : ∀ x ∈ p.2, x.1 ≠ h1.length := fun x hx => by
      have := (List.getElem?_eq_some_iff.mp (wo x hx).2.2).1
      omega
    have C := comp_ok (O := Oa O h1.length) (dst := h1.length) (w := p.2) (f := cFn c elt tg cnd own e) (g := vcF vc elt tg cnd own env) (.inr rfl) hwd (α0 := α1) (h0 := h1 ++ [.lst []]) (by simp) (fun αx hx sx dx vx ssx wdx rpx => by
      have kx : Pk (h1.length + 1) (Oa O h1.length) αx hx sx (wipe e own) (vwipe env own) := by
        refine ⟨fun a z => ?_, ?_, wdx, EnvR.wipe (k1.r.mono (m := ⟨fun i a z => ssx.mon.ext i a z, fun a y e1 n => ?_⟩) (fun _ z => .inl z) fun a z l => ?_) own⟩
        · rcases z with z | z
          · have := k1.hO a z; have := k1.hl; omega
          · omega
        · have := ssx.le; simpa using this
        · obtain ⟨n2, e2⟩ := m12.kp a y e1 n
          exact ssx.mon.kp a y e2 n2
        · have o := w1.ow a z
          rw [ssx.eq a o.1 (by simp; omega) o.2.2 fun _ => l, List.getElem?_append_left l]
      refine (vTg_ok hc tg kx rpx).bind fun α3 h3 s3 e3 env3 st3 rs3 => ?_
      have k3 := (kx.step st3 rs3.1).env' rs3.2
      refine (vE_ok hc cnd k3).bind fun α4 h4 s4 d4 x4 st4 rs4 => ?_
      have k4 := k3.step st4 rs4.wd
      obtain ⟨f4, v4⟩ := x4
      have p4 := rs4.vw
      cases v4 with
      | bl b =>
        cases p4.bl'
        cases b with
        | true =>
          refine (vE_ok hc elt k4).bind fun α5 h5 s5 d5 x5 st5 rs5 => ?_
          refine Sim.unb k4.hO rs5 fun p5 => ?_
          exact ⟨α5, h5, _, rfl, .refl _ _, rs5.wd, p5⟩
        | false => exact ⟨α4, h4, _, rfl, .refl _ _, rs4.wd, trivial⟩
      | _ => trivial) (Ss.refl _ _ _ _) w2 (by simp) .nil (rp.mono m12) (wo.mono (Stp.app _ _ _))
    revert C
    generalize vcomp _ q.2 [] s1 = vr
    intro C
    cases vr with
    | ok ys s2 =>
      obtain ⟨α2, h2, ds, e2, ss2, w3, e3, r3⟩ := C ys s2 rfl
      rw [e2]
      refine ⟨α2, h2, _, rfl, ⟨?_, ?_, fun a a2 al an => ?_⟩, .fr w3 k1.hl (.lst e3 r3)⟩
      · obtain ⟨b, b1, b2⟩ := ss2.pre
        exact ⟨b, b1, fun x hx => by have := b2 x hx; simp at this; omega⟩
      · have := ss2.le; simp at this; omega
      · rw [ss2.eq a a2 (by simp; omega) an fun _ => al, List.getElem?_append_left al]
    | exc _ _ => trivial
    | bad => trivial
  | .lrng it, lo, O, α, h, s, e, env, k => by
    rw [evE, vE]
    refine (vIt_ok hc it k).bind fun α1 h1 s1 p q st rs => ?_
    obtain ⟨w1, rp, wo, _⟩ := rs
    rw [rp.len]
    split
    · exact .new w1 (k.step st w1).hl rp
    · trivial
theorem vEs_ok (hc : CxOk c vc) : ∀ (i : IEs) {lo : Nat} {O : Nat → Prop} {α : List Nat} {h : Hs} {s : St} {e : Env} {env : VEnv}, Pk lo O α h s e env → Sim α O h (evEs c i e h) (vEs vc i env s) fun α' h' s' ds vs => Wd α' O h' s' ∧ Rps α' O h' ds vs
  | .nil, lo, O, α, h, s, e, env, k => by
    rw [evEs, vEs]
    exact ⟨α, h, _, rfl, .refl _ _, k.w, .nil⟩
  | .cons i is, lo, O, α, h, s, e, env, k => by
    rw [evEs, vEs]
    refine (vE_ok hc i k).bind fun α1 h1 s1 d x st rs => ?_
    have k1 := k.step st rs.wd
    refine Sim.unb k.hO rs fun p => ?_
    refine (vEs_ok hc is k1).bind fun α2 h2 s2 ds xs st2 rs2 => ?_
    exact ⟨α2, h2, _, rfl, .refl _ _, rs2.1, .cons (p.mono st2.mon0) rs2.2⟩
theorem vEb_ok (hc : CxOk c vc) : ∀ (i : IEs) {lo : Nat} {O : Nat → Prop} {α : List Nat} {h : Hs} {s : St} {e : Env} {env : VEnv}, Pk lo O α h s e env → Sim α O h (evEs c i e h) (vEb vc i env s) fun α' h' s' ds vs => Wd α' O h' s' ∧ Vws α' O h' ds vs
  | .nil, lo, O, α, h, s, e, env, k => by
    rw [evEs, vEb]
    exact ⟨α, h, _, rfl, .refl _ _, k.w, .nil⟩
  | .cons i is, lo, O, α, h, s, e, env, k => by
    rw [evEs, vEb]
    refine (vE_ok hc i k).bind fun α1 h1 s1 d x st rs => ?_
    have k1 := k.step st rs.wd
    refine (vEb_ok hc is k1).bind fun α2 h2 s2 ds xs st2 rs2 => ?_
    exact ⟨α2, h2, _, rfl, .refl _ _, rs2.1, .cons (rs.vw.mono st2) rs2.2⟩
theorem vIt_ok (hc : CxOk c vc) : ∀ (i : It) {lo : Nat} {O : Nat → Prop} {α : List Nat} {h : Hs} {s : St} {e : Env} {env : VEnv}, Pk lo O α h s e env → Sim α O h (evIt c i e h) (vIt vc i env s) (ResI O)
  | .val i, lo, O, α, h, s, e, env, k => by
    rw [evIt, vIt]
    refine (vE_ok hc i k).bind fun α1 h1 s1 d x st rs => ?_
    cases q : vItems x.2 with
    | none => trivial
    | some xs =>
      obtain ⟨ds, w, e1, e2, e3, e4⟩ := items_ok rs.vw q
      rw [e1]
      exact ⟨α1, h1, _, rfl, .refl _ _, rs.wd, e2, e3, fun b y hy => res_no k.hO rs (e4 y hy) q b⟩
  | .rng1 a, lo, O, α, h, s, e, env, k => by
    rw [evIt, vIt]
    refine (vE_ok hc a k).bind fun α1 h1 s1 d x st rs => ?_
    obtain ⟨f, v⟩ := x
    have p := rs.vw
    cases v with
    | int j =>
      cases p.int'
      simp only
      split
      · exact ⟨α1, h1, _, rfl, .refl _ _, rs.wd, Rps.range _ _, .nil, fun _ y hy => by cases hy⟩
      · trivial
    | _ => trivial
  | .rng2 a b, lo, O, α, h, s, e, env, k => by
    rw [evIt, vIt]
    refine (vE_ok hc a k).bind fun α1 h1 s1 d x st rs => ?_
    have k1 := k.step st rs.wd
    refine (vE_ok hc b k1).bind fun α2 h2 s2 d2 y st2 rs2 => ?_
    obtain ⟨f, v⟩ := x
    obtain ⟨f2, v2⟩ := y
    have p := rs.vw
    have p2 := rs2.vw
    cases v with
    | int i =>
      cases p.int'
      cases v2 with
      | int j =>
        cases p2.int'
        simp only
        split
        · exact ⟨α2, h2, _, rfl, .refl _ _, rs2.wd, Rps.range _ _, .nil, fun _ y hy => by cases hy⟩
        · trivial
      | _ => trivial
    | _ => cases v2 <;> trivial
  | .rng3 a b z, lo, O, α, h, s, e, env, k => by
    rw [evIt, vIt]
    refine (vE_ok hc a k).bind fun α1 h1 s1 d x st rs => ?_
    have k1 := k.step st rs.wd
    refine (vE_ok hc b k1).bind fun α2 h2 s2 d2 y st2 rs2 => ?_
    have k2 := k1.step st2 rs2.wd
    refine (vE_ok hc z k2).bind fun α3 h3 s3 d3 y3 st3 rs3 => ?_
    obtain ⟨f, v⟩ := x
    obtain ⟨f2, v2⟩ := y
    obtain ⟨f3, v3⟩ := y3
    have p := rs.vw
    have p2 := rs2.vw
    have p3 := rs3.vw
    cases v with
    | int i =>
      cases p.int'
      cases v2 with
      | int j =>
        cases p2.int'
        cases v3 with
        | int l =>
          cases p3.int'
          simp only
          split
          · exact ⟨α3, h3, _, rfl, .refl _ _, rs3.wd, Rps.range3 _ _ _, .nil, fun _ y hy => by cases hy⟩
          · trivial
        | _ => trivial
      | _ => cases v3 <;> trivial
    | _ => cases v2 <;> cases v3 <;> trivial
  | .enum i, lo, O, α, h, s, e, env, k => by
    rw [evIt, vIt]
    refine (vE_ok hc i k).bind fun α1 h1 s1 d x st rs => ?_
    obtain ⟨f, v⟩ := x
    have p := rs.vw
    cases v with
    | lst xs =>
      obtain ⟨a, ds, ed, e0, p', a2, an⟩ := p.lst'
      subst ed
      simp only [enumItems, e0, R.opt]
      refine ⟨α1, h1, _, rfl, .refl _ _, rs.wd, p'.enum 0, fun q hq => ?_, fun b q hq => ?_⟩
      · simp at hq; subst hq; exact ⟨a2, an, e0⟩
      · simp at hq; subst hq; exact res_no k.hO rs rfl (xs := xs) rfl b
    | _ => trivial
  | .zip a b, lo, O, α, h, s, e, env, k => by
    rw [evIt, vIt]
    refine (vE_ok hc a k).bind fun α1 h1 s1 d x st rs => ?_
    have k1 := k.step st rs.wd
    refine (vE_ok hc b k1).bind fun α2 h2 s2 d2 y st2 rs2 => ?_
    have k2 := k1.step st2 rs2.wd
    have pm := rs.vw.mono st2
    have pn : decide (x.1 = .bo) = false → Rp α2 O h2 d x.2 := fun z => (rs.rp k.hO (by simpa using z)).mono st2.mon0
    obtain ⟨f, v⟩ := x
    obtain ⟨f2, v2⟩ := y
    have p := pm
    have p2 := rs2.vw
    cases v with
    | lst xs =>
      obtain ⟨a, ds, ed, e0, p', a2, an⟩ := p.lst'
      cases v2 with
      | lst ys =>
        obtain ⟨b, es, ee, e02, p2', b2, bn⟩ := p2.lst'
        subst ed
        subst ee
        simp only [zipItems, e0, e02, R.opt]
        refine ⟨α2, h2, _, rfl, .refl _ _, rs2.wd, p'.zip p2', fun q hq => ?_, fun z q hq => ?_⟩
        · simp at hq
          rcases hq with hq | hq
          · subst hq; exact ⟨a2, an, e0⟩
          · subst hq; exact ⟨b2, bn, e02⟩
        · simp only [Bool.or_eq_false_iff] at z
          simp at hq
          rcases hq with hq | hq
          · subst hq; exact rp_no (pn z.1) (xs := xs) rfl
          · subst hq; exact res_no k.hO rs2 rfl (xs := ys) rfl z.2
      | _ => trivial
    | _ => cases v2 <;> trivial
theorem vTg_ok (hc : CxOk c vc) : ∀ (t : Tg) {lo : Nat} {O : Nat → Prop} {α : List Nat} {h : Hs} {s : St} {e : Env} {env : VEnv} {d : D} {v : V}, Pk lo O α h s e env → Rp α O h d v → Sim α O h (evTg c t d e h) (vTg vc t v env s) fun α' h' s' e' env' => Wd α' O h' s' ∧ TgR α' O h' e env e' env'
  | .nm i, lo, O, α, h, s, e, env, d, v, k, p => by
    rw [evTg, vTg]
    exact ⟨α, h, _, rfl, .refl _ _, k.w, TgR.set k.r.len i p⟩
  | .tp ts, lo, O, α, h, s, e, env, d, v, k, p => by
    cases v with
    | tup xs =>
      cases p with
      | tup p =>
        rw [evTg, vTg]
        exact vTgs_ok hc ts k p
    | _ => simp only [vTg]; trivial
  | .fld o f, lo, O, α, h, s, e, env, d, v, k, p => by
    rw [evTg, vTg]
    refine (vE_ok hc o k).bind fun α1 h1 s1 d1 x st rs => ?_
    cases q : vSetF s1 x.2 f v with
    | none => trivial
    | some s2 =>
      obtain ⟨h2, e1, st2, w2⟩ := setf_ok rs.wd rs.vw (p.mono st.mon0) q
      rw [e1]
      exact ⟨α1, h2, _, rfl, st2, w2, TgR.refl⟩
  | .sub o i, lo, O, α, h, s, e, env, d, v, k, p => by
    rw [evTg, vTg]
    refine (vE_ok hc o k).bind fun α1 h1 s1 d1 x st rs => ?_
    have k1 := k.step st rs.wd
    refine (vE_ok hc i k1).bind fun α2 h2 s2 d2 y st2 rs2 => ?_
    cases q : vSetI s2 x.2 y.2 v with
    | none => trivial
    | some s3 =>
      obtain ⟨h3, e1, st3, w3⟩ := seti_ok rs2.wd (rs.vw.mono st2) rs2.vw ((p.mono st.mon0).mono st2.mon0) q
      rw [e1]
      exact ⟨α2, h3, _, rfl, st3, w3, TgR.refl⟩
theorem vTgs_ok (hc : CxOk c vc) : ∀ (t : Tgs) {lo : Nat} {O : Nat → Prop} {α : List Nat} {h : Hs} {s : St} {e : Env} {env : VEnv} {d : List D} {v : List V}, Pk lo O α h s e env → Rps α O h d v → Sim α O h (evTgs c t d e h) (vTgs vc t v env s) fun α' h' s' e' env' => Wd α' O h' s' ∧ TgR α' O h' e env e' env'
  | .nil, lo, O, α, h, s, e, env, d, v, k, p => by
    rw [evTgs, vTgs, p.emp]
    split
    · exact ⟨α, h, _, rfl, .refl _ _, k.w, TgR.refl⟩
    · trivial
  | .cons t ts, lo, O, α, h, s, e, env, d, v, k, p => by
    cases p with
    | nil => simp only [vTgs]; trivial
    | cons p q =>
      rw [evTgs, vTgs]
      refine (vTg_ok hc t k p).bind fun α1 h1 s1 e1 env1 st rs => ?_
      have k1 := (k.step st rs.1).env' rs.2
      refine (vTgs_ok hc ts k1 (q.mono st.mon0)).bind' fun α2 h2 s2 e2 env2 st2 rs2 => ?_
      exact ⟨rs2.1, rs.2.trans st2.mon0 rs2.2⟩
end
end
end Ve
end

section
set_option autoImplicit false
set_option Elab.async false
set_option linter.all false
set_option maxHeartbeats 1000000
/-! VeH: names that own their cells; pieces of statements side by side. -/
namespace Ve
open Ev
section
variable {α α' : List Nat} {O O' : Nat → Prop} {h h' : Hs} {s s' : St} {lo base : Nat} {c : Cx} {vc : VCx} {e e' : Env} {env env' : VEnv}
structure EnvS (base : Nat) (α : List Nat) (O : Nat → Prop) (h : Hs) (e : Env) (env : VEnv) : Prop where
  r : EnvR α O h e env
  bs : ∀ (i a : Nat) (v : V), env[i]? = some (some (true, v)) → e[i]? = some (some (.ref a)) → base ≤ a
  inj : ∀ (i j a : Nat) (v u : V), env[i]? = some (some (true, v)) → env[j]? = some (some (true, u)) → e[i]? = some (some (.ref a)) → e[j]? = some (some (.ref a)) → i = j
structure Ps (base : Nat) (O : Nat → Prop) (α : List Nat) (h : Hs) (s : St) (e : Env) (env : VEnv) : Prop where
  hb : base ≤ h.length
  w : Wd α O h s
  e : EnvS base α O h e env
theorem Ps.pk (p : Ps base O α h s e env) : Pk h.length O α h s e env := ⟨fun a z => (p.w.ow a z).2.1, Nat.le_refl _, p.w, p.e.r⟩
theorem Ps.step (p : Ps base O α h s e env) (st : Stp α h α' h') (w : Wd α' O h' s') : Ps base O α' h' s' e env := ⟨Nat.le_trans p.hb st.le, w, p.e.r.step p.w st, p.e.bs, p.e.inj⟩
/-- fewer own -/
theorem Ps.clr1 (p : Ps base O α h s e env) (i : Nat) {x : V} (q : env[i]? = some (some (true, x))) : ∃ O', Ss base α O h α O' h ∧ Ps base O' α h s e (env.set i (some (false, x))) := by
  obtain ⟨d, e1, _, e3⟩ := p.e.r.get i true x q
  obtain ⟨a, rfl, oa, ct⟩ := e3 rfl
  have ba := p.e.bs i a x q e1
  have o3 := p.w.ow a oa
  refine ⟨fun b => O b ∧ b ≠ a, ⟨⟨[], by simp, by simp⟩, Nat.le_refl _, fun _ _ _ _ _ => rfl, fun b z => .inl z.1, fun b z l => ⟨z, by omega⟩⟩, p.hb, p.w.weak fun b z => z.1, ⟨by simp [p.e.r.len], fun j b v z => ?_⟩, fun j b v z z2 => ?_, fun j k b v u z1 z2 z3 z4 => ?_⟩
  · have m : Mon α O h α (fun b => O b ∧ b ≠ a) h := Mon.weak fun b z => z.1
    by_cases cc : i = j
    · subst cc
      rw [List.getElem?_set_self (List.getElem?_eq_some_iff.mp q).1] at z
      cases z
      refine ⟨_, e1, fun _ => (ct.mono m rfl).rp fun f => ?_, fun z => by cases z⟩
      rcases f with f | f | f
      · omega
      · exact o3.2.2 f
      · exact f.2 rfl
    · rw [List.getElem?_set_ne cc] at z
      obtain ⟨d, f1, f2, f3⟩ := p.e.r.get j b v z
      refine ⟨d, f1, fun y => (f2 y).mono m, fun y => ?_⟩
      obtain ⟨a', rfl, oa', ct'⟩ := f3 y
      subst y
      refine ⟨a', rfl, ⟨oa', fun y => ?_⟩, ct'.mono m rfl⟩
      subst y
      exact cc (p.e.inj i j a' x v q z e1 f1)
  · by_cases cc : i = j
    · subst cc
      rw [List.getElem?_set_self (List.getElem?_eq_some_iff.mp q).1] at z
      cases z
    · rw [List.getElem?_set_ne cc] at z
      exact p.e.bs j b v z z2
  · have n1 : i ≠ j := fun cc => by
      subst cc
      rw [List.getElem?_set_self (List.getElem?_eq_some_iff.mp q).1] at z1
      cases z1
    have n2 : i ≠ k := fun cc => by
      subst cc
      rw [List.getElem?_set_self (List.getElem?_eq_some_iff.mp q).1] at z2
      cases z2
    rw [List.getElem?_set_ne n1] at z1
    rw [List.getElem?_set_ne n2] at z2
    exact p.e.inj j k b v u z1 z2 z3 z4
theorem Ps.clr (p : Ps base O α h s e env) : ∀ is : List Nat, ∃ O', Ss base α O h α O' h ∧ Ps base O' α h s e (Ve.clr env is)
  | [] => ⟨O, Ss.refl _ _ _ _, p⟩
  | i :: is => by
    obtain ⟨O1, s1, p1⟩ := p.clr is
    unfold Ve.clr
    simp only
    split
    · rename_i x q
      obtain ⟨O2, s2, p2⟩ := p1.clr1 i q
      exact ⟨O2, s1.trans s2, p2⟩
    · exact ⟨O1, s1, p1⟩
/-- a name is given a value -/
theorem EnvS.set (p : EnvS base α O h e env) (i : Nat) {d : D} {v : V} (q : Rp α O h d v) : EnvS base α O h (e.set i (some d)) (env.set i (some (false, v))) := by
  have key : ∀ (j : Nat) (u : V), (env.set i (some (false, v)))[j]? = some (some (true, u)) → env[j]? = some (some (true, u)) ∧ (e.set i (some d))[j]? = e[j]? := fun j u z => by
    by_cases cc : i = j
    · subst cc
      by_cases l : i < env.length
      · rw [List.getElem?_set_self l] at z; cases z
      · rw [List.set_eq_of_length_le (by omega)] at z
        have := (List.getElem?_eq_some_iff.mp z).1
        omega
    · rw [List.getElem?_set_ne cc] at z
      exact ⟨z, List.getElem?_set_ne cc⟩
  refine ⟨(TgR.set p.r.len i q).env p.r, fun j a u z z2 => ?_, fun j k a u y z1 z2 z3 z4 => ?_⟩
  · obtain ⟨k1, k2⟩ := key j u z
    rw [k2] at z2
    exact p.bs j a u k1 z2
  · obtain ⟨k1, k2⟩ := key j u z1
    obtain ⟨k3, k4⟩ := key k y z2
    rw [k2] at z3
    rw [k4] at z4
    exact p.inj j k a u y k1 k3 z3 z4
theorem EnvS.tg (p : EnvS base α O h e env) (t : TgR α O h e env e' env') : EnvS base α O h e' env' := by
  have key : ∀ (j : Nat) (u : V), env'[j]? = some (some (true, u)) → env[j]? = some (some (true, u)) ∧ e'[j]? = e[j]? := fun j u z => by
    rcases t.ch j with ⟨a, b⟩ | ⟨d, v, a, b, _⟩
    · exact ⟨by rw [← a]; exact z, b⟩
    · rw [a] at z; cases z
  refine ⟨t.env p.r, fun j a u z z2 => ?_, fun j k a u y z1 z2 z3 z4 => ?_⟩
  · obtain ⟨k1, k2⟩ := key j u z
    rw [k2] at z2
    exact p.bs j a u k1 z2
  · obtain ⟨k1, k2⟩ := key j u z1
    obtain ⟨k3, k4⟩ := key k y z2
    rw [k2] at z3
    rw [k4] at z4
    exact p.inj j k a u y k1 k3 z3 z4
/-- a name is given a new cell -/
theorem EnvS.setT (p : EnvS base α O h e env) (i : Nat) {a : Nat} {v : V} (oa : O a) (ba : base ≤ a) (ct : Ct α O h a v) (fa : ∀ (j b : Nat) (u : V), env[j]? = some (some (true, u)) → e[j]? = some (some (.ref b)) → b ≠ a) : EnvS base α O h (e.set i (some (.ref a))) (env.set i (some (true, v))) := by
  by_cases l : i < env.length
  · have le : i < e.length := by rw [p.r.len]; exact l
    refine ⟨⟨by simp [p.r.len], fun j b u z => ?_⟩, fun j b u z z2 => ?_, fun j k b u y z1 z2 z3 z4 => ?_⟩
    · by_cases cc : i = j
      · subst cc
        rw [List.getElem?_set_self l] at z
        cases z
        exact ⟨_, List.getElem?_set_self le, fun z => by (cases z), fun _ => ⟨a, rfl, oa, ct⟩⟩
      · rw [List.getElem?_set_ne cc] at z
        rw [List.getElem?_set_ne cc]
        exact p.r.get j b u z
    · by_cases cc : i = j
      · subst cc
        rw [List.getElem?_set_self le] at z2
        cases z2
        exact ba
      · rw [List.getElem?_set_ne cc] at z z2
        exact p.bs j b u z z2
    · by_cases c1 : i = j
      · by_cases c2 : i = k
        · omega
        · subst c1
          rw [List.getElem?_set_self le] at z3
          cases z3
          rw [List.getElem?_set_ne c2] at z2 z4
          exact absurd rfl (fa k _ y z2 z4)
      · by_cases c2 : i = k
        · subst c2
          rw [List.getElem?_set_self le] at z4
          cases z4
          rw [List.getElem?_set_ne c1] at z1 z3
          exact absurd rfl (fa j _ u z1 z3)
        · rw [List.getElem?_set_ne c1] at z1 z3
          rw [List.getElem?_set_ne c2] at z2 z4
          exact p.inj j k b u y z1 z2 z3 z4
  · rw [List.set_eq_of_length_le (by rw [p.r.len]; omega), List.set_eq_of_length_le (by omega)]
    exact p
/-- the cell of a name changes -/
theorem Ps.upd (p : Ps base O α h s e env) {i a : Nat} {v v' : V} (q : env[i]? = some (some (true, v))) (qe : e[i]? = some (some (.ref a))) {x : Ob} (ct : Ct α O (h.set a x) a v') : Ss base α O h α O (h.set a x) ∧ Ps base O α (h.set a x) s e (env.set i (some (true, v'))) := by
  obtain ⟨d, e1, _, e3⟩ := p.e.r.get i true v q
  obtain ⟨b, rfl, oa, _⟩ := e3 rfl
  rw [e1] at qe
  cases qe
  have ba := p.e.bs i a v q e1
  obtain ⟨w2, sx⟩ := p.w.setO oa x
  have ss := sx base ba
  have l := (List.getElem?_eq_some_iff.mp q).1
  refine ⟨ss, by simpa using p.hb, w2, ⟨by simp [p.e.r.len], fun j b u z => ?_⟩, fun j b u z z2 => ?_, fun j k b u y z1 z2 z3 z4 => ?_⟩
  · by_cases cc : i = j
    · subst cc
      rw [List.getElem?_set_self l] at z
      cases z
      exact ⟨_, e1, fun z => by (cases z), fun _ => ⟨a, rfl, oa, ct⟩⟩
    · rw [List.getElem?_set_ne cc] at z
      obtain ⟨d, f1, f2, f3⟩ := p.e.r.get j b u z
      refine ⟨d, f1, fun y => (f2 y).mono ss.mon, fun y => ?_⟩
      obtain ⟨a', rfl, oa', ct'⟩ := f3 y
      subst y
      refine ⟨a', rfl, oa', ct'.mono ss.mon (List.getElem?_set_ne fun y => ?_)⟩
      subst y
      exact cc (p.e.inj i j a v u q z e1 f1)
  · by_cases cc : i = j
    · subst cc
      exact p.e.bs i b v q z2
    · rw [List.getElem?_set_ne cc] at z
      exact p.e.bs j b u z z2
  · have key : ∀ (j : Nat) (u : V), (env.set i (some (true, v')))[j]? = some (some (true, u)) → ∃ u', env[j]? = some (some (true, u')) := fun j u z => by
      by_cases cc : i = j
      · subst cc; exact ⟨v, q⟩
      · rw [List.getElem?_set_ne cc] at z; exact ⟨u, z⟩
    obtain ⟨u1, k1⟩ := key j u z1
    obtain ⟨u2, k2⟩ := key k y z2
    exact p.e.inj j k b u1 u2 k1 k2 z3 z4
/-! ### statements side by side -/
def SimS (base : Nat) (α : List Nat) (O : Nat → Prop) (h : Hs) (r : RS) (q : VRS) : Prop := match q with
  | .nx env' s' => ∃ α' O' h' e', r = .nx e' h' ∧ Ss base α O h α' O' h' ∧ Ps base O' α' h' s' e' env'
  | .brk env' s' => ∃ α' O' h' e', r = .brk e' h' ∧ Ss base α O h α' O' h' ∧ Ps base O' α' h' s' e' env'
  | .ret v s' => ∃ α' O' h' d, r = .ret d h' ∧ Ss base α O h α' O' h' ∧ Wd α' O' h' s' ∧ Rp α' O' h' d v
  | .exc k env' s' => ∃ α' O' h' e', r = .exc k e' h' ∧ Ss base α O h α' O' h' ∧ Ps base O' α' h' s' e' env'
  | .bad => True
theorem SimS.step {r : RS} {q : VRS} (st : Ss base α O h α' O' h') (H : SimS base α' O' h' r q) : SimS base α O h r q := by
  revert H
  unfold SimS
  cases q with
  | nx a b => rintro ⟨x1, x2, x3, x4, x5, x6, x7⟩; exact ⟨x1, x2, x3, x4, x5, st.trans x6, x7⟩
  | brk a b => rintro ⟨x1, x2, x3, x4, x5, x6, x7⟩; exact ⟨x1, x2, x3, x4, x5, st.trans x6, x7⟩
  | ret a b => rintro ⟨x1, x2, x3, x4, x5, x6, x7⟩; exact ⟨x1, x2, x3, x4, x5, st.trans x6, x7⟩
  | exc a b => rintro ⟨x1, x2, x3, x4, x5, x6, x7⟩; exact ⟨x1, x2, x3, x4, x5, st.trans x6, x7⟩
  | bad => exact id
theorem SimS.lift {B : Type} (p : Ps base O α h s e env) {r : R D} {q : VR B} {Q : List Nat → Hs → St → D → B → Prop} {f : D → Hs → RS} {g : B → St → VRS} (H : Sim α O h r q Q)
    (K : ∀ α' h' s' d x, Stp α h α' h' → Q α' h' s' d x → SimS base α' O h' (f d h') (g x s')) : SimS base α O h (liftS e r f) (vlift env q g) := by
  cases q with
  | ok x s1 =>
    obtain ⟨α1, h1, d, e1, st, hq⟩ := H
    rw [e1]
    exact (K α1 h1 s1 d x st hq).step (st.ss base)
  | exc k s1 =>
    obtain ⟨α1, h1, e1, st, w1⟩ := H
    rw [e1]
    exact ⟨α1, O, h1, e, rfl, st.ss base, p.step st w1⟩
  | bad => trivial
theorem SimS.liftE' {r : R Env} {q : VR VEnv} {Q : List Nat → Hs → St → Env → VEnv → Prop} {f : Env → Hs → RS} {g : VEnv → St → VRS} (H : Sim α O h r q Q)
    (K : ∀ α' h' s' d x, Stp α h α' h' → Q α' h' s' d x → SimS base α' O h' (f d h') (g x s')) : SimS base α O h (liftE r f) (vliftE q g) := by
  cases q with
  | ok x s1 =>
    obtain ⟨α1, h1, d, e1, st, hq⟩ := H
    rw [e1]
    exact (K α1 h1 s1 d x st hq).step (st.ss base)
  | exc k s1 => trivial
  | bad => trivial
theorem unb_ok {r : R D} {q : VR FV} (hO : ∀ a, O a → a < lo) (H : Sim α O h r q (Res lo O)) : Sim α O h r (q.bind unb) fun α' h' s' d v => Wd α' O h' s' ∧ Rp α' O h' d v := by
  cases q with
  | ok x s1 =>
    obtain ⟨α1, h1, d, e1, st, rs⟩ := H
    obtain ⟨f, v⟩ := x
    cases f with
    | bo => trivial
    | sh => exact ⟨α1, h1, d, e1, st, rs.wd, rs.rp hO (by simp)⟩
    | fr => exact ⟨α1, h1, d, e1, st, rs.wd, rs.rp hO (by simp)⟩
  | exc k s1 => exact H
  | bad => trivial
theorem Ps.nx (p : Ps base O α h s e env) : SimS base α O h (.nx e h) (.nx env s) := ⟨α, O, h, e, rfl, Ss.refl _ _ _ _, p⟩
theorem vAsg_ok (hc : CxOk c vc) (t : Tg) (i : IE) (p : Ps base O α h s e env) : SimS base α O h (liftS e (evE c i e h) fun d h => liftE (evTg c t d e h) fun env h => .nx env h) (vAsg vc t i env s) := by
  unfold vAsg
  refine SimS.lift p (unb_ok p.pk.hO (vE_ok hc i p.pk)) fun α1 h1 s1 d v st rs => ?_
  have p1 := p.step st rs.1
  refine SimS.liftE' (vTg_ok hc t p1.pk rs.2) fun α2 h2 s2 e2 env2 st2 rs2 => ?_
  have p2 := p1.step st2 rs2.1
  exact Ps.nx ⟨p2.hb, p2.w, p2.e.tg rs2.2⟩
/-- a new cell becomes owned -/
theorem Ss.add (st : Stp α h α' h') {a : Nat} (la : h.length ≤ a) : Ss base α O h α' (Oa O a) h' := ⟨st.pre, st.le, fun b b2 bl bn _ => st.eq b b2 bl bn, fun b z => by
  rcases z with z | z
  · exact .inl z
  · exact .inr (by omega), fun b z _ => .inl z⟩
theorem EnvS.add (p : EnvS base α O h e env) (w : Wd α O h s) (st : Stp α h α' h') {a : Nat} (la : h.length ≤ a) : EnvS base α' (Oa O a) h' e env := ⟨p.r.mono (st.mon fun b z => by
  rcases z with z | z
  · exact .inl z
  · exact .inr (by omega)) (fun _ z => .inl z) fun b z l => st.eq b (w.ow b z).1 l (w.ow b z).2.2, p.bs, p.inj⟩
theorem vAsgN_ok (hc : CxOk c vc) (j : Nat) (i : IE) (p : Ps base O α h s e env) : SimS base α O h (liftS e (evE c i e h) fun d h => liftE (evTg c (.nm j) d e h) fun env h => .nx env h) (vAsgN vc j i env s) := by
  unfold vAsgN
  have H := vE_ok hc i p.pk
  revert H
  cases vE vc i env s with
  | bad => intro _; trivial
  | exc k s1 =>
    rintro ⟨α1, h1, e1, st, w1⟩
    rw [e1]
    exact ⟨α1, O, h1, e, rfl, st.ss base, p.step st w1⟩
  | ok x s1 =>
    rintro ⟨α1, h1, d, e1, st, rs⟩
    rw [e1]
    simp only [liftS, vlift, evTg, liftE]
    cases rs with
    | bo w o ct => trivial
    | sh w q =>
      have p1 := p.step st w
      exact ⟨α1, O, h1, _, rfl, st.ss base, p1.hb, p1.w, p1.e.set j q⟩
    | fr w l ct =>
      refine ⟨α1, _, h1, _, rfl, Ss.add st l, Nat.le_trans p.hb st.le, w, (p.e.add p.w st l).setT j (.inr rfl) (Nat.le_trans p.hb l) ct fun k b u z1 z2 z3 => ?_⟩
      subst z3
      obtain ⟨d, f1, _, f3⟩ := p.e.r.get k true u z1
      obtain ⟨b', rfl, ob, _⟩ := f3 rfl
      rw [f1] at z2
      cases z2
      have := (p.w.ow b ob).2.1
      omega
theorem own_ok (p : Ps base O α h s e env) {j : Nat} {o : V} (q : own? env j = some o) : env[j]? = some (some (true, o)) ∧ ∃ a, e[j]? = some (some (.ref a)) ∧ O a ∧ Ct α O h a o := by
  unfold own? at q
  split at q
  · rename_i v z
    cases q
    obtain ⟨d, f1, _, f3⟩ := p.e.r.get j true o z
    obtain ⟨a, rfl, oa, ct⟩ := f3 rfl
    exact ⟨z, a, f1, oa, ct⟩
  · cases q
theorem vAsgO_ok (hc : CxOk c vc) (j : Nat) (k i : IE) (p : Ps base O α h s e env) : SimS base α O h (liftS e (evE c i e h) fun d h => liftE (evTg c (.sub (.var j) k) d e h) fun env h => .nx env h) (vAsgO vc j k i env s) := by
  unfold vAsgO
  refine SimS.lift p (unb_ok p.pk.hO (vE_ok hc i p.pk)) fun α1 h1 s1 d v st rs => ?_
  have p1 := p.step st rs.1
  cases q : own? env j with
  | none => trivial
  | some o =>
    obtain ⟨q1, a, q2, oa, ct⟩ := own_ok p1 q
    simp only
    rw [evTg, evE, q2]
    simp only [R.bind]
    have H := vE_ok hc k p1.pk
    revert H
    cases vE vc k env s1 with
    | bad => intro _; trivial
    | exc _ _ => intro _; trivial
    | ok y s2 =>
      rintro ⟨α2, h2, dy, e2, st2, rs2⟩
      have p2 := p1.step st2 rs2.wd
      have r2 := rs.2.mono st2.mon0
      have o3 := p1.w.ow a oa
      have ct2 := ct.mono st2.mon0 (st2.eq a o3.1 o3.2.1 o3.2.2)
      have al := (p2.w.ow a oa).2.1
      rw [e2]
      simp only [VR.bind]
      cases ct2 with
      | lst e0 rr =>
        rename_i ds vs
        obtain ⟨fy, vy⟩ := y
        have vw := rs2.vw
        cases vy with
        | int m =>
          cases vw.int'
          simp only [vSetO, setIx, e0, rr.len]
          cases ixN vs.length m with
          | none => trivial
          | some jj =>
            obtain ⟨ss, p3⟩ := p2.upd q1 q2 (x := .lst (ds.set jj d)) (v' := .lst (vs.set jj v)) (.lst (List.getElem?_set_self al) ((rr.set jj r2).mono (p2.w.setO oa _ |>.2 a (Nat.le_refl _)).mon))
            exact ⟨α2, O, _, e, rfl, (st2.ss base).trans ss, p3⟩
        | _ => trivial
      | dic e0 rr =>
        rename_i ks vs
        simp only [vSetO]
        cases q3 : key y.2 with
        | none => trivial
        | some kk =>
          have vw := rs2.vw.key q3
          subst vw
          simp only [setIx, e0, rr.kin, rr.len]
          by_cases cc : vkin dy vs = true ∧ vs.length < LIM
          · rw [if_pos cc, if_pos cc]
            obtain ⟨ss, p3⟩ := p2.upd q1 q2 (x := .dic (dput dy d ks)) (v' := .dic (vput dy v vs)) (.dic (List.getElem?_set_self al) ((rr.put dy r2).mono (p2.w.setO oa _ |>.2 a (Nat.le_refl _)).mon))
            exact ⟨α2, O, _, e, rfl, (st2.ss base).trans ss, p3⟩
          · rw [if_neg cc, if_neg cc]; trivial
/-- values each of which may be new -/
inductive Fs (α : List Nat) (O : Nat → Prop) (h : Hs) : Nat → List D → List FV → Prop
  | nil (lo : Nat) : Fs α O h lo [] []
  | sh {lo : Nat} {d : D} {v : V} {ds : List D} {xs : List FV} : Rp α O h d v → Fs α O h lo ds xs → Fs α O h lo (d :: ds) ((.sh, v) :: xs)
  | fr {lo a : Nat} {v : V} {ds : List D} {xs : List FV} : lo ≤ a → O a → Ct α O h a v → Fs α O h (a + 1) ds xs → Fs α O h lo (.ref a :: ds) ((.fr, v) :: xs)
theorem Fs.lo' : ∀ {lo lo' : Nat} {ds : List D} {xs : List FV}, lo' ≤ lo → Fs α O h lo ds xs → Fs α O h lo' ds xs
  | _, _, _, _, _, .nil _ => .nil _
  | _, _, _, _, l, .sh p q => .sh p (q.lo' l)
  | _, _, _, _, l, .fr a b d q => .fr (Nat.le_trans l a) b d q
theorem Fs.mono (w : Wd α O h s) (st : Stp α h α' h') : ∀ {lo : Nat} {ds : List D} {xs : List FV}, Fs α O h lo ds xs → Fs α' O h' lo ds xs
  | _, _, _, .nil _ => .nil _
  | _, _, _, .sh p q => .sh (p.mono st.mon0) (q.mono w st)
  | _, _, _, .fr a b d q => .fr a b (d.mono st.mon0 (st.eq _ (w.ow _ b).1 d.lt (w.ow _ b).2.2)) (q.mono w st)
theorem Sim.weak {A B : Type} {r : R A} {q : VR B} {Q : List Nat → Hs → St → A → B → Prop} (ho : ∀ a, O' a → O a) (H : Sim α O h r q Q) : Sim α O' h r q Q := by
  cases q with
  | ok x s1 => exact H
  | exc k s1 =>
    obtain ⟨a, b, e, st, w⟩ := H
    exact ⟨a, b, e, st, w.weak ho⟩
  | bad => trivial
def ResF (lo : Nat) (O : Nat → Prop) (α : List Nat) (h : Hs) (s : St) (ds : List D) (xs : List FV) : Prop := ∃ O1 : Nat → Prop, (∀ a, O1 a → O a ∨ lo ≤ a) ∧ (∀ a, O a → O1 a) ∧ Wd α O1 h s ∧ Fs α O1 h lo ds xs
theorem vEf_ok (hc : CxOk c vc) : ∀ (i : IEs) {O : Nat → Prop} {α : List Nat} {h : Hs} {s : St} {e : Env} {env : VEnv}, Pk h.length O α h s e env → Sim α O h (evEs c i e h) (vEf vc i env s) (ResF h.length O)
  | .nil, O, α, h, s, e, env, k => by
    rw [evEs, vEf]
    exact ⟨α, h, _, rfl, .refl _ _, O, fun _ z => .inl z, fun _ z => z, k.w, .nil _⟩
  | .cons i is, O, α, h, s, e, env, k => by
    rw [evEs, vEf]
    refine (vE_ok hc i k).bind fun α1 h1 s1 d x st rs => ?_
    have k1 := k.step st rs.wd
    cases rs with
    | bo _ _ _ => trivial
    | sh w p =>
      have k1' : Pk h1.length O α1 h1 s1 e env := ⟨fun a z => (w.ow a z).2.1, Nat.le_refl _, k1.w, k1.r⟩
      simp only [unb, VR.bind_ok]
      refine Sim.bind (vEf_ok hc is k1') fun α2 h2 s2 ds xs st2 rs2 => ?_
      obtain ⟨O1, a1, a2, w2, f2⟩ := rs2
      refine ⟨α2, h2, _, rfl, .refl _ _, O1, fun a z => ?_, a2, w2, .sh (p.mono (st2.mon a1)) (f2.lo' k1.hl)⟩
      rcases a1 a z with z | z
      · exact .inl z
      · exact .inr (Nat.le_trans k1.hl z)
    | fr w l ct =>
      rename_i a v
      have la := (w.ow a (.inr rfl)).2.1
      have k1' : Pk h1.length (Oa O a) α1 h1 s1 e env := ⟨fun a z => (w.ow a z).2.1, Nat.le_refl _, w, k.r.mono (st.mon fun b z => by
        rcases z with z | z
        · exact .inl z
        · exact .inr (by omega)) (fun _ z => .inl z) fun b z l => st.eq b (k.w.ow b z).1 l (k.w.ow b z).2.2⟩
      simp only [unb, VR.bind_ok]
      refine Sim.weak (O := Oa O a) (fun _ z => .inl z) (Sim.bind (vEf_ok hc is k1') fun α2 h2 s2 ds xs st2 rs2 => ?_)
      obtain ⟨O1, a1, a2, w2, f2⟩ := rs2
      refine ⟨α2, h2, _, rfl, .refl _ _, O1, fun b z => ?_, fun b z => a2 b (.inl z), w2, .fr l (a2 a (.inr rfl)) (ct.mono (st2.mon a1) (st2.eq a (w.ow a (.inr rfl)).1 la (w.ow a (.inr rfl)).2.2)) (f2.lo' (by omega))⟩
      rcases a1 b z with z | z
      · rcases z with z | z
        · exact .inl z
        · exact .inr (by omega)
      · exact .inr (Nat.le_trans k1.hl z)
end
end Ve
end

section
set_option autoImplicit false
set_option Elab.async false
set_option linter.all false
set_option maxHeartbeats 1000000
/-! VeI: statements side by side. -/
namespace Ve
open Ev
section
variable {α α' : List Nat} {O O' : Nat → Prop} {h h' : Hs} {s s' : St} {lo base : Nat} {c : Cx} {vc : VCx} {e e' : Env} {env env' : VEnv}
theorem vTgf_ok (hc : CxOk c vc) : ∀ (ts : Tgs) {base lo : Nat} {O : Nat → Prop} {α : List Nat} {h : Hs} {s : St} {e : Env} {env : VEnv} {ds : List D} {xs : List FV}, Ps base O α h s e env → Fs α O h lo ds xs → base ≤ lo →
    (∀ (j b : Nat) (u : V), env[j]? = some (some (true, u)) → e[j]? = some (some (.ref b)) → b < lo) → Sim α O h (evTgs c ts ds e h) (vTgf vc ts xs env s) fun α' h' s' e' env' => Ps base O α' h' s' e' env'
  | .nil, base, lo, O, α, h, s, e, env, ds, xs, p, f, bl, hl => by
    cases f with
    | nil => rw [evTgs, vTgf]; exact ⟨α, h, _, rfl, .refl _ _, p⟩
    | sh _ _ => rw [vTgf]; trivial
    | fr _ _ _ _ => rw [vTgf]; trivial
  | .cons t ts, base, lo, O, α, h, s, e, env, ds, xs, p, f, bl, hl => by
    cases f with
    | nil => simp only [vTgf]; trivial
    | sh q f =>
      rename_i d v ds xs
      rw [evTgs]
      cases t with
      | nm i =>
        simp only [vTgf, evTg, R.bind]
        refine vTgf_ok hc ts (⟨p.hb, p.w, ?_⟩ : Ps base O α h s _ _) f bl fun j b u z1 z2 => ?_
        · simpa [isFr] using p.e.set i q
        · by_cases cc : i = j
          · subst cc
            by_cases l : i < env.length
            · rw [List.getElem?_set_self l] at z1; simp [isFr] at z1
            · rw [List.set_eq_of_length_le (by omega)] at z1
              have := (List.getElem?_eq_some_iff.mp z1).1; omega
          · rw [List.getElem?_set_ne cc] at z1 z2
            exact hl j b u z1 z2
      | tp _ =>
        simp only [vTgf]
        refine (vTg_ok hc _ p.pk q).bind fun α1 h1 s1 e1 env1 st rs => ?_
        have p1 := p.step st rs.1
        refine vTgf_ok hc ts ⟨p1.hb, p1.w, p1.e.tg rs.2⟩ (f.mono p.w st) bl fun j b u z1 z2 => ?_
        rcases rs.2.ch j with ⟨y1, y2⟩ | ⟨_, _, y1, _⟩
        · rw [y1] at z1; rw [y2] at z2; exact hl j b u z1 z2
        · rw [y1] at z1; cases z1
      | fld _ _ =>
        simp only [vTgf]
        refine (vTg_ok hc _ p.pk q).bind fun α1 h1 s1 e1 env1 st rs => ?_
        have p1 := p.step st rs.1
        refine vTgf_ok hc ts ⟨p1.hb, p1.w, p1.e.tg rs.2⟩ (f.mono p.w st) bl fun j b u z1 z2 => ?_
        rcases rs.2.ch j with ⟨y1, y2⟩ | ⟨_, _, y1, _⟩
        · rw [y1] at z1; rw [y2] at z2; exact hl j b u z1 z2
        · rw [y1] at z1; cases z1
      | sub _ _ =>
        simp only [vTgf]
        refine (vTg_ok hc _ p.pk q).bind fun α1 h1 s1 e1 env1 st rs => ?_
        have p1 := p.step st rs.1
        refine vTgf_ok hc ts ⟨p1.hb, p1.w, p1.e.tg rs.2⟩ (f.mono p.w st) bl fun j b u z1 z2 => ?_
        rcases rs.2.ch j with ⟨y1, y2⟩ | ⟨_, _, y1, _⟩
        · rw [y1] at z1; rw [y2] at z2; exact hl j b u z1 z2
        · rw [y1] at z1; cases z1
    | fr la oa ct f =>
      rename_i a v ds xs
      rw [evTgs]
      cases t with
      | nm i =>
        simp only [vTgf, evTg, R.bind]
        refine vTgf_ok hc ts (⟨p.hb, p.w, ?_⟩ : Ps base O α h s _ _) f (by omega) fun j b u z1 z2 => ?_
        · have := p.e.setT i oa (by omega) ct fun j b u z1 z2 z3 => by
            have := hl j b u z1 z2
            omega
          simpa [isFr] using this
        · by_cases cc : i = j
          · subst cc
            by_cases l : i < env.length
            · rw [List.getElem?_set_self (by rw [p.e.r.len]; exact l)] at z2
              cases z2
              omega
            · rw [List.set_eq_of_length_le (by omega)] at z1
              have := (List.getElem?_eq_some_iff.mp z1).1; omega
          · rw [List.getElem?_set_ne cc] at z1 z2
            have := hl j b u z1 z2
            omega
      | tp _ => simp only [vTgf]; trivial
      | fld _ _ => simp only [vTgf]; trivial
      | sub _ _ => simp only [vTgf]; trivial
theorem cls_ok (w : Wd α O h s) {d : D} {x : V} (p : Vw α O h d x) (n : Nat) (z : vclsAt x s = some n) : clsAt d h = some n := by
  cases x with
  | obj j =>
    obtain ⟨a, rfl, ea⟩ := p.obj'
    simp only [vclsAt] at z
    cases e0 : s.ob[j]? with
    | none => simp [e0] at z
    | some o =>
      cases o with
      | dic _ => simp [e0] at z
      | ins cl fs =>
        obtain ⟨ob, e1, r⟩ := w.ob j a _ ea e0
        cases r with
        | ins r =>
          simp only [e0] at z
          simp only [clsAt, e1]
          exact z
  | _ => simp [vclsAt] at z
theorem aop_ok {op : BOp} {d1 d2 : D} {x y z : V} (p : Vw α O h d1 x) (q : Vw α O h d2 y) (e : vaop op x y = some z) : ∃ d, aop op d1 d2 h = .ok d h ∧ Rp α O h d z := by
  cases op with
  | add =>
    cases x with
    | int a =>
      cases p.int'
      cases y with
      | int b => cases q.int'; cases e; exact ⟨_, rfl, .int _⟩
      | _ => simp [vaop] at e
    | str a =>
      cases p.str'
      cases y with
      | str b =>
        cases q.str'
        simp only [vaop] at e
        split at e
        · rename_i c
          cases e
          exact ⟨_, by simp only [aop, if_pos c], .str _⟩
        · cases e
      | _ => simp [vaop] at e
    | _ => simp [vaop] at e
  | _ => simp [vaop] at e
theorem for_ok {f : D → Env → Hs → RS} {g : V → VEnv → St → VRS} {w : Watch}
    (k : ∀ (α : List Nat) (O : Nat → Prop) (h : Hs) (s : St) (e : Env) (env : VEnv) (x : D) (v : V), Ps base O α h s e env → Rp α O h x v → SimS base α O h (f x e h) (g v env s)) :
    ∀ {xs : List D} {vs : List V} {α : List Nat} {O : Nat → Prop} {h : Hs} {s : St} {e : Env} {env : VEnv}, Ps base O α h s e env → Rps α O h xs vs → (∀ q ∈ w, ¬ Fb α O q.1 ∧ h[q.1]? = some q.2) → SimS base α O h (forGo f w xs e h) (vfor g vs env s)
  | _, _, α, O, h, s, e, env, p, .nil, wo => by
    unfold forGo vfor
    have : chk w h = true := by
      unfold chk
      rw [List.all_eq_true]
      intro q hq
      simp [(wo q hq).2]
    rw [this]
    exact p.nx
  | _, _, α, O, h, s, e, env, p, .cons q r, wo => by
    rename_i x v xs vs
    unfold forGo vfor
    have : chk w h = true := by
      unfold chk
      rw [List.all_eq_true]
      intro q hq
      simp [(wo q hq).2]
    rw [this]
    have H := k α O h s e env x v p q
    simp only [if_true]
    revert H
    cases g v env s with
    | bad => intro _; trivial
    | nx env1 s1 =>
      rintro ⟨α1, O1, h1, e1, e2, ss, p1⟩
      rw [e2]
      exact (for_ok k p1 (r.mono ss.mon) fun q hq => ss.mon.kp _ _ (wo q hq).2 (wo q hq).1).step ss
    | brk env1 s1 =>
      rintro ⟨α1, O1, h1, e1, e2, ss, p1⟩
      rw [e2]
      exact ⟨α1, O1, h1, e1, rfl, ss, p1⟩
    | ret v1 s1 =>
      rintro ⟨α1, O1, h1, e1, e2, ss, p1⟩
      rw [e2]
      exact ⟨α1, O1, h1, e1, rfl, ss, p1⟩
    | exc k1 env1 s1 =>
      rintro ⟨α1, O1, h1, e1, e2, ss, p1⟩
      rw [e2]
      exact ⟨α1, O1, h1, e1, rfl, ss, p1⟩
theorem while_ok {cE : Env → Hs → R D} {gE : VEnv → St → VR FV} {f : Env → Hs → RS} {g : VEnv → St → VRS} {sh : List Nat}
    (kc : ∀ (α : List Nat) (O : Nat → Prop) (h : Hs) (s : St) (e : Env) (env : VEnv), Ps base O α h s e env → Sim α O h (cE e h) (gE env s) (Res h.length O))
    (k : ∀ (α : List Nat) (O : Nat → Prop) (h : Hs) (s : St) (e : Env) (env : VEnv), Ps base O α h s e env → SimS base α O h (f e h) (g env s)) :
    ∀ (n : Nat) {α : List Nat} {O : Nat → Prop} {h : Hs} {s : St} {e : Env} {env : VEnv}, Ps base O α h s e env → SimS base α O h (whileGo cE f n e h) (vwhile gE sh g n env s)
  | 0, α, O, h, s, e, env, p => by
    unfold vwhile; trivial
  | n + 1, α, O, h, s, e, env, p0 => by
    unfold whileGo vwhile
    obtain ⟨O1, ss0, p⟩ := p0.clr sh
    refine SimS.step ss0 ?_
    simp only
    have H := kc α O1 h s e _ p
    revert H
    cases gE (clr env sh) s with
    | bad => intro _; trivial
    | exc j s1 =>
      rintro ⟨α1, h1, e1, st, w1⟩
      rw [e1]
      exact ⟨α1, O1, h1, e, rfl, st.ss base, p.step st w1⟩
    | ok x s1 =>
      rintro ⟨α1, h1, d, e1, st, rs⟩
      rw [e1]
      have p1 := p.step st rs.wd
      refine SimS.step (st.ss base) ?_
      obtain ⟨fx, vx⟩ := x
      have vw := rs.vw
      cases vx with
      | bl b =>
        cases vw.bl'
        cases b with
        | false => exact p1.nx
        | true =>
          have H := k α1 O1 h1 s1 e _ p1
          simp only
          revert H
          cases g (clr env sh) s1 with
          | bad => intro _; trivial
          | nx env2 s2 =>
            rintro ⟨α2, O2, h2, e2, e3, ss, p2⟩
            rw [e3]
            exact (while_ok kc k n p2).step ss
          | brk env1 s1 =>
            rintro ⟨α2, O2, h2, e2, e3, ss, p2⟩
            rw [e3]
            exact ⟨α2, O2, h2, e2, rfl, ss, p2⟩
          | ret env1 s1 =>
            rintro ⟨α2, O2, h2, e2, e3, ss, p2⟩
            rw [e3]
            exact ⟨α2, O2, h2, e2, rfl, ss, p2⟩
          | exc k1 env1 s1 =>
            rintro ⟨α2, O2, h2, e2, e3, ss, p2⟩
            rw [e3]
            exact ⟨α2, O2, h2, e2, rfl, ss, p2⟩
      | _ => trivial
theorem app_ok (hc : CxOk c vc) {i : Nat} {x : IE} {xs : List V} (p : Ps base O α h s e env) (q : own? env i = some (.lst xs)) : SimS base α O h (liftS e (evE c (.bm .append (.var i) (.cons x .nil)) e h) fun _ h => .nx e h)
    (vlift env ((vE vc x env s).bind unb) fun v s => if xs.length < LIM then .nx (env.set i (some (true, .lst (xs ++ [v])))) s else .bad) := by
  obtain ⟨q1, a, q2, oa, ct⟩ := own_ok p q
  have o3 := p.w.ow a oa
  cases ct with
  | lst e0 rr =>
    rename_i ds
    rw [evE, evE, q2]
    simp only [R.bind, bmTy, e0, if_true, evEs]
    have H := unb_ok p.pk.hO (vE_ok hc x p.pk)
    revert H
    cases (vE vc x env s).bind unb with
    | bad => intro _; trivial
    | exc j s1 =>
      rintro ⟨α1, h1, e1, st, w1⟩
      rw [e1]
      exact ⟨α1, O, h1, e, rfl, st.ss base, p.step st w1⟩
    | ok v s1 =>
      rintro ⟨α1, h1, d, e1, st, w1, r1⟩
      rw [e1]
      have p1 := p.step st w1
      have e0' := (st.eq a o3.1 o3.2.1 o3.2.2).trans e0
      have rr' := rr.mono st.mon0
      simp only [vlift, bmeth, e0', rr'.len]
      by_cases cc : xs.length < LIM
      · rw [if_pos cc, if_pos cc]
        have al := (w1.ow a oa).2.1
        obtain ⟨ss, p2⟩ := p1.upd q1 q2 (x := .lst (ds ++ [d])) (v' := .lst (xs ++ [v])) (.lst (List.getElem?_set_self al) ((rr'.app (.cons r1 .nil)).mono (w1.setO oa _ |>.2 a (Nat.le_refl _)).mon))
        exact ⟨α1, O, _, e, rfl, (st.ss base).trans ss, p2⟩
      · rw [if_neg cc, if_neg cc]; trivial
mutual
theorem vS_ok (hc : CxOk c vc) : ∀ (i : IS) {base : Nat} {O : Nat → Prop} {α : List Nat} {h : Hs} {s : St} {e : Env} {env : VEnv}, Ps base O α h s e env → SimS base α O h (exS c i e h) (vS vc i env s)
  | .asg t i, base, O, α, h, s, e, env, p => by
    obtain ⟨O1, ss1, p1⟩ := p.clr (shr i)
    refine SimS.step ss1 ?_
    cases t with
    | nm j =>
      rw [exS, vS]
      exact vAsgN_ok hc j i p1
    | fld o f =>
      cases i with
      | dic0 =>
        rw [exS, vS]
        generalize clr env (shr .dic0) = env1 at p1
        rw [evE]
        simp only [liftS]
        obtain ⟨st, w', ea⟩ := p1.w.push (x := .dic []) (o := .dic []) (.dic .nil)
        refine SimS.step (st.ss base) ?_
        have p2 := p1.step st w'
        rw [evTg]
        refine SimS.liftE' (Q := fun α' h' s' e' env' => Ps base O1 α' h' s' e' env') ?_ fun α3 h3 s3 e3 env3 st3 p3 => p3.nx
        refine (vE_ok hc o p2.pk).bind fun α3 h3 s3 d3 x st3 rs3 => ?_
        cases q : vSetF s3 x.2 f (.obj s.ob.length) with
        | none => trivial
        | some s4 =>
          obtain ⟨h4, e4, st4, w4⟩ := setf_ok rs3.wd rs3.vw (.obj (st3.ext _ _ ea)) q
          rw [e4]
          exact ⟨α3, h4, e, rfl, st4, (p2.step st3 rs3.wd).step st4 w4⟩
      | _ => rw [exS]; simp only [vS]; exact vAsg_ok hc _ _ p1
    | sub o k =>
      cases o with
      | var j =>
        rw [exS]
        simp only [vS]
        generalize clr env (shr i) = env1 at p1
        cases q : own? env1 j with
        | none => exact vAsg_ok hc _ _ p1
        | some _ =>
          obtain ⟨O2, ss2, p2⟩ := p1.clr (shb k)
          exact (vAsgO_ok hc j k i p2).step ss2
      | _ => rw [exS]; simp only [vS]; exact vAsg_ok hc _ _ p1
    | tp ts =>
      cases i with
      | tup es =>
        rw [exS, vS]
        generalize clr env (shr (.tup es)) = env1 at p1
        have H := vEf_ok hc es p1.pk
        rw [evE]
        revert H
        cases vEf vc es env1 s with
        | bad => intro _; trivial
        | exc j s1 =>
          rintro ⟨α1, h1, e1, st, w1⟩
          rw [e1]
          exact ⟨α1, O1, h1, e, rfl, st.ss base, p1.step st w1⟩
        | ok xs s1 =>
          rintro ⟨α1, h1, ds, e1, st, O2, a1, a2, w2, f2⟩
          rw [e1]
          simp only [R.bind, liftS, vlift]
          rw [evTg]
          have er : EnvR α1 O2 h1 e env1 := p1.e.r.mono (st.mon a1) a2 fun a z l => st.eq a (p1.w.ow a z).1 l (p1.w.ow a z).2.2
          have p2 : Ps base O2 α1 h1 s1 e env1 := ⟨Nat.le_trans p1.hb st.le, w2, er, p1.e.bs, p1.e.inj⟩
          have ss2 : Ss base α O1 h α1 O2 h1 := ⟨st.pre, st.le, fun b b2 bl bn _ => st.eq b b2 bl bn, a1, fun b z _ => a2 b z⟩
          refine SimS.step ss2 ?_
          refine SimS.liftE' (vTgf_ok hc ts p2 f2 p1.hb fun j b u z1 z2 => ?_) fun α3 h3 s3 e3 env3 st3 p3 => p3.nx
          obtain ⟨d, g1, _, g3⟩ := p1.e.r.get j true u z1
          obtain ⟨b', rfl, ob, _⟩ := g3 rfl
          rw [g1] at z2
          cases z2
          exact (p1.w.ow b ob).2.1
      | _ => rw [exS]; simp only [vS]; exact vAsg_ok hc _ _ p1
  | .aug i op x, base, O, α, h, s, e, env, p => by
    rw [exS, vS]
    obtain ⟨O1, ss1, p1⟩ := p.clr (shb x)
    refine SimS.step ss1 ?_
    generalize clr env (shb x) = env1 at p1
    cases q : env1[i]? with
    | none => trivial
    | some o =>
      cases o with
      | none => trivial
      | some bv =>
        obtain ⟨b, v⟩ := bv
        obtain ⟨d, f1, f2, f3⟩ := p1.e.r.get i b v q
        simp only [f1]
        refine SimS.lift p1 (vE_ok hc x p1.pk) fun α2 h2 s2 d2 y st2 rs2 => ?_
        have p2 := p1.step st2 rs2.wd
        obtain ⟨d', f1', f2', f3'⟩ := p2.e.r.get i b v q
        rw [f1] at f1'
        cases f1'
        cases b with
        | true =>
          obtain ⟨a, rfl, oa, ct⟩ := f3' rfl
          cases ct with
          | lst e0 rr =>
            rename_i ds vs
            simp only
            cases op with
            | add =>
              obtain ⟨fy, vy⟩ := y
              have vw := rs2.vw
              cases vy with
              | lst ys =>
                obtain ⟨a2, ds2, rfl, e2, r2, _⟩ := vw.lst'
                simp only [aop, e0, e2, rr.len, r2.len]
                by_cases cc : vs.length + ys.length ≤ LIM
                · rw [if_pos cc, if_pos (by simpa using cc)]
                  have al := (rs2.wd.ow a oa).2.1
                  obtain ⟨ss, p3⟩ := p2.upd q f1 (x := .lst (ds ++ ds2)) (v' := .lst (vs ++ ys)) (.lst (List.getElem?_set_self al) ((rr.app r2).mono (rs2.wd.setO oa _ |>.2 a (Nat.le_refl _)).mon))
                  have es : e.set i (some (D.ref a)) = e := by
                    have l := (List.getElem?_eq_some_iff.mp f1)
                    obtain ⟨l1, l2⟩ := l
                    rw [← l2]; exact List.set_getElem_self l1
                  simp only [liftS]
                  rw [es]
                  exact ⟨α2, O1, _, e, rfl, ss, p3⟩
                · rw [if_neg cc, if_neg (by simpa using cc)]; trivial
              | _ => trivial
            | _ => trivial
          | dic e0 rr => simp only [vaop]; trivial
        | false =>
          have rp := f2' rfl
          cases v with
          | lst vs =>
            simp only
            cases op with
            | add =>
              obtain ⟨fy, vy⟩ := y
              cases vy with
              | lst ys => simp only; rw [if_neg (by simp)]; trivial
              | _ => trivial
            | _ => trivial
          | int _ =>
            simp only
            cases qa : vaop op (.int _) y.2 with
            | none => trivial
            | some z =>
              obtain ⟨dz, g1, g2⟩ := aop_ok (.rp rp) rs2.vw qa
              rw [g1]
              exact Ps.nx ⟨p2.hb, p2.w, p2.e.set i g2⟩
          | str _ =>
            simp only
            cases qa : vaop op (.str _) y.2 with
            | none => trivial
            | some z =>
              obtain ⟨dz, g1, g2⟩ := aop_ok (.rp rp) rs2.vw qa
              rw [g1]
              exact Ps.nx ⟨p2.hb, p2.w, p2.e.set i g2⟩
          | _ => simp only [vaop]; trivial
  | .augF o f op x, base, O, α, h, s, e, env, p => by
    rw [exS, vS]
    obtain ⟨O1, ss1, p1⟩ := p.clr (shb o ++ shb x)
    refine SimS.step ss1 ?_
    generalize clr env (shb o ++ shb x) = env1 at p1
    refine SimS.lift p1 (vE_ok hc o p1.pk) fun α2 h2 s2 d2 y st2 rs2 => ?_
    have p2 := p1.step st2 rs2.wd
    cases q : vFld s2 y.2 f with
    | none => trivial
    | some v =>
      obtain ⟨dv, e1, rv⟩ := fld_ok rs2.wd rs2.vw q
      simp only [e1]
      refine SimS.lift p2 (vE_ok hc x p2.pk) fun α3 h3 s3 d3 z st3 rs3 => ?_
      have p3 := p2.step st3 rs3.wd
      cases qa : vaop op v z.2 with
      | none => trivial
      | some u =>
        obtain ⟨du, g1, g2⟩ := aop_ok (.rp (rv.mono st3.mon0)) rs3.vw qa
        rw [g1]
        simp only [liftS]
        by_cases cc : vclsAt y.2 s3 = vclsAt y.2 s2
        · rw [if_pos cc]
          have vs2 : ∃ n, vclsAt y.2 s2 = some n := by
            revert q
            cases y.2 with
            | obj j =>
              simp only [vFld, vclsAt]
              cases s2.ob[j]? with
              | none => intro z; cases z
              | some o => cases o with
                | ins k _ => intro _; exact ⟨k, rfl⟩
                | dic _ => intro z; cases z
            | _ => intro z; simp [vFld] at z
          obtain ⟨n, hn⟩ := vs2
          have c2 := cls_ok rs2.wd rs2.vw n hn
          have c3 := cls_ok rs3.wd (rs2.vw.mono st3) n (cc.trans hn)
          rw [if_pos (c3.trans c2.symm)]
          cases q4 : vSetF s3 y.2 f u with
          | none => trivial
          | some s4 =>
            obtain ⟨h4, e4, st4, w4⟩ := setf_ok rs3.wd (rs2.vw.mono st3) g2 q4
            rw [e4]
            exact ⟨α3, O1, h4, e, rfl, st4.ss base, p3.step st4 w4⟩
        · rw [if_neg cc]; trivial
  | .expr x, base, O, α, h, s, e, env, p => by
    obtain ⟨O1, ss1, p1⟩ := p.clr (shb x)
    have gen : SimS base α O h (liftS e (evE c x e h) fun _ h => .nx e h) (vlift (clr env (shb x)) (vE vc x (clr env (shb x)) s) fun _ s => .nx (clr env (shb x)) s) := by
      refine SimS.step ss1 (SimS.lift p1 (vE_ok hc x p1.pk) fun α2 h2 s2 d2 y st2 rs2 => ?_)
      exact (p1.step st2 rs2.wd).nx
    cases x with
    | bm m o es =>
      cases m with
      | append =>
        cases o with
        | var i =>
          cases es with
          | nil => rw [exS]; simp only [vS]; exact gen
          | cons y ys =>
            cases ys with
            | nil =>
              rw [exS, vS]
              cases q : own? (clr env (shb (.bm .append (.var i) (.cons y .nil)))) i with
              | none => trivial
              | some o =>
                cases o with
                | lst xs => exact (app_ok hc p1 q).step ss1
                | _ => trivial
            | cons _ _ => rw [exS]; simp only [vS]; exact gen
        | _ => rw [exS]; simp only [vS]; exact gen
      | _ => rw [exS]; simp only [vS]; exact gen
    | _ => rw [exS]; simp only [vS]; exact gen
  | .ret x, base, O, α, h, s, e, env, p => by
    rw [exS, vS]
    obtain ⟨O1, ss1, p1⟩ := p.clr (shr x)
    refine SimS.step ss1 ?_
    refine SimS.lift p1 (unb_ok p1.pk.hO (vE_ok hc x p1.pk)) fun α1 h1 s1 d v st rs => ?_
    exact ⟨α1, O1, h1, d, rfl, Ss.refl _ _ _ _, rs.1, rs.2⟩
  | .ifS t a b, base, O, α, h, s, e, env, p => by
    rw [exS, vS]
    obtain ⟨O1, ss1, p1⟩ := p.clr (shb t)
    refine SimS.step ss1 ?_
    refine SimS.lift p1 (vE_ok hc t p1.pk) fun α1 h1 s1 d x st rs => ?_
    have p2 := p1.step st rs.wd
    obtain ⟨fx, vx⟩ := x
    have vw := rs.vw
    cases vx with
    | bl k =>
      cases vw.bl'
      cases k with
      | true => exact vB_ok hc a p2
      | false => exact vB_ok hc b p2
    | _ => trivial
  | .forS t it b, base, O, α, h, s, e, env, p => by
    rw [exS, vS]
    obtain ⟨O1, ss1, p1⟩ := p.clr (shf it)
    refine SimS.step ss1 ?_
    have H := vIt_ok hc it p1.pk
    revert H
    cases vIt vc it (clr env (shf it)) s with
    | bad => intro _; trivial
    | exc j s1 =>
      rintro ⟨α1, h1, e1, st, w1⟩
      rw [e1]
      exact ⟨α1, O1, h1, e, rfl, st.ss base, p1.step st w1⟩
    | ok q s1 =>
      rintro ⟨α1, h1, ds, e1, st, w1, rr, wo, wn⟩
      rw [e1]
      obtain ⟨b1, vs⟩ := q
      cases b1 with
      | true => trivial
      | false =>
        refine SimS.step (st.ss base) ?_
        refine for_ok (fun α O h s e env x v p r => ?_) (p1.step st w1) rr fun q hq => ⟨fun f => ?_, (wo q hq).2.2⟩
        · refine SimS.liftE' (vTg_ok hc t p.pk r) fun α2 h2 s2 e2 env2 st2 rs2 => ?_
          have p2 := p.step st2 rs2.1
          exact vB_ok hc b ⟨p2.hb, p2.w, p2.e.tg rs2.2⟩
        · rcases f with f | f | f
          · have := (wo q hq).1; omega
          · exact (wo q hq).2.1 f
          · exact wn rfl q hq f
    
  | .whileS t b, base, O, α, h, s, e, env, p => by
    rw [exS, vS, hc.fuel]
    exact while_ok (fun α O h s e env p => vE_ok hc t p.pk) (fun α O h s e env p => vB_ok hc b p) _ p
  | .brk, base, O, α, h, s, e, env, p => by
    rw [exS, vS]; exact ⟨α, O, h, e, rfl, Ss.refl _ _ _ _, p⟩
  | .pass, base, O, α, h, s, e, env, p => by
    rw [exS, vS]; exact p.nx
  | .raise k, base, O, α, h, s, e, env, p => by
    rw [exS, vS]; exact ⟨α, O, h, e, rfl, Ss.refl _ _ _ _, p⟩
  | .tryAs b v x, base, O, α, h, s, e, env, p => by
    rw [exS, vS]
    have H := vB_ok hc b p
    revert H
    cases vB vc b env s with
    | bad => intro _; trivial
    | brk _ _ => intro _; trivial
    | ret _ _ => intro _; trivial
    | nx env1 s1 =>
      rintro ⟨α1, O1, h1, e1, e2, ss, p1⟩
      rw [e2]
      exact ⟨α1, O1, h1, e1, rfl, ss, p1⟩
    | exc k env1 s1 =>
      rintro ⟨α1, O1, h1, e1, e2, ss, p1⟩
      rw [e2]
      by_cases cc : k ≤ 5
      · simp only [if_pos cc]
        have st : Stp α1 h1 α1 (h1 ++ [.exn k]) := Stp.app _ _ _
        have p2 := p1.step st (p1.w.app [.exn k])
        have r : Rp α1 O1 (h1 ++ [.exn k]) (.ref h1.length) (.exn k) := .exn (fun f => by
          rcases f with f | f | f
          · have := p1.w.two; omega
          · have := (p1.w.al _ f).2; omega
          · have := (p1.w.ow _ f).2.1; omega) (by simp)
        have e3 := p2.e.set v r
        refine ⟨α1, O1, _, _, rfl, ss.trans (st.ss base), p2.hb, p2.w, ?_⟩
        have key : ∀ (j : Nat) (b : Bool) (u : V), ((env1.set v (some (false, .exn k))).set x none)[j]? = some (some (b, u)) → (env1.set v (some (false, .exn k)))[j]? = some (some (b, u)) ∧ ((e1.set v (some (.ref h1.length))).set x none)[j]? = (e1.set v (some (.ref h1.length)))[j]? := fun j b u z => by
          by_cases cx : x = j
          · subst cx
            by_cases l : x < (env1.set v (some (false, V.exn k))).length
            · rw [List.getElem?_set_self l] at z; cases z
            · rw [List.set_eq_of_length_le (by omega)] at z
              have := (List.getElem?_eq_some_iff.mp z).1; omega
          · rw [List.getElem?_set_ne cx] at z
            exact ⟨z, List.getElem?_set_ne cx⟩
        refine ⟨⟨by simp [p1.e.r.len], fun j b u z => ?_⟩, fun j a u z z2 => ?_, fun j k a u y z1 z2 z3 z4 => ?_⟩
        · obtain ⟨k1, k2⟩ := key j b u z
          rw [k2]
          exact e3.r.get j b u k1
        · obtain ⟨k1, k2⟩ := key j _ u z
          rw [k2] at z2
          exact e3.bs j a u k1 z2
        · obtain ⟨k1, k2⟩ := key j _ u z1
          obtain ⟨k3, k4⟩ := key k _ y z2
          rw [k2] at z3
          rw [k4] at z4
          exact e3.inj j k a u y k1 k3 z3 z4
      · simp only [if_neg cc]; trivial
theorem vB_ok (hc : CxOk c vc) : ∀ (i : ISs) {base : Nat} {O : Nat → Prop} {α : List Nat} {h : Hs} {s : St} {e : Env} {env : VEnv}, Ps base O α h s e env → SimS base α O h (exB c i e h) (vB vc i env s)
  | .nil, base, O, α, h, s, e, env, p => by
    rw [exB, vB]; exact p.nx
  | .cons i is, base, O, α, h, s, e, env, p => by
    rw [exB, vB]
    have H := vS_ok hc i p
    revert H
    cases vS vc i env s with
    | bad => intro _; trivial
    | nx env1 s1 =>
      rintro ⟨α1, O1, h1, e1, e2, ss, p1⟩
      rw [e2]
      exact (vB_ok hc is p1).step ss
    | brk env1 s1 =>
      rintro ⟨α1, O1, h1, e1, e2, ss, p1⟩
      rw [e2]
      exact ⟨α1, O1, h1, e1, rfl, ss, p1⟩
    | ret v1 s1 =>
      rintro ⟨α1, O1, h1, e1, e2, ss, p1⟩
      rw [e2]
      exact ⟨α1, O1, h1, e1, rfl, ss, p1⟩
    | exc k1 env1 s1 =>
      rintro ⟨α1, O1, h1, e1, e2, ss, p1⟩
      rw [e2]
      exact ⟨α1, O1, h1, e1, rfl, ss, p1⟩
end
end
end Ve
end

section
set_option autoImplicit false
set_option Elab.async false
set_option linter.all false
set_option maxHeartbeats 1000000
set_option maxRecDepth 100000
/-! VeJ: calls side by side. -/
namespace Ve
open Ev
theorem call_S (P : Pr) (F n f : Nat) (args : List D) (h : Hs) (d : Fn) (e : P.fn f = some d) (hl : args.length = d.np) : callN P F (n + 2) f args h = finish (exB ⟨callN P F (n + 1), callN P F n, P.init, P.meth, F⟩ d.body (args.map some ++ List.replicate (d.nl - d.np) none) h) := by
  rw [callN, e]; simp only [hl, if_true]
def dTree : ISs := (.cons (.asg (.nm 2) (.idx (.var 0) (.const (.int 0)))) (.cons (.asg (.sub (.var 0) (.const (.int 1))) (.bin .add (.idx (.var 0) (.const (.int 1))) (.const (.int 1)))) (.cons (.asg (.nm 3) (.bin .mod (.idx (.var 0) (.const (.int 1))) (.bf .len (.cons (.var 2) .nil)))) (.cons (.asg (.nm 4) (.idx (.var 2) (.var 3))) (.cons (.ifS (.cmp .ge (.var 4) (.const (.int 1000000000000000000))) (.cons (.asg (.sub (.var 2) (.var 3)) (.bin .fdiv (.var 4) (.var 1))) (.cons (.ret (.bin .mod (.var 4) (.var 1))) .nil)) .nil) (.cons (.asg (.nm 5) (.bin .mod (.bin .add (.var 4) (.bin .mul (.const (.int 104729)) (.idx (.var 0) (.const (.int 1))))) (.const (.int 4294967291)))) (.cons (.asg (.nm 5) (.bin .mod (.bin .pow (.var 5) (.const (.int 5))) (.const (.int 4294967279)))) (.cons (.ret (.bin .mod (.bin .fdiv (.bin .mod (.bin .add (.bin .mul (.bin .fdiv (.var 5) (.const (.int 64))) (.const (.int 69621))) (.var 5)) (.const (.int 4294967231))) (.const (.int 8))) (.var 1))) .nil))))))))
/-- the two objects of the draws -/
def drH (d : Dr) : Hs := [.lst (d.xs.map .int), .lst [.ref 0, .int d.c]]
theorem draw_run {P : Pr} {F n : Nat} (hP : P.fn 23 = some ⟨2, 6, dTree⟩) (dr : Dr) (lim : Int) (h1 : 0 < lim) (h2 : lim < 1073741824) (o : Hs) :
    callN P F (n + 2) 23 [.ref 1, .int lim] (drH dr ++ o) = .ok (.int (dr.draw lim).1) (drH (dr.draw lim).2 ++ o) := by
  rw [call_S P F n 23 _ _ _ hP rfl]
  obtain ⟨xs, c, hx, hc⟩ := dr
  have hlen : 0 < (xs.length : Int) := by
    cases xs with
    | nil => exact absurd rfl hx
    | cons _ _ => simp
  have a0 : 0 ≤ (c + 1) % (xs.length : Int) := Int.emod_nonneg _ (by omega)
  have a1 : (c + 1) % (xs.length : Int) < xs.length := Int.emod_lt_of_pos _ hlen
  obtain ⟨at_, hat⟩ : ∃ j : Nat, (c + 1) % (xs.length : Int) = (j : Int) := ⟨((c + 1) % (xs.length : Int)).toNat, (Int.toNat_of_nonneg a0).symm⟩
  have hj : at_ < xs.length := by omega
  have ix : ixN xs.length ((at_ : Nat) : Int) = some at_ := by
    unfold ixN
    rw [if_pos (by omega), if_pos (by omega)]; simp
  have ix0 : ixN 2 0 = some 0 := rfl
  have ix1 : ixN 2 1 = some 1 := rfl
  have hlen' : 0 < xs.length := by omega
  have s1 : smallI 104729 = true := by decide
  have s2 : smallI 69621 = true := by decide
  have s3 : ∀ a : Int, smallI (a % 4294967291) = true := fun a => by
    have p1 : 0 ≤ a % 4294967291 := Int.emod_nonneg _ (by decide)
    have p2 : a % 4294967291 < 4294967291 := Int.emod_lt_of_pos _ (by decide)
    unfold smallI
    rw [Bool.and_eq_true, decide_eq_true_eq, decide_eq_true_eq]
    omega
  have ea : (⟨xs, c, hx, hc⟩ : Dr).at_ = at_ := by unfold Dr.at_; simp [hat]
  have ec : (⟨xs, c, hx, hc⟩ : Dr).cell = xs[at_] := by unfold Dr.cell; rw [ea]; simp [List.getD, hj]
  unfold Dr.draw
  simp only [ea, ec]
  by_cases hb : 1000000000000000000 ≤ xs[at_]
  · simp only [if_pos hb]
    simp only [dTree, drH, List.cons_append, List.nil_append]
    simp [exB, exS, evE, evEs, evIt, evTg, evTgs, liftS, liftE, finish, R.bind, R.opt, bfun, isTy, copR, cop, getIx, List.map, List.replicate, List.append, setIx, bop, ix0, ix1, hlen', hat, ix, hj, hb, h1, h2, List.map_set]
  · simp only [if_neg hb]
    simp only [dTree, drH, List.cons_append, List.nil_append]
    simp [exB, exS, evE, evEs, evIt, evTg, evTgs, liftS, liftE, finish, R.bind, R.opt, bfun, isTy, copR, cop, getIx, List.map, List.replicate, List.append, setIx, bop, ix0, ix1, hlen', hat, ix, hj, hb, h1, h2, s1, s2, s3]
section
variable {α : List Nat} {O : Nat → Prop} {h : Hs} {s : St}
theorem Wd.heap (w : Wd α O h s) : h = drH s.dr ++ h.drop 2 := by
  have e0 := w.d0
  have e1 := w.d1
  match h, e0, e1 with
  | [], e0, _ => simp at e0
  | [_], _, e1 => simp at e1
  | x :: y :: r, e0, e1 =>
    simp at e0 e1
    simp [drH, e0, e1]
theorem draw_ok {P : Pr} {F n : Nat} (hP : P.fn 23 = some ⟨2, 6, dTree⟩) (w : Wd α O h s) {ds : List D} {vs : List V} (p : Rps α O h ds vs) : Sim α O h (callN P F (n + 2) 23 ds h) (vdraw vs s) fun α' h' s' d v => Wd α' O h' s' ∧ Rp α' O h' d v := by
  unfold vdraw
  split
  · rename_i lim
    split
    · rename_i c
      cases p with
      | cons p q => cases q with
        | cons q r =>
          cases r
          cases p
          cases q
          have e := draw_run (F := F) (n := n) hP s.dr lim c.1 c.2 (h.drop 2)
          rw [← w.heap] at e
          have two := w.two
          have key : ∀ a : Nat, 2 ≤ a → (drH (s.dr.draw lim).2 ++ h.drop 2)[a]? = h[a]? := fun a a2 => by
            have e1 := w.heap
            rw [List.getElem?_append_right (by simpa [drH] using a2)]
            conv => rhs; rw [e1]
            rw [List.getElem?_append_right (by simpa [drH] using a2)]
            rfl
          have hl : (drH (s.dr.draw lim).2 ++ h.drop 2).length = h.length := by simp [drH]; omega
          have st : Stp α h α (drH (s.dr.draw lim).2 ++ h.drop 2) := ⟨⟨[], by simp, by simp⟩, by omega, fun a a2 _ _ => key a a2⟩
          refine ⟨α, _, _, e, st, ⟨rfl, rfl, w.nd, fun a ha => by rw [hl]; exact w.al a ha, w.len, fun i a o e1 e2 => ?_, fun a z => by rw [hl]; exact w.ow a z⟩, .int _⟩
          obtain ⟨x, e3, r3⟩ := w.ob i a o e1 e2
          exact ⟨x, by rw [key a (w.al a (List.mem_of_getElem? e1)).1]; exact e3, r3.mono st.mon0⟩
    · trivial
  · trivial
theorem args_ok (w : Wd α O h s) : ∀ {ds : List D} {vs : List V} (k : Nat), Rps α O h ds vs → EnvR α O h (ds.map some ++ List.replicate k none) (vs.map (fun v => some (false, v)) ++ List.replicate k none) := fun {ds vs} k p => by
  refine ⟨by simp [p.len], fun i b v z => ?_⟩
  by_cases c : i < vs.length
  · rw [List.getElem?_append_left (by simpa using c), List.getElem?_map] at z
    rw [List.getElem?_append_left (by simpa [p.len] using c), List.getElem?_map]
    cases e : vs[i]? with
    | none => simp [e] at z
    | some u =>
      simp [e] at z
      obtain ⟨z1, z2⟩ := z
      subst z1
      subst z2
      obtain ⟨d, e1, e2⟩ := p.get e
      exact ⟨d, by rw [e1]; rfl, fun _ => e2, fun z => by cases z⟩
  · rw [List.getElem?_append_right (by simpa using c)] at z
    rw [List.getElem?_replicate] at z
    split at z <;> cases z
theorem vcall_ok {P : Pr} {F : Nat} (hP : P.fn 23 = some ⟨2, 6, dTree⟩) : ∀ n, (∀ (f : Nat) (ds : List D) (vs : List V) (α : List Nat) (O : Nat → Prop) (h : Hs) (s : St), Wd α O h s → Rps α O h ds vs → Sim α O h (callN P F n f ds h) (vcallN P F n f vs s) fun α' h' s' d v => Wd α' O h' s' ∧ Rp α' O h' d v) ∧
    (∀ (f : Nat) (ds : List D) (vs : List V) (α : List Nat) (O : Nat → Prop) (h : Hs) (s : St), Wd α O h s → Rps α O h ds vs → Sim α O h (callN P F (n + 1) f ds h) (vcallN P F (n + 1) f vs s) fun α' h' s' d v => Wd α' O h' s' ∧ Rp α' O h' d v)
  | 0 => ⟨fun f ds vs α O h s w p => trivial, fun f ds vs α O h s w p => trivial⟩
  | n + 1 => by
    obtain ⟨ih1, ih2⟩ := vcall_ok (F := F) hP n
    refine ⟨ih2, fun f ds vs α O h s w p => ?_⟩
    show Sim α O h (callN P F (n + 2) f ds h) (vcallN P F (n + 2) f vs s) _
    rw [vcallN]
    split
    · rename_i e
      subst e
      exact draw_ok hP w p
    · rw [callN]
      cases e : P.fn f with
      | none => trivial
      | some d =>
        simp only [p.len]
        split
        · have hc : CxOk ⟨callN P F (n + 1), callN P F n, P.init, P.meth, F⟩ ⟨vcallN P F (n + 1), vcallN P F n, P.init, P.meth, F⟩ := ⟨ih2, ih1, rfl, rfl, rfl⟩
          have er := args_ok w (d.nl - d.np) p
          have no : ∀ (i : Nat) (v : V), (vs.map (fun v => some (false, v)) ++ List.replicate (d.nl - d.np) none)[i]? ≠ some (some (true, v)) := fun i v z => by
            by_cases c : i < vs.length
            · rw [List.getElem?_append_left (by simpa using c), List.getElem?_map] at z
              cases e : vs[i]? with
              | none => simp [e] at z
              | some u => simp [e] at z
            · rw [List.getElem?_append_right (by simpa using c)] at z
              rw [List.getElem?_replicate] at z
              split at z <;> cases z
          have pp : Ps h.length O α h s (ds.map some ++ List.replicate (d.nl - d.np) none) (vs.map (fun v => some (false, v)) ++ List.replicate (d.nl - d.np) none) := ⟨Nat.le_refl _, w, er, fun i a v z => absurd z (no i v), fun i j a v u z => absurd z (no i v)⟩
          have H := vB_ok hc d.body pp
          have fin : ∀ {α' : List Nat} {O' : Nat → Prop} {h' : Hs}, Ss h.length α O h α' O' h' → Stp α h α' h' ∧ ∀ a, O a → O' a := fun ss => ⟨⟨ss.pre, ss.le, fun a a2 al an => ss.eq a a2 al an fun _ => al⟩, fun a z => ss.ok a z (w.ow a z).2.1⟩
          revert H
          cases vB ⟨vcallN P F (n + 1), vcallN P F n, P.init, P.meth, F⟩ d.body (vs.map (fun v => some (false, v)) ++ List.replicate (d.nl - d.np) none) s with
          | nx env1 s1 =>
            rintro ⟨α1, O1, h1, e1, e2, ss, p1⟩
            rw [e2]
            exact ⟨α1, h1, .non, rfl, (fin ss).1, p1.w.weak (fin ss).2, .non⟩
          | ret v1 s1 =>
            rintro ⟨α1, O1, h1, d1, e2, ss, w1, r1⟩
            rw [e2]
            exact ⟨α1, h1, d1, rfl, (fin ss).1, w1.weak (fin ss).2, r1.mono (Mon.weak (fin ss).2)⟩
          | exc k env1 s1 =>
            rintro ⟨α1, O1, h1, e1, e2, ss, p1⟩
            rw [e2]
            exact ⟨α1, h1, rfl, (fin ss).1, p1.w.weak (fin ss).2⟩
          | brk _ _ => intro _; trivial
          | bad => intro _; trivial
        · trivial
end
end Ve
end

section
set_option autoImplicit false
set_option Elab.async false
set_option linter.all false
/-! VeK: a law's plain statement from its run over values. -/
namespace Ve
open Ev
theorem fst_ne (ns : List Int) : fstN ns ≠ [] := by
  unfold fstN
  cases ns <;> simp
def dr0 (ns : List Int) : Dr := ⟨fstN ns, 0, fst_ne ns, by decide⟩
theorem plain_of (A : Top) {F n : Nat} (hP : A.T.P.fn 23 = some ⟨2, 6, dTree⟩)
    (H : ∀ dr : Dr, ∃ s', vB ⟨vcallN A.T.P F (n + 1), vcallN A.T.P F n, A.T.P.init, A.T.P.meth, F⟩ A.tree (none :: some (false, .drw) :: List.replicate (A.N.length - 2) none) ⟨[], dr⟩ = .ret (.bl true) s') : A.Plain F n := by
  intro ns _
  obtain ⟨s', e⟩ := H (dr0 ns)
  have w : Wd [] (fun _ => False) (h0 ns) ⟨[], dr0 ns⟩ := ⟨rfl, rfl, by simp, by simp, rfl, fun i a o z => by simp at z, fun a z => z.elim⟩
  have pp : Ps 2 (fun _ => False) [] (h0 ns) ⟨[], dr0 ns⟩ (none :: some (.ref 1) :: List.replicate (A.N.length - 2) none) (none :: some (false, .drw) :: List.replicate (A.N.length - 2) none) := by
    have no : ∀ (i : Nat) (b : Bool) (v : V), ((none :: some (false, V.drw) :: List.replicate (A.N.length - 2) none : VEnv))[i]? = some (some (b, v)) → i = 1 ∧ b = false ∧ v = .drw := fun i b v z => by
      match i, z with
      | 0, z => simp at z
      | 1, z => simp at z; exact ⟨rfl, z.1, z.2.symm⟩
      | i + 2, z =>
        simp only [List.getElem?_cons_succ, List.getElem?_replicate] at z
        split at z <;> cases z
    refine ⟨by simp [h0], w, ⟨by simp, fun i b v z => ?_⟩, fun i a v z => ?_, fun i j a v u z => ?_⟩
    · obtain ⟨rfl, rfl, rfl⟩ := no i b v z
      exact ⟨.ref 1, rfl, fun _ => .drw, fun z => by cases z⟩
    · have := (no i _ v z).2.1; cases this
    · have := (no i _ v z).2.1; cases this
  have hc : CxOk ⟨callN A.T.P F (n + 1), callN A.T.P F n, A.T.P.init, A.T.P.meth, F⟩ ⟨vcallN A.T.P F (n + 1), vcallN A.T.P F n, A.T.P.init, A.T.P.meth, F⟩ := ⟨(vcall_ok hP n).2, (vcall_ok hP n).1, rfl, rfl, rfl⟩
  have R := vB_ok hc A.tree pp
  rw [e] at R
  obtain ⟨α1, O1, h1, d1, e2, ss, w1, r1⟩ := R
  cases r1
  exact ⟨h1, e2⟩
end Ve
end

section
set_option autoImplicit false
set_option maxRecDepth 100000
set_option linter.all false
namespace Ve
open Ev
def t_Machine___init__ : ISs := (.cons (.asg (.tp (.cons (.fld (.var 0) 6) (.cons (.fld (.var 0) 5) (.cons (.fld (.var 0) 4) (.cons (.fld (.var 0) 3) (.cons (.fld (.var 0) 2) (.cons (.fld (.var 0) 1) .nil))))))) (.var 1)) (.cons (.asg (.fld (.var 0) 0) .dic0) .nil))
class F_Machine___init__ (P : Pr) : Prop where e : P.fn 0 = some ⟨2, 2, t_Machine___init__⟩
def t_Machine_laid : ISs := (.cons (.asg (.nm 3) (.const (.str []))) (.cons (.forS (.nm 4) (.val (.var 2)) (.cons (.ifS (.and (.cmp .eq (.var 1) (.fld (.var 0) 6)) (.cmp .ne (.fld (.var 0) 4) (.const (.str [119, 104, 111, 108, 101])))) (.cons (.asg (.tp (.cons (.nm 3) (.cons (.nm 1) .nil))) (.tup (.cons (.bin .add (.var 3) (.const (.str [47]))) (.cons (.const (.int 0)) .nil)))) .nil) .nil) (.cons (.asg (.tp (.cons (.nm 3) (.cons (.nm 1) .nil))) (.tup (.cons (.bin .add (.var 3) (.var 4)) (.cons (.bf .min2 (.cons (.bin .add (.var 1) (.const (.int 1))) (.cons (.bin .add (.fld (.var 0) 6) (.const (.int 1))) .nil))) .nil)))) .nil))) (.cons (.ret (.tup (.cons (.var 3) (.cons (.var 1) .nil)))) .nil)))
class F_Machine_laid (P : Pr) : Prop where e : P.fn 1 = some ⟨3, 5, t_Machine_laid⟩
def t_Machine_gap_text : ISs := (.cons (.ret (.ite (.cmp .eq (.fld (.var 0) 3) (.const (.str [100, 114, 111, 112]))) (.bin .mul (.const (.str [32])) (.var 1)) (.const (.str [])))) .nil)
class F_Machine_gap_text (P : Pr) : Prop where e : P.fn 2 = some ⟨2, 2, t_Machine_gap_text⟩
def t_Machine_let_go : ISs := (.cons (.asg (.tp (.cons (.nm 3) (.cons (.nm 4) (.cons (.nm 5) (.cons (.nm 6) .nil))))) (.var 1)) (.cons (.ifS (.cmp .eq (.var 5) (.const (.str []))) (.cons (.ret (.tup (.cons (.const (.str [])) (.cons (.var 1) .nil)))) .nil) .nil) (.cons (.ifS (.and (.var 2) (.cmp .le (.bin .add (.bin .add (.var 3) (.var 4)) (.bf .len (.cons (.var 5) .nil))) (.fld (.var 0) 6))) (.cons (.ret (.tup (.cons (.bin .add (.meth (.var 0) 1 (.cons (.var 4) .nil)) (.var 5)) (.cons (.tup (.cons (.bin .add (.bin .add (.var 3) (.var 4)) (.bf .len (.cons (.var 5) .nil))) (.cons (.const (.int 0)) (.cons (.const (.str [])) (.cons (.const (.int 1)) .nil))))) .nil)))) .nil) .nil) (.cons (.asg (.nm 7) (.bin .sub (.bin .sub (.fld (.var 0) 6) (.var 3)) (.var 4))) (.cons (.ifS (.and (.cmp .eq (.fld (.var 0) 4) (.const (.str [102, 105, 108, 108]))) (.and (.cmp .gt (.bf .len (.cons (.var 5) .nil)) (.fld (.var 0) 6)) (.cmp .gt (.var 7) (.const (.int 0))))) (.cons (.asg (.tp (.cons (.nm 8) (.cons (.nm 9) .nil))) (.meth (.var 0) 0 (.cons (.const (.int 0)) (.cons (.slcF (.var 5) (.var 7)) .nil)))) (.cons (.ret (.tup (.cons (.bin .add (.bin .add (.bin .add (.meth (.var 0) 1 (.cons (.var 4) .nil)) (.slcT (.var 5) (.var 7))) (.const (.str [47]))) (.var 8)) (.cons (.tup (.cons (.var 9) (.cons (.const (.int 0)) (.cons (.const (.str [])) (.cons (.const (.int 1)) .nil))))) .nil)))) .nil)) .nil) (.cons (.asg (.tp (.cons (.nm 10) (.cons (.nm 9) .nil))) (.meth (.var 0) 0 (.cons (.const (.int 0)) (.cons (.var 5) .nil)))) (.cons (.ret (.tup (.cons (.bin .add (.const (.str [47])) (.var 10)) (.cons (.tup (.cons (.var 9) (.cons (.const (.int 0)) (.cons (.const (.str [])) (.cons (.const (.int 1)) .nil))))) .nil)))) .nil)))))))
class F_Machine_let_go (P : Pr) : Prop where e : P.fn 3 = some ⟨3, 11, t_Machine_let_go⟩
def t_Machine_must_go : ISs := (.cons (.asg (.tp (.cons (.nm 2) (.cons (.nm 3) (.cons (.nm 4) (.cons (.nm 5) .nil))))) (.var 1)) (.cons (.ifS (.or (.cmp .eq (.var 4) (.const (.str []))) (.cmp .le (.bin .add (.bin .add (.var 2) (.var 3)) (.bf .len (.cons (.var 4) .nil))) (.fld (.var 0) 6))) (.cons (.ret (.const (.bl false))) .nil) .nil) (.cons (.ret (.or (.cmp .ne (.fld (.var 0) 4) (.const (.str [102, 105, 108, 108]))) (.or (.cmp .gt (.bf .len (.cons (.var 4) .nil)) (.fld (.var 0) 6)) (.cmp .ge (.bin .add (.var 2) (.var 3)) (.fld (.var 0) 6))))) .nil)))
class F_Machine_must_go (P : Pr) : Prop where e : P.fn 4 = some ⟨2, 6, t_Machine_must_go⟩
def t_Machine_by_blank : ISs := (.cons (.asg (.tp (.cons (.nm 2) (.cons (.tp (.cons (.nm 3) (.cons (.nm 4) (.cons (.nm 5) (.cons (.nm 6) .nil))))) .nil))) (.meth (.var 0) 2 (.cons (.var 1) (.cons (.const (.bl true)) .nil)))) (.cons (.ifS (.or (.cmp .eq (.var 3) (.const (.int 0))) (.and (.cmp .eq (.fld (.var 0) 2) (.const (.str [111, 110, 101]))) (.cmp .gt (.var 4) (.const (.int 0))))) (.cons (.ret (.tup (.cons (.var 2) (.cons (.tup (.cons (.var 3) (.cons (.var 4) (.cons (.const (.str [])) (.cons (.const (.int 0)) .nil))))) .nil)))) .nil) .nil) (.cons (.ret (.tup (.cons (.bin .add (.var 2) (.ite (.cmp .eq (.fld (.var 0) 3) (.const (.str [104, 97, 110, 103]))) (.const (.str [32])) (.const (.str [])))) (.cons (.tup (.cons (.var 3) (.cons (.bf .min2 (.cons (.bin .add (.var 4) (.const (.int 1))) (.cons (.bf .max2 (.cons (.const (.int 1)) (.cons (.bin .sub (.fld (.var 0) 6) (.const (.int 1))) .nil))) .nil))) (.cons (.const (.str [])) (.cons (.const (.int 0)) .nil))))) .nil)))) .nil)))
class F_Machine_by_blank (P : Pr) : Prop where e : P.fn 5 = some ⟨2, 7, t_Machine_by_blank⟩
def t_Machine_by_sign : ISs := (.cons (.asg (.tp (.cons (.nm 3) (.cons (.nm 4) (.cons (.nm 5) (.cons (.nm 6) .nil))))) (.var 1)) (.cons (.ifS (.or (.cmp .eq (.var 6) (.const (.int 1))) (.cmp .eq (.var 3) (.const (.int 0)))) (.cons (.asg (.tp (.cons (.nm 7) (.cons (.nm 3) .nil))) (.meth (.var 0) 0 (.cons (.var 3) (.cons (.var 2) .nil)))) (.cons (.asg (.nm 1) (.tup (.cons (.var 3) (.cons (.const (.int 0)) (.cons (.const (.str [])) (.cons (.const (.int 1)) .nil)))))) .nil)) (.cons (.asg (.tp (.cons (.nm 7) (.cons (.nm 1) .nil))) (.tup (.cons (.const (.str [])) (.cons (.tup (.cons (.var 3) (.cons (.var 4) (.cons (.bin .add (.var 5) (.var 2)) (.cons (.const (.int 0)) .nil))))) .nil)))) (.cons (.ifS (.meth (.var 0) 3 (.cons (.var 1) .nil)) (.cons (.asg (.tp (.cons (.nm 7) (.cons (.nm 1) .nil))) (.meth (.var 0) 2 (.cons (.var 1) (.cons (.const (.bl false)) .nil)))) .nil) .nil) .nil))) (.cons (.ifS (.and (.cmp .eq (.var 2) (.const (.str [45]))) (.cmp .eq (.fld (.var 0) 5) (.const (.int 1)))) (.cons (.asg (.tp (.cons (.nm 8) (.cons (.nm 1) .nil))) (.meth (.var 0) 2 (.cons (.var 1) (.cons (.const (.bl true)) .nil)))) (.cons (.asg (.tp (.cons (.nm 7) (.cons (.nm 1) .nil))) (.tup (.cons (.bin .add (.var 7) (.var 8)) (.cons (.bin .add (.slcT (.var 1) (.const (.int 3))) (.tup (.cons (.const (.int 0)) .nil))) .nil)))) .nil)) .nil) (.cons (.ret (.tup (.cons (.var 7) (.cons (.var 1) .nil)))) .nil))))
class F_Machine_by_sign (P : Pr) : Prop where e : P.fn 6 = some ⟨3, 9, t_Machine_by_sign⟩
def t_Machine_step : ISs := (.cons (.asg (.nm 3) (.tup (.cons (.var 1) (.cons (.var 2) .nil)))) (.cons (.ifS (.cmp .nin (.var 3) (.fld (.var 0) 0)) (.cons (.ifS (.and (.cmp .eq (.var 2) (.const (.str [47]))) (.cmp .eq (.fld (.var 0) 1) (.const (.str [107, 101, 112, 116])))) (.cons (.asg (.sub (.fld (.var 0) 0) (.var 3)) (.tup (.cons (.bin .add (.idx (.meth (.var 0) 2 (.cons (.var 1) (.cons (.const (.bl true)) .nil))) (.const (.int 0))) (.const (.str [47]))) (.cons (.glob 0 (.tup [(.int 0), (.int 0), (.str []), (.int 0)])) .nil)))) .nil) (.cons (.ifS (.cmp .inn (.var 2) (.const (.str [32, 47]))) (.cons (.asg (.sub (.fld (.var 0) 0) (.var 3)) (.meth (.var 0) 4 (.cons (.var 1) .nil))) .nil) (.cons (.asg (.sub (.fld (.var 0) 0) (.var 3)) (.meth (.var 0) 5 (.cons (.var 1) (.cons (.var 2) .nil)))) .nil)) .nil)) .nil) .nil) (.cons (.ret (.idx (.fld (.var 0) 0) (.var 3))) .nil)))
class F_Machine_step (P : Pr) : Prop where e : P.fn 7 = some ⟨3, 4, t_Machine_step⟩
def t_Machine_ending : ISs := (.cons (.ret (.idx (.meth (.var 0) 2 (.cons (.var 1) (.cons (.const (.bl true)) .nil))) (.const (.int 0)))) .nil)
class F_Machine_ending (P : Pr) : Prop where e : P.fn 8 = some ⟨2, 2, t_Machine_ending⟩
def t_Machine_whole : ISs := (.cons (.asg (.tp (.cons (.nm 2) (.cons (.nm 3) .nil))) (.tup (.cons (.const (.str [])) (.cons (.glob 0 (.tup [(.int 0), (.int 0), (.str []), (.int 0)])) .nil)))) (.cons (.forS (.nm 4) (.val (.var 1)) (.cons (.asg (.tp (.cons (.nm 5) (.cons (.nm 3) .nil))) (.meth (.var 0) 7 (.cons (.var 3) (.cons (.var 4) .nil)))) (.cons (.aug 2 .add (.var 5)) .nil))) (.cons (.ret (.bin .add (.var 2) (.meth (.var 0) 6 (.cons (.var 3) .nil)))) .nil)))
class F_Machine_whole (P : Pr) : Prop where e : P.fn 9 = some ⟨2, 6, t_Machine_whole⟩
def t_is_int : ISs := (.cons (.ret (.and (.bf (.isin .int) (.cons (.var 0) .nil)) (.and (.not (.bf (.isin .bool) (.cons (.var 0) .nil))) (.cmp2 .le .le (.var 1) (.var 0) (.var 2))))) .nil)
class F_is_int (P : Pr) : Prop where e : P.fn 10 = some ⟨3, 3, t_is_int⟩
def t_is_signs : ISs := (.cons (.ifS (.or (.not (.bf (.isin .str) (.cons (.var 0) .nil))) (.cmp .gt (.bf .len (.cons (.var 0) .nil)) (.var 1))) (.cons (.ret (.const (.bl false))) .nil) .nil) (.cons (.ret (.bf .all (.cons (.comp (.cmp .inn (.var 2) (.bin .add (.glob 1 (.str [65, 66, 67, 68, 69, 70, 71, 72, 73, 74, 75, 76, 77, 78, 79, 80, 81, 82, 83, 84, 85, 86, 87, 88, 89, 90, 97, 98, 99, 100, 101, 102, 103, 104, 105, 106, 107, 108, 109, 110, 111, 112, 113, 114, 115, 116, 117, 118, 119, 120, 121, 122])) (.const (.str [32, 45, 47])))) (.nm 2) (.val (.var 0)) (.const (.bl true)) [2]) .nil))) .nil))
class F_is_signs (P : Pr) : Prop where e : P.fn 11 = some ⟨2, 3, t_is_signs⟩
def t_is_text : ISs := (.cons (.ret (.call 11 (.cons (.var 0) (.cons (.glob 2 (.int 60)) .nil)))) .nil)
class F_is_text (P : Pr) : Prop where e : P.fn 12 = some ⟨1, 1, t_is_text⟩
def t_check_text : ISs := (.cons (.ifS (.not (.call 12 (.cons (.var 0) .nil))) (.cons (.raise 2) .nil) .nil) .nil)
class F_check_text (P : Pr) : Prop where e : P.fn 13 = some ⟨1, 1, t_check_text⟩
def t_plain_text : ISs := (.cons (.expr (.call 13 (.cons (.var 0) .nil))) (.cons (.ret (.bm .join (.const (.str [])) (.cons (.comp (.ite (.cmp .inn (.var 1) (.glob 3 (.str [32, 45, 47, 97]))) (.var 1) (.const (.str [97]))) (.nm 1) (.val (.var 0)) (.const (.bl true)) [1]) .nil))) .nil))
class F_plain_text (P : Pr) : Prop where e : P.fn 14 = some ⟨1, 2, t_plain_text⟩
def t_is_word : ISs := (.cons (.ret (.and (.bf (.isin .str) (.cons (.var 0) .nil)) (.cmp .inn (.var 0) (.var 1)))) .nil)
class F_is_word (P : Pr) : Prop where e : P.fn 15 = some ⟨2, 2, t_is_word⟩
def t_is_way : ISs := (.cons (.ifS (.or (.not (.bf (.isin .tuple) (.cons (.var 0) .nil))) (.cmp .ne (.bf .len (.cons (.var 0) .nil)) (.const (.int 6)))) (.cons (.ret (.const (.bl false))) .nil) .nil) (.cons (.ifS (.or (.not (.call 10 (.cons (.idx (.var 0) (.const (.int 0))) (.cons (.const (.int 2)) (.cons (.const (.int 4)) .nil))))) (.not (.call 10 (.cons (.idx (.var 0) (.const (.int 1))) (.cons (.const (.int 0)) (.cons (.const (.int 1)) .nil)))))) (.cons (.ret (.const (.bl false))) .nil) .nil) (.cons (.asg (.nm 1) (.and (.call 15 (.cons (.idx (.var 0) (.const (.int 2))) (.cons (.glob 7 (.tup [(.str [119, 104, 111, 108, 101]), (.str [99, 117, 116]), (.str [102, 105, 108, 108])])) .nil))) (.call 15 (.cons (.idx (.var 0) (.const (.int 3))) (.cons (.glob 6 (.tup [(.str [100, 114, 111, 112]), (.str [104, 97, 110, 103])])) .nil))))) (.cons (.ret (.and (.var 1) (.and (.call 15 (.cons (.idx (.var 0) (.const (.int 4))) (.cons (.glob 5 (.tup [(.str [107, 101, 101, 112]), (.str [111, 110, 101])])) .nil))) (.call 15 (.cons (.idx (.var 0) (.const (.int 5))) (.cons (.glob 4 (.tup [(.str [107, 101, 112, 116]), (.str [102, 105, 108, 108, 101, 100])])) .nil)))))) .nil))))
class F_is_way (P : Pr) : Prop where e : P.fn 16 = some ⟨1, 2, t_is_way⟩
def t_check_way : ISs := (.cons (.ifS (.not (.call 16 (.cons (.var 0) .nil))) (.cons (.raise 1) .nil) .nil) .nil)
class F_check_way (P : Pr) : Prop where e : P.fn 17 = some ⟨1, 1, t_check_way⟩
def t_cut_word : ISs := (.cons (.asg (.tp (.cons (.nm 2) (.cons (.nm 3) .nil))) (.tup (.cons (.lst .nil) (.cons (.const (.int 0)) .nil)))) (.cons (.forS (.tp (.cons (.nm 4) (.cons (.nm 5) .nil))) (.enum (.var 0)) (.cons (.ifS (.and (.cmp .eq (.var 5) (.const (.str [45]))) (.cmp .eq (.var 1) (.const (.int 1)))) (.cons (.expr (.bm .append (.var 2) (.cons (.slc (.var 0) (.var 3) (.bin .add (.var 4) (.const (.int 1)))) .nil))) (.cons (.asg (.nm 3) (.bin .add (.var 4) (.const (.int 1)))) .nil)) .nil) .nil)) (.cons (.ret (.bin .add (.var 2) (.ite (.cmp .lt (.var 3) (.bf .len (.cons (.var 0) .nil))) (.lst (.cons (.slcF (.var 0) (.var 3)) .nil)) (.lst .nil)))) .nil)))
class F_cut_word (P : Pr) : Prop where e : P.fn 18 = some ⟨2, 6, t_cut_word⟩
def t_parts_of : ISs := (.cons (.expr (.call 17 (.cons (.var 0) .nil))) (.cons (.expr (.call 13 (.cons (.var 1) .nil))) (.cons (.asg (.nm 2) (.ite (.cmp .eq (.idx (.var 0) (.const (.int 5))) (.const (.str [102, 105, 108, 108, 101, 100]))) (.lst (.cons (.bm .replace (.var 1) (.cons (.const (.str [47])) (.cons (.const (.str [32])) .nil))) .nil)) (.bm .split (.var 1) (.cons (.const (.str [47])) .nil)))) (.cons (.asg (.nm 3) (.lst .nil)) (.cons (.forS (.nm 4) (.val (.var 2)) (.cons (.asg (.nm 5) (.lst .nil)) (.cons (.forS (.nm 6) (.val (.bm .split (.var 4) (.cons (.const (.str [32])) .nil))) (.cons (.aug 5 .add (.call 18 (.cons (.var 6) (.cons (.idx (.var 0) (.const (.int 1))) .nil)))) .nil)) (.cons (.expr (.bm .append (.var 3) (.cons (.var 5) .nil))) .nil)))) (.cons (.ret (.var 3)) .nil))))))
class F_parts_of (P : Pr) : Prop where e : P.fn 19 = some ⟨2, 7, t_parts_of⟩
def t_outcome_of : ISs := (.cons (.expr (.call 17 (.cons (.var 0) .nil))) (.cons (.expr (.call 13 (.cons (.var 1) .nil))) (.cons (.ret (.meth (.new 6 (.cons (.var 0) .nil)) 8 (.cons (.var 1) .nil))) .nil)))
class F_outcome_of (P : Pr) : Prop where e : P.fn 20 = some ⟨2, 2, t_outcome_of⟩
def t_lines_of : ISs := (.cons (.ret (.bm .split (.call 20 (.cons (.var 0) (.cons (.var 1) .nil))) (.cons (.const (.str [47])) .nil))) .nil)
class F_lines_of (P : Pr) : Prop where e : P.fn 21 = some ⟨2, 2, t_lines_of⟩
def t_l_law_pick : ISs := (.cons (.ret (.idx (.var 1) (.call 23 (.cons (.var 0) (.cons (.bf .len (.cons (.var 1) .nil)) .nil))))) .nil)
class F_l_law_pick (P : Pr) : Prop where e : P.fn 24 = some ⟨2, 2, t_l_law_pick⟩
def t_l_law_words : ISs := (.cons (.ret (.lst (.cons (.lst (.cons (.const (.str [119, 104, 111, 108, 101])) (.cons (.const (.str [99, 117, 116])) (.cons (.const (.str [102, 105, 108, 108])) .nil)))) (.cons (.lst (.cons (.const (.str [100, 114, 111, 112])) (.cons (.const (.str [104, 97, 110, 103])) .nil))) (.cons (.lst (.cons (.const (.str [107, 101, 101, 112])) (.cons (.const (.str [111, 110, 101])) .nil))) (.cons (.lst (.cons (.const (.str [107, 101, 112, 116])) (.cons (.const (.str [102, 105, 108, 108, 101, 100])) .nil))) .nil)))))) .nil)
class F_l_law_words (P : Pr) : Prop where e : P.fn 25 = some ⟨0, 0, t_l_law_words⟩
def t_l_law_way : ISs := (.cons (.ret (.bin .add (.tup (.cons (.bin .add (.const (.int 2)) (.call 23 (.cons (.var 0) (.cons (.const (.int 3)) .nil)))) (.cons (.call 23 (.cons (.var 0) (.cons (.const (.int 2)) .nil))) .nil))) (.bf .tupOf (.cons (.comp (.call 24 (.cons (.var 0) (.cons (.var 1) .nil))) (.nm 1) (.val (.call 25 .nil)) (.const (.bl true)) [1]) .nil)))) .nil)
class F_l_law_way (P : Pr) : Prop where e : P.fn 26 = some ⟨1, 2, t_l_law_way⟩
def t_l_law_text : ISs := (.cons (.asg (.nm 2) (.const (.str []))) (.cons (.asg (.nm 3) (.call 23 (.cons (.var 0) (.cons (.bin .add (.var 1) (.const (.int 1))) .nil)))) (.cons (.whileS (.cmp .lt (.bf .len (.cons (.var 2) .nil)) (.var 3)) (.cons (.asg (.nm 2) (.bin .add (.var 2) (.idx (.const (.str [97, 97, 97, 97, 97, 32, 32, 45, 45, 47])) (.call 23 (.cons (.var 0) (.cons (.const (.int 10)) .nil)))))) .nil)) (.cons (.ret (.var 2)) .nil))))
class F_l_law_text (P : Pr) : Prop where e : P.fn 27 = some ⟨2, 4, t_l_law_text⟩
def t_l_law_lettered : ISs := (.cons (.ret (.bm .join (.const (.str [])) (.cons (.comp (.ite (.cmp .eq (.var 2) (.const (.str [97]))) (.call 24 (.cons (.var 0) (.cons (.bf .listOf (.cons (.const (.str [97, 98, 99, 88, 89, 90])) .nil)) .nil))) (.var 2)) (.nm 2) (.val (.var 1)) (.const (.bl true)) [2]) .nil))) .nil)
class F_l_law_lettered (P : Pr) : Prop where e : P.fn 28 = some ⟨2, 3, t_l_law_lettered⟩
def t_l_law_told_lines : ISs := (.cons (.asg (.nm 2) (.ite (.cmp .eq (.idx (.var 0) (.const (.int 5))) (.const (.str [102, 105, 108, 108, 101, 100]))) (.lst (.cons (.bm .replace (.var 1) (.cons (.const (.str [47])) (.cons (.const (.str [32])) .nil))) .nil)) (.bm .split (.var 1) (.cons (.const (.str [47])) .nil)))) (.cons (.ifS (.cmp .eq (.idx (.var 0) (.const (.int 4))) (.const (.str [107, 101, 101, 112]))) (.cons (.ret (.var 2)) .nil) .nil) (.cons (.ret (.comp (.call 29 (.cons (.var 3) .nil)) (.nm 3) (.val (.var 2)) (.const (.bl true)) [3])) .nil)))
class F_l_law_told_lines (P : Pr) : Prop where e : P.fn 30 = some ⟨2, 4, t_l_law_told_lines⟩
def t_l_law_single : ISs := (.cons (.asg (.nm 1) (.const (.str []))) (.cons (.forS (.nm 2) (.val (.var 0)) (.cons (.ifS (.or (.cmp .ne (.var 2) (.const (.str [32]))) (.cmp .ne (.slcF (.var 1) (.neg (.const (.int 1)))) (.const (.str [32])))) (.cons (.asg (.nm 1) (.bin .add (.var 1) (.var 2))) .nil) .nil) .nil)) (.cons (.ret (.var 1)) .nil)))
class F_l_law_single (P : Pr) : Prop where e : P.fn 29 = some ⟨1, 3, t_l_law_single⟩
def t_l_law_parts : ISs := (.cons (.asg (.tp (.cons (.nm 2) (.cons (.nm 3) (.cons (.nm 4) .nil)))) (.tup (.cons (.lst .nil) (.cons (.const (.int 0)) (.cons (.const (.str [])) .nil))))) (.cons (.forS (.nm 5) (.val (.var 1)) (.cons (.ifS (.cmp .eq (.var 5) (.const (.str [32]))) (.cons (.ifS (.cmp .ne (.var 4) (.const (.str []))) (.cons (.expr (.bm .append (.var 2) (.cons (.tup (.cons (.var 3) (.cons (.var 4) .nil))) .nil))) (.cons (.asg (.tp (.cons (.nm 3) (.cons (.nm 4) .nil))) (.tup (.cons (.const (.int 0)) (.cons (.const (.str [])) .nil)))) .nil)) .nil) (.cons (.asg (.nm 3) (.bin .add (.var 3) (.const (.int 1)))) .nil)) (.cons (.asg (.nm 4) (.bin .add (.var 4) (.var 5))) (.cons (.ifS (.and (.cmp .eq (.var 5) (.const (.str [45]))) (.cmp .eq (.idx (.var 0) (.const (.int 1))) (.const (.int 1)))) (.cons (.expr (.bm .append (.var 2) (.cons (.tup (.cons (.var 3) (.cons (.var 4) .nil))) .nil))) (.cons (.asg (.tp (.cons (.nm 3) (.cons (.nm 4) .nil))) (.tup (.cons (.const (.int 0)) (.cons (.const (.str [])) .nil)))) .nil)) .nil) .nil))) .nil)) (.cons (.ifS (.cmp .ne (.var 4) (.const (.str []))) (.cons (.expr (.bm .append (.var 2) (.cons (.tup (.cons (.var 3) (.cons (.var 4) .nil))) .nil))) (.cons (.asg (.nm 3) (.const (.int 0))) .nil)) .nil) (.cons (.ret (.tup (.cons (.var 2) (.cons (.var 3) .nil)))) .nil))))
class F_l_law_parts (P : Pr) : Prop where e : P.fn 31 = some ⟨2, 6, t_l_law_parts⟩
def t_l_law_pieces : ISs := (.cons (.ifS (.or (.cmp .eq (.idx (.var 0) (.const (.int 2))) (.const (.str [119, 104, 111, 108, 101]))) (.cmp .le (.bf .len (.cons (.var 1) .nil)) (.idx (.var 0) (.const (.int 0))))) (.cons (.ret (.lst (.cons (.var 1) .nil))) .nil) .nil) (.cons (.ret (.comp (.slc (.var 1) (.var 2) (.bin .add (.var 2) (.idx (.var 0) (.const (.int 0))))) (.nm 2) (.rng3 (.const (.int 0)) (.bf .len (.cons (.var 1) .nil)) (.idx (.var 0) (.const (.int 0)))) (.const (.bl true)) [2])) .nil))
class F_l_law_pieces (P : Pr) : Prop where e : P.fn 32 = some ⟨2, 3, t_l_law_pieces⟩
def t_l_law_laid : ISs := (.cons (.asg (.tp (.cons (.nm 2) (.cons (.nm 3) .nil))) (.call 31 (.cons (.var 0) (.cons (.var 1) .nil)))) (.cons (.asg (.tp (.cons (.nm 4) (.cons (.nm 5) .nil))) (.tup (.cons (.lst .nil) (.cons (.const (.str [])) .nil)))) (.cons (.forS (.tp (.cons (.nm 6) (.cons (.nm 7) .nil))) (.val (.var 2)) (.cons (.asg (.nm 8) (.bin .sub (.bin .sub (.idx (.var 0) (.const (.int 0))) (.bf .len (.cons (.var 5) .nil))) (.var 6))) (.cons (.ifS (.and (.cmp .ne (.var 5) (.const (.str []))) (.cmp .le (.bf .len (.cons (.var 7) .nil)) (.var 8))) (.cons (.asg (.nm 5) (.bin .add (.bin .add (.var 5) (.bin .mul (.const (.str [32])) (.var 6))) (.var 7))) .nil) (.cons (.ifS (.and (.cmp .ne (.var 5) (.const (.str []))) (.and (.cmp .eq (.idx (.var 0) (.const (.int 2))) (.const (.str [102, 105, 108, 108]))) (.and (.cmp .gt (.bf .len (.cons (.var 7) .nil)) (.idx (.var 0) (.const (.int 0)))) (.cmp .gt (.var 8) (.const (.int 0)))))) (.cons (.expr (.bm .append (.var 4) (.cons (.bin .add (.bin .add (.var 5) (.bin .mul (.const (.str [32])) (.var 6))) (.slcT (.var 7) (.var 8))) .nil))) (.cons (.asg (.nm 9) (.call 32 (.cons (.var 0) (.cons (.slcF (.var 7) (.var 8)) .nil)))) (.cons (.asg (.tp (.cons (.nm 4) (.cons (.nm 5) .nil))) (.tup (.cons (.bin .add (.var 4) (.slcT (.var 9) (.neg (.const (.int 1))))) (.cons (.idx (.var 9) (.neg (.const (.int 1)))) .nil)))) .nil))) (.cons (.ifS (.cmp .ne (.var 5) (.const (.str []))) (.cons (.expr (.bm .append (.var 4) (.cons (.bin .add (.var 5) (.ite (.cmp .eq (.idx (.var 0) (.const (.int 3))) (.const (.str [104, 97, 110, 103]))) (.bin .mul (.const (.str [32])) (.var 6)) (.const (.str [])))) .nil))) .nil) .nil) (.cons (.asg (.nm 9) (.call 32 (.cons (.var 0) (.cons (.var 7) .nil)))) (.cons (.asg (.tp (.cons (.nm 4) (.cons (.nm 5) .nil))) (.tup (.cons (.bin .add (.var 4) (.slcT (.var 9) (.neg (.const (.int 1))))) (.cons (.idx (.var 9) (.neg (.const (.int 1)))) .nil)))) .nil)))) .nil)) .nil))) (.cons (.ret (.bin .add (.var 4) (.lst (.cons (.bin .add (.var 5) (.ite (.and (.cmp .eq (.idx (.var 0) (.const (.int 3))) (.const (.str [104, 97, 110, 103]))) (.cmp .ne (.var 5) (.const (.str [])))) (.bin .mul (.const (.str [32])) (.var 3)) (.const (.str [])))) .nil)))) .nil))))
class F_l_law_laid (P : Pr) : Prop where e : P.fn 33 = some ⟨2, 10, t_l_law_laid⟩
def t_l_law_lines : ISs := (.cons (.asg (.nm 2) (.lst .nil)) (.cons (.forS (.nm 3) (.val (.call 30 (.cons (.var 0) (.cons (.var 1) .nil)))) (.cons (.asg (.nm 2) (.bin .add (.var 2) (.call 33 (.cons (.var 0) (.cons (.var 3) .nil))))) .nil)) (.cons (.ret (.var 2)) .nil)))
class F_l_law_lines (P : Pr) : Prop where e : P.fn 34 = some ⟨2, 4, t_l_law_lines⟩
def t_l_law_outcome : ISs := (.cons (.ret (.bm .join (.const (.str [47])) (.cons (.call 34 (.cons (.var 0) (.cons (.var 1) .nil))) .nil))) .nil)
class F_l_law_outcome (P : Pr) : Prop where e : P.fn 35 = some ⟨2, 2, t_l_law_outcome⟩
def t_check_number : ISs := (.cons (.ifS (.not (.call 10 (.cons (.var 0) (.cons (.var 1) (.cons (.var 2) .nil))))) (.cons (.raise 3) .nil) .nil) .nil)
class F_check_number (P : Pr) : Prop where e : P.fn 37 = some ⟨3, 3, t_check_number⟩
def t_check_kind : ISs := (.cons (.ifS (.or (.not (.bf (.isin .str) (.cons (.var 0) .nil))) (.cmp .nin (.var 0) (.glob 8 (.tup [(.str [97, 110, 121]), (.str [108, 105, 110, 101]), (.str [119, 111, 114, 100, 115]), (.str [115, 104, 111, 114, 116])])))) (.cons (.raise 2) .nil) .nil) .nil)
class F_check_kind (P : Pr) : Prop where e : P.fn 38 = some ⟨1, 1, t_check_kind⟩
def t_kind_step : ISs := (.cons (.ifS (.or (.cmp .eq (.var 0) (.const (.str [97, 110, 121]))) (.cmp .is_ (.var 1) (.const .non))) (.cons (.ret (.var 1)) .nil) .nil) (.cons (.ifS (.cmp .eq (.var 2) (.const (.str [47]))) (.cons (.ret (.const .non)) .nil) .nil) (.cons (.ifS (.cmp .eq (.var 0) (.const (.str [108, 105, 110, 101]))) (.cons (.ret (.var 1)) .nil) .nil) (.cons (.ifS (.cmp .eq (.var 2) (.const (.str [32]))) (.cons (.ret (.ite (.cmp .gt (.var 1) (.const (.int 0))) (.const (.int 0)) (.const .non))) .nil) .nil) (.cons (.ifS (.cmp .eq (.var 0) (.const (.str [119, 111, 114, 100, 115]))) (.cons (.ret (.const (.int 1))) .nil) .nil) (.cons (.ret (.ite (.cmp .lt (.var 1) (.const (.int 2))) (.bin .add (.var 1) (.const (.int 1))) (.const .non))) .nil))))))
class F_kind_step (P : Pr) : Prop where e : P.fn 39 = some ⟨3, 3, t_kind_step⟩
def t_kind_ends : ISs := (.cons (.ifS (.cmp .inn (.var 0) (.tup (.cons (.const (.str [97, 110, 121])) (.cons (.const (.str [108, 105, 110, 101])) .nil)))) (.cons (.ret (.cmp .isn (.var 1) (.const .non))) .nil) .nil) (.cons (.ret (.and (.cmp .isn (.var 1) (.const .non)) (.cmp .gt (.var 1) (.const (.int 0))))) .nil))
class F_kind_ends (P : Pr) : Prop where e : P.fn 40 = some ⟨2, 2, t_kind_ends⟩
def t_is_of : ISs := (.cons (.asg (.nm 2) (.const (.int 0))) (.cons (.forS (.nm 3) (.val (.var 0)) (.cons (.asg (.nm 2) (.call 39 (.cons (.var 1) (.cons (.var 2) (.cons (.var 3) .nil))))) .nil)) (.cons (.ret (.call 40 (.cons (.var 1) (.cons (.var 2) .nil)))) .nil)))
class F_is_of (P : Pr) : Prop where e : P.fn 41 = some ⟨2, 4, t_is_of⟩
def t_is_kind : ISs := (.cons (.expr (.call 13 (.cons (.var 0) .nil))) (.cons (.expr (.call 38 (.cons (.var 1) .nil))) (.cons (.ret (.call 41 (.cons (.var 0) (.cons (.var 1) .nil)))) .nil)))
class F_is_kind (P : Pr) : Prop where e : P.fn 42 = some ⟨2, 2, t_is_kind⟩
def t_kinds_of : ISs := (.cons (.expr (.call 13 (.cons (.var 0) .nil))) (.cons (.ret (.comp (.var 1) (.nm 1) (.val (.glob 8 (.tup [(.str [97, 110, 121]), (.str [108, 105, 110, 101]), (.str [119, 111, 114, 100, 115]), (.str [115, 104, 111, 114, 116])]))) (.call 41 (.cons (.var 0) (.cons (.var 1) .nil))) [1])) .nil))
class F_kinds_of (P : Pr) : Prop where e : P.fn 43 = some ⟨1, 2, t_kinds_of⟩
def t_all_texts : ISs := (.cons (.expr (.call 37 (.cons (.var 0) (.cons (.const (.int 0)) (.cons (.const (.int 6)) .nil))))) (.cons (.asg (.nm 1) (.lst (.cons (.const (.str [])) .nil))) (.cons (.forS (.nm 2) (.rng1 (.var 0)) (.cons (.asg (.nm 3) (.lst .nil)) (.cons (.forS (.nm 4) (.val (.var 1)) (.cons (.aug 3 .add (.comp (.bin .add (.var 4) (.var 5)) (.nm 5) (.val (.glob 3 (.str [32, 45, 47, 97]))) (.const (.bl true)) [5])) .nil)) (.cons (.asg (.nm 1) (.var 3)) .nil)))) (.cons (.ret (.var 1)) .nil))))
class F_all_texts (P : Pr) : Prop where e : P.fn 44 = some ⟨1, 6, t_all_texts⟩
def t_l_law_error : ISs := (.cons (.asg (.nm 1) (.lst (.cons (.bf (.isin (.cls 1)) (.cons (.var 0) .nil)) (.cons (.bf (.isin (.cls 2)) (.cons (.var 0) .nil)) (.cons (.bf (.isin (.cls 3)) (.cons (.var 0) .nil)) .nil))))) (.cons (.asg (.nm 1) (.bin .add (.var 1) (.lst (.cons (.bf (.isin (.cls 4)) (.cons (.var 0) .nil)) (.cons (.bf (.isin (.cls 5)) (.cons (.var 0) .nil)) .nil))))) (.cons (.ifS (.or (.cmp .ne (.bm .count (.var 1) (.cons (.const (.bl true)) .nil)) (.const (.int 1))) (.or (.not (.bf (.isin (.cls 0)) (.cons (.var 0) .nil))) (.not (.bf (.isin .verr) (.cons (.var 0) .nil))))) (.cons (.ret (.const (.str [111, 100, 100]))) .nil) .nil) (.cons (.ret (.idx (.lst (.cons (.const (.str [119, 97, 121])) (.cons (.const (.str [116, 101, 120, 116])) (.cons (.const (.str [110, 117, 109, 98, 101, 114])) (.cons (.const (.str [102, 111, 114, 109])) (.cons (.const (.str [110, 111, 110, 101])) .nil)))))) (.bm .index (.var 1) (.cons (.const (.bl true)) .nil)))) .nil))))
class F_l_law_error (P : Pr) : Prop where e : P.fn 45 = some ⟨1, 2, t_l_law_error⟩
def t_l_law_kinds : ISs := (.cons (.ret (.lst (.cons (.const (.str [97, 110, 121])) (.cons (.const (.str [108, 105, 110, 101])) (.cons (.const (.str [119, 111, 114, 100, 115])) (.cons (.const (.str [115, 104, 111, 114, 116])) .nil)))))) .nil)
class F_l_law_kinds (P : Pr) : Prop where e : P.fn 46 = some ⟨0, 0, t_l_law_kinds⟩
def t_l_law_is_of : ISs := (.cons (.ifS (.cmp .eq (.var 1) (.const (.str [97, 110, 121]))) (.cons (.ret (.const (.bl true))) .nil) .nil) (.cons (.ifS (.or (.cmp .inn (.const (.str [47])) (.var 0)) (.cmp .eq (.var 1) (.const (.str [108, 105, 110, 101])))) (.cons (.ret (.cmp .nin (.const (.str [47])) (.var 0))) .nil) .nil) (.cons (.ifS (.or (.cmp .eq (.var 0) (.const (.str []))) (.or (.cmp .eq (.idx (.var 0) (.const (.int 0))) (.const (.str [32]))) (.or (.cmp .eq (.idx (.var 0) (.neg (.const (.int 1)))) (.const (.str [32]))) (.cmp .inn (.const (.str [32, 32])) (.var 0))))) (.cons (.ret (.const (.bl false))) .nil) .nil) (.cons (.ret (.or (.cmp .eq (.var 1) (.const (.str [119, 111, 114, 100, 115]))) (.cmp .le (.bf .max1 (.cons (.comp (.bf .len (.cons (.var 2) .nil)) (.nm 2) (.val (.bm .split (.var 0) (.cons (.const (.str [32])) .nil))) (.const (.bl true)) [2]) .nil)) (.const (.int 2))))) .nil))))
class F_l_law_is_of (P : Pr) : Prop where e : P.fn 47 = some ⟨2, 3, t_l_law_is_of⟩
def t_l_law_texts : ISs := (.cons (.asg (.nm 1) (.lst (.cons (.const (.str [])) .nil))) (.cons (.forS (.nm 2) (.rng1 (.var 0)) (.cons (.asg (.nm 3) (.lst .nil)) (.cons (.forS (.nm 4) (.val (.var 1)) (.cons (.asg (.nm 3) (.bin .add (.var 3) (.comp (.bin .add (.var 4) (.var 5)) (.nm 5) (.val (.const (.str [32, 45, 47, 97]))) (.const (.bl true)) [5]))) .nil)) (.cons (.asg (.nm 1) (.var 3)) .nil)))) (.cons (.ret (.var 1)) .nil)))
class F_l_law_texts (P : Pr) : Prop where e : P.fn 48 = some ⟨1, 6, t_l_law_texts⟩
def t_check_family : ISs := (.cons (.ifS (.or (.not (.bf (.isin .list) (.cons (.var 0) .nil))) (.or (.not (.cmp2 .le .le (.const (.int 1)) (.bf .len (.cons (.var 0) .nil)) (.const (.int 8)))) (.not (.bf .all (.cons (.comp (.call 16 (.cons (.var 1) .nil)) (.nm 1) (.val (.var 0)) (.const (.bl true)) [1]) .nil))))) (.cons (.raise 1) .nil) .nil) .nil)
class F_check_family (P : Pr) : Prop where e : P.fn 50 = some ⟨1, 2, t_check_family⟩
def t_all_ways : ISs := (.cons (.asg (.nm 0) (.lst .nil)) (.cons (.forS (.nm 1) (.val (.tup (.cons (.const (.int 2)) (.cons (.const (.int 3)) (.cons (.const (.int 4)) .nil))))) (.cons (.forS (.nm 2) (.val (.tup (.cons (.const (.int 0)) (.cons (.const (.int 1)) .nil)))) (.cons (.forS (.nm 3) (.val (.glob 7 (.tup [(.str [119, 104, 111, 108, 101]), (.str [99, 117, 116]), (.str [102, 105, 108, 108])]))) (.cons (.forS (.nm 4) (.val (.glob 6 (.tup [(.str [100, 114, 111, 112]), (.str [104, 97, 110, 103])]))) (.cons (.forS (.nm 5) (.val (.glob 5 (.tup [(.str [107, 101, 101, 112]), (.str [111, 110, 101])]))) (.cons (.aug 0 .add (.comp (.tup (.cons (.var 1) (.cons (.var 2) (.cons (.var 3) (.cons (.var 4) (.cons (.var 5) (.cons (.var 6) .nil))))))) (.nm 6) (.val (.glob 4 (.tup [(.str [107, 101, 112, 116]), (.str [102, 105, 108, 108, 101, 100])]))) (.const (.bl true)) [6])) .nil)) .nil)) .nil)) .nil)) .nil)) (.cons (.ret (.var 0)) .nil)))
class F_all_ways (P : Pr) : Prop where e : P.fn 51 = some ⟨0, 7, t_all_ways⟩
def t_check_record : ISs := (.cons (.ifS (.or (.not (.bf (.isin .tuple) (.cons (.var 0) .nil))) (.or (.cmp .ne (.bf .len (.cons (.var 0) .nil)) (.const (.int 2))) (.or (.not (.call 12 (.cons (.idx (.var 0) (.const (.int 0))) .nil))) (.not (.call 11 (.cons (.idx (.var 0) (.const (.int 1))) (.cons (.glob 9 (.int 120)) .nil))))))) (.cons (.raise 2) .nil) .nil) .nil)
class F_check_record (P : Pr) : Prop where e : P.fn 52 = some ⟨1, 1, t_check_record⟩
def t_made : ISs := (.cons (.expr (.call 17 (.cons (.var 0) .nil))) (.cons (.expr (.call 52 (.cons (.var 1) .nil))) (.cons (.ret (.cmp .eq (.meth (.new 6 (.cons (.var 0) .nil)) 8 (.cons (.idx (.var 1) (.const (.int 0))) .nil)) (.idx (.var 1) (.const (.int 1))))) .nil)))
class F_made (P : Pr) : Prop where e : P.fn 53 = some ⟨2, 2, t_made⟩
def t_first_bars : ISs := (.cons (.expr (.call 50 (.cons (.var 0) .nil))) (.cons (.ifS (.or (.not (.bf (.isin .list) (.cons (.var 1) .nil))) (.not (.cmp2 .le .le (.const (.int 1)) (.bf .len (.cons (.var 1) .nil)) (.const (.int 20))))) (.cons (.raise 2) .nil) .nil) (.cons (.forS (.nm 2) (.val (.var 1)) (.cons (.expr (.call 52 (.cons (.var 2) .nil))) .nil)) (.cons (.asg (.nm 3) (.lst .nil)) (.cons (.forS (.nm 4) (.val (.var 0)) (.cons (.asg (.nm 5) (.new 6 (.cons (.var 4) .nil))) (.cons (.asg (.nm 9) (.comp (.var 6) (.tp (.cons (.nm 6) (.cons (.tp (.cons (.nm 7) (.cons (.nm 8) .nil))) .nil))) (.enum (.var 1)) (.cmp .ne (.meth (.var 5) 8 (.cons (.var 7) .nil)) (.var 8)) [6, 7, 8])) (.cons (.expr (.bm .append (.var 3) (.cons (.ite (.cmp .ne (.var 9) (.lst .nil)) (.idx (.var 9) (.const (.int 0))) (.const .non)) .nil))) .nil)))) (.cons (.ret (.var 3)) .nil))))))
class F_first_bars (P : Pr) : Prop where e : P.fn 54 = some ⟨2, 10, t_first_bars⟩
def t_remains : ISs := (.cons (.ret (.comp (.var 2) (.tp (.cons (.nm 2) (.cons (.nm 3) .nil))) (.enum (.call 54 (.cons (.var 0) (.cons (.var 1) .nil)))) (.cmp .is_ (.var 3) (.const .non)) [2, 3])) .nil)
class F_remains (P : Pr) : Prop where e : P.fn 55 = some ⟨2, 4, t_remains⟩
def t_l_law_true : ISs := (.cons (.ret (.and (.bf (.isin .bool) (.cons (.var 0) .nil)) (.cmp .eq (.var 0) (.var 1)))) .nil)
class F_l_law_true (P : Pr) : Prop where e : P.fn 56 = some ⟨2, 2, t_l_law_true⟩
def t_Machine_start : ISs := (.cons (.ret (.glob 0 (.tup [(.int 0), (.int 0), (.str []), (.int 0)]))) .nil)
class F_Machine_start (P : Pr) : Prop where e : P.fn 57 = some ⟨1, 1, t_Machine_start⟩
def t_check_outcome : ISs := (.cons (.ifS (.not (.call 11 (.cons (.var 0) (.cons (.glob 9 (.int 120)) .nil)))) (.cons (.raise 2) .nil) .nil) .nil)
class F_check_outcome (P : Pr) : Prop where e : P.fn 58 = some ⟨1, 1, t_check_outcome⟩
def t_signs_for : ISs := (.cons (.ret (.bin .add (.lst (.cons (.const (.str [32])) (.cons (.const (.str [45])) (.cons (.const (.str [47])) .nil)))) (.comp (.var 1) (.nm 1) (.val (.glob 1 (.str [65, 66, 67, 68, 69, 70, 71, 72, 73, 74, 75, 76, 77, 78, 79, 80, 81, 82, 83, 84, 85, 86, 87, 88, 89, 90, 97, 98, 99, 100, 101, 102, 103, 104, 105, 106, 107, 108, 109, 110, 111, 112, 113, 114, 115, 116, 117, 118, 119, 120, 121, 122]))) (.cmp .inn (.var 1) (.var 0)) [1]))) .nil)
class F_signs_for (P : Pr) : Prop where e : P.fn 59 = some ⟨1, 2, t_signs_for⟩
def t_moves_of : ISs := (.cons (.asg (.tp (.cons (.nm 4) (.cons (.nm 5) .nil))) (.var 1)) (.cons (.asg (.nm 6) (.lst .nil)) (.cons (.forS (.nm 7) (.val (.var 3)) (.cons (.asg (.tp (.cons (.nm 8) (.cons (.nm 9) .nil))) (.meth (.var 0) 7 (.cons (.var 4) (.cons (.var 7) .nil)))) (.cons (.ifS (.cmp .eq (.slc (.var 2) (.var 5) (.bin .add (.var 5) (.bf .len (.cons (.var 8) .nil)))) (.var 8)) (.cons (.expr (.bm .append (.var 6) (.cons (.tup (.cons (.var 7) (.cons (.tup (.cons (.var 9) (.cons (.bin .add (.var 5) (.bf .len (.cons (.var 8) .nil))) .nil))) .nil))) .nil))) .nil) .nil) .nil))) (.cons (.ret (.var 6)) .nil))))
class F_moves_of (P : Pr) : Prop where e : P.fn 60 = some ⟨4, 10, t_moves_of⟩
def t_is_end : ISs := (.cons (.ret (.cmp .eq (.meth (.var 0) 6 (.cons (.idx (.var 1) (.const (.int 0))) .nil)) (.slcF (.var 2) (.idx (.var 1) (.const (.int 1)))))) .nil)
class F_is_end (P : Pr) : Prop where e : P.fn 61 = some ⟨3, 3, t_is_end⟩
def t_text_for : ISs := (.cons (.asg (.tp (.cons (.nm 2) (.cons (.nm 3) .nil))) (.tup (.cons (.new 6 (.cons (.var 0) .nil)) (.cons (.call 59 (.cons (.var 1) .nil)) .nil)))) (.cons (.asg (.tp (.cons (.nm 4) (.cons (.nm 5) .nil))) (.tup (.cons (.lst (.cons (.tup (.cons (.tup (.cons (.meth (.var 2) 9 .nil) (.cons (.const (.int 0)) .nil))) (.cons (.const (.str [])) .nil))) .nil)) (.cons (.const (.int 0)) .nil)))) (.cons (.asg (.nm 6) (.dic1 (.tup (.cons (.meth (.var 2) 9 .nil) (.cons (.const (.int 0)) .nil))) (.const (.int 0)))) (.cons (.whileS (.cmp .lt (.var 5) (.bf .len (.cons (.var 4) .nil))) (.cons (.asg (.tp (.cons (.nm 7) (.cons (.nm 8) .nil))) (.idx (.var 4) (.var 5))) (.cons (.ifS (.call 61 (.cons (.var 2) (.cons (.var 7) (.cons (.var 1) .nil)))) (.cons (.ret (.var 8)) .nil) .nil) (.cons (.forS (.tp (.cons (.nm 9) (.cons (.nm 10) .nil))) (.val (.call 60 (.cons (.var 2) (.cons (.var 7) (.cons (.var 1) (.cons (.var 3) .nil)))))) (.cons (.ifS (.cmp .nin (.var 10) (.var 6)) (.cons (.asg (.sub (.var 6) (.var 10)) (.const (.int 0))) (.cons (.expr (.bm .append (.var 4) (.cons (.tup (.cons (.var 10) (.cons (.bin .add (.var 8) (.var 9)) .nil))) .nil))) .nil)) .nil) .nil)) (.cons (.aug 5 .add (.const (.int 1))) .nil))))) (.cons (.ret (.const .non)) .nil)))))
class F_text_for (P : Pr) : Prop where e : P.fn 62 = some ⟨2, 11, t_text_for⟩
def t_can_come : ISs := (.cons (.expr (.call 17 (.cons (.var 0) .nil))) (.cons (.expr (.call 58 (.cons (.var 1) .nil))) (.cons (.ret (.cmp .isn (.call 62 (.cons (.var 0) (.cons (.var 1) .nil))) (.const .non))) .nil)))
class F_can_come (P : Pr) : Prop where e : P.fn 63 = some ⟨2, 2, t_can_come⟩
def t_makers : ISs := (.cons (.expr (.call 50 (.cons (.var 0) .nil))) (.cons (.expr (.call 58 (.cons (.var 1) .nil))) (.cons (.ret (.comp (.var 2) (.tp (.cons (.nm 2) (.cons (.nm 3) .nil))) (.enum (.var 0)) (.cmp .isn (.call 62 (.cons (.var 3) (.cons (.var 1) .nil))) (.const .non)) [2, 3])) .nil)))
class F_makers (P : Pr) : Prop where e : P.fn 64 = some ⟨2, 4, t_makers⟩
def t_first_text : ISs := (.cons (.expr (.call 17 (.cons (.var 0) .nil))) (.cons (.expr (.call 58 (.cons (.var 1) .nil))) (.cons (.asg (.nm 2) (.call 62 (.cons (.var 0) (.cons (.var 1) .nil)))) (.cons (.ifS (.cmp .is_ (.var 2) (.const .non)) (.cons (.raise 5) .nil) .nil) (.cons (.ret (.var 2)) .nil)))))
class F_first_text (P : Pr) : Prop where e : P.fn 65 = some ⟨2, 3, t_first_text⟩
def t_count_texts : ISs := (.cons (.expr (.call 17 (.cons (.var 0) .nil))) (.cons (.expr (.call 58 (.cons (.var 1) .nil))) (.cons (.expr (.call 37 (.cons (.var 2) (.cons (.const (.int 0)) (.cons (.const (.int 60)) .nil))))) (.cons (.asg (.tp (.cons (.nm 3) (.cons (.nm 4) .nil))) (.tup (.cons (.new 6 (.cons (.var 0) .nil)) (.cons (.call 59 (.cons (.var 1) .nil)) .nil)))) (.cons (.asg (.nm 5) (.dic1 (.tup (.cons (.meth (.var 3) 9 .nil) (.cons (.const (.int 0)) .nil))) (.const (.int 1)))) (.cons (.forS (.nm 6) (.rng1 (.var 2)) (.cons (.asg (.nm 7) .dic0) (.cons (.forS (.nm 8) (.val (.var 5)) (.cons (.forS (.tp (.cons (.nm 9) (.cons (.nm 10) .nil))) (.val (.call 60 (.cons (.var 3) (.cons (.var 8) (.cons (.var 1) (.cons (.var 4) .nil)))))) (.cons (.asg (.sub (.var 7) (.var 10)) (.bin .add (.bm .get (.var 7) (.cons (.var 10) (.cons (.const (.int 0)) .nil))) (.idx (.var 5) (.var 8)))) .nil)) .nil)) (.cons (.asg (.nm 5) (.var 7)) .nil)))) (.cons (.ret (.bf .sum (.cons (.comp (.idx (.var 5) (.var 8)) (.nm 8) (.val (.var 5)) (.call 61 (.cons (.var 3) (.cons (.var 8) (.cons (.var 1) .nil)))) [8]) .nil))) .nil)))))))
class F_count_texts (P : Pr) : Prop where e : P.fn 66 = some ⟨3, 11, t_count_texts⟩
def t_l_law_upto : ISs := (.cons (.asg (.nm 1) (.lst .nil)) (.cons (.forS (.nm 2) (.rng1 (.bin .add (.var 0) (.const (.int 1)))) (.cons (.asg (.nm 1) (.bin .add (.var 1) (.call 48 (.cons (.var 2) .nil)))) .nil)) (.cons (.ret (.var 1)) .nil)))
class F_l_law_upto (P : Pr) : Prop where e : P.fn 67 = some ⟨1, 3, t_l_law_upto⟩
def t_l_law_far : ISs := (.cons (.asg (.nm 2) (.call 28 (.cons (.var 0) (.cons (.call 27 (.cons (.var 0) (.cons (.const (.int 20)) .nil))) .nil)))) (.cons (.asg (.nm 3) (.call 35 (.cons (.idx (.var 1) (.const (.int 0))) (.cons (.var 2) .nil)))) (.cons (.asg (.nm 4) (.call 49 (.cons (.idx (.var 1) (.const (.int 0))) (.cons (.var 3) .nil)))) (.cons (.ifS (.or (.cmp .eq (.var 4) (.const (.str [110, 111, 110, 101]))) (.or (.cmp .ne (.call 35 (.cons (.idx (.var 1) (.const (.int 0))) (.cons (.var 4) .nil))) (.var 3)) (.or (.cmp .gt (.bf .len (.cons (.var 4) .nil)) (.bf .len (.cons (.var 2) .nil))) (.cmp .lt (.call 66 (.cons (.idx (.var 1) (.const (.int 0))) (.cons (.var 3) (.cons (.bf .len (.cons (.var 2) .nil)) .nil)))) (.const (.int 1)))))) (.cons (.ret (.const (.bl false))) .nil) .nil) (.cons (.ifS (.or (.cmp .ne (.comp (.var 5) (.nm 5) (.val (.var 4)) (.cmp .nin (.var 5) (.const (.str [32, 47]))) [5]) (.comp (.var 5) (.nm 5) (.val (.var 2)) (.cmp .nin (.var 5) (.const (.str [32, 47]))) [5])) (.cmp .nin (.const (.int 0)) (.call 64 (.cons (.var 1) (.cons (.var 3) .nil))))) (.cons (.ret (.const (.bl false))) .nil) .nil) (.cons (.ret (.and (.cmp .eq (.call 49 (.cons (.tup (.cons (.const (.int 2)) (.cons (.const (.int 0)) (.cons (.const (.str [119, 104, 111, 108, 101])) (.cons (.const (.str [100, 114, 111, 112])) (.cons (.const (.str [107, 101, 101, 112])) (.cons (.const (.str [107, 101, 112, 116])) .nil))))))) (.cons (.const (.str [97, 32, 98])) .nil))) (.const (.str [110, 111, 110, 101]))) (.cmp .eq (.call 49 (.cons (.tup (.cons (.const (.int 3)) (.cons (.const (.int 0)) (.cons (.const (.str [99, 117, 116])) (.cons (.const (.str [100, 114, 111, 112])) (.cons (.const (.str [107, 101, 101, 112])) (.cons (.const (.str [107, 101, 112, 116])) .nil))))))) (.cons (.const (.str [97, 98, 47, 99])) .nil))) (.const (.str [97, 98, 32, 99]))))) .nil))))))
class F_l_law_far (P : Pr) : Prop where e : P.fn 68 = some ⟨2, 6, t_l_law_far⟩
def t_shortened : ISs := (.cons (.asg (.nm 2) (.bf .min2 (.cons (.bf .len (.cons (.var 0) .nil)) (.cons (.bf .len (.cons (.var 1) .nil)) .nil)))) (.cons (.ifS (.or (.cmp .ne (.slcT (.var 0) (.var 2)) (.slcT (.var 1) (.var 2))) (.cmp .gt (.bin .sub (.bin .add (.bf .len (.cons (.var 0) .nil)) (.bf .len (.cons (.var 1) .nil))) (.bin .mul (.const (.int 2)) (.var 2))) (.glob 10 (.int 40)))) (.cons (.ret (.const .non)) .nil) .nil) (.cons (.ret (.tup (.cons (.slcF (.var 0) (.var 2)) (.cons (.slcF (.var 1) (.var 2)) .nil)))) .nil)))
class F_shortened (P : Pr) : Prop where e : P.fn 69 = some ⟨2, 3, t_shortened⟩
def t_first_unlike : ISs := (.cons (.asg (.nm 3) (.tup (.cons (.meth (.var 0) 9 .nil) (.cons (.meth (.var 1) 9 .nil) (.cons (.tup (.cons (.const (.str [])) (.cons (.const (.str [])) .nil))) (.cons (.const (.int 0)) .nil)))))) (.cons (.asg (.tp (.cons (.nm 4) (.cons (.nm 5) (.cons (.nm 6) .nil)))) (.tup (.cons (.lst (.cons (.tup (.cons (.var 3) (.cons (.const (.str [])) .nil))) .nil)) (.cons (.dic1 (.var 3) (.const (.int 0))) (.cons (.const (.int 0)) .nil))))) (.cons (.whileS (.cmp .lt (.var 6) (.bf .len (.cons (.var 4) .nil))) (.cons (.asg (.tp (.cons (.tp (.cons (.nm 7) (.cons (.nm 8) (.cons (.nm 9) (.cons (.nm 10) .nil))))) (.cons (.nm 11) .nil))) (.idx (.var 4) (.var 6))) (.cons (.ifS (.call 40 (.cons (.var 2) (.cons (.var 10) .nil))) (.cons (.ifS (.or (.cmp .is_ (.var 9) (.const .non)) (.cmp .ne (.bin .add (.idx (.var 9) (.const (.int 0))) (.meth (.var 0) 6 (.cons (.var 7) .nil))) (.bin .add (.idx (.var 9) (.const (.int 1))) (.meth (.var 1) 6 (.cons (.var 8) .nil))))) (.cons (.ret (.var 11)) .nil) .nil) .nil) .nil) (.cons (.forS (.nm 12) (.val (.glob 3 (.str [32, 45, 47, 97]))) (.cons (.asg (.nm 13) (.call 39 (.cons (.var 2) (.cons (.var 10) (.cons (.var 12) .nil))))) (.cons (.ifS (.cmp .isn (.var 13) (.const .non)) (.cons (.asg (.tp (.cons (.nm 14) (.cons (.nm 15) .nil))) (.tup (.cons (.meth (.var 0) 7 (.cons (.var 7) (.cons (.var 12) .nil))) (.cons (.meth (.var 1) 7 (.cons (.var 8) (.cons (.var 12) .nil))) .nil)))) (.cons (.asg (.nm 16) (.ite (.cmp .isn (.var 9) (.const .non)) (.call 69 (.cons (.bin .add (.idx (.var 9) (.const (.int 0))) (.idx (.var 14) (.const (.int 0)))) (.cons (.bin .add (.idx (.var 9) (.const (.int 1))) (.idx (.var 15) (.const (.int 0)))) .nil))) (.const .non))) (.cons (.asg (.nm 17) (.tup (.cons (.idx (.var 14) (.const (.int 1))) (.cons (.idx (.var 15) (.const (.int 1))) (.cons (.var 16) (.cons (.var 13) .nil)))))) (.cons (.ifS (.cmp .nin (.var 17) (.var 5)) (.cons (.asg (.sub (.var 5) (.var 17)) (.const (.int 0))) (.cons (.expr (.bm .append (.var 4) (.cons (.tup (.cons (.var 17) (.cons (.bin .add (.var 11) (.var 12)) .nil))) .nil))) .nil)) .nil) .nil)))) .nil) .nil))) (.cons (.aug 6 .add (.const (.int 1))) .nil))))) (.cons (.ret (.const .non)) .nil))))
class F_first_unlike (P : Pr) : Prop where e : P.fn 70 = some ⟨3, 18, t_first_unlike⟩
def t_check_two : ISs := (.cons (.expr (.call 17 (.cons (.var 0) .nil))) (.cons (.expr (.call 17 (.cons (.var 1) .nil))) .nil))
class F_check_two (P : Pr) : Prop where e : P.fn 71 = some ⟨2, 2, t_check_two⟩
def t_unlike_text : ISs := (.cons (.ret (.call 70 (.cons (.new 6 (.cons (.var 0) .nil)) (.cons (.new 6 (.cons (.var 1) .nil)) (.cons (.const (.str [97, 110, 121])) .nil))))) .nil)
class F_unlike_text (P : Pr) : Prop where e : P.fn 72 = some ⟨2, 2, t_unlike_text⟩
def t_same : ISs := (.cons (.expr (.call 71 (.cons (.var 0) (.cons (.var 1) .nil)))) (.cons (.ret (.cmp .is_ (.call 72 (.cons (.var 0) (.cons (.var 1) .nil))) (.const .non))) .nil))
class F_same (P : Pr) : Prop where e : P.fn 73 = some ⟨2, 2, t_same⟩
def t_telling_text : ISs := (.cons (.expr (.call 71 (.cons (.var 0) (.cons (.var 1) .nil)))) (.cons (.asg (.nm 2) (.call 72 (.cons (.var 0) (.cons (.var 1) .nil)))) (.cons (.ifS (.cmp .is_ (.var 2) (.const .non)) (.cons (.raise 5) .nil) .nil) (.cons (.ret (.var 2)) .nil))))
class F_telling_text (P : Pr) : Prop where e : P.fn 74 = some ⟨2, 3, t_telling_text⟩
def t_classes_of : ISs := (.cons (.asg (.nm 1) (.lst .nil)) (.cons (.forS (.tp (.cons (.nm 2) (.cons (.nm 3) .nil))) (.enum (.var 0)) (.cons (.asg (.nm 5) (.comp (.var 4) (.nm 4) (.val (.var 1)) (.cmp .is_ (.call 72 (.cons (.idx (.var 0) (.idx (.var 4) (.const (.int 0)))) (.cons (.var 3) .nil))) (.const .non)) [4])) (.cons (.ifS (.cmp .eq (.var 5) (.lst .nil)) (.cons (.expr (.bm .append (.var 1) (.cons (.lst (.cons (.var 2) .nil)) .nil))) .nil) (.cons (.expr (.bm .append (.idx (.var 5) (.const (.int 0))) (.cons (.var 2) .nil))) .nil)) .nil))) (.cons (.ret (.var 1)) .nil)))
class F_classes_of (P : Pr) : Prop where e : P.fn 75 = some ⟨1, 6, t_classes_of⟩
def t_classes : ISs := (.cons (.expr (.call 50 (.cons (.var 0) .nil))) (.cons (.ret (.call 75 (.cons (.var 0) .nil))) .nil))
class F_classes (P : Pr) : Prop where e : P.fn 76 = some ⟨1, 1, t_classes⟩
def t_telling_table : ISs := (.cons (.expr (.call 50 (.cons (.var 0) .nil))) (.cons (.asg (.nm 1) (.lst .nil)) (.cons (.forS (.nm 2) (.val (.var 0)) (.cons (.asg (.nm 4) (.comp (.call 72 (.cons (.var 2) (.cons (.var 3) .nil))) (.nm 3) (.val (.var 0)) (.const (.bl true)) [3])) (.cons (.expr (.bm .append (.var 1) (.cons (.comp (.ite (.cmp .isn (.var 5) (.const .non)) (.bf .len (.cons (.var 5) .nil)) (.const .non)) (.nm 5) (.val (.var 4)) (.const (.bl true)) [5]) .nil))) .nil))) (.cons (.ret (.var 1)) .nil))))
class F_telling_table (P : Pr) : Prop where e : P.fn 77 = some ⟨1, 6, t_telling_table⟩
def t_count_same : ISs := (.cons (.expr (.call 71 (.cons (.var 0) (.cons (.var 1) .nil)))) (.cons (.expr (.call 37 (.cons (.var 2) (.cons (.const (.int 0)) (.cons (.const (.int 30)) .nil))))) (.cons (.asg (.tp (.cons (.nm 3) (.cons (.nm 4) .nil))) (.tup (.cons (.new 6 (.cons (.var 0) .nil)) (.cons (.new 6 (.cons (.var 1) .nil)) .nil)))) (.cons (.asg (.nm 5) (.dic1 (.tup (.cons (.meth (.var 3) 9 .nil) (.cons (.meth (.var 4) 9 .nil) (.cons (.tup (.cons (.const (.str [])) (.cons (.const (.str [])) .nil))) .nil)))) (.const (.int 1)))) (.cons (.forS (.nm 6) (.rng1 (.var 2)) (.cons (.asg (.nm 7) .dic0) (.cons (.forS (.tp (.cons (.nm 8) (.cons (.nm 9) (.cons (.nm 10) .nil)))) (.val (.var 5)) (.cons (.forS (.nm 11) (.val (.glob 3 (.str [32, 45, 47, 97]))) (.cons (.asg (.nm 12) (.tup (.cons (.meth (.var 3) 7 (.cons (.var 8) (.cons (.var 11) .nil))) (.cons (.meth (.var 4) 7 (.cons (.var 9) (.cons (.var 11) .nil))) .nil)))) (.cons (.asg (.nm 13) (.call 69 (.cons (.bin .add (.idx (.var 10) (.const (.int 0))) (.idx (.idx (.var 12) (.const (.int 0))) (.const (.int 0)))) (.cons (.bin .add (.idx (.var 10) (.const (.int 1))) (.idx (.idx (.var 12) (.const (.int 1))) (.const (.int 0)))) .nil)))) (.cons (.ifS (.cmp .isn (.var 13) (.const .non)) (.cons (.asg (.nm 14) (.tup (.cons (.idx (.idx (.var 12) (.const (.int 0))) (.const (.int 1))) (.cons (.idx (.idx (.var 12) (.const (.int 1))) (.const (.int 1))) (.cons (.var 13) .nil))))) (.cons (.asg (.sub (.var 7) (.var 14)) (.bin .add (.bm .get (.var 7) (.cons (.var 14) (.cons (.const (.int 0)) .nil))) (.idx (.var 5) (.tup (.cons (.var 8) (.cons (.var 9) (.cons (.var 10) .nil))))))) .nil)) .nil) .nil)))) .nil)) (.cons (.asg (.nm 5) (.var 7)) .nil)))) (.cons (.asg (.nm 15) (.const (.int 0))) (.cons (.forS (.tp (.cons (.nm 8) (.cons (.nm 9) (.cons (.nm 10) .nil)))) (.val (.var 5)) (.cons (.ifS (.cmp .eq (.bin .add (.idx (.var 10) (.const (.int 0))) (.meth (.var 3) 6 (.cons (.var 8) .nil))) (.bin .add (.idx (.var 10) (.const (.int 1))) (.meth (.var 4) 6 (.cons (.var 9) .nil)))) (.cons (.aug 15 .add (.idx (.var 5) (.tup (.cons (.var 8) (.cons (.var 9) (.cons (.var 10) .nil)))))) .nil) .nil) .nil)) (.cons (.ret (.var 15)) .nil))))))))
class F_count_same (P : Pr) : Prop where e : P.fn 78 = some ⟨3, 16, t_count_same⟩
def t_l_law_near : ISs := (.cons (.asg (.nm 2) (.call 23 (.cons (.var 0) (.cons (.const (.int 6)) .nil)))) (.cons (.ret (.bin .add (.bin .add (.slcT (.var 1) (.var 2)) (.tup (.cons (.idx (.call 26 (.cons (.var 0) .nil)) (.var 2)) .nil))) (.slcF (.var 1) (.bin .add (.var 2) (.const (.int 1)))))) .nil))
class F_l_law_near (P : Pr) : Prop where e : P.fn 79 = some ⟨2, 3, t_l_law_near⟩
def t_l_law_counts : ISs := (.cons (.asg (.nm 4) (.call 23 (.cons (.var 0) (.cons (.const (.int 5)) .nil)))) (.cons (.asg (.nm 6) (.comp (.var 5) (.nm 5) (.val (.call 48 (.cons (.var 4) .nil))) (.cmp .eq (.call 35 (.cons (.var 1) (.cons (.var 5) .nil))) (.call 35 (.cons (.var 2) (.cons (.var 5) .nil)))) [5])) (.cons (.ifS (.or (.cmp .ne (.call 78 (.cons (.var 1) (.cons (.var 2) (.cons (.var 4) .nil)))) (.bf .len (.cons (.var 6) .nil))) (.cmp .ne (.call 78 (.cons (.var 1) (.cons (.var 1) (.cons (.const (.int 12)) .nil)))) (.const (.int 16777216)))) (.cons (.ret (.const (.bl false))) .nil) .nil) (.cons (.ret (.cmp .eq (.cmp .eq (.call 78 (.cons (.var 1) (.cons (.var 2) (.cons (.const (.int 12)) .nil)))) (.const (.int 16777216))) (.cmp .eq (.var 3) (.const (.str [110, 111, 110, 101]))))) .nil))))
class F_l_law_counts (P : Pr) : Prop where e : P.fn 80 = some ⟨4, 7, t_l_law_counts⟩
def t_groups_by : ISs := (.cons (.asg (.nm 1) (.lst .nil)) (.cons (.forS (.tp (.cons (.nm 2) (.cons (.nm 3) .nil))) (.enum (.var 0)) (.cons (.ifS (.cmp .nin (.var 3) (.slcT (.var 0) (.var 2))) (.cons (.expr (.bm .append (.var 1) (.cons (.comp (.var 4) (.nm 4) (.rng1 (.bf .len (.cons (.var 0) .nil))) (.cmp .eq (.idx (.var 0) (.var 4)) (.var 3)) [4]) .nil))) .nil) .nil) .nil)) (.cons (.ret (.var 1)) .nil)))
class F_groups_by (P : Pr) : Prop where e : P.fn 81 = some ⟨1, 5, t_groups_by⟩
def t_split_up : ISs := (.cons (.asg (.tp (.cons (.nm 2) (.cons (.nm 3) .nil))) (.tup (.cons (.lst .nil) (.cons (.lst .nil) .nil)))) (.cons (.forS (.tp (.cons (.nm 4) (.cons (.nm 5) .nil))) (.enum (.var 0)) (.cons (.asg (.nm 7) (.comp (.idx (.var 3) (.var 6)) (.nm 6) (.rng1 (.var 4)) (.and (.call 82 (.cons (.idx (.var 0) (.var 6)) (.cons (.var 5) .nil))) (.cmp .eq (.idx (.var 1) (.var 6)) (.idx (.var 1) (.var 4)))) [6])) (.cons (.asg (.nm 8) (.bf .min1 (.cons (.bin .add (.var 7) (.lst (.cons (.var 4) .nil))) .nil))) (.cons (.asg (.nm 3) (.bin .add (.comp (.ite (.cmp .inn (.var 9) (.var 7)) (.var 8) (.var 9)) (.nm 9) (.val (.var 3)) (.const (.bl true)) [9]) (.lst (.cons (.var 8) .nil)))) .nil)))) (.cons (.forS (.tp (.cons (.nm 4) (.cons (.nm 5) .nil))) (.enum (.var 0)) (.cons (.asg (.nm 10) (.comp (.var 6) (.nm 6) (.rng1 (.bf .len (.cons (.var 0) .nil))) (.cmp .eq (.idx (.var 3) (.var 6)) (.idx (.var 3) (.var 4))) [6])) (.cons (.asg (.nm 11) (.bf .min1 (.cons (.comp (.bf .len (.cons (.idx (.var 0) (.var 6)) .nil)) (.nm 6) (.val (.var 10)) (.const (.bl true)) [6]) .nil))) (.cons (.expr (.bm .append (.var 2) (.cons (.slcF (.var 5) (.var 11)) .nil))) .nil)))) (.cons (.ret (.tup (.cons (.bf .tupOf (.cons (.var 2) .nil)) (.cons (.bf .tupOf (.cons (.var 3) .nil)) .nil)))) .nil))))
class F_split_up (P : Pr) : Prop where e : P.fn 83 = some ⟨2, 12, t_split_up⟩
def t_meets : ISs := (.cons (.asg (.nm 2) (.bf .min2 (.cons (.bf .len (.cons (.var 0) .nil)) (.cons (.bf .len (.cons (.var 1) .nil)) .nil)))) (.cons (.asg (.nm 3) (.bin .add (.slcF (.var 0) (.var 2)) (.slcF (.var 1) (.var 2)))) (.cons (.ifS (.or (.cmp .eq (.slcT (.var 3) (.const (.int 4))) (.const (.str [32, 32, 32, 32]))) (.or (.cmp .eq (.slcT (.var 3) (.const (.int 2))) (.const (.str [47, 47]))) (.cmp .gt (.bf .len (.cons (.var 3) .nil)) (.glob 11 (.int 16))))) (.cons (.ret (.const (.bl false))) .nil) .nil) (.cons (.ret (.cmp .eq (.slcT (.var 0) (.var 2)) (.slcT (.var 1) (.var 2)))) .nil))))
class F_meets (P : Pr) : Prop where e : P.fn 82 = some ⟨2, 4, t_meets⟩
def t_ended : ISs := (.cons (.ret (.ite (.cmp .is_ (.var 1) (.const .non)) (.const (.str [])) (.bin .add (.var 2) (.meth (.var 0) 6 (.cons (.var 1) .nil))))) .nil)
class F_ended (P : Pr) : Prop where e : P.fn 84 = some ⟨3, 3, t_ended⟩
def t_stepped : ISs := (.cons (.ret (.ite (.cmp .is_ (.var 1) (.const .non)) (.tup (.cons (.const (.str [])) (.cons (.const .non) .nil))) (.meth (.var 0) 7 (.cons (.var 1) (.cons (.var 2) .nil))))) .nil)
class F_stepped (P : Pr) : Prop where e : P.fn 85 = some ⟨3, 3, t_stepped⟩
def t_settled : ISs := (.cons (.asg (.tp (.cons (.nm 2) (.cons (.nm 3) .nil))) (.var 1)) (.cons (.asg (.nm 5) (.comp (.cmp .eq (.bm .count (.var 3) (.cons (.var 4) .nil)) (.const (.int 1))) (.nm 4) (.val (.var 3)) (.const (.bl true)) [4])) (.cons (.asg (.nm 8) (.bf .tupOf (.cons (.comp (.ite (.idx (.var 5) (.var 6)) (.const .non) (.var 7)) (.tp (.cons (.nm 6) (.cons (.nm 7) .nil))) (.enum (.var 0)) (.const (.bl true)) [6, 7]) .nil))) (.cons (.ret (.tup (.cons (.var 8) (.cons (.bf .tupOf (.cons (.comp (.ite (.idx (.var 5) (.var 6)) (.const (.str [])) (.var 9)) (.tp (.cons (.nm 6) (.cons (.nm 9) .nil))) (.enum (.var 2)) (.const (.bl true)) [6, 9]) .nil)) (.cons (.var 3) .nil))))) .nil))))
class F_settled (P : Pr) : Prop where e : P.fn 86 = some ⟨2, 10, t_settled⟩
def t_told_texts : ISs := (.cons (.asg (.nm 2) (.comp (.new 6 (.cons (.var 1) .nil)) (.nm 1) (.val (.var 0)) (.const (.bl true)) [1])) (.cons (.asg (.nm 4) (.tup (.cons (.bf .tupOf (.cons (.comp (.meth (.var 3) 9 .nil) (.nm 3) (.val (.var 2)) (.const (.bl true)) [3]) .nil)) (.cons (.bin .mul (.tup (.cons (.const (.str [])) .nil)) (.bf .len (.cons (.var 0) .nil))) (.cons (.bin .mul (.tup (.cons (.const (.int 0)) .nil)) (.bf .len (.cons (.var 0) .nil))) .nil))))) (.cons (.asg (.tp (.cons (.nm 5) (.cons (.nm 6) (.cons (.nm 7) (.cons (.nm 8) (.cons (.nm 9) .nil)))))) (.tup (.cons (.lst (.cons (.tup (.cons (.var 4) (.cons (.const (.str [])) .nil))) .nil)) (.cons (.const (.int 0)) (.cons (.dic1 (.var 4) (.const (.int 0))) (.cons (.lst .nil) (.cons (.lst .nil) .nil))))))) (.cons (.whileS (.cmp .lt (.var 6) (.bf .len (.cons (.var 5) .nil))) (.cons (.asg (.tp (.cons (.tp (.cons (.nm 10) (.cons (.nm 11) (.cons (.nm 12) .nil)))) (.cons (.nm 13) .nil))) (.idx (.var 5) (.var 6))) (.cons (.asg (.nm 15) (.comp (.tup (.cons (.idx (.var 12) (.var 14)) (.cons (.call 84 (.cons (.idx (.var 2) (.var 14)) (.cons (.idx (.var 10) (.var 14)) (.cons (.idx (.var 11) (.var 14)) .nil)))) .nil))) (.nm 14) (.rng1 (.bf .len (.cons (.var 0) .nil))) (.const (.bl true)) [14])) (.cons (.ifS (.cmp .nin (.call 81 (.cons (.var 15) .nil)) (.var 8)) (.cons (.expr (.bm .append (.var 8) (.cons (.call 81 (.cons (.var 15) .nil)) .nil))) (.cons (.expr (.bm .append (.var 9) (.cons (.tup (.cons (.comp (.meth (.var 16) 8 (.cons (.var 13) .nil)) (.nm 16) (.val (.var 2)) (.const (.bl true)) [16]) (.cons (.var 13) .nil))) .nil))) .nil)) .nil) (.cons (.forS (.nm 17) (.val (.glob 3 (.str [32, 45, 47, 97]))) (.cons (.asg (.nm 18) (.comp (.call 85 (.cons (.idx (.var 2) (.var 14)) (.cons (.idx (.var 10) (.var 14)) (.cons (.var 17) .nil)))) (.nm 14) (.rng1 (.bf .len (.cons (.var 0) .nil))) (.const (.bl true)) [14])) (.cons (.asg (.nm 19) (.bf .tupOf (.cons (.comp (.bin .add (.idx (.var 11) (.var 14)) (.idx (.idx (.var 18) (.var 14)) (.const (.int 0)))) (.nm 14) (.rng1 (.bf .len (.cons (.var 0) .nil))) (.const (.bl true)) [14]) .nil))) (.cons (.asg (.nm 20) (.call 86 (.cons (.comp (.idx (.var 3) (.const (.int 1))) (.nm 3) (.val (.var 18)) (.const (.bl true)) [3]) (.cons (.call 83 (.cons (.var 19) (.cons (.var 12) .nil))) .nil)))) (.cons (.ifS (.cmp .nin (.var 20) (.var 7)) (.cons (.asg (.sub (.var 7) (.var 20)) (.const (.int 0))) (.cons (.expr (.bm .append (.var 5) (.cons (.tup (.cons (.var 20) (.cons (.bin .add (.var 13) (.var 17)) .nil))) .nil))) .nil)) .nil) .nil))))) (.cons (.aug 6 .add (.const (.int 1))) .nil)))))) (.cons (.ret (.var 9)) .nil)))))
class F_told_texts (P : Pr) : Prop where e : P.fn 87 = some ⟨1, 21, t_told_texts⟩
def t_check_few : ISs := (.cons (.expr (.call 50 (.cons (.var 0) .nil))) (.cons (.ifS (.cmp .gt (.bf .len (.cons (.var 0) .nil)) (.const (.int 4))) (.cons (.raise 5) .nil) .nil) .nil))
class F_check_few (P : Pr) : Prop where e : P.fn 88 = some ⟨1, 1, t_check_few⟩
def t_all_partings : ISs := (.cons (.expr (.call 88 (.cons (.var 0) .nil))) (.cons (.ret (.comp (.tup (.cons (.call 81 (.cons (.var 1) .nil)) (.cons (.var 2) .nil))) (.tp (.cons (.nm 1) (.cons (.nm 2) .nil))) (.val (.call 87 (.cons (.var 0) .nil))) (.const (.bl true)) [1, 2])) .nil))
class F_all_partings (P : Pr) : Prop where e : P.fn 89 = some ⟨1, 3, t_all_partings⟩
def t_l_law_groups : ISs := (.cons (.asg (.nm 2) (.comp (.var 1) (.nm 1) (.rng1 (.bf .len (.cons (.var 0) .nil))) (.cmp .nin (.idx (.var 0) (.var 1)) (.slcT (.var 0) (.var 1))) [1])) (.cons (.ret (.comp (.comp (.var 1) (.nm 1) (.rng1 (.bf .len (.cons (.var 0) .nil))) (.cmp .eq (.idx (.var 0) (.var 1)) (.idx (.var 0) (.var 3))) [1]) (.nm 3) (.val (.var 2)) (.const (.bl true)) [3])) .nil))
class F_l_law_groups (P : Pr) : Prop where e : P.fn 90 = some ⟨1, 4, t_l_law_groups⟩
def t_Search___init__ : ISs := (.cons (.asg (.fld (.var 0) 8) (.call 87 (.cons (.var 1) .nil))) (.cons (.asg (.nm 2) (.call 75 (.cons (.var 1) .nil))) (.cons (.asg (.fld (.var 0) 7) (.comp (.bm .index (.comp (.cmp .inn (.var 3) (.var 4)) (.nm 4) (.val (.var 2)) (.const (.bl true)) [4]) (.cons (.const (.bl true)) .nil)) (.nm 3) (.rng1 (.bf .len (.cons (.var 1) .nil))) (.const (.bl true)) [3])) (.cons (.asg (.fld (.var 0) 0) .dic0) .nil))))
class F_Search___init__ (P : Pr) : Prop where e : P.fn 91 = some ⟨2, 5, t_Search___init__⟩
def t_Search_is_found : ISs := (.cons (.ret (.cmp .eq (.bf .lenSet (.cons (.comp (.idx (.fld (.var 0) 7) (.var 2)) (.nm 2) (.val (.var 1)) (.const (.bl true)) [2]) .nil)) (.const (.int 1)))) .nil)
class F_Search_is_found (P : Pr) : Prop where e : P.fn 92 = some ⟨2, 3, t_Search_is_found⟩
def t_Search_parts : ISs := (.cons (.asg (.nm 4) (.bf .sortSet (.cons (.comp (.idx (.var 2) (.var 3)) (.nm 3) (.val (.var 1)) (.const (.bl true)) [3]) .nil))) (.cons (.ret (.comp (.tup (.cons (.var 5) (.cons (.comp (.var 3) (.nm 3) (.val (.var 1)) (.cmp .eq (.idx (.var 2) (.var 3)) (.var 5)) [3]) .nil))) (.nm 5) (.val (.var 4)) (.const (.bl true)) [5])) .nil))
class F_Search_parts (P : Pr) : Prop where e : P.fn 93 = some ⟨3, 6, t_Search_parts⟩
def t_Search_cost : ISs := (.cons (.ifS (.meth (.var 0) 11 (.cons (.var 1) .nil)) (.cons (.ret (.const (.int 0))) .nil) .nil) (.cons (.asg (.nm 2) (.bf .tupOf (.cons (.var 1) .nil))) (.cons (.ifS (.cmp .nin (.var 2) (.fld (.var 0) 0)) (.cons (.asg (.sub (.fld (.var 0) 0) (.var 2)) (.bf .min1 (.cons (.comp (.var 3) (.tp (.cons (.nm 3) (.cons (.nm 4) (.cons (.nm 5) .nil)))) (.val (.meth (.var 0) 10 (.cons (.var 1) .nil))) (.const (.bl true)) [3, 4, 5]) .nil))) .nil) .nil) (.cons (.ret (.idx (.fld (.var 0) 0) (.var 2))) .nil))))
class F_Search_cost (P : Pr) : Prop where e : P.fn 94 = some ⟨2, 6, t_Search_cost⟩
def t_Search_choices : ISs := (.cons (.asg (.nm 2) (.lst .nil)) (.cons (.forS (.tp (.cons (.nm 3) (.cons (.nm 4) .nil))) (.val (.fld (.var 0) 8)) (.cons (.asg (.nm 5) (.meth (.var 0) 13 (.cons (.var 1) (.cons (.var 3) .nil)))) (.cons (.ifS (.cmp .gt (.bf .len (.cons (.var 5) .nil)) (.const (.int 1))) (.cons (.expr (.bm .append (.var 2) (.cons (.tup (.cons (.bin .add (.bf .len (.cons (.var 4) .nil)) (.bf .max1 (.cons (.comp (.meth (.var 0) 12 (.cons (.var 7) .nil)) (.tp (.cons (.nm 6) (.cons (.nm 7) .nil))) (.val (.var 5)) (.const (.bl true)) [6, 7]) .nil))) (.cons (.var 4) (.cons (.var 5) .nil)))) .nil))) .nil) .nil) .nil))) (.cons (.ret (.var 2)) .nil)))
class F_Search_choices (P : Pr) : Prop where e : P.fn 95 = some ⟨2, 8, t_Search_choices⟩
def t_Search_plan : ISs := (.cons (.ifS (.meth (.var 0) 11 (.cons (.var 1) .nil)) (.cons (.ret (.tup (.cons (.const (.str [108, 101, 102, 116])) (.cons (.var 1) .nil)))) .nil) .nil) (.cons (.asg (.nm 5) (.comp (.tup (.cons (.var 3) (.cons (.var 4) .nil))) (.tp (.cons (.nm 2) (.cons (.nm 3) (.cons (.nm 4) .nil)))) (.val (.meth (.var 0) 10 (.cons (.var 1) .nil))) (.cmp .eq (.var 2) (.meth (.var 0) 12 (.cons (.var 1) .nil))) [2, 3, 4])) (.cons (.ret (.tup (.cons (.const (.str [97, 115, 107])) (.cons (.idx (.idx (.var 5) (.const (.int 0))) (.const (.int 0))) (.cons (.comp (.tup (.cons (.var 6) (.cons (.meth (.var 0) 14 (.cons (.var 7) .nil)) .nil))) (.tp (.cons (.nm 6) (.cons (.nm 7) .nil))) (.val (.idx (.idx (.var 5) (.const (.int 0))) (.const (.int 1)))) (.const (.bl true)) [6, 7]) .nil))))) .nil)))
class F_Search_plan (P : Pr) : Prop where e : P.fn 96 = some ⟨2, 8, t_Search_plan⟩
def t_Search_tells_all : ISs := (.cons (.asg (.nm 2) .dic0) (.cons (.forS (.tp (.cons (.nm 3) (.cons (.nm 4) .nil))) (.enum (.fld (.var 0) 7)) (.cons (.asg (.nm 6) (.bf .strOf (.cons (.comp (.idx (.idx (.idx (.fld (.var 0) 8) (.var 5)) (.const (.int 0))) (.var 3)) (.nm 5) (.val (.var 1)) (.const (.bl true)) [5]) .nil))) (.cons (.ifS (.cmp .ne (.bm .setdefault (.var 2) (.cons (.var 6) (.cons (.var 4) .nil))) (.var 4)) (.cons (.ret (.const (.bl false))) .nil) .nil) .nil))) (.cons (.ret (.const (.bl true))) .nil)))
class F_Search_tells_all (P : Pr) : Prop where e : P.fn 97 = some ⟨2, 7, t_Search_tells_all⟩
def t_signs_needed : ISs := (.cons (.expr (.call 88 (.cons (.var 0) .nil))) (.cons (.ret (.meth (.new 9 (.cons (.var 0) .nil)) 12 (.cons (.lrng (.rng1 (.bf .len (.cons (.var 0) .nil)))) .nil))) .nil))
class F_signs_needed (P : Pr) : Prop where e : P.fn 98 = some ⟨1, 1, t_signs_needed⟩
def t_finding_plan : ISs := (.cons (.expr (.call 88 (.cons (.var 0) .nil))) (.cons (.ret (.meth (.new 9 (.cons (.var 0) .nil)) 14 (.cons (.lrng (.rng1 (.bf .len (.cons (.var 0) .nil)))) .nil))) .nil))
class F_finding_plan (P : Pr) : Prop where e : P.fn 99 = some ⟨1, 1, t_finding_plan⟩
def t_some_lists : ISs := (.cons (.asg (.tp (.cons (.nm 2) (.cons (.nm 3) .nil))) (.tup (.cons (.lst (.cons (.lst .nil) .nil)) (.cons (.lst (.cons (.lst .nil) .nil)) .nil)))) (.cons (.forS (.nm 4) (.rng1 (.var 1)) (.cons (.asg (.nm 5) (.lst .nil)) (.cons (.forS (.nm 6) (.val (.var 3)) (.cons (.aug 5 .add (.comp (.bin .add (.var 6) (.lst (.cons (.var 7) .nil))) (.nm 7) (.rng2 (.ite (.cmp .ne (.var 6) (.lst .nil)) (.bin .add (.idx (.var 6) (.neg (.const (.int 1)))) (.const (.int 1))) (.const (.int 0))) (.var 0)) (.const (.bl true)) [7])) .nil)) (.cons (.asg (.tp (.cons (.nm 2) (.cons (.nm 3) .nil))) (.tup (.cons (.bin .add (.var 2) (.var 5)) (.cons (.var 5) .nil)))) .nil)))) (.cons (.ret (.var 2)) .nil)))
class F_some_lists (P : Pr) : Prop where e : P.fn 100 = some ⟨2, 8, t_some_lists⟩
def t_texts_at_once : ISs := (.cons (.expr (.call 88 (.cons (.var 0) .nil))) (.cons (.asg (.tp (.cons (.nm 1) (.cons (.nm 2) .nil))) (.tup (.cons (.new 9 (.cons (.var 0) .nil)) (.cons (.const .non) .nil)))) (.cons (.forS (.nm 3) (.val (.call 100 (.cons (.bf .len (.cons (.fld (.var 1) 8) .nil)) (.cons (.bin .sub (.bf .len (.cons (.var 0) .nil)) (.const (.int 1))) .nil)))) (.cons (.ifS (.meth (.var 1) 15 (.cons (.var 3) .nil)) (.cons (.asg (.nm 5) (.bf .sum (.cons (.comp (.bf .len (.cons (.idx (.idx (.fld (.var 1) 8) (.var 4)) (.const (.int 1))) .nil)) (.nm 4) (.val (.var 3)) (.const (.bl true)) [4]) .nil))) (.cons (.ifS (.or (.cmp .is_ (.var 2) (.const .non)) (.cmp .lt (.var 5) (.idx (.var 2) (.const (.int 0))))) (.cons (.asg (.nm 2) (.tup (.cons (.var 5) (.cons (.var 3) .nil)))) .nil) .nil) .nil)) .nil) .nil)) (.cons (.ret (.comp (.idx (.idx (.fld (.var 1) 8) (.var 4)) (.const (.int 1))) (.nm 4) (.val (.idx (.var 2) (.const (.int 1)))) (.const (.bl true)) [4])) .nil))))
class F_texts_at_once (P : Pr) : Prop where e : P.fn 101 = some ⟨1, 6, t_texts_at_once⟩
def t_l_law_cost : ISs := (.cons (.ifS (.cmp .eq (.bf .lenSet (.cons (.comp (.idx (.var 2) (.var 4)) (.nm 4) (.val (.var 0)) (.const (.bl true)) [4]) .nil)) (.const (.int 1))) (.cons (.ret (.const (.int 0))) .nil) .nil) (.cons (.asg (.nm 5) (.bf .strOf (.cons (.var 0) .nil))) (.cons (.ifS (.cmp .nin (.var 5) (.var 3)) (.cons (.asg (.sub (.var 3) (.var 5)) (.const (.int 99))) (.cons (.forS (.tp (.cons (.nm 6) (.cons (.nm 7) .nil))) (.val (.var 1)) (.cons (.asg (.nm 8) (.call 103 (.cons (.var 0) (.cons (.var 7) .nil)))) (.cons (.ifS (.cmp .gt (.bf .len (.cons (.var 8) .nil)) (.const (.int 1))) (.cons (.asg (.nm 11) (.comp (.call 102 (.cons (.var 10) (.cons (.var 1) (.cons (.var 2) (.cons (.var 3) .nil))))) (.tp (.cons (.nm 9) (.cons (.nm 10) .nil))) (.val (.var 8)) (.const (.bl true)) [9, 10])) (.cons (.asg (.sub (.var 3) (.var 5)) (.bf .min2 (.cons (.idx (.var 3) (.var 5)) (.cons (.bin .add (.bf .len (.cons (.var 6) .nil)) (.bf .max1 (.cons (.var 11) .nil))) .nil)))) .nil)) .nil) .nil))) .nil)) .nil) (.cons (.ret (.idx (.var 3) (.var 5))) .nil))))
class F_l_law_cost (P : Pr) : Prop where e : P.fn 102 = some ⟨4, 12, t_l_law_cost⟩
def t_l_law_split : ISs := (.cons (.asg (.nm 3) (.bf .sortSet (.cons (.comp (.idx (.var 1) (.var 2)) (.nm 2) (.val (.var 0)) (.const (.bl true)) [2]) .nil))) (.cons (.ret (.comp (.tup (.cons (.var 4) (.cons (.comp (.var 2) (.nm 2) (.val (.var 0)) (.cmp .eq (.idx (.var 1) (.var 2)) (.var 4)) [2]) .nil))) (.nm 4) (.val (.var 3)) (.const (.bl true)) [4])) .nil))
class F_l_law_split (P : Pr) : Prop where e : P.fn 103 = some ⟨2, 5, t_l_law_split⟩
def t_l_law_plan : ISs := (.cons (.ifS (.cmp .eq (.bf .lenSet (.cons (.comp (.idx (.var 2) (.var 4)) (.nm 4) (.val (.var 0)) (.const (.bl true)) [4]) .nil)) (.const (.int 1))) (.cons (.ret (.tup (.cons (.const (.str [108, 101, 102, 116])) (.cons (.var 0) .nil)))) .nil) .nil) (.cons (.asg (.nm 5) (.call 102 (.cons (.var 0) (.cons (.var 1) (.cons (.var 2) (.cons (.var 3) .nil)))))) (.cons (.forS (.tp (.cons (.nm 6) (.cons (.nm 7) .nil))) (.val (.var 1)) (.cons (.asg (.nm 8) (.call 103 (.cons (.var 0) (.cons (.var 7) .nil)))) (.cons (.ifS (.cmp .gt (.bf .len (.cons (.var 8) .nil)) (.const (.int 1))) (.cons (.asg (.nm 11) (.comp (.call 102 (.cons (.var 10) (.cons (.var 1) (.cons (.var 2) (.cons (.var 3) .nil))))) (.tp (.cons (.nm 9) (.cons (.nm 10) .nil))) (.val (.var 8)) (.const (.bl true)) [9, 10])) (.cons (.ifS (.cmp .eq (.bin .add (.bf .len (.cons (.var 6) .nil)) (.bf .max1 (.cons (.var 11) .nil))) (.var 5)) (.cons (.ret (.tup (.cons (.const (.str [97, 115, 107])) (.cons (.var 6) (.cons (.comp (.tup (.cons (.var 9) (.cons (.call 104 (.cons (.var 10) (.cons (.var 1) (.cons (.var 2) (.cons (.var 3) .nil))))) .nil))) (.tp (.cons (.nm 9) (.cons (.nm 10) .nil))) (.val (.var 8)) (.const (.bl true)) [9, 10]) .nil))))) .nil) .nil) .nil)) .nil) .nil))) (.cons (.ret (.const .non)) .nil))))
class F_l_law_plan (P : Pr) : Prop where e : P.fn 104 = some ⟨4, 12, t_l_law_plan⟩
def t_l_law_subsets : ISs := (.cons (.asg (.nm 1) (.lst (.cons (.lst .nil) .nil))) (.cons (.forS (.nm 2) (.rng1 (.var 0)) (.cons (.asg (.nm 1) (.bin .add (.var 1) (.comp (.bin .add (.var 3) (.lst (.cons (.var 2) .nil))) (.nm 3) (.val (.var 1)) (.const (.bl true)) [3]))) .nil)) (.cons (.ret (.var 1)) .nil)))
class F_l_law_subsets (P : Pr) : Prop where e : P.fn 105 = some ⟨1, 4, t_l_law_subsets⟩
def t_Chain___init__ : ISs := (.cons (.asg (.fld (.var 0) 10) (.var 1)) (.cons (.asg (.fld (.var 0) 9) (.var 2)) .nil))
class F_Chain___init__ (P : Pr) : Prop where e : P.fn 106 = some ⟨3, 3, t_Chain___init__⟩
def t_Chain_start : ISs := (.cons (.ret (.tup (.cons (.meth (.fld (.var 0) 10) 9 .nil) (.cons (.meth (.fld (.var 0) 9) 9 .nil) .nil)))) .nil)
class F_Chain_start (P : Pr) : Prop where e : P.fn 107 = some ⟨1, 1, t_Chain_start⟩
def t_Chain_fed : ISs := (.cons (.asg (.nm 3) (.const (.str []))) (.cons (.forS (.nm 4) (.val (.var 2)) (.cons (.asg (.tp (.cons (.nm 5) (.cons (.nm 1) .nil))) (.meth (.fld (.var 0) 9) 7 (.cons (.var 1) (.cons (.var 4) .nil)))) (.cons (.aug 3 .add (.var 5)) .nil))) (.cons (.ret (.tup (.cons (.var 3) (.cons (.var 1) .nil)))) .nil)))
class F_Chain_fed (P : Pr) : Prop where e : P.fn 108 = some ⟨3, 6, t_Chain_fed⟩
def t_Chain_step : ISs := (.cons (.asg (.tp (.cons (.nm 3) (.cons (.nm 4) .nil))) (.meth (.fld (.var 0) 10) 7 (.cons (.idx (.var 1) (.const (.int 0))) (.cons (.var 2) .nil)))) (.cons (.asg (.tp (.cons (.nm 5) (.cons (.nm 6) .nil))) (.meth (.var 0) 16 (.cons (.idx (.var 1) (.const (.int 1))) (.cons (.var 3) .nil)))) (.cons (.ret (.tup (.cons (.var 5) (.cons (.tup (.cons (.var 4) (.cons (.var 6) .nil))) .nil)))) .nil)))
class F_Chain_step (P : Pr) : Prop where e : P.fn 109 = some ⟨3, 7, t_Chain_step⟩
def t_Chain_ending : ISs := (.cons (.asg (.tp (.cons (.nm 2) (.cons (.nm 3) .nil))) (.meth (.var 0) 16 (.cons (.idx (.var 1) (.const (.int 1))) (.cons (.meth (.fld (.var 0) 10) 6 (.cons (.idx (.var 1) (.const (.int 0))) .nil)) .nil)))) (.cons (.ret (.bin .add (.var 2) (.meth (.fld (.var 0) 9) 6 (.cons (.var 3) .nil)))) .nil))
class F_Chain_ending (P : Pr) : Prop where e : P.fn 110 = some ⟨2, 4, t_Chain_ending⟩
def t_changed_text : ISs := (.cons (.asg (.nm 2) (.new 6 (.cons (.var 0) .nil))) (.cons (.ret (.call 70 (.cons (.new 7 (.cons (.var 2) (.cons (.var 2) .nil))) (.cons (.var 2) (.cons (.var 1) .nil))))) .nil))
class F_changed_text (P : Pr) : Prop where e : P.fn 111 = some ⟨2, 3, t_changed_text⟩
def t_found_text : ISs := (.cons (.ifS (.cmp .is_ (.var 0) (.const .non)) (.cons (.raise 5) .nil) .nil) (.cons (.ret (.var 0)) .nil))
class F_found_text (P : Pr) : Prop where e : P.fn 112 = some ⟨1, 1, t_found_text⟩
def t_twice_alike : ISs := (.cons (.expr (.call 17 (.cons (.var 0) .nil))) (.cons (.expr (.call 38 (.cons (.var 1) .nil))) (.cons (.ret (.cmp .is_ (.call 111 (.cons (.var 0) (.cons (.var 1) .nil))) (.const .non))) .nil)))
class F_twice_alike (P : Pr) : Prop where e : P.fn 113 = some ⟨2, 2, t_twice_alike⟩
def t_first_changed : ISs := (.cons (.expr (.call 17 (.cons (.var 0) .nil))) (.cons (.expr (.call 38 (.cons (.var 1) .nil))) (.cons (.ret (.call 112 (.cons (.call 111 (.cons (.var 0) (.cons (.var 1) .nil))) .nil))) .nil)))
class F_first_changed (P : Pr) : Prop where e : P.fn 114 = some ⟨2, 2, t_first_changed⟩
def t_is_chain : ISs := (.cons (.ret (.cmp .is_ (.call 70 (.cons (.new 7 (.cons (.new 6 (.cons (.var 0) .nil)) (.cons (.new 6 (.cons (.var 1) .nil)) .nil))) (.cons (.new 6 (.cons (.var 2) .nil)) (.cons (.const (.str [97, 110, 121])) .nil)))) (.const .non))) .nil)
class F_is_chain (P : Pr) : Prop where e : P.fn 115 = some ⟨3, 3, t_is_chain⟩
def t_chain_same : ISs := (.cons (.expr (.call 71 (.cons (.var 0) (.cons (.var 1) .nil)))) (.cons (.expr (.call 17 (.cons (.var 2) .nil))) (.cons (.ret (.call 115 (.cons (.var 0) (.cons (.var 1) (.cons (.var 2) .nil))))) .nil)))
class F_chain_same (P : Pr) : Prop where e : P.fn 116 = some ⟨3, 3, t_chain_same⟩
def t_Still_start : ISs := (.cons (.ret (.const (.int 0))) .nil)
class F_Still_start (P : Pr) : Prop where e : P.fn 117 = some ⟨1, 1, t_Still_start⟩
def t_Still_step : ISs := (.cons (.ret (.tup (.cons (.var 2) (.cons (.const (.int 0)) .nil)))) .nil)
class F_Still_step (P : Pr) : Prop where e : P.fn 118 = some ⟨3, 3, t_Still_step⟩
def t_Still_ending : ISs := (.cons (.ret (.const (.str []))) .nil)
class F_Still_ending (P : Pr) : Prop where e : P.fn 119 = some ⟨2, 2, t_Still_ending⟩
def t_lost_text : ISs := (.cons (.ret (.call 70 (.cons (.new 7 (.cons (.new 6 (.cons (.var 0) .nil)) (.cons (.new 6 (.cons (.var 1) .nil)) .nil))) (.cons (.new 8 .nil) (.cons (.var 2) .nil))))) .nil)
class F_lost_text (P : Pr) : Prop where e : P.fn 120 = some ⟨3, 3, t_lost_text⟩
def t_undoes : ISs := (.cons (.expr (.call 71 (.cons (.var 0) (.cons (.var 1) .nil)))) (.cons (.expr (.call 38 (.cons (.var 2) .nil))) (.cons (.ret (.cmp .is_ (.call 120 (.cons (.var 0) (.cons (.var 1) (.cons (.var 2) .nil)))) (.const .non))) .nil)))
class F_undoes (P : Pr) : Prop where e : P.fn 121 = some ⟨3, 3, t_undoes⟩
def t_first_lost : ISs := (.cons (.expr (.call 71 (.cons (.var 0) (.cons (.var 1) .nil)))) (.cons (.expr (.call 38 (.cons (.var 2) .nil))) (.cons (.ret (.call 112 (.cons (.call 120 (.cons (.var 0) (.cons (.var 1) (.cons (.var 2) .nil)))) .nil))) .nil)))
class F_first_lost (P : Pr) : Prop where e : P.fn 122 = some ⟨3, 3, t_first_lost⟩
def t_small_texts : ISs := (.cons (.asg (.tp (.cons (.nm 0) (.cons (.nm 1) .nil))) (.tup (.cons (.lst (.cons (.const (.str [])) .nil)) (.cons (.lst (.cons (.const (.str [])) .nil)) .nil)))) (.cons (.forS (.nm 2) (.rng1 (.const (.int 4))) (.cons (.asg (.nm 3) (.lst .nil)) (.cons (.forS (.nm 4) (.val (.var 1)) (.cons (.aug 3 .add (.comp (.bin .add (.var 4) (.var 5)) (.nm 5) (.val (.glob 3 (.str [32, 45, 47, 97]))) (.const (.bl true)) [5])) .nil)) (.cons (.asg (.tp (.cons (.nm 0) (.cons (.nm 1) .nil))) (.tup (.cons (.bin .add (.var 0) (.var 3)) (.cons (.var 3) .nil)))) .nil)))) (.cons (.ret (.var 0)) .nil)))
class F_small_texts (P : Pr) : Prop where e : P.fn 123 = some ⟨0, 6, t_small_texts⟩
def t_other_of : ISs := (.cons (.asg (.tp (.cons (.nm 2) (.cons (.nm 3) .nil))) (.tup (.cons (.const (.str [])) (.cons (.meth (.var 0) 9 .nil) .nil)))) (.cons (.forS (.nm 4) (.val (.var 1)) (.cons (.asg (.tp (.cons (.nm 5) (.cons (.nm 3) .nil))) (.meth (.var 0) 7 (.cons (.var 3) (.cons (.var 4) .nil)))) (.cons (.aug 2 .add (.var 5)) .nil))) (.cons (.ret (.bin .add (.var 2) (.meth (.var 0) 6 (.cons (.var 3) .nil)))) .nil)))
class F_other_of (P : Pr) : Prop where e : P.fn 124 = some ⟨2, 6, t_other_of⟩
def t_fits : ISs := (.cons (.asg (.nm 3) (.new 6 (.cons (.var 0) .nil))) (.cons (.forS (.tp (.cons (.nm 4) (.cons (.nm 5) .nil))) (.zip (.var 1) (.var 2)) (.cons (.ifS (.cmp .ne (.meth (.var 3) 8 (.cons (.var 4) .nil)) (.var 5)) (.cons (.ret (.const (.bl false))) .nil) .nil) .nil)) (.cons (.ret (.const (.bl true))) .nil)))
class F_fits (P : Pr) : Prop where e : P.fn 125 = some ⟨3, 6, t_fits⟩
def t_chain_of : ISs := (.cons (.expr (.call 71 (.cons (.var 0) (.cons (.var 1) .nil)))) (.cons (.asg (.tp (.cons (.nm 2) (.cons (.nm 3) .nil))) (.tup (.cons (.new 7 (.cons (.new 6 (.cons (.var 0) .nil)) (.cons (.new 6 (.cons (.var 1) .nil)) .nil))) (.cons (.call 123 .nil) .nil)))) (.cons (.asg (.nm 5) (.comp (.call 124 (.cons (.var 2) (.cons (.var 4) .nil))) (.nm 4) (.val (.var 3)) (.const (.bl true)) [4])) (.cons (.forS (.nm 6) (.val (.call 51 .nil)) (.cons (.ifS (.and (.call 125 (.cons (.var 6) (.cons (.var 3) (.cons (.var 5) .nil)))) (.call 115 (.cons (.var 0) (.cons (.var 1) (.cons (.var 6) .nil))))) (.cons (.ret (.var 6)) .nil) .nil) .nil)) (.cons (.raise 5) .nil)))))
class F_chain_of (P : Pr) : Prop where e : P.fn 126 = some ⟨2, 7, t_chain_of⟩
def t_longer_line : ISs := (.cons (.asg (.tp (.cons (.nm 3) (.cons (.nm 4) (.cons (.nm 5) .nil)))) (.var 0)) (.cons (.forS (.nm 6) (.val (.var 1)) (.cons (.ifS (.cmp .eq (.var 6) (.const (.str [47]))) (.cons (.asg (.tp (.cons (.nm 3) (.cons (.nm 4) .nil))) (.tup (.cons (.const (.int 0)) (.cons (.const (.int 0)) .nil)))) .nil) (.cons (.ifS (.cmp .eq (.var 6) (.const (.str [32]))) (.cons (.asg (.nm 4) (.bf .min2 (.cons (.bin .add (.var 4) (.const (.int 1))) (.cons (.bin .add (.var 2) (.const (.int 1))) .nil)))) .nil) (.cons (.asg (.tp (.cons (.nm 3) (.cons (.nm 4) .nil))) (.tup (.cons (.bf .min2 (.cons (.bin .add (.bin .add (.var 3) (.var 4)) (.const (.int 1))) (.cons (.bin .add (.var 2) (.const (.int 1))) .nil))) (.cons (.const (.int 0)) .nil)))) (.cons (.asg (.nm 5) (.ite (.cmp .gt (.var 3) (.var 2)) (.const (.int 1)) (.var 5))) .nil))) .nil)) .nil)) (.cons (.ret (.tup (.cons (.var 3) (.cons (.var 4) (.cons (.var 5) .nil))))) .nil)))
class F_longer_line (P : Pr) : Prop where e : P.fn 127 = some ⟨3, 7, t_longer_line⟩
def t_wide_text : ISs := (.cons (.asg (.nm 2) (.new 6 (.cons (.var 0) .nil))) (.cons (.asg (.nm 3) (.tup (.cons (.meth (.var 2) 9 .nil) (.cons (.const (.int 0)) (.cons (.tup (.cons (.const (.int 0)) (.cons (.const (.int 0)) (.cons (.const (.int 0)) .nil)))) .nil))))) (.cons (.asg (.tp (.cons (.nm 4) (.cons (.nm 5) (.cons (.nm 6) .nil)))) (.tup (.cons (.lst (.cons (.tup (.cons (.var 3) (.cons (.const (.str [])) .nil))) .nil)) (.cons (.dic1 (.var 3) (.const (.int 0))) (.cons (.const (.int 0)) .nil))))) (.cons (.whileS (.cmp .lt (.var 6) (.bf .len (.cons (.var 4) .nil))) (.cons (.asg (.tp (.cons (.tp (.cons (.nm 7) (.cons (.nm 8) (.cons (.nm 9) .nil)))) (.cons (.nm 10) .nil))) (.idx (.var 4) (.var 6))) (.cons (.ifS (.and (.call 40 (.cons (.var 1) (.cons (.var 8) .nil))) (.cmp .eq (.idx (.call 127 (.cons (.var 9) (.cons (.meth (.var 2) 6 (.cons (.var 7) .nil)) (.cons (.idx (.var 0) (.const (.int 0))) .nil)))) (.const (.int 2))) (.const (.int 1)))) (.cons (.ret (.var 10)) .nil) .nil) (.cons (.forS (.nm 11) (.val (.glob 3 (.str [32, 45, 47, 97]))) (.cons (.asg (.nm 12) (.call 39 (.cons (.var 1) (.cons (.var 8) (.cons (.var 11) .nil))))) (.cons (.ifS (.cmp .isn (.var 12) (.const .non)) (.cons (.asg (.tp (.cons (.nm 13) (.cons (.nm 14) .nil))) (.meth (.var 2) 7 (.cons (.var 7) (.cons (.var 11) .nil)))) (.cons (.asg (.nm 15) (.tup (.cons (.var 14) (.cons (.var 12) (.cons (.call 127 (.cons (.var 9) (.cons (.var 13) (.cons (.idx (.var 0) (.const (.int 0))) .nil)))) .nil))))) (.cons (.ifS (.cmp .nin (.var 15) (.var 5)) (.cons (.asg (.sub (.var 5) (.var 15)) (.const (.int 0))) (.cons (.expr (.bm .append (.var 4) (.cons (.tup (.cons (.var 15) (.cons (.bin .add (.var 10) (.var 11)) .nil))) .nil))) .nil)) .nil) .nil))) .nil) .nil))) (.cons (.aug 6 .add (.const (.int 1))) .nil))))) (.cons (.ret (.const .non)) .nil)))))
class F_wide_text (P : Pr) : Prop where e : P.fn 128 = some ⟨2, 16, t_wide_text⟩
def t_keeps_width : ISs := (.cons (.expr (.call 17 (.cons (.var 0) .nil))) (.cons (.expr (.call 38 (.cons (.var 1) .nil))) (.cons (.ret (.cmp .is_ (.call 128 (.cons (.var 0) (.cons (.var 1) .nil))) (.const .non))) .nil)))
class F_keeps_width (P : Pr) : Prop where e : P.fn 129 = some ⟨2, 2, t_keeps_width⟩
def t_first_wide : ISs := (.cons (.expr (.call 17 (.cons (.var 0) .nil))) (.cons (.expr (.call 38 (.cons (.var 1) .nil))) (.cons (.asg (.nm 2) (.call 128 (.cons (.var 0) (.cons (.var 1) .nil)))) (.cons (.ifS (.cmp .is_ (.var 2) (.const .non)) (.cons (.raise 5) .nil) .nil) (.cons (.ret (.var 2)) .nil)))))
class F_first_wide (P : Pr) : Prop where e : P.fn 130 = some ⟨2, 3, t_first_wide⟩
def t_l_law_is_wide : ISs := (.cons (.ret (.cmp .ne (.comp (.var 2) (.nm 2) (.val (.call 34 (.cons (.var 0) (.cons (.var 1) .nil)))) (.cmp .gt (.bf .len (.cons (.bm .rstrip (.var 2) (.cons (.const (.str [32])) .nil)) .nil)) (.idx (.var 0) (.const (.int 0)))) [2]) (.lst .nil))) .nil)
class F_l_law_is_wide (P : Pr) : Prop where e : P.fn 131 = some ⟨2, 3, t_l_law_is_wide⟩
def t_weight_of : ISs := (.cons (.ret (.ite (.cmp .eq (.var 1) (.const (.int 1))) (.bm .count (.var 0) (.cons (.const (.str [47])) .nil)) (.bf .len (.cons (.var 0) .nil)))) .nil)
class F_weight_of (P : Pr) : Prop where e : P.fn 132 = some ⟨2, 2, t_weight_of⟩
def t_greatest_of : ISs := (.cons (.asg (.nm 5) (.new 6 (.cons (.var 0) .nil))) (.cons (.asg (.nm 6) (.dic1 (.tup (.cons (.meth (.var 5) 9 .nil) (.cons (.const (.int 0)) .nil))) (.const (.int 0)))) (.cons (.forS (.nm 7) (.rng1 (.var 2)) (.cons (.asg (.nm 8) .dic0) (.cons (.forS (.tp (.cons (.nm 9) (.cons (.nm 10) .nil))) (.val (.var 6)) (.cons (.forS (.nm 11) (.val (.glob 3 (.str [32, 45, 47, 97]))) (.cons (.asg (.nm 12) (.call 39 (.cons (.var 1) (.cons (.var 10) (.cons (.var 11) .nil))))) (.cons (.ifS (.cmp .isn (.var 12) (.const .non)) (.cons (.asg (.tp (.cons (.nm 13) (.cons (.nm 14) .nil))) (.meth (.var 5) 7 (.cons (.var 9) (.cons (.var 11) .nil)))) (.cons (.asg (.nm 15) (.bin .add (.idx (.var 6) (.tup (.cons (.var 9) (.cons (.var 10) .nil)))) (.bin .mul (.var 4) (.call 132 (.cons (.var 13) (.cons (.var 3) .nil)))))) (.cons (.ifS (.or (.cmp .nin (.tup (.cons (.var 14) (.cons (.var 12) .nil))) (.var 8)) (.cmp .lt (.idx (.var 8) (.tup (.cons (.var 14) (.cons (.var 12) .nil)))) (.var 15))) (.cons (.asg (.sub (.var 8) (.tup (.cons (.var 14) (.cons (.var 12) .nil)))) (.var 15)) .nil) .nil) .nil))) .nil) .nil))) .nil)) (.cons (.asg (.nm 6) (.var 8)) .nil)))) (.cons (.asg (.nm 16) (.lst .nil)) (.cons (.forS (.tp (.cons (.nm 9) (.cons (.nm 10) .nil))) (.val (.var 6)) (.cons (.ifS (.call 40 (.cons (.var 1) (.cons (.var 10) .nil))) (.cons (.expr (.bm .append (.var 16) (.cons (.bin .add (.idx (.var 6) (.tup (.cons (.var 9) (.cons (.var 10) .nil)))) (.bin .mul (.var 4) (.call 132 (.cons (.meth (.var 5) 6 (.cons (.var 9) .nil)) (.cons (.var 3) .nil))))) .nil))) .nil) .nil) .nil)) (.cons (.ret (.ite (.cmp .ne (.var 16) (.lst .nil)) (.bf .max1 (.cons (.var 16) .nil)) (.const .non))) .nil))))))
class F_greatest_of (P : Pr) : Prop where e : P.fn 133 = some ⟨5, 17, t_greatest_of⟩
def t_extreme : ISs := (.cons (.expr (.call 17 (.cons (.var 0) .nil))) (.cons (.expr (.call 38 (.cons (.var 1) .nil))) (.cons (.expr (.call 37 (.cons (.var 2) (.cons (.const (.int 0)) (.cons (.const (.int 60)) .nil))))) (.cons (.asg (.nm 5) (.call 133 (.cons (.var 0) (.cons (.var 1) (.cons (.var 2) (.cons (.var 3) (.cons (.var 4) .nil))))))) (.cons (.ifS (.cmp .is_ (.var 5) (.const .non)) (.cons (.raise 5) .nil) .nil) (.cons (.ret (.bin .add (.bin .mul (.var 4) (.var 5)) (.ite (.cmp .eq (.var 3) (.const (.int 1))) (.const (.int 1)) (.const (.int 0))))) .nil))))))
class F_extreme (P : Pr) : Prop where e : P.fn 134 = some ⟨5, 6, t_extreme⟩
def t_most_lines : ISs := (.cons (.ret (.call 134 (.cons (.var 0) (.cons (.var 1) (.cons (.var 2) (.cons (.const (.int 1)) (.cons (.const (.int 1)) .nil))))))) .nil)
class F_most_lines (P : Pr) : Prop where e : P.fn 135 = some ⟨3, 3, t_most_lines⟩
def t_fewest_lines : ISs := (.cons (.ret (.call 134 (.cons (.var 0) (.cons (.var 1) (.cons (.var 2) (.cons (.const (.int 1)) (.cons (.neg (.const (.int 1))) .nil))))))) .nil)
class F_fewest_lines (P : Pr) : Prop where e : P.fn 136 = some ⟨3, 3, t_fewest_lines⟩
def t_most_signs : ISs := (.cons (.ret (.call 134 (.cons (.var 0) (.cons (.var 1) (.cons (.var 2) (.cons (.const (.int 0)) (.cons (.const (.int 1)) .nil))))))) .nil)
class F_most_signs (P : Pr) : Prop where e : P.fn 137 = some ⟨3, 3, t_most_signs⟩
def t_fewest_signs : ISs := (.cons (.ret (.call 134 (.cons (.var 0) (.cons (.var 1) (.cons (.var 2) (.cons (.const (.int 0)) (.cons (.neg (.const (.int 1))) .nil))))))) .nil)
class F_fewest_signs (P : Pr) : Prop where e : P.fn 138 = some ⟨3, 3, t_fewest_signs⟩
def t_Desk___init__ : ISs := (.cons (.expr (.call 17 (.cons (.var 1) .nil))) (.cons (.asg (.fld (.var 0) 12) (.new 6 (.cons (.var 1) .nil))) (.cons (.asg (.fld (.var 0) 11) (.const (.str []))) .nil)))
class F_Desk___init__ (P : Pr) : Prop where e : P.fn 139 = some ⟨2, 2, t_Desk___init__⟩
def t_Desk___len__ : ISs := (.cons (.ret (.bf .len (.cons (.fld (.var 0) 11) .nil))) .nil)
class F_Desk___len__ (P : Pr) : Prop where e : P.fn 140 = some ⟨1, 1, t_Desk___len__⟩
def t_Desk_put : ISs := (.cons (.ifS (.or (.not (.call 11 (.cons (.var 1) (.cons (.const (.int 1)) .nil)))) (.cmp .eq (.var 1) (.const (.str [])))) (.cons (.raise 2) .nil) .nil) (.cons (.ifS (.cmp .eq (.bf .len (.cons (.fld (.var 0) 11) .nil)) (.glob 2 (.int 60))) (.cons (.raise 3) .nil) .nil) (.cons (.augF (.var 0) 11 .add (.var 1)) (.cons (.ret (.meth (.fld (.var 0) 12) 8 (.cons (.fld (.var 0) 11) .nil))) .nil))))
class F_Desk_put (P : Pr) : Prop where e : P.fn 141 = some ⟨2, 2, t_Desk_put⟩
def t_Desk_text : ISs := (.cons (.ret (.fld (.var 0) 11)) .nil)
class F_Desk_text (P : Pr) : Prop where e : P.fn 142 = some ⟨1, 1, t_Desk_text⟩
def t_Desk_lines : ISs := (.cons (.ret (.bm .split (.meth (.fld (.var 0) 12) 8 (.cons (.fld (.var 0) 11) .nil)) (.cons (.const (.str [47])) .nil))) .nil)
class F_Desk_lines (P : Pr) : Prop where e : P.fn 143 = some ⟨1, 1, t_Desk_lines⟩
def t_Desk_undo : ISs := (.cons (.ifS (.cmp .eq (.fld (.var 0) 11) (.const (.str []))) (.cons (.raise 5) .nil) .nil) (.cons (.asg (.tp (.cons (.nm 1) (.cons (.fld (.var 0) 11) .nil))) (.tup (.cons (.idx (.fld (.var 0) 11) (.neg (.const (.int 1)))) (.cons (.slcT (.fld (.var 0) 11) (.neg (.const (.int 1)))) .nil)))) (.cons (.ret (.var 1)) .nil)))
class F_Desk_undo (P : Pr) : Prop where e : P.fn 144 = some ⟨1, 2, t_Desk_undo⟩
def t_format_way : ISs := (.cons (.expr (.call 17 (.cons (.var 0) .nil))) (.cons (.ret (.bm .join (.const (.str [32])) (.cons (.comp (.bf .strOf (.cons (.var 1) .nil)) (.nm 1) (.val (.var 0)) (.const (.bl true)) [1]) .nil))) .nil))
class F_format_way (P : Pr) : Prop where e : P.fn 145 = some ⟨1, 2, t_format_way⟩
def t_item_in : ISs := (.cons (.ret (.ite (.cmp .inn (.var 0) (.tup (.cons (.const (.str [48])) (.cons (.const (.str [49])) (.cons (.const (.str [50])) (.cons (.const (.str [51])) (.cons (.const (.str [52])) .nil))))))) (.bf .intOf (.cons (.var 0) .nil)) (.var 0))) .nil)
class F_item_in (P : Pr) : Prop where e : P.fn 146 = some ⟨1, 1, t_item_in⟩
def t_parse_way : ISs := (.cons (.ifS (.not (.bf (.isin .str) (.cons (.var 0) .nil))) (.cons (.raise 4) .nil) .nil) (.cons (.asg (.nm 2) (.bf .tupOf (.cons (.comp (.call 146 (.cons (.var 1) .nil)) (.nm 1) (.val (.bm .split (.var 0) (.cons (.const (.str [32])) .nil))) (.const (.bl true)) [1]) .nil))) (.cons (.ifS (.not (.call 16 (.cons (.var 2) .nil))) (.cons (.raise 4) .nil) .nil) (.cons (.ret (.var 2)) .nil))))
class F_parse_way (P : Pr) : Prop where e : P.fn 147 = some ⟨1, 3, t_parse_way⟩
def t_l_law_parsed : ISs := (.cons (.asg (.nm 1) (.const .non)) (.cons (.asg (.nm 2) (.const .non)) (.cons (.tryAs (.cons (.asg (.nm 1) (.call 147 (.cons (.var 0) .nil))) .nil) 2 3) (.cons (.ret (.ite (.cmp .is_ (.var 2) (.const .non)) (.var 1) (.call 45 (.cons (.var 2) .nil)))) .nil))))
class F_l_law_parsed (P : Pr) : Prop where e : P.fn 148 = some ⟨1, 4, t_l_law_parsed⟩
def t_l_law_rejected : ISs := (.cons (.asg (.nm 0) (.lst (.cons (.const .non) (.cons (.const (.int 5)) (.cons (.const (.str [])) (.cons (.const (.str [32])) (.cons (.const (.str [51, 32, 48, 32, 99, 117, 116, 32, 100, 114, 111, 112, 32, 107, 101, 101, 112])) (.cons (.const (.str [51, 32, 48, 32, 99, 117, 116, 32, 100, 114, 111, 112, 32, 107, 101, 101, 112, 32, 107, 101, 112, 116, 32])) (.cons (.const (.str [32, 51, 32, 48, 32, 99, 117, 116, 32, 100, 114, 111, 112, 32, 107, 101, 101, 112, 32, 107, 101, 112, 116])) (.cons (.const (.str [51, 32, 32, 48, 32, 99, 117, 116, 32, 100, 114, 111, 112, 32, 107, 101, 101, 112, 32, 107, 101, 112, 116])) .nil)))))))))) (.cons (.asg (.nm 0) (.bin .add (.var 0) (.lst (.cons (.const (.str [49, 32, 48, 32, 99, 117, 116, 32, 100, 114, 111, 112, 32, 107, 101, 101, 112, 32, 107, 101, 112, 116])) (.cons (.const (.str [53, 32, 48, 32, 99, 117, 116, 32, 100, 114, 111, 112, 32, 107, 101, 101, 112, 32, 107, 101, 112, 116])) (.cons (.const (.str [51, 32, 50, 32, 99, 117, 116, 32, 100, 114, 111, 112, 32, 107, 101, 101, 112, 32, 107, 101, 112, 116])) (.cons (.const (.str [51, 32, 48, 32, 67, 117, 116, 32, 100, 114, 111, 112, 32, 107, 101, 101, 112, 32, 107, 101, 112, 116])) (.cons (.const (.str [51, 32, 48, 32, 100, 114, 111, 112, 32, 99, 117, 116, 32, 107, 101, 101, 112, 32, 107, 101, 112, 116])) .nil)))))))) (.cons (.asg (.nm 0) (.bin .add (.var 0) (.lst (.cons (.const (.str [51, 32, 48, 32, 99, 117, 116, 32, 100, 114, 111, 112, 32, 107, 101, 112, 116, 32, 107, 101, 101, 112])) (.cons (.const (.str [51, 44, 48, 44, 99, 117, 116, 44, 100, 114, 111, 112, 44, 107, 101, 101, 112, 44, 107, 101, 112, 116])) (.cons (.const (.str [48, 51, 32, 48, 32, 99, 117, 116, 32, 100, 114, 111, 112, 32, 107, 101, 101, 112, 32, 107, 101, 112, 116])) (.cons (.const (.str [51, 32, 48, 32, 99, 117, 116, 32, 100, 114, 111, 112, 32, 107, 101, 101, 112, 32, 107, 101, 112, 116, 10])) (.cons (.lst (.cons (.const (.str [51, 32, 48, 32, 99, 117, 116, 32, 100, 114, 111, 112, 32, 107, 101, 101, 112, 32, 107, 101, 112, 116])) .nil)) .nil)))))))) (.cons (.asg (.nm 0) (.bin .add (.var 0) (.lst (.cons (.tup (.cons (.const (.int 3)) (.cons (.const (.int 0)) (.cons (.const (.str [99, 117, 116])) (.cons (.const (.str [100, 114, 111, 112])) (.cons (.const (.str [107, 101, 101, 112])) (.cons (.const (.str [107, 101, 112, 116])) .nil))))))) (.cons (.const (.str [51, 32, 48, 32, 99, 117, 116, 9, 100, 114, 111, 112, 32, 107, 101, 101, 112, 32, 107, 101, 112, 116])) (.cons (.const (.str [51, 32, 48, 32, 99, 117, 116, 32, 100, 114, 111, 112, 32, 107, 101, 101, 112, 32, 107, 101, 112, 116, 32, 48])) (.cons (.const (.str [99, 117, 116, 32, 48, 32, 51, 32, 100, 114, 111, 112, 32, 107, 101, 101, 112, 32, 107, 101, 112, 116])) (.cons (.const (.str [51, 32, 48, 32, 48, 32, 100, 114, 111, 112, 32, 107, 101, 101, 112, 32, 107, 101, 112, 116])) (.cons (.bin .mul (.const (.str [49])) (.const (.int 4000))) .nil))))))))) (.cons (.ret (.cmp .eq (.comp (.call 148 (.cons (.var 1) .nil)) (.nm 1) (.val (.var 0)) (.const (.bl true)) [1]) (.bin .mul (.lst (.cons (.const (.str [102, 111, 114, 109])) .nil)) (.const (.int 24))))) .nil)))))
class F_l_law_rejected (P : Pr) : Prop where e : P.fn 149 = some ⟨0, 2, t_l_law_rejected⟩
def t_l_law_more : ISs := (.cons (.expr (.bm .append (.idx (.call 76 (.cons (.var 1) .nil)) (.const (.int 0))) (.cons (.const (.int 9)) .nil))) (.cons (.expr (.bm .append (.idx (.call 77 (.cons (.var 1) .nil)) (.const (.int 0))) (.cons (.const (.int 9)) .nil))) (.cons (.expr (.bm .append (.idx (.idx (.call 89 (.cons (.var 1) .nil)) (.const (.int 0))) (.const (.int 0))) (.cons (.const (.int 9)) .nil))) (.cons (.asg (.nm 3) (.call 99 (.cons (.var 1) .nil))) (.cons (.ifS (.cmp .eq (.idx (.var 3) (.const (.int 0))) (.const (.str [97, 115, 107]))) (.cons (.expr (.bm .append (.idx (.var 3) (.const (.int 2))) (.cons (.const (.int 9)) .nil))) .nil) (.cons (.expr (.bm .append (.idx (.var 3) (.const (.int 1))) (.cons (.const (.int 9)) .nil))) .nil)) (.cons (.expr (.bm .append (.call 101 (.cons (.var 1) .nil)) (.cons (.const (.str [120])) .nil))) (.cons (.expr (.bm .append (.call 64 (.cons (.var 1) (.cons (.const (.str [97])) .nil))) (.cons (.const (.int 9)) .nil))) (.cons (.expr (.bm .append (.call 21 (.cons (.var 0) (.cons (.var 2) .nil))) (.cons (.const (.str [120])) .nil))) (.cons (.expr (.bm .append (.idx (.call 19 (.cons (.var 0) (.cons (.var 2) .nil))) (.const (.int 0))) (.cons (.const (.str [120])) .nil))) (.cons (.expr (.bm .append (.call 43 (.cons (.var 2) .nil)) (.cons (.const (.str [120])) .nil))) (.cons (.expr (.bm .append (.call 44 (.cons (.const (.int 2)) .nil)) (.cons (.const (.str [120])) .nil))) (.cons (.expr (.bm .append (.call 51 .nil) (.cons (.const (.int 9)) .nil))) (.cons (.ret (.and (.cmp .eq (.call 44 (.cons (.const (.int 1)) .nil)) (.lst (.cons (.const (.str [32])) (.cons (.const (.str [45])) (.cons (.const (.str [47])) (.cons (.const (.str [97])) .nil)))))) (.and (.cmp .eq (.bf .len (.cons (.call 51 .nil) .nil)) (.const (.int 144))) (.cmp .eq (.call 43 (.cons (.const (.str [])) .nil)) (.lst (.cons (.const (.str [97, 110, 121])) (.cons (.const (.str [108, 105, 110, 101])) .nil))))))) .nil)))))))))))))
class F_l_law_more (P : Pr) : Prop where e : P.fn 150 = some ⟨3, 4, t_l_law_more⟩
def t_l_law_three : ISs := (.cons (.ifS (.cmp .eq (.var 0) (.const (.int 0))) (.cons (.ret (.call 73 (.cons (.var 1) (.cons (.var 2) .nil)))) .nil) .nil) (.cons (.ifS (.cmp .eq (.var 0) (.const (.int 1))) (.cons (.ret (.call 74 (.cons (.var 1) (.cons (.var 2) .nil)))) .nil) .nil) (.cons (.ifS (.cmp .eq (.var 0) (.const (.int 2))) (.cons (.ret (.call 78 (.cons (.var 1) (.cons (.var 2) (.cons (.var 3) .nil))))) .nil) .nil) (.cons (.ifS (.cmp .eq (.var 0) (.const (.int 3))) (.cons (.ret (.call 121 (.cons (.var 1) (.cons (.var 2) (.cons (.var 3) .nil))))) .nil) .nil) (.cons (.ifS (.cmp .eq (.var 0) (.const (.int 4))) (.cons (.ret (.call 122 (.cons (.var 1) (.cons (.var 2) (.cons (.var 3) .nil))))) .nil) .nil) (.cons (.ret (.ite (.cmp .eq (.var 0) (.const (.int 5))) (.call 116 (.cons (.var 1) (.cons (.var 2) (.cons (.var 3) .nil)))) (.call 126 (.cons (.var 1) (.cons (.var 2) .nil))))) .nil))))))
class F_l_law_three (P : Pr) : Prop where e : P.fn 153 = some ⟨4, 4, t_l_law_three⟩
def t_l_law_texts_refused : ISs := (.cons (.forS (.nm 1) (.val (.lst (.cons (.const .non) (.cons (.const (.int 5)) (.cons (.lst (.cons (.const (.str [97])) .nil)) (.cons (.const (.str [97, 49])) (.cons (.const (.str [97, 95, 98])) (.cons (.const (.str [10])) (.cons (.bin .mul (.const (.str [97])) (.const (.int 121))) (.cons (.const (.str [126])) .nil)))))))))) (.cons (.ifS (.cmp .ne (.comp (.call 154 (.cons (.const (.int 1)) (.cons (.var 2) (.cons (.var 0) (.cons (.var 1) (.cons (.const (.int 0)) .nil)))))) (.nm 2) (.rng1 (.const (.int 6))) (.const (.bl true)) [2]) (.bin .mul (.lst (.cons (.const (.str [116, 101, 120, 116])) .nil)) (.const (.int 6)))) (.cons (.ret (.const (.bl false))) .nil) .nil) .nil)) (.cons (.ifS (.or (.cmp .ne (.comp (.call 154 (.cons (.const (.int 1)) (.cons (.var 2) (.cons (.var 0) (.cons (.bin .mul (.const (.str [97])) (.const (.int 61))) (.cons (.const (.int 0)) .nil)))))) (.nm 2) (.rng1 (.const (.int 3))) (.const (.bl true)) [2]) (.bin .mul (.lst (.cons (.const (.str [116, 101, 120, 116])) .nil)) (.const (.int 3)))) (.cmp .ne (.comp (.call 154 (.cons (.const (.int 1)) (.cons (.var 2) (.cons (.var 0) (.cons (.bin .mul (.const (.str [97])) (.const (.int 60))) (.cons (.const (.int 0)) .nil)))))) (.nm 2) (.rng1 (.const (.int 3))) (.const (.bl true)) [2]) (.bin .mul (.lst (.cons (.const (.str [100, 111, 110, 101])) .nil)) (.const (.int 3))))) (.cons (.ret (.const (.bl false))) .nil) .nil) (.cons (.asg (.nm 3) (.tup (.cons (.const (.int 2)) (.cons (.const (.int 0)) (.cons (.const (.str [119, 104, 111, 108, 101])) (.cons (.const (.str [100, 114, 111, 112])) (.cons (.const (.str [111, 110, 101])) (.cons (.const (.str [102, 105, 108, 108, 101, 100])) .nil)))))))) (.cons (.ifS (.or (.cmp .ne (.comp (.call 154 (.cons (.const (.int 1)) (.cons (.var 2) (.cons (.var 3) (.cons (.bin .mul (.const (.str [97])) (.const (.int 120))) (.cons (.const (.int 0)) .nil)))))) (.nm 2) (.val (.tup (.cons (.const (.int 3)) (.cons (.const (.int 4)) .nil)))) (.const (.bl true)) [2]) (.bin .mul (.lst (.cons (.const (.str [100, 111, 110, 101])) .nil)) (.const (.int 2)))) (.cmp .ne (.call 154 (.cons (.const (.int 1)) (.cons (.const (.int 4)) (.cons (.var 3) (.cons (.const (.str [32, 97])) (.cons (.const (.int 0)) .nil)))))) (.const (.str [110, 111, 110, 101])))) (.cons (.ret (.const (.bl false))) .nil) .nil) (.cons (.forS (.nm 1) (.val (.lst (.cons (.const .non) (.cons (.const (.int 5)) (.cons (.const (.str [])) (.cons (.const (.str [65, 110, 121])) (.cons (.const (.str [105, 110, 110, 101, 114])) (.cons (.lst (.cons (.const (.str [97, 110, 121])) .nil)) (.cons (.const (.str [119, 111, 114, 100])) (.cons (.const (.str [112, 108, 97, 105, 110])) .nil)))))))))) (.cons (.ifS (.cmp .ne (.comp (.call 154 (.cons (.const (.int 2)) (.cons (.var 2) (.cons (.var 0) (.cons (.var 1) (.cons (.const (.int 0)) .nil)))))) (.nm 2) (.rng1 (.const (.int 8))) (.const (.bl true)) [2]) (.bin .mul (.lst (.cons (.const (.str [116, 101, 120, 116])) .nil)) (.const (.int 8)))) (.cons (.ret (.const (.bl false))) .nil) .nil) .nil)) (.cons (.ifS (.cmp .ne (.comp (.call 154 (.cons (.const (.int 2)) (.cons (.var 2) (.cons (.var 0) (.cons (.const (.str [97, 110, 121])) (.cons (.const (.int 0)) .nil)))))) (.nm 2) (.val (.tup (.cons (.const (.int 6)) (.cons (.const (.int 7)) .nil)))) (.const (.bl true)) [2]) (.bin .mul (.lst (.cons (.const (.str [110, 117, 109, 98, 101, 114])) .nil)) (.const (.int 2)))) (.cons (.ret (.const (.bl false))) .nil) .nil) (.cons (.ret (.cmp .eq (.comp (.call 154 (.cons (.const (.int 1)) (.cons (.const (.int 6)) (.cons (.var 0) (.cons (.var 1) (.cons (.const (.int 0)) .nil)))))) (.nm 1) (.val (.tup (.cons (.const .non) (.cons (.neg (.const (.int 1))) (.cons (.const (.int 61)) (.cons (.const (.bl true)) (.cons (.const (.str [51])) (.cons (.const (.int 60)) .nil)))))))) (.const (.bl true)) [1]) (.bin .add (.bin .mul (.lst (.cons (.const (.str [110, 117, 109, 98, 101, 114])) .nil)) (.const (.int 5))) (.lst (.cons (.const (.str [100, 111, 110, 101])) .nil))))) .nil)))))))
class F_l_law_texts_refused (P : Pr) : Prop where e : P.fn 155 = some ⟨1, 4, t_l_law_texts_refused⟩
def t_l_law_small : ISs := (.cons (.ifS (.or (.cmp .ne (.call 21 (.cons (.var 1) (.cons (.const (.str [97, 32, 32, 98])) .nil))) (.lst (.cons (.const (.str [97])) (.cons (.const (.str [98])) .nil)))) (.or (.cmp .ne (.call 21 (.cons (.bin .add (.tup (.cons (.const (.int 4)) .nil)) (.slcF (.var 1) (.const (.int 1)))) (.cons (.const (.str [97, 32, 32, 98])) .nil))) (.lst (.cons (.const (.str [97, 32, 32, 98])) .nil))) (.cmp .ne (.call 21 (.cons (.tup (.cons (.const (.int 4)) (.cons (.const (.int 0)) (.cons (.const (.str [99, 117, 116])) (.cons (.const (.str [100, 114, 111, 112])) (.cons (.const (.str [111, 110, 101])) (.cons (.const (.str [107, 101, 112, 116])) .nil))))))) (.cons (.const (.str [97, 32, 32, 98])) .nil))) (.lst (.cons (.const (.str [97, 32, 98])) .nil))))) (.cons (.ret (.const (.bl false))) .nil) .nil) (.cons (.ifS (.or (.cmp .ne (.call 21 (.cons (.var 1) (.cons (.const (.str [47, 97, 47])) .nil))) (.lst (.cons (.const (.str [])) (.cons (.const (.str [97])) (.cons (.const (.str [])) .nil))))) (.or (.cmp .ne (.call 21 (.cons (.bin .add (.slcT (.var 1) (.const (.int 5))) (.tup (.cons (.const (.str [102, 105, 108, 108, 101, 100])) .nil))) (.cons (.const (.str [47, 97, 47])) .nil))) (.lst (.cons (.const (.str [97])) .nil))) (.cmp .ne (.call 21 (.cons (.var 1) (.cons (.const (.str [])) .nil))) (.lst (.cons (.const (.str [])) .nil))))) (.cons (.ret (.const (.bl false))) .nil) .nil) (.cons (.ifS (.or (.cmp .ne (.call 21 (.cons (.var 1) (.cons (.const (.str [45, 45, 97])) .nil))) (.lst (.cons (.const (.str [45, 45, 97])) .nil))) (.or (.cmp .ne (.call 19 (.cons (.bin .add (.tup (.cons (.const (.int 3)) (.cons (.const (.int 1)) .nil))) (.slcF (.var 1) (.const (.int 2)))) (.cons (.const (.str [45, 45, 97])) .nil))) (.lst (.cons (.lst (.cons (.const (.str [45])) (.cons (.const (.str [45])) (.cons (.const (.str [97])) .nil)))) .nil))) (.cmp .ne (.call 21 (.cons (.bin .add (.tup (.cons (.const (.int 2)) (.cons (.const (.int 1)) .nil))) (.slcF (.var 1) (.const (.int 2)))) (.cons (.const (.str [45, 45, 97])) .nil))) (.lst (.cons (.const (.str [45, 45])) (.cons (.const (.str [97])) .nil)))))) (.cons (.ret (.const (.bl false))) .nil) .nil) (.cons (.asg (.nm 2) (.tup (.cons (.const (.int 2)) (.cons (.const (.int 0)) (.cons (.const (.str [99, 117, 116])) (.cons (.const (.str [104, 97, 110, 103])) (.cons (.const (.str [107, 101, 101, 112])) (.cons (.const (.str [107, 101, 112, 116])) .nil)))))))) (.cons (.ifS (.or (.cmp .ne (.call 20 (.cons (.var 2) (.cons (.const (.str [97, 98, 32, 32, 99, 32])) .nil))) (.const (.str [97, 98, 32, 32, 47, 99, 32]))) (.or (.cmp .ne (.call 20 (.cons (.var 2) (.cons (.const (.str [32, 32])) .nil))) (.const (.str []))) (.cmp .ne (.call 20 (.cons (.var 2) (.cons (.const (.str [97, 32, 47, 32, 98])) .nil))) (.const (.str [97, 32, 47, 98]))))) (.cons (.ret (.const (.bl false))) .nil) .nil) (.cons (.asg (.nm 3) (.call 26 (.cons (.var 0) .nil))) (.cons (.ret (.and (.cmp .eq (.call 147 (.cons (.call 145 (.cons (.var 3) .nil)) .nil)) (.var 3)) (.and (.cmp .eq (.call 20 (.cons (.var 3) (.cons (.const (.str [97, 98])) .nil))) (.const (.str [97, 98]))) (.cmp .eq (.call 20 (.cons (.var 3) (.cons (.const (.str [97])) .nil))) (.const (.str [97])))))) .nil)))))))
class F_l_law_small (P : Pr) : Prop where e : P.fn 156 = some ⟨2, 4, t_l_law_small⟩
def t_l_law_breakings : ISs := (.cons (.ifS (.cmp .eq (.var 0) (.lst .nil)) (.cons (.ret (.lst (.cons (.const (.int 0)) .nil))) .nil) .nil) (.cons (.asg (.nm 2) (.lst .nil)) (.cons (.forS (.nm 3) (.rng2 (.const (.int 1)) (.bin .add (.bf .len (.cons (.var 0) .nil)) (.const (.int 1)))) (.cons (.ifS (.cmp .le (.bf .len (.cons (.bm .join (.const (.str [32])) (.cons (.slcT (.var 0) (.var 3)) .nil)) .nil)) (.var 1)) (.cons (.asg (.nm 2) (.bin .add (.var 2) (.comp (.bin .add (.const (.int 1)) (.var 4)) (.nm 4) (.val (.call 157 (.cons (.slcF (.var 0) (.var 3)) (.cons (.var 1) .nil)))) (.const (.bl true)) [4]))) .nil) .nil) .nil)) (.cons (.ret (.var 2)) .nil))))
class F_l_law_breakings (P : Pr) : Prop where e : P.fn 157 = some ⟨2, 5, t_l_law_breakings⟩
class I_Machine (P : Pr) : Prop where e : P.init 6 = some 0
class I_Search (P : Pr) : Prop where e : P.init 9 = some 91
class I_Chain (P : Pr) : Prop where e : P.init 7 = some 106
class I_Desk (P : Pr) : Prop where e : P.init 10 = some 139
class M_Machine_laid (P : Pr) : Prop where e : P.meth 6 0 = some 1
class M_Machine_gap_text (P : Pr) : Prop where e : P.meth 6 1 = some 2
class M_Machine_let_go (P : Pr) : Prop where e : P.meth 6 2 = some 3
class M_Machine_must_go (P : Pr) : Prop where e : P.meth 6 3 = some 4
class M_Machine_by_blank (P : Pr) : Prop where e : P.meth 6 4 = some 5
class M_Machine_by_sign (P : Pr) : Prop where e : P.meth 6 5 = some 6
class M_Machine_step (P : Pr) : Prop where e : P.meth 6 7 = some 7
class M_Machine_ending (P : Pr) : Prop where e : P.meth 6 6 = some 8
class M_Machine_whole (P : Pr) : Prop where e : P.meth 6 8 = some 9
class M_Machine_start (P : Pr) : Prop where e : P.meth 6 9 = some 57
class M_Search_is_found (P : Pr) : Prop where e : P.meth 9 11 = some 92
class M_Search_parts (P : Pr) : Prop where e : P.meth 9 13 = some 93
class M_Search_cost (P : Pr) : Prop where e : P.meth 9 12 = some 94
class M_Search_choices (P : Pr) : Prop where e : P.meth 9 10 = some 95
class M_Search_plan (P : Pr) : Prop where e : P.meth 9 14 = some 96
class M_Search_tells_all (P : Pr) : Prop where e : P.meth 9 15 = some 97
class M_Chain_start (P : Pr) : Prop where e : P.meth 7 9 = some 107
class M_Chain_fed (P : Pr) : Prop where e : P.meth 7 16 = some 108
class M_Chain_step (P : Pr) : Prop where e : P.meth 7 7 = some 109
class M_Chain_ending (P : Pr) : Prop where e : P.meth 7 6 = some 110
class M_Still_start (P : Pr) : Prop where e : P.meth 8 9 = some 117
class M_Still_step (P : Pr) : Prop where e : P.meth 8 7 = some 118
class M_Still_ending (P : Pr) : Prop where e : P.meth 8 6 = some 119
class M_Desk_len (P : Pr) : Prop where e : P.meth 10 19 = some 140
class M_Desk_put (P : Pr) : Prop where e : P.meth 10 17 = some 141
class M_Desk_text (P : Pr) : Prop where e : P.meth 10 20 = some 142
class M_Desk_lines (P : Pr) : Prop where e : P.meth 10 21 = some 143
class M_Desk_undo (P : Pr) : Prop where e : P.meth 10 18 = some 144
end Ve
end

section
set_option autoImplicit false
set_option Elab.async false
set_option linter.all false
set_option maxRecDepth 100000
namespace Ve
open Ev
/-! ### steps, one after the other: what comes behind a step is kept closed until the step is done -/
class KC (α β : Type) where k : α → St → β
def vbd {α β : Type} (r : VR α) [f : KC α (VR β)] : VR β := r.bind f.k
@[simp ↓] theorem bind_vbd {α β : Type} (r : VR α) (f : α → St → VR β) : r.bind f = @vbd α β r ⟨f⟩ := rfl
@[simp] theorem vbd_ok {α β : Type} (a : α) (s : St) (f : KC α (VR β)) : @vbd α β (.ok a s) f = f.k a s := rfl
@[simp] theorem vbd_exc {α β : Type} (c : Nat) (s : St) (f : KC α (VR β)) : @vbd α β (.exc c s) f = .exc c s := rfl
@[simp] theorem vbd_bad {α β : Type} (f : KC α (VR β)) : @vbd α β .bad f = .bad := rfl
def vlf {α : Type} (env : VEnv) (r : VR α) [f : KC α VRS] : VRS := vlift env r f.k
@[simp ↓] theorem vlift_vlf {α : Type} (env : VEnv) (r : VR α) (f : α → St → VRS) : vlift env r f = @vlf α env r ⟨f⟩ := rfl
@[simp] theorem vlf_ok {α : Type} (env : VEnv) (a : α) (s : St) (f : KC α VRS) : @vlf α env (.ok a s) f = f.k a s := rfl
@[simp] theorem vlf_exc {α : Type} (env : VEnv) (k : Nat) (s : St) (f : KC α VRS) : @vlf α env (.exc k s) f = .exc k env s := rfl
@[simp] theorem vlf_bad {α : Type} (env : VEnv) (f : KC α VRS) : @vlf α env .bad f = .bad := rfl
def vle (r : VR VEnv) [f : KC VEnv VRS] : VRS := vliftE r f.k
@[simp ↓] theorem vliftE_vle (r : VR VEnv) (f : VEnv → St → VRS) : vliftE r f = @vle r ⟨f⟩ := rfl
@[simp] theorem vle_ok (a : VEnv) (s : St) (f : KC VEnv VRS) : @vle (.ok a s) f = f.k a s := rfl
@[simp] theorem vle_bad (f : KC VEnv VRS) : @vle .bad f = .bad := rfl
@[simp] theorem vlift_ok {α : Type} (env : VEnv) (a : α) (s : St) (f : α → St → VRS) : vlift env (.ok a s) f = f a s := rfl
@[simp] theorem vlift_exc {α : Type} (env : VEnv) (k : Nat) (s : St) (f : α → St → VRS) : vlift env (.exc k s) f = .exc k env s := rfl
@[simp] theorem vlift_bad {α : Type} (env : VEnv) (f : α → St → VRS) : vlift env .bad f = .bad := rfl
@[simp] theorem vliftE_ok (a : VEnv) (s : St) (f : VEnv → St → VRS) : vliftE (.ok a s) f = f a s := rfl
@[simp] theorem vliftE_bad (f : VEnv → St → VRS) : vliftE .bad f = .bad := rfl
@[simp] theorem unb_sh (v : V) (s : St) : unb (.sh, v) s = .ok v s := rfl
@[simp] theorem unb_fr (v : V) (s : St) : unb (.fr, v) s = .ok v s := rfl
@[simp] theorem unb_bo (v : V) (s : St) : unb (.bo, v) s = .bad := rfl
def VRS.seq (r : VRS) (k : VEnv → St → VRS) : VRS := match r with
  | .nx env s => k env s
  | .brk env s => .brk env s
  | .ret v s => .ret v s
  | .exc c env s => .exc c env s
  | .bad => .bad
@[simp] theorem VRS.seq_nx (env : VEnv) (s : St) (k : VEnv → St → VRS) : (VRS.nx env s).seq k = k env s := rfl
@[simp] theorem VRS.seq_brk (env : VEnv) (s : St) (k : VEnv → St → VRS) : (VRS.brk env s).seq k = .brk env s := rfl
@[simp] theorem VRS.seq_ret (v : V) (s : St) (k : VEnv → St → VRS) : (VRS.ret v s).seq k = .ret v s := rfl
@[simp] theorem VRS.seq_exc (c : Nat) (env : VEnv) (s : St) (k : VEnv → St → VRS) : (VRS.exc c env s).seq k = .exc c env s := rfl
@[simp] theorem VRS.seq_bad (k : VEnv → St → VRS) : (VRS.bad).seq k = .bad := rfl
def vsq (r : VRS) [f : KC VEnv VRS] : VRS := r.seq f.k
@[simp ↓] theorem seq_vsq (r : VRS) (f : VEnv → St → VRS) : r.seq f = @vsq r ⟨f⟩ := rfl
@[simp] theorem vsq_nx (env : VEnv) (s : St) (f : KC VEnv VRS) : @vsq (.nx env s) f = f.k env s := rfl
@[simp] theorem vsq_brk (env : VEnv) (s : St) (f : KC VEnv VRS) : @vsq (.brk env s) f = .brk env s := rfl
@[simp] theorem vsq_ret (v : V) (s : St) (f : KC VEnv VRS) : @vsq (.ret v s) f = .ret v s := rfl
@[simp] theorem vsq_exc (c : Nat) (env : VEnv) (s : St) (f : KC VEnv VRS) : @vsq (.exc c env s) f = .exc c env s := rfl
@[simp] theorem vsq_bad (f : KC VEnv VRS) : @vsq .bad f = .bad := rfl
theorem vB_nil (c : VCx) (env : VEnv) (s : St) : vB c .nil env s = .nx env s := by rw [vB]
theorem vB_cons (c : VCx) (i : IS) (ss : ISs) (env : VEnv) (s : St) : vB c (.cons i ss) env s = (vS c i env s).seq fun env s => vB c ss env s := by
  rw [vB]; cases vS c i env s <;> rfl
@[simp] theorem vfinish_nx (env : VEnv) (s : St) : vfinish (.nx env s) = .ok .non s := rfl
@[simp] theorem vfinish_ret (v : V) (s : St) : vfinish (.ret v s) = .ok v s := rfl
@[simp] theorem vfinish_exc (k : Nat) (env : VEnv) (s : St) : vfinish (.exc k env s) = .exc k s := rfl
@[simp] theorem toSh_ok' (v : V) (s : St) : toSh (.ok v s) = .ok (.sh, v) s := rfl
@[simp] theorem toSh_exc' (k : Nat) (s : St) : toSh (.exc k s) = .exc k s := rfl
/-- the context of a call at a depth -/
def cxm (P : Pr) (F m : Nat) : VCx := ⟨vcallN P F (m - 1), vcallN P F (m - 2), P.init, P.meth, F⟩
@[simp] theorem cxm_call (P : Pr) (F m : Nat) : (cxm P F m).call = vcallN P F (m - 1) := rfl
@[simp] theorem cxm_make (P : Pr) (F m : Nat) : (cxm P F m).make = vcallN P F (m - 2) := rfl
@[simp] theorem cxm_init (P : Pr) (F m : Nat) : (cxm P F m).init = P.init := rfl
@[simp] theorem cxm_meth (P : Pr) (F m : Nat) : (cxm P F m).meth = P.meth := rfl
@[simp] theorem cxm_fuel (P : Pr) (F m : Nat) : (cxm P F m).fuel = F := rfl
def envOf (args : List V) (k : Nat) : VEnv := args.map (fun v => some (false, v)) ++ List.replicate k none
theorem vcall_u {P : Pr} {F m f np nl : Nat} {args : List V} {s : St} {b : ISs} (e : P.fn f = some ⟨np, nl, b⟩) (hf : f ≠ 23) (hl : args.length = np) (hm : 2 ≤ m) :
    vcallN P F m f args s = vfinish (vB (cxm P F m) b (envOf args (nl - np)) s) := by
  obtain ⟨n, rfl⟩ : ∃ n, m = n + 2 := ⟨m - 2, by omega⟩
  rw [vcallN, if_neg hf, e]
  simp only [hl, if_true]
  rfl
theorem vcall_draw {P : Pr} {F m : Nat} {lim : Int} {s : St} (hm : 2 ≤ m) (h : 0 < lim) (h2 : lim < 1073741824) :
    vcallN P F m 23 [.drw, .int lim] s = .ok (.int (s.dr.draw lim).1) ⟨s.ob, (s.dr.draw lim).2⟩ := by
  obtain ⟨n, rfl⟩ : ∃ n, m = n + 2 := ⟨m - 2, by omega⟩
  rw [vcallN, if_pos rfl]
  unfold vdraw
  simp only
  rw [if_pos ⟨h, h2⟩]
section
@[simp] theorem ty1 (t : Ty) (xs : List V) : visTy t (.lst xs) = match t with
  | .cls _ => none
  | .verr => none
  | .list => some true
  | _ => some false := by cases t <;> rfl
@[simp] theorem ty2 (t : Ty) : visTy t .non = match t with
  | .cls _ => none
  | .verr => none
  | _ => some false := by cases t <;> rfl
@[simp] theorem ty3 (t : Ty) (b : Bool) : visTy t (.bl b) = match t with
  | .cls _ => none
  | .verr => none
  | .int => some true
  | .bool => some true
  | _ => some false := by cases t <;> rfl
@[simp] theorem ty4 (t : Ty) (b : Int) : visTy t (.int b) = match t with
  | .cls _ => none
  | .verr => none
  | .int => some true
  | _ => some false := by cases t <;> rfl
@[simp] theorem ty5 (t : Ty) (b : Tx) : visTy t (.str b) = match t with
  | .cls _ => none
  | .verr => none
  | .str => some true
  | _ => some false := by cases t <;> rfl
@[simp] theorem ty6 (t : Ty) (b : List V) : visTy t (.tup b) = match t with
  | .cls _ => none
  | .verr => none
  | .tuple => some true
  | _ => some false := by cases t <;> rfl
@[simp] theorem veq_int (a b : Int) : veq (.int a) (.int b) = some (decide (a = b)) := rfl
@[simp] theorem veq_str (a b : Tx) : veq (.str a) (.str b) = some (decide (a = b)) := rfl
@[simp] theorem veq_nn : veq .non .non = some true := rfl
@[simp] theorem veq_bl (a b : Bool) : veq (.bl a) (.bl b) = some (decide (a = b)) := rfl
@[simp] theorem veq_ns (b : Tx) : veq .non (.str b) = some false := rfl
@[simp] theorem veq_sn (b : Tx) : veq (.str b) .non = some false := rfl
@[simp] theorem veq_ni (b : Int) : veq .non (.int b) = some false := rfl
@[simp] theorem veq_in (b : Int) : veq (.int b) .non = some false := rfl
@[simp] theorem veq_is (a : Int) (b : Tx) : veq (.int a) (.str b) = some false := rfl
@[simp] theorem veq_si (a : Tx) (b : Int) : veq (.str a) (.int b) = some false := rfl
@[simp] theorem vIx_tup (s : St) (xs : List V) (k : Int) : vIx s (.tup xs) (.int k) = (ixN xs.length k).bind fun j => xs[j]? := rfl
@[simp] theorem vIx_lst (s : St) (xs : List V) (k : Int) : vIx s (.lst xs) (.int k) = (ixN xs.length k).bind fun j => xs[j]? := rfl
theorem ixN_nat (n k : Nat) (h : k < n) : ixN n (k : Int) = some k := by
  unfold ixN
  rw [if_pos (by omega), if_pos (by omega)]; simp
end
theorem clr_no {env : VEnv} (h : ∀ (i : Nat) (v : V), env[i]? ≠ some (some (true, v))) : ∀ l : List Nat, clr env l = env
  | [] => rfl
  | i :: l => by
    unfold clr
    rw [clr_no h l]
    simp only
    split
    · rename_i x e
      exact absurd e (h i x)
    · rfl
def noT (env : VEnv) : Bool := env.all fun o => match o with
  | some (true, _) => false
  | _ => true
theorem clr_noT {env : VEnv} (h : noT env = true) (l : List Nat) : clr env l = env := clr_no (fun i v e => by
  have := List.all_eq_true.mp h _ (List.mem_of_getElem? e)
  simp at this) l
/-! ### walks, their bodies folded -/
theorem vE_cmpH (c : VCx) (elt : IE) (tg : Tg) (it : It) (cnd : IE) (own : List Nat) (env : VEnv) (s : St) : vE c (.comp elt tg it cnd own) env s = (vIt c it env s).bind fun p s => vcFin (vcomp (vcF c elt tg cnd own env) p.2 [] s) := vE_cmp ..
@[simp] theorem vcFin_ok (ys : List V) (s : St) : vcFin (.ok ys s) = .ok (.fr, .lst ys) s := rfl
def vForF (c : VCx) (t : Tg) (b : ISs) : V → VEnv → St → VRS := fun x env s => vliftE (vTg c t x env s) fun env s => vB c b env s
def vForI (c : VCx) (t : Tg) (b : ISs) (env : VEnv) (r : VR (Bool × List V)) : VRS := match r with
  | .ok p s => if p.1 then .bad else vfor (vForF c t b) p.2 env s
  | .exc k s => .exc k env s
  | .bad => .bad
@[simp] theorem vForI_ok (c : VCx) (t : Tg) (b : ISs) (env : VEnv) (xs : List V) (s : St) : vForI c t b env (.ok (false, xs) s) = vfor (vForF c t b) xs env s := rfl
theorem vS_forH (c : VCx) (t : Tg) (it : It) (b : ISs) (env : VEnv) (s : St) : vS c (.forS t it b) env s = vForI c t b (clr env (shf it)) (vIt c it (clr env (shf it)) s) := by
  rw [vS]; rfl
def vWhC (c : VCx) (t : IE) : VEnv → St → VR FV := fun env s => vE c t env s
def vWhB (c : VCx) (b : ISs) : VEnv → St → VRS := vB c b
theorem vS_whileH (c : VCx) (t : IE) (b : ISs) (env : VEnv) (s : St) : vS c (.whileS t b) env s = vwhile (vWhC c t) (shb t) (vWhB c b) c.fuel env s := by
  rw [vS]; rfl
def vIfS (c : VCx) (a b : ISs) (env : VEnv) (r : VR FV) : VRS := vlift env r fun x s => match x.2 with
  | .bl true => vB c a env s
  | .bl false => vB c b env s
  | _ => .bad
/-- a loop that keeps something -/
theorem vfor_inv {f : V → VEnv → St → VRS} (I : VEnv → St → Prop) : ∀ (xs : List V) (env : VEnv) (s : St), I env s → (∀ x ∈ xs, ∀ env s, I env s → ∃ env' s', f x env s = .nx env' s' ∧ I env' s') → ∃ env' s', vfor f xs env s = .nx env' s' ∧ I env' s'
  | [], env, s, h, _ => ⟨env, s, rfl, h⟩
  | x :: xs, env, s, h, k => by
    obtain ⟨env1, s1, e1, h1⟩ := k x List.mem_cons_self env s h
    obtain ⟨env2, s2, e2, h2⟩ := vfor_inv I xs env1 s1 h1 fun y hy => k y (List.mem_cons_of_mem _ hy)
    exact ⟨env2, s2, by unfold vfor; rw [e1]; exact e2, h2⟩
/-! ### equality of data -/
mutual
theorem T_self : ∀ a : T, T.beq a a = true
  | .non => rfl
  | .num a => by simp [T.beq]
  | .str a => by simp [T.beq]
  | .lst a => by rw [T.beq]; exact Ts_self a
  | .tup a => by rw [T.beq]; exact Ts_self a
theorem Ts_self : ∀ a : List T, T.beqs a a = true
  | [] => rfl
  | a :: as => by rw [T.beqs, T_self a, Ts_self as]; rfl
end
mutual
theorem T_eq : ∀ a b : T, T.beq a b = true → a = b
  | .non, b, h => by cases b <;> simp [T.beq] at h ⊢
  | .num a, b, h => by cases b <;> simp [T.beq] at h ⊢; exact h
  | .str a, b, h => by cases b <;> simp [T.beq] at h ⊢; exact h
  | .lst a, b, h => by
    cases b with
    | lst b => rw [T.beq] at h; rw [Ts_eq a b h]
    | _ => simp [T.beq] at h
  | .tup a, b, h => by
    cases b with
    | tup b => rw [T.beq] at h; rw [Ts_eq a b h]
    | _ => simp [T.beq] at h
theorem Ts_eq : ∀ a b : List T, T.beqs a b = true → a = b
  | [], [], _ => rfl
  | a :: as, b :: bs, h => by
    rw [T.beqs, Bool.and_eq_true] at h
    rw [T_eq a b h.1, Ts_eq as bs h.2]
  | [], _ :: _, h => by simp [T.beqs] at h
  | _ :: _, [], h => by simp [T.beqs] at h
end
theorem T_iff (a b : T) : T.beq a b = true ↔ a = b := ⟨T_eq a b, fun h => by rw [h]; exact T_self b⟩
/-- data that are compared through their texts -/
theorem veq_T {v w : V} {x y : T} (hv : vT 40 v = some x) (hw : vT 40 w = some y) (hx : veq v w = match vT 40 v, vT 40 w with
  | some x, some y => some (T.beq x y)
  | _, _ => none) {q : Prop} [Decidable q] (e : x = y ↔ q) : veq v w = some (decide q) := by
  rw [hx, hv, hw]
  simp only [Option.some.injEq]
  by_cases c : q
  · rw [decide_eq_true c]
    exact (T_iff x y).mpr (e.mpr c)
  · rw [decide_eq_false c]
    cases q2 : T.beq x y with
    | false => rfl
    | true => exact absurd (e.mp ((T_iff x y).mp q2)) c
/-- signs that texts can have -/
def okT (t : Tx) : Prop := ∀ c ∈ t, c < 1114112
theorem vT_str {n : Nat} {t : Tx} (h : okT t) : vT (n + 1) (.str t) = some (.str t) := by
  have : (t.all fun c => decide (c < 1114112)) = true := by
    rw [List.all_eq_true]
    intro c hc
    simpa using h c hc
  simp only [vT, this, if_true]
theorem omap_map {α β γ : Type} {f : β → Option γ} {g : α → β} {k : α → γ} : ∀ {l : List α}, (∀ x ∈ l, f (g x) = some (k x)) → omap f (l.map g) = some (l.map k)
  | [], _ => rfl
  | x :: l, h => by
    simp only [List.map_cons, omap, h x List.mem_cons_self, omap_map fun y hy => h y (List.mem_cons_of_mem _ hy)]
theorem vT_strs {n : Nat} {l : List Tx} (h : ∀ t ∈ l, okT t) : omap (vT (n + 1)) (l.map .str) = some (l.map .str) := omap_map fun t ht => vT_str (h t ht)
theorem map_inj' {α β : Type} {f : α → β} (hf : ∀ a b, f a = f b → a = b) : ∀ {l k : List α}, l.map f = k.map f ↔ l = k
  | [], [] => by simp
  | [], _ :: _ => by simp
  | _ :: _, [] => by simp
  | a :: l, b :: k => by
    simp only [List.map_cons, List.cons.injEq, map_inj' hf (l := l) (k := k)]
    exact ⟨fun ⟨h1, h2⟩ => ⟨hf a b h1, h2⟩, fun ⟨h1, h2⟩ => ⟨by rw [h1], h2⟩⟩
theorem vT_lst {n : Nat} {xs : List V} {ts : List T} (h : omap (vT n) xs = some ts) : vT (n + 1) (.lst xs) = some (.lst ts) := by
  show (omap (vT n) xs).map T.lst = _
  rw [h]; rfl
theorem vT_tup {n : Nat} {xs : List V} {ts : List T} (h : omap (vT n) xs = some ts) : vT (n + 1) (.tup xs) = some (.tup ts) := by
  show (omap (vT n) xs).map T.tup = _
  rw [h]; rfl
theorem veq_strs {l k : List Tx} (h1 : ∀ t ∈ l, okT t) (h2 : ∀ t ∈ k, okT t) : veq (.lst (l.map .str)) (.lst (k.map .str)) = some (decide (l = k)) := by
  refine veq_T (x := .lst (l.map .str)) (y := .lst (k.map .str)) (vT_lst (vT_strs h1)) (vT_lst (vT_strs h2)) rfl ?_
  rw [T.lst.injEq, map_inj' fun a b h => T.str.inj h]
/-- values of plain kinds -/
def pla : V → Bool
  | .non => true | .bl _ => true | .int _ => true | .str _ => true | .tup _ => true | .lst _ => true
  | _ => false
end Ve
end

section
set_option autoImplicit false
set_option Elab.async false
set_option linter.all false
set_option maxRecDepth 100000
namespace Ve
open Ev
section
variable {P : Pr} {F m : Nat} {s : St}
/-! ### errors, ways -/
def isInt (lo hi : Int) : V → Bool
  | .int i => decide (lo ≤ i) && decide (i ≤ hi)
  | _ => false
theorem k_is_int [F_is_int P] (hm : 2 ≤ m) (v : V) (hv : pla v = true) (lo hi : Int) : vcallN P F m 10 [v, .int lo, .int hi] s = .ok (.bl (isInt lo hi v)) s := by
  rw [vcall_u F_is_int.e (by decide) rfl hm]
  cases v with
  | int i =>
    simp [t_is_int, ↓vE_cmpH, ↓vS_forH, ↓vS_whileH, vB_nil, vB_cons, vS, vE, vEs, vEb, vIt, vTg, vTgs, vEf, vTgf, vAsg, vAsgN, vAsgO, clr, shr, shb, shrs, shbs, shi, shf, own?, isFr, vbf, vcop, ixN, envOf, List.replicate, List.map, List.append, prD, prDs, ofD, ofDs, isInt]
    by_cases c : lo ≤ i <;> simp [c]
  | obj i => cases hv
  | dic i => cases hv
  | drw => cases hv
  | exn i => cases hv
  | _ => simp [t_is_int, ↓vE_cmpH, ↓vS_forH, ↓vS_whileH, vB_nil, vB_cons, vS, vE, vEs, vEb, vIt, vTg, vTgs, vEf, vTgf, vAsg, vAsgN, vAsgO, clr, shr, shb, shrs, shbs, shi, shf, own?, isFr, vbf, vcop, ixN, envOf, List.replicate, List.map, List.append, prD, prDs, ofD, ofDs, isInt]
def isWord (ws : List Tx) : V → Bool
  | .str s => ws.any fun w => decide (w = s)
  | _ => false
theorem vmem_str (t : Tx) (ws : List Tx) : vmem (.str t) (ws.map .str) = some (ws.any fun w => decide (w = t)) := by
  unfold vmem
  have e : (ws.map V.str).all flatV = true := by
    rw [List.all_map]; exact List.all_eq_true.mpr fun _ _ => rfl
  rw [e]
  simp only [flatV, Bool.true_and, if_true, List.any_map]
  rfl
theorem k_is_word [F_is_word P] (hm : 2 ≤ m) (v : V) (hv : pla v = true) (ws : List Tx) : vcallN P F m 15 [v, .tup (ws.map .str)] s = .ok (.bl (isWord ws v)) s := by
  rw [vcall_u F_is_word.e (by decide) rfl hm]
  cases v with
  | str t => simp [t_is_word, ↓vE_cmpH, ↓vS_forH, ↓vS_whileH, vB_nil, vB_cons, vS, vE, vEs, vEb, vIt, vTg, vTgs, vEf, vTgf, vAsg, vAsgN, vAsgO, clr, shr, shb, shrs, shbs, shi, shf, own?, isFr, vbf, vcop, ixN, envOf, List.replicate, List.map, List.append, prD, prDs, ofD, ofDs, vin, vmem_str, isWord]
  | obj i => cases hv
  | dic i => cases hv
  | drw => cases hv
  | exn i => cases hv
  | _ => simp [t_is_word, ↓vE_cmpH, ↓vS_forH, ↓vS_whileH, vB_nil, vB_cons, vS, vE, vEs, vEb, vIt, vTg, vTgs, vEf, vTgf, vAsg, vAsgN, vAsgO, clr, shr, shb, shrs, shbs, shi, shf, own?, isFr, vbf, vcop, ixN, envOf, List.replicate, List.map, List.append, prD, prDs, ofD, ofDs, isWord]
def wLong : List Tx := [[119, 104, 111, 108, 101], [99, 117, 116], [102, 105, 108, 108]]
def wBlanks : List Tx := [[100, 114, 111, 112], [104, 97, 110, 103]]
def wRows : List Tx := [[107, 101, 101, 112], [111, 110, 101]]
def wEnds : List Tx := [[107, 101, 112, 116], [102, 105, 108, 108, 101, 100]]
/-- whether a value is a way -/
def isWay : V → Bool
  | .tup [a, b, c, d, e, f] => isInt 2 4 a && isInt 0 1 b && isWord wLong c && isWord wBlanks d && isWord wRows e && isWord wEnds f
  | _ => false
/-- values of plain kinds, their items too -/
def pla1 : V → Bool
  | .tup xs => xs.all pla
  | v => pla v
theorem k_is_way [F_is_way P] [F_is_int P] [F_is_word P] (hm : 3 ≤ m) (v : V) (hv : pla1 v = true) : vcallN P F m 16 [v] s = .ok (.bl (isWay v)) s := by
  rw [vcall_u F_is_way.e (by decide) rfl (by omega)]
  have hm1 : 2 ≤ m - 1 := by omega
  cases v with
  | tup xs =>
    match xs, hv with
    | [], _ => rfl
    | [_], _ => rfl
    | [_, _], _ => rfl
    | [_, _, _], _ => rfl
    | [_, _, _, _], _ => rfl
    | [_, _, _, _, _], _ => rfl
    | [a, b, c, d, e, f], hx =>
      simp only [pla1, List.all_cons, List.all_nil, Bool.and_true, Bool.and_eq_true] at hx
      obtain ⟨ha, hb, hc, hd, he, hf⟩ := hx
      have i1 := k_is_int (P := P) (F := F) (s := s) hm1 a ha 2 4
      have i2 := k_is_int (P := P) (F := F) (s := s) hm1 b hb 0 1
      have w1 := k_is_word (P := P) (F := F) (s := s) hm1 c hc wLong
      have w2 := k_is_word (P := P) (F := F) (s := s) hm1 d hd wBlanks
      have w3 := k_is_word (P := P) (F := F) (s := s) hm1 e he wRows
      have w4 := k_is_word (P := P) (F := F) (s := s) hm1 f hf wEnds
      simp only [isWay]
      generalize isWord wLong c = q1 at *
      generalize isWord wBlanks d = q2 at *
      generalize isWord wRows e = q3 at *
      generalize isWord wEnds f = q4 at *
      simp only [wLong, wBlanks, wRows, wEnds, List.map] at w1 w2 w3 w4
      simp [t_is_way, ↓vE_cmpH, ↓vS_forH, ↓vS_whileH, vB_nil, vB_cons, vS, vE, vEs, vEb, vIt, vTg, vTgs, vEf, vTgf, vAsg, vAsgN, vAsgO, clr, shr, shb, shrs, shbs, shi, shf, own?, isFr, vbf, vcop, ixN, envOf, List.replicate, List.map, List.append, prD, prDs, ofD, ofDs, i1, i2]
      cases isInt 2 4 a <;> cases isInt 0 1 b <;> simp [↓vE_cmpH, ↓vS_forH, ↓vS_whileH, vB_nil, vB_cons, vS, vE, vEs, vEb, vIt, vTg, vTgs, vEf, vTgf, vAsg, vAsgN, vAsgO, clr, shr, shb, shrs, shbs, shi, shf, own?, isFr, vbf, vcop, ixN, envOf, List.replicate, List.map, List.append, prD, prDs, ofD, ofDs, w1, w2, w3, w4]
      cases q1 <;> cases q2 <;> cases q3 <;> simp [↓vE_cmpH, ↓vS_forH, ↓vS_whileH, vB_nil, vB_cons, vS, vE, vEs, vEb, vIt, vTg, vTgs, vEf, vTgf, vAsg, vAsgN, vAsgO, clr, shr, shb, shrs, shbs, shi, shf, own?, isFr, vbf, vcop, ixN, envOf, List.replicate, List.map, List.append, prD, prDs, ofD, ofDs, w3, w4]
    | a :: b :: c :: d :: e :: f :: g :: r, _ =>
      have l : ¬ ((r.length : Int) + 1 + 1 + 1 + 1 + 1 + 1 + 1 = 6) := by omega
      simp [t_is_way, ↓vE_cmpH, ↓vS_forH, ↓vS_whileH, vB_nil, vB_cons, vS, vE, vEs, vEb, vIt, vTg, vTgs, vEf, vTgf, vAsg, vAsgN, vAsgO, clr, shr, shb, shrs, shbs, shi, shf, own?, isFr, vbf, vcop, ixN, envOf, List.replicate, List.map, List.append, prD, prDs, ofD, ofDs, isWay, l]
  | obj i => cases hv
  | dic i => cases hv
  | drw => cases hv
  | exn i => cases hv
  | _ => simp [t_is_way, ↓vE_cmpH, ↓vS_forH, ↓vS_whileH, vB_nil, vB_cons, vS, vE, vEs, vEb, vIt, vTg, vTgs, vEf, vTgf, vAsg, vAsgN, vAsgO, clr, shr, shb, shrs, shbs, shi, shf, own?, isFr, vbf, vcop, ixN, envOf, List.replicate, List.map, List.append, prD, prDs, ofD, ofDs, isWay]
end
end Ve
end

section
set_option autoImplicit false
set_option Elab.async false
set_option linter.all false
set_option maxRecDepth 100000
namespace Ve
open Ev
/-! ### ways as data -/
inductive Lo where | whole | cut | fill
  deriving DecidableEq
structure Way where
  w : Nat
  hy : Bool
  lo : Lo
  hang : Bool
  one : Bool
  filled : Bool
  deriving DecidableEq
def tWhole : Tx := [119, 104, 111, 108, 101]
def tCut : Tx := [99, 117, 116]
def tFill : Tx := [102, 105, 108, 108]
def tDrop : Tx := [100, 114, 111, 112]
def tHang : Tx := [104, 97, 110, 103]
def tKeep : Tx := [107, 101, 101, 112]
def tOne : Tx := [111, 110, 101]
def tKept : Tx := [107, 101, 112, 116]
def tFilled : Tx := [102, 105, 108, 108, 101, 100]
def Lo.t : Lo → Tx
  | .whole => tWhole | .cut => tCut | .fill => tFill
def Way.items (y : Way) : List V := [.int (y.w : Nat), .int (if y.hy then 1 else 0), .str y.lo.t, .str (if y.hang then tHang else tDrop), .str (if y.one then tOne else tKeep), .str (if y.filled then tFilled else tKept)]
def Way.v (y : Way) : V := .tup y.items
def Way.ok (y : Way) : Prop := 2 ≤ y.w ∧ y.w ≤ 4
theorem isWord_iff (ws : List Tx) (v : V) : isWord ws v = true ↔ ∃ t ∈ ws, v = .str t := by
  cases v with
  | str s =>
    simp only [isWord, List.any_eq_true, decide_eq_true_eq, V.str.injEq]
    exact ⟨fun ⟨t, h1, h2⟩ => ⟨t, h1, h2.symm⟩, fun ⟨t, h1, h2⟩ => ⟨t, h1, h2.symm⟩⟩
  | _ => simp [isWord]
theorem isInt_iff (lo hi : Int) (v : V) : isInt lo hi v = true ↔ ∃ i, lo ≤ i ∧ i ≤ hi ∧ v = .int i := by
  cases v with
  | int i => simp [isInt]
  | _ => simp [isInt]
theorem isWay_iff (v : V) : isWay v = true ↔ ∃ y : Way, y.ok ∧ v = y.v := by
  constructor
  · intro h
    unfold isWay at h
    split at h
    · rename_i a b c d e f
      simp only [Bool.and_eq_true] at h
      obtain ⟨⟨⟨⟨⟨h1, h2⟩, h3⟩, h4⟩, h5⟩, h6⟩ := h
      obtain ⟨i, i1, i2, rfl⟩ := (isInt_iff _ _ _).mp h1
      obtain ⟨j, j1, j2, rfl⟩ := (isInt_iff _ _ _).mp h2
      obtain ⟨t3, m3, rfl⟩ := (isWord_iff _ _).mp h3
      obtain ⟨t4, m4, rfl⟩ := (isWord_iff _ _).mp h4
      obtain ⟨t5, m5, rfl⟩ := (isWord_iff _ _).mp h5
      obtain ⟨t6, m6, rfl⟩ := (isWord_iff _ _).mp h6
      refine ⟨⟨i.toNat, decide (j = 1), if t3 = tWhole then .whole else if t3 = tCut then .cut else .fill, decide (t4 = tHang), decide (t5 = tOne), decide (t6 = tFilled)⟩, ⟨by simp; omega, by simp; omega⟩, ?_⟩
      have e1 : ((i.toNat : Nat) : Int) = i := Int.toNat_of_nonneg (by omega)
      have e2 : (if j = 1 then (1 : Int) else 0) = j := by split <;> omega
      simp only [wLong, wBlanks, wRows, wEnds, List.mem_cons, List.not_mem_nil, or_false] at m3 m4 m5 m6
      simp only [Way.v, Way.items, e1, decide_eq_true_eq, e2]
      rcases m3 with rfl | rfl | rfl <;> rcases m4 with rfl | rfl <;> rcases m5 with rfl | rfl <;> rcases m6 with rfl | rfl <;> rfl
    · cases h
  · rintro ⟨⟨w, hy, lo, hang, one, filled⟩, ⟨h1, h2⟩, rfl⟩
    have i1 : isInt 2 4 (.int (w : Nat)) = true := (isInt_iff _ _ _).mpr ⟨_, by simp at h1 h2 ⊢; omega, by simp at h1 h2 ⊢; omega, rfl⟩
    simp only [Way.v, Way.items, isWay, i1, Bool.true_and]
    cases hy <;> cases lo <;> cases hang <;> cases one <;> cases filled <;> rfl
def allWays : List Way := [2, 3, 4].flatMap fun w => [false, true].flatMap fun hy => [Lo.whole, .cut, .fill].flatMap fun lo => [false, true].flatMap fun hang => [false, true].flatMap fun one => [false, true].map fun filled => ⟨w, hy, lo, hang, one, filled⟩
theorem mem_allWays {y : Way} (h : y.ok) : y ∈ allWays := by
  obtain ⟨w, hy, lo, hang, one, filled⟩ := y
  obtain ⟨h1, h2⟩ := h
  simp at h1 h2
  simp only [allWays, List.mem_flatMap, List.mem_map]
  refine ⟨w, by simp; omega, hy, by cases hy <;> simp, lo, by cases lo <;> simp, hang, by cases hang <;> simp, one, by cases one <;> simp, filled, by cases filled <;> simp, rfl⟩
theorem Way.pla {y : Way} : pla1 y.v = true := by
  obtain ⟨w, hy, lo, hang, one, filled⟩ := y
  rfl
section
variable {P : Pr} {F m : Nat} {s : St}
theorem k_is_wayT [F_is_way P] [F_is_int P] [F_is_word P] (hm : 3 ≤ m) {y : Way} (hy : y.ok) : vcallN P F m 16 [y.v] s = .ok (.bl true) s := by
  rw [k_is_way hm _ Way.pla, (isWay_iff _).mpr ⟨y, hy, rfl⟩]
theorem k_check_way [F_check_way P] [F_is_way P] [F_is_int P] [F_is_word P] (hm : 4 ≤ m) (v : V) (hv : pla1 v = true) : vcallN P F m 17 [v] s = if isWay v then .ok .non s else .exc 1 s := by
  rw [vcall_u F_check_way.e (by decide) rfl (by omega)]
  have k := k_is_way (P := P) (F := F) (s := s) (show 3 ≤ m - 1 by omega) v hv
  simp [t_check_way, ↓vE_cmpH, ↓vS_forH, ↓vS_whileH, vB_nil, vB_cons, vS, vE, vEs, vEb, vIt, vTg, vTgs, vEf, vTgf, vAsg, vAsgN, vAsgO, clr, shr, shb, shrs, shbs, shi, shf, own?, isFr, vbf, vcop, ixN, envOf, List.replicate, List.map, List.append, prD, prDs, ofD, ofDs, k]
  cases isWay v <;> simp [↓vE_cmpH, ↓vS_forH, ↓vS_whileH, vB_nil, vB_cons, vS, vE, vEs, vEb, vIt, vTg, vTgs, vEf, vTgf, vAsg, vAsgN, vAsgO, clr, shr, shb, shrs, shbs, shi, shf, own?, isFr, vbf, vcop, ixN, envOf, List.replicate, List.map, List.append, prD, prDs, ofD, ofDs]
theorem k_check_wayT [F_check_way P] [F_is_way P] [F_is_int P] [F_is_word P] (hm : 4 ≤ m) {y : Way} (hy : y.ok) : vcallN P F m 17 [y.v] s = .ok .non s := by
  rw [k_check_way hm _ Way.pla, (isWay_iff _).mpr ⟨y, hy, rfl⟩]; rfl
/-! ### draws -/
theorem k_draw (hm : 2 ≤ m) {lim : Int} (h1 : 0 < lim) (h2 : lim < 1073741824) (ob : List SO) (dr : Dr) : ∃ v dr', vcallN P F m 23 [.drw, .int lim] ⟨ob, dr⟩ = .ok (.int v) ⟨ob, dr'⟩ ∧ 0 ≤ v ∧ v < lim :=
  ⟨_, _, vcall_draw hm h1 h2, Dr.draw_lo _ h1, Dr.draw_hi _ h1⟩
theorem k_pick [F_l_law_pick P] (hm : 3 ≤ m) {xs : List V} (hx : xs ≠ []) (hl : xs.length < 1073741824) (ob : List SO) (dr : Dr) : ∃ v dr', vcallN P F m 24 [.drw, .lst xs] ⟨ob, dr⟩ = .ok v ⟨ob, dr'⟩ ∧ v ∈ xs := by
  have hpos : 0 < xs.length := List.length_pos_iff.mpr hx
  obtain ⟨v, dr', e, v0, v1⟩ := k_draw (P := P) (F := F) (m := m - 1) (by omega) (lim := (xs.length : Int)) (by omega) (by omega) ob dr
  obtain ⟨j, rfl⟩ : ∃ j : Nat, v = (j : Int) := ⟨v.toNat, by omega⟩
  have hj : j < xs.length := by omega
  refine ⟨xs[j], dr', ?_, List.getElem_mem hj⟩
  rw [vcall_u F_l_law_pick.e (by decide) rfl (by omega)]
  have ix := ixN_nat xs.length j hj
  simp [t_l_law_pick, vB_nil, vB_cons, vS, vE, vEs, vEb, clr, shr, shb, shrs, shbs, vbf, envOf, List.replicate, e, ix, hj]
def wordsV : V := .lst [.lst (wLong.map .str), .lst (wBlanks.map .str), .lst (wRows.map .str), .lst (wEnds.map .str)]
theorem k_words [F_l_law_words P] (hm : 2 ≤ m) : vcallN P F m 25 [] s = .ok wordsV s := by
  rw [vcall_u F_l_law_words.e (by decide) rfl (by omega)]
  simp [t_l_law_words, ↓vE_cmpH, ↓vS_forH, ↓vS_whileH, vB_nil, vB_cons, vS, vE, vEs, vEb, vIt, vTg, vTgs, vEf, vTgf, vAsg, vAsgN, vAsgO, clr, shr, shb, shrs, shbs, shi, shf, own?, isFr, vbf, vcop, ixN, envOf, List.replicate, List.map, List.append, prD, prDs, ofD, ofDs, wordsV, wLong, wBlanks, wRows, wEnds]
theorem k_way [F_l_law_way P] [F_l_law_words P] [F_l_law_pick P] (hm : 4 ≤ m) (ob : List SO) (dr : Dr) : ∃ (y : Way) (dr' : Dr), vcallN P F m 26 [.drw] ⟨ob, dr⟩ = .ok y.v ⟨ob, dr'⟩ ∧ y.ok := by
  obtain ⟨v1, d1, e1, a1, b1⟩ := k_draw (P := P) (F := F) (m := m - 1) (by omega) (lim := 3) (by decide) (by decide) ob dr
  obtain ⟨v2, d2, e2, a2, b2⟩ := k_draw (P := P) (F := F) (m := m - 1) (by omega) (lim := 2) (by decide) (by decide) ob d1
  obtain ⟨w1, d3, e3, m1⟩ := k_pick (P := P) (F := F) (m := m - 1) (by omega) (xs := wLong.map .str) (by decide) (by decide) ob d2
  obtain ⟨w2, d4, e4, m2⟩ := k_pick (P := P) (F := F) (m := m - 1) (by omega) (xs := wBlanks.map .str) (by decide) (by decide) ob d3
  obtain ⟨w3, d5, e5, m3⟩ := k_pick (P := P) (F := F) (m := m - 1) (by omega) (xs := wRows.map .str) (by decide) (by decide) ob d4
  obtain ⟨w4, d6, e6, m4⟩ := k_pick (P := P) (F := F) (m := m - 1) (by omega) (xs := wEnds.map .str) (by decide) (by decide) ob d5
  have hw : isWay (.tup [.int (2 + v1), .int v2, w1, w2, w3, w4]) = true := by
    have f : ∀ (ws : List Tx) (v : V), v ∈ ws.map V.str → isWord ws v = true := fun ws v h => by
      obtain ⟨t, h1, rfl⟩ := List.mem_map.mp h
      exact (isWord_iff _ _).mpr ⟨t, h1, rfl⟩
    simp only [isWay, f _ _ m1, f _ _ m2, f _ _ m3, f _ _ m4, Bool.and_true]
    rw [(isInt_iff 2 4 _).mpr ⟨_, by omega, by omega, rfl⟩, (isInt_iff 0 1 _).mpr ⟨_, by omega, by omega, rfl⟩]; rfl
  obtain ⟨y, hy, ey⟩ := (isWay_iff _).mp hw
  refine ⟨y, d6, ?_, hy⟩
  rw [← ey, vcall_u F_l_law_way.e (by decide) rfl (by omega)]
  have kw := k_words (P := P) (F := F) (m := m - 1) (s := ⟨ob, d2⟩) (by omega)
  simp [t_l_law_way, vB_nil, vB_cons, vS, vE, vEs, vEb, vIt, vTg, clr, shr, shb, shrs, shbs, shi, vbf, envOf, List.replicate, e1, e2, kw, prD, ofD, vbop, wordsV, vItems, vcomp, vwipe, e3, e4, e5, e6, LIM, vseqOf]
end
end Ve
end

section
set_option autoImplicit false
set_option Elab.async false
set_option linter.all false
set_option maxRecDepth 1000000
namespace Ve
open Ev
/-! ### texts of ways -/
theorem vcomp_map {f : V → St → VR (Option V)} {s : St} (g : V → V) : ∀ (xs acc : List V), acc.length + xs.length ≤ LIM → (∀ x ∈ xs, f x s = .ok (some (g x)) s) → vcomp f xs acc s = .ok (acc ++ xs.map g) s
  | [], acc, _, _ => by simp [vcomp]
  | x :: xs, acc, hl, hf => by
    unfold vcomp
    rw [hf x List.mem_cons_self]
    simp only
    rw [if_pos (by simp at hl; omega), vcomp_map g xs (acc ++ [g x]) (by simp at hl ⊢; omega) fun y hy => hf y (List.mem_cons_of_mem _ hy)]
    simp
def digs : List Tx := [[48], [49], [50], [51], [52]]
def item (t : Tx) : V := if isWord digs (.str t) then (match t with
  | [c] => .int (c - 48 : Nat)
  | _ => .non) else .str t
theorem item_cases (t : Tx) : (∃ c, 48 ≤ c ∧ c ≤ 52 ∧ t = [c] ∧ item t = .int (c - 48 : Nat)) ∨ (isWord digs (.str t) = false ∧ item t = .str t) := by
  unfold item
  cases q : isWord digs (.str t) with
  | false => exact .inr ⟨rfl, rfl⟩
  | true =>
    obtain ⟨u, hu, e⟩ := (isWord_iff _ _).mp q
    cases e
    simp only [digs, List.mem_cons, List.not_mem_nil, or_false] at hu
    rcases hu with rfl | rfl | rfl | rfl | rfl
    · exact .inl ⟨48, by simp⟩
    · exact .inl ⟨49, by simp⟩
    · exact .inl ⟨50, by simp⟩
    · exact .inl ⟨51, by simp⟩
    · exact .inl ⟨52, by simp⟩
section
variable {P : Pr} {F m : Nat} {s : St}
theorem k_item [F_item_in P] (hm : 2 ≤ m) (t : Tx) : vcallN P F m 146 [.str t] s = .ok (item t) s := by
  rw [vcall_u F_item_in.e (by decide) rfl (by omega)]
  have e := vmem_str t digs
  have ew : isWord digs (.str t) = digs.any fun w => decide (w = t) := rfl
  rw [← ew] at e
  simp only [digs, List.map] at e
  rcases item_cases t with ⟨c, c1, c2, rfl, q⟩ | ⟨q1, q⟩
  · have c3 : c = 48 ∨ c = 49 ∨ c = 50 ∨ c = 51 ∨ c = 52 := by omega
    rcases c3 with rfl | rfl | rfl | rfl | rfl <;> rfl
  · rw [q]
    simp only [digs] at q1
    rw [q1] at e
    simp [t_item_in, ↓vE_cmpH, ↓vS_forH, ↓vS_whileH, vB_nil, vB_cons, vS, vE, vEs, vEb, vIt, vTg, vTgs, vEf, vTgf, vAsg, vAsgN, vAsgO, clr, shr, shb, shrs, shbs, shi, shf, own?, isFr, vbf, vcop, ixN, envOf, List.replicate, List.map, List.append, prD, prDs, ofD, ofDs, vin, e]
theorem split_len (c : Nat) : ∀ t : Tx, (splitC c t).length ≤ t.length + 1
  | [] => by simp [splitC]
  | x :: r => by
    have ih := split_len c r
    unfold splitC
    split
    · simp; omega
    · split
      · rename_i p ps e
        rw [e] at ih
        simp at ih ⊢; omega
      · simp
theorem item_pla (t : Tx) : pla (item t) = true := by
  rcases item_cases t with ⟨c, c1, c2, rfl, q⟩ | ⟨q1, q⟩ <;> rw [q] <;> rfl
/-- the items that a text shows -/
def shown (t : Tx) : List V := (splitC 32 t).map item
theorem k_parse [F_parse_way P] [F_item_in P] [F_is_way P] [F_is_int P] [F_is_word P] (hm : 4 ≤ m) (t : Tx) (ht : t.length + 2 ≤ LIM) : vcallN P F m 147 [.str t] s = if isWay (.tup (shown t)) then .ok (.tup (shown t)) s else .exc 4 s := by
  rw [vcall_u F_parse_way.e (by decide) rfl (by omega)]
  have kw := k_is_way (P := P) (F := F) (m := m - 1) (s := s) (by omega) (.tup (shown t)) (List.all_eq_true.mpr fun x hx => by
    obtain ⟨u, _, rfl⟩ := List.mem_map.mp hx
    exact item_pla u)
  have sl : (splitC 32 t).length ≤ LIM := by have := split_len 32 t; omega
  have hc : vcomp (vcF (cxm P F m) (.call 146 (.cons (.var 1) .nil)) (.nm 1) (.const (.bl true)) [1] [some (false, .str t), none, none]) ((splitC 32 t).map .str) [] s = .ok (shown t) s := by
    rw [vcomp_map (fun v => match v with
      | .str u => item u
      | v => v) _ _ (by simpa using sl) fun x hx => ?_]
    · simp [shown]
    · obtain ⟨u, _, rfl⟩ := List.mem_map.mp hx
      have ki := k_item (P := P) (F := F) (m := m - 1) (s := s) (by omega) u
      simp [vcF, ↓vE_cmpH, ↓vS_forH, ↓vS_whileH, vB_nil, vB_cons, vS, vE, vEs, vEb, vIt, vTg, vTgs, vEf, vTgf, vAsg, vAsgN, vAsgO, clr, shr, shb, shrs, shbs, shi, shf, own?, isFr, vbf, vcop, ixN, envOf, List.replicate, List.map, List.append, prD, prDs, ofD, ofDs, vwipe, ki]
  simp [t_parse_way, ↓vE_cmpH, ↓vS_forH, ↓vS_whileH, vB_nil, vB_cons, vS, vE, vEs, vEb, vIt, vTg, vTgs, vEf, vTgf, vAsg, vAsgN, vAsgO, clr, shr, shb, shrs, shbs, shi, shf, own?, isFr, vbf, vcop, ixN, envOf, List.replicate, List.map, List.append, prD, prDs, ofD, ofDs, vbmTy, vbm, ht, vItems, hc, vseqOf, kw]
  cases isWay (.tup (shown t)) <;> simp [↓vE_cmpH, ↓vS_forH, ↓vS_whileH, vB_nil, vB_cons, vS, vE, vEs, vEb, vIt, vTg, vTgs, vEf, vTgf, vAsg, vAsgN, vAsgO, clr, shr, shb, shrs, shbs, shi, shf, own?, isFr, vbf, vcop, ixN, envOf, List.replicate, List.map, List.append, prD, prDs, ofD, ofDs]
def formT : Tx := [102, 111, 114, 109]
theorem k_err4 [F_l_law_error P] (hm : 2 ≤ m) : vcallN P F m 45 [.exn 4] s = .ok (.str formT) s := by
  rw [vcall_u F_l_law_error.e (by decide) rfl (by omega)]
  kernel_rfl!
def parsed (t : Tx) : V := if isWay (.tup (shown t)) then .tup (shown t) else .str formT
theorem k_parsed [F_l_law_parsed P] [F_l_law_error P] [F_parse_way P] [F_item_in P] [F_is_way P] [F_is_int P] [F_is_word P] (hm : 5 ≤ m) (t : Tx) (ht : t.length + 2 ≤ LIM) : vcallN P F m 148 [.str t] s = .ok (parsed t) s := by
  rw [vcall_u F_l_law_parsed.e (by decide) rfl (by omega)]
  have kp := k_parse (P := P) (F := F) (m := m - 1) (s := s) (by omega) t ht
  have ke := k_err4 (P := P) (F := F) (m := m - 1) (s := s) (by omega)
  unfold parsed
  cases q : isWay (.tup (shown t)) with
  | true =>
    rw [q] at kp
    simp [t_l_law_parsed, ↓vE_cmpH, ↓vS_forH, ↓vS_whileH, vB_nil, vB_cons, vS, vE, vEs, vEb, vIt, vTg, vTgs, vEf, vTgf, vAsg, vAsgN, vAsgO, clr, shr, shb, shrs, shbs, shi, shf, own?, isFr, vbf, vcop, ixN, envOf, List.replicate, List.map, List.append, prD, prDs, ofD, ofDs, kp, vis_, isNon]
  | false =>
    rw [q] at kp
    simp [t_l_law_parsed, ↓vE_cmpH, ↓vS_forH, ↓vS_whileH, vB_nil, vB_cons, vS, vE, vEs, vEb, vIt, vTg, vTgs, vEf, vTgf, vAsg, vAsgN, vAsgO, clr, shr, shb, shrs, shbs, shi, shf, own?, isFr, vbf, vcop, ixN, envOf, List.replicate, List.map, List.append, prD, prDs, ofD, ofDs, kp, vis_, isNon, ke]
/-- the text of an item -/
def strV : V → Tx
  | .str t => t
  | .int i => [48 + i.toNat]
  | _ => []
def showV : V → Bool
  | .str _ => true
  | .int i => decide (0 ≤ i) && decide (i ≤ 9)
  | _ => false
theorem strV_item (t : Tx) : strV (item t) = t := by
  rcases item_cases t with ⟨c, c1, c2, rfl, q⟩ | ⟨q1, q⟩ <;> rw [q]
  · simp [strV]; omega
  · rfl
theorem showV_item (t : Tx) : showV (item t) = true := by
  rcases item_cases t with ⟨c, c1, c2, rfl, q⟩ | ⟨q1, q⟩ <;> rw [q]
  · simp [showV]; omega
  · rfl
theorem split_ne (c : Nat) : ∀ t : Tx, splitC c t ≠ []
  | [] => by simp [splitC]
  | x :: r => by
    unfold splitC
    split
    · simp
    · split <;> simp
theorem join_split (c : Nat) : ∀ t : Tx, joinT [c] (splitC c t) = t
  | [] => rfl
  | x :: r => by
    have ih := join_split c r
    unfold splitC
    split
    · rename_i e
      subst e
      cases q : splitC x r with
      | nil => exact absurd q (split_ne x r)
      | cons p ps =>
        rw [q] at ih
        show [] ++ ([x] ++ joinT [x] (p :: ps)) = _
        rw [ih]; rfl
    · cases q : splitC c r with
      | nil => exact absurd q (split_ne c r)
      | cons p ps =>
        rw [q] at ih
        cases ps with
        | nil =>
          have e : p = r := ih
          simp [joinT, e]
        | cons p2 ps =>
          have e : p ++ ([c] ++ joinT [c] (p2 :: ps)) = r := ih
          simp only [joinT] at e ⊢
          rw [List.cons_append, e]
theorem shown_str (t : Tx) : (shown t).map strV = splitC 32 t := by
  unfold shown
  rw [List.map_map]
  have : strV ∘ item = id := funext strV_item
  rw [this, List.map_id]
def Way.txt (y : Way) : Tx := joinT [32] (y.items.map strV)
theorem join_sum (sep : Tx) : ∀ ps : List Tx, (joinT sep ps).length ≤ (ps.map List.length).sum + ps.length * sep.length
  | [] => by simp [joinT]
  | [p] => by simp [joinT]
  | p :: q :: r => by
    have := join_sum sep (q :: r)
    simp only [joinT, List.length_append, List.map_cons, List.sum_cons, List.length_cons, Nat.add_mul] at this ⊢
    omega
/-- ' '.join([str(one) for one in xs]) over a tuple at a name -/
theorem k_join {c : VCx} {v w : Nat} {env : VEnv} {b : Bool} {xs : List V} (he : env[w]? = some (some (b, .tup xs))) (hv : v < env.length) (hx : ∀ x ∈ xs, showV x = true) (hl : xs.length ≤ LIM) (hs : ((xs.map strV).map List.length).sum + xs.length * 1 ≤ LIM) :
    vE c (.bm .join (.const (.str [32])) (.cons (.comp (.bf .strOf (.cons (.var v) .nil)) (.nm v) (.val (.var w)) (.const (.bl true)) [v]) .nil)) env s = .ok (.sh, .str (joinT [32] (xs.map strV))) s := by
  have hc : vcomp (vcF c (.bf .strOf (.cons (.var v) .nil)) (.nm v) (.const (.bl true)) [v] env) xs [] s = .ok (xs.map fun x => .str (strV x)) s := by
    rw [vcomp_map (fun x => .str (strV x)) _ _ (by simpa using hl) fun x hm => ?_]
    · simp
    · have hq := hx x hm
      have e : ((env.set v none).set v (some (false, x)))[v]? = some (some (false, x)) := by
        rw [List.getElem?_set_self]; simpa using hv
      unfold vcF
      simp only [vTg, vwipe, VR.bind_ok]
      revert e
      generalize (env.set v none).set v (some (false, x)) = env'
      intro e
      cases x with
      | str t => simp [vE, vEb, e, vbf, vstrT, strV, prD, ofD]
      | int i =>
        simp only [showV, Bool.and_eq_true, decide_eq_true_eq] at hq
        simp [vE, vEb, e, vbf, vstrT, strV, hq, prD, ofD]
      | _ => cases hq
  have st : strsV (xs.map fun x => V.str (strV x)) = some (xs.map strV) := by
    clear hc he hx hl hs
    induction xs with
    | nil => rfl
    | cons x xs ih => simp only [List.map_cons, strsV, ih]; rfl
  rw [vE, vE]
  simp only [prD, if_true, VR.bind_ok, ofD, vbmTy, vEs]
  rw [vE_cmp]
  simp [vIt, vE, he, vItems, hc, vcFin, unb_fr]
  simp [vbm, vseqOf, st]
  rw [if_pos (by simpa using hs)]
  rfl
theorem items_show {y : Way} (hy : y.ok) : (∀ x ∈ y.items, showV x = true) ∧ y.items.length = 6 ∧ ((y.items.map strV).map List.length).sum ≤ 40 := by
  obtain ⟨w, hy', lo, hang, one, filled⟩ := y
  obtain ⟨h1, h2⟩ := hy
  simp at h1 h2
  refine ⟨fun x hx => ?_, rfl, ?_⟩
  · simp only [Way.items, List.mem_cons, List.not_mem_nil, or_false] at hx
    rcases hx with rfl | rfl | rfl | rfl | rfl | rfl
    · simp [showV]; omega
    · cases hy' <;> rfl
    all_goals rfl
  · simp [Way.items, strV]
    cases lo <;> cases hang <;> cases one <;> cases filled <;> simp [Lo.t, tWhole, tCut, tFill, tDrop, tHang, tKeep, tOne, tKept, tFilled]
theorem k_format [F_format_way P] [F_check_way P] [F_is_way P] [F_is_int P] [F_is_word P] (hm : 5 ≤ m) {y : Way} (hy : y.ok) : vcallN P F m 145 [y.v] s = .ok (.str y.txt) s := by
  rw [vcall_u F_format_way.e (by decide) rfl (by omega)]
  have kc := k_check_wayT (P := P) (F := F) (m := m - 1) (s := s) (by omega) hy
  obtain ⟨h1, h2, h3⟩ := items_show hy
  have kj := k_join (s := s) (c := cxm P F m) (v := 1) (w := 0) (env := [some (false, y.v), none]) (b := false) (xs := y.items) rfl (by simp) h1 (by rw [h2]; decide) (by rw [h2]; unfold LIM; omega)
  simp only [t_format_way]
  generalize (IE.bm .join (.const (.str [32])) (.cons (.comp (.bf .strOf (.cons (.var 1) .nil)) (.nm 1) (.val (.var 0)) (.const (.bl true)) [1]) .nil)) = je at kj ⊢
  simp [vB_nil, vB_cons, vS, vE, vEs, clr, shb, shrs, shr, envOf, kc]
  rw [clr_noT rfl, kj]
  rfl
theorem item_back (y : Way) (hy : y.ok) : y.items.map (fun v => item (strV v)) = y.items := by
  obtain ⟨w, hh, lo, hang, one, filled⟩ := y
  obtain ⟨h1, h2⟩ := hy
  simp at h1 h2
  have : w = 2 ∨ w = 3 ∨ w = 4 := by omega
  rcases this with rfl | rfl | rfl <;> cases hh <;> cases lo <;> cases hang <;> cases one <;> cases filled <;> rfl
theorem split_join (c : Nat) : ∀ ws : List Tx, ws ≠ [] → (∀ w ∈ ws, c ∉ w) → splitC c (joinT [c] ws) = ws := by
  have one : ∀ w : Tx, c ∉ w → splitC c w = [w] := fun w => by
    induction w with
    | nil => intro _; rfl
    | cons x w ih =>
      intro h
      simp only [List.mem_cons, not_or] at h
      unfold splitC
      rw [if_neg (Ne.symm h.1), ih h.2]
  have app : ∀ (w r : Tx), c ∉ w → splitC c (w ++ c :: r) = w :: splitC c r := fun w => by
    induction w with
    | nil => intro r _; simp [splitC]
    | cons x w ih =>
      intro r h
      simp only [List.mem_cons, not_or] at h
      rw [List.cons_append, splitC, if_neg (Ne.symm h.1), ih r h.2]
  intro ws
  induction ws with
  | nil => intro h; exact absurd rfl h
  | cons w ws ih =>
    intro _ h
    cases ws with
    | nil => exact one w (h w (by simp))
    | cons w2 ws =>
      show splitC c (w ++ ([c] ++ joinT [c] (w2 :: ws))) = _
      rw [List.singleton_append, app w _ (h w (by simp)), ih (by simp) fun v hv => h v (List.mem_cons_of_mem _ hv)]
theorem shown_txt (y : Way) (hy : y.ok) : shown y.txt = y.items := by
  unfold shown Way.txt
  rw [split_join 32 _ (by simp [Way.items]) fun w hw => ?_, List.map_map]
  · exact item_back y hy
  · obtain ⟨x, hx, rfl⟩ := List.mem_map.mp hw
    obtain ⟨w, hh, lo, hang, one, filled⟩ := y
    obtain ⟨h1, h2⟩ := hy
    simp at h1 h2
    have : w = 2 ∨ w = 3 ∨ w = 4 := by omega
    simp only [Way.items, List.mem_cons, List.not_mem_nil, or_false] at hx
    rcases hx with rfl | rfl | rfl | rfl | rfl | rfl
    · rcases this with rfl | rfl | rfl <;> decide
    · cases hh <;> simp [strV]
    · cases lo <;> simp [strV, Lo.t, tWhole, tCut, tFill]
    · cases hang <;> simp [strV, tHang, tDrop]
    · cases one <;> simp [strV, tOne, tKeep]
    · cases filled <;> simp [strV, tFilled, tKept]
theorem parsed_txt (y : Way) (hy : y.ok) : parsed y.txt = y.v := by
  unfold parsed
  rw [shown_txt y hy]
  have : isWay y.v = true := (isWay_iff _).mpr ⟨y, hy, rfl⟩
  unfold Way.v at this ⊢
  rw [this]; rfl
theorem txt_len (y : Way) (hy : y.ok) : y.txt.length ≤ 46 := by
  obtain ⟨h1, h2, h3⟩ := items_show hy
  have := join_sum [32] (y.items.map strV)
  unfold Way.txt
  simp only [List.length_map, h2, List.length_singleton] at this
  omega
theorem parsed_way (t : Tx) (h : isWay (.tup (shown t)) = true) : ∃ y : Way, y.ok ∧ parsed t = y.v ∧ y.txt = t := by
  obtain ⟨y, hy, e⟩ := (isWay_iff _).mp h
  refine ⟨y, hy, by unfold parsed; rw [h, e]; rfl, ?_⟩
  have e2 : shown t = y.items := by simpa [Way.v] using e
  unfold Way.txt
  rw [← e2, shown_str, join_split]
theorem Lo.okT (l : Lo) : okT l.t := by cases l <;> (unfold Ve.okT; decide)
def Way.tT (y : Way) : List T := [.num (y.w : Nat), .num (if y.hy then 1 else 0), .str y.lo.t, .str (if y.hang then tHang else tDrop), .str (if y.one then tOne else tKeep), .str (if y.filled then tFilled else tKept)]
theorem Way.vT (y : Way) : omap (vT 39) y.items = some y.tT := by
  have h1 : okT y.lo.t := y.lo.okT
  have h2 : okT (if y.hang then tHang else tDrop) := by cases y.hang <;> (unfold okT; decide)
  have h3 : okT (if y.one then tOne else tKeep) := by cases y.one <;> (unfold okT; decide)
  have h4 : okT (if y.filled then tFilled else tKept) := by cases y.filled <;> (unfold okT; decide)
  simp only [Way.items, omap, vT_str h1, vT_str h2, vT_str h3, vT_str h4]
  rfl
theorem Way.vT40 (y : Way) : Ve.vT 40 y.v = some (.tup y.tT) := by
  exact vT_tup y.vT
theorem Way.tT_inj {y z : Way} : y.tT = z.tT ↔ y = z := by
  refine ⟨fun h => ?_, fun h => by rw [h]⟩
  obtain ⟨w, hh, lo, hang, one, filled⟩ := y
  obtain ⟨w', hh', lo', hang', one', filled'⟩ := z
  simp only [Way.tT, List.cons.injEq, T.num.injEq, T.str.injEq, and_true] at h
  obtain ⟨h1, h2, h3, h4, h5, h6⟩ := h
  have e1 : w = w' := by omega
  have e2 : hh = hh' := by cases hh <;> cases hh' <;> simp at h2 ⊢
  have e3 : lo = lo' := by cases lo <;> cases lo' <;> first | rfl | (revert h3; decide)
  have e4 : hang = hang' := by cases hang <;> cases hang' <;> first | rfl | (revert h4; simp [tHang, tDrop]; done)
  have e5 : one = one' := by cases one <;> cases one' <;> first | rfl | (revert h5; simp [tOne, tKeep]; done)
  have e6 : filled = filled' := by cases filled <;> cases filled' <;> first | rfl | (revert h6; simp [tFilled, tKept]; done)
  rw [e1, e2, e3, e4, e5, e6]
theorem veq_way {y z : Way} : veq y.v z.v = some (decide (y = z)) := veq_T y.vT40 z.vT40 rfl (by rw [T.tup.injEq, Way.tT_inj])
theorem veq_way_s {y : Way} {t : Tx} (ht : okT t) : veq y.v (.str t) = some false := by
  have := veq_T (v := y.v) (w := .str t) (q := False) y.vT40 (vT_str ht) rfl (by simp)
  simpa using this
theorem k_all_ways [F_all_ways P] (hm : 2 ≤ m) : vcallN P F m 51 [] s = .ok (.lst (allWays.map Way.v)) s := by
  rw [vcall_u F_all_ways.e (by decide) rfl (by omega)]
  kernel_rfl!
end
end Ve
end

section
namespace Ve
open Ev
def lw15_0 : IS := (.asg (.nm 2) (.call 26 (.cons (.var 1) .nil)))
def lw15_1 : IS := (.asg (.nm 3) (.call 145 (.cons (.var 2) .nil)))
def lw15_2 : IS := (.ifS (.or (.cmp .ne (.var 3) (.bm .join (.const (.str [32])) (.cons (.comp (.bf .strOf (.cons (.var 4) .nil)) (.nm 4) (.val (.var 2)) (.const (.bl true)) [4]) .nil))) (.cmp .ne (.call 148 (.cons (.var 3) .nil)) (.var 2))) (.cons (.ret (.const (.bl false))) .nil) .nil)
def lw15_3 : IS := (.asg (.nm 5) (.lst (.cons (.const (.str [48])) (.cons (.const (.str [49])) (.cons (.const (.str [50])) (.cons (.const (.str [51])) (.cons (.const (.str [52])) (.cons (.const (.str [32])) (.cons (.const (.str [99, 117, 116])) (.cons (.const (.str [102, 105, 108, 108])) (.cons (.const (.str [111, 110, 101])) (.cons (.const (.str [120])) (.cons (.const (.str [])) (.cons (.const (.str [45])) .nil))))))))))))))
def lw15_4 : IS := (.forS (.nm 6) (.rng1 (.const (.int 16))) (.cons (.asg (.tp (.cons (.nm 7) (.cons (.nm 8) .nil))) (.tup (.cons (.call 23 (.cons (.var 1) (.cons (.bin .add (.bf .len (.cons (.var 3) .nil)) (.const (.int 1))) .nil))) (.cons (.call 24 (.cons (.var 1) (.cons (.var 5) .nil))) .nil)))) (.cons (.asg (.nm 9) (.call 24 (.cons (.var 1) (.cons (.lst (.cons (.bin .add (.bin .add (.slcT (.var 3) (.var 7)) (.var 8)) (.slcF (.var 3) (.bin .add (.var 7) (.const (.int 1))))) (.cons (.bin .add (.bin .add (.slcT (.var 3) (.var 7)) (.var 8)) (.slcF (.var 3) (.var 7))) (.cons (.bin .add (.bin .add (.bin .add (.slcT (.var 3) (.var 7)) (.const (.str [32]))) (.var 8)) (.slcF (.var 3) (.var 7))) .nil)))) .nil)))) (.cons (.asg (.nm 10) (.call 148 (.cons (.var 9) .nil))) (.cons (.ifS (.and (.cmp .ne (.var 10) (.const (.str [102, 111, 114, 109]))) (.cmp .ne (.bm .join (.const (.str [32])) (.cons (.comp (.bf .strOf (.cons (.var 4) .nil)) (.nm 4) (.val (.var 10)) (.const (.bl true)) [4]) .nil)) (.var 9))) (.cons (.ret (.const (.bl false))) .nil) .nil) (.cons (.ifS (.and (.cmp .ne (.var 10) (.const (.str [102, 111, 114, 109]))) (.cmp .isn (.call 16 (.cons (.var 10) .nil)) (.const (.bl true)))) (.cons (.ret (.const (.bl false))) .nil) .nil) .nil))))))
def lw15_5 : IS := (.asg (.nm 13) (.comp (.tup (.cons (.var 11) (.cons (.var 12) .nil))) (.tp (.cons (.nm 11) (.cons (.nm 12) .nil))) (.val (.lst (.cons (.tup (.cons (.const (.int 2)) (.cons (.const (.int 0)) .nil))) (.cons (.tup (.cons (.const (.int 2)) (.cons (.const (.int 1)) .nil))) (.cons (.tup (.cons (.const (.int 3)) (.cons (.const (.int 0)) .nil))) (.cons (.tup (.cons (.const (.int 3)) (.cons (.const (.int 1)) .nil))) (.cons (.tup (.cons (.const (.int 4)) (.cons (.const (.int 0)) .nil))) (.cons (.tup (.cons (.const (.int 4)) (.cons (.const (.int 1)) .nil))) .nil)))))))) (.const (.bl true)) [11, 12]))
def lw15_6 : IS := (.forS (.nm 14) (.val (.call 25 .nil)) (.cons (.asg (.nm 15) (.lst .nil)) (.cons (.forS (.nm 4) (.val (.var 13)) (.cons (.asg (.nm 15) (.bin .add (.var 15) (.comp (.bin .add (.var 4) (.tup (.cons (.var 16) .nil))) (.nm 16) (.val (.var 14)) (.const (.bl true)) [16]))) .nil)) (.cons (.asg (.nm 13) (.var 15)) .nil))))
def lw15_7 : IS := (.ret (.and (.call 149 .nil) (.and (.cmp .eq (.call 51 .nil) (.var 13)) (.and (.cmp .eq (.bf .len (.cons (.var 13) .nil)) (.const (.int 144))) (.cmp .eq (.comp (.call 148 (.cons (.call 145 (.cons (.var 4) .nil)) .nil)) (.nm 4) (.val (.slcT (.var 13) (.const (.int 9)))) (.const (.bl true)) [4]) (.slcT (.var 13) (.const (.int 9))))))))
def lw15 : ISs := (.cons lw15_0 (.cons lw15_1 (.cons lw15_2 (.cons lw15_3 (.cons lw15_4 (.cons lw15_5 (.cons lw15_6 (.cons lw15_7 .nil))))))))
def ln15 : Nat := 17
end Ve
end

section
set_option autoImplicit false
set_option Elab.async false
set_option linter.all false
set_option maxRecDepth 1000000
namespace Ve
open Ev
section
variable {P : Pr} {F m : Nat} {s : St}
def odd15 : List V := [.non, (.int 5), (.str []), (.str [32]), (.str [51, 32, 48, 32, 99, 117, 116, 32, 100, 114, 111, 112, 32, 107, 101, 101, 112]), (.str [51, 32, 48, 32, 99, 117, 116, 32, 100, 114, 111, 112, 32, 107, 101, 101, 112, 32, 107, 101, 112, 116, 32]), (.str [32, 51, 32, 48, 32, 99, 117, 116, 32, 100, 114, 111, 112, 32, 107, 101, 101, 112, 32, 107, 101, 112, 116]), (.str [51, 32, 32, 48, 32, 99, 117, 116, 32, 100, 114, 111, 112, 32, 107, 101, 101, 112, 32, 107, 101, 112, 116]), (.str [49, 32, 48, 32, 99, 117, 116, 32, 100, 114, 111, 112, 32, 107, 101, 101, 112, 32, 107, 101, 112, 116]), (.str [53, 32, 48, 32, 99, 117, 116, 32, 100, 114, 111, 112, 32, 107, 101, 101, 112, 32, 107, 101, 112, 116]), (.str [51, 32, 50, 32, 99, 117, 116, 32, 100, 114, 111, 112, 32, 107, 101, 101, 112, 32, 107, 101, 112, 116]), (.str [51, 32, 48, 32, 67, 117, 116, 32, 100, 114, 111, 112, 32, 107, 101, 101, 112, 32, 107, 101, 112, 116]), (.str [51, 32, 48, 32, 100, 114, 111, 112, 32, 99, 117, 116, 32, 107, 101, 101, 112, 32, 107, 101, 112, 116]), (.str [51, 32, 48, 32, 99, 117, 116, 32, 100, 114, 111, 112, 32, 107, 101, 112, 116, 32, 107, 101, 101, 112]), (.str [51, 44, 48, 44, 99, 117, 116, 44, 100, 114, 111, 112, 44, 107, 101, 101, 112, 44, 107, 101, 112, 116]), (.str [48, 51, 32, 48, 32, 99, 117, 116, 32, 100, 114, 111, 112, 32, 107, 101, 101, 112, 32, 107, 101, 112, 116]), (.str [51, 32, 48, 32, 99, 117, 116, 32, 100, 114, 111, 112, 32, 107, 101, 101, 112, 32, 107, 101, 112, 116, 10]), (.lst [(.str [51, 32, 48, 32, 99, 117, 116, 32, 100, 114, 111, 112, 32, 107, 101, 101, 112, 32, 107, 101, 112, 116])]), (.tup [(.int 3), (.int 0), (.str [99, 117, 116]), (.str [100, 114, 111, 112]), (.str [107, 101, 101, 112]), (.str [107, 101, 112, 116])]), (.str [51, 32, 48, 32, 99, 117, 116, 9, 100, 114, 111, 112, 32, 107, 101, 101, 112, 32, 107, 101, 112, 116]), (.str [51, 32, 48, 32, 99, 117, 116, 32, 100, 114, 111, 112, 32, 107, 101, 101, 112, 32, 107, 101, 112, 116, 32, 48]), (.str [99, 117, 116, 32, 48, 32, 51, 32, 100, 114, 111, 112, 32, 107, 101, 101, 112, 32, 107, 101, 112, 116]), (.str [51, 32, 48, 32, 48, 32, 100, 114, 111, 112, 32, 107, 101, 101, 112, 32, 107, 101, 112, 116]), .str (List.replicate 4000 [49]).flatten]
def rej0 : ISs := t_l_law_rejected
theorem parse_no [F_parse_way P] (hm : 2 ≤ m) {v : V} (hv : pla v = true) (hs : ∀ t, v ≠ .str t) : vcallN P F m 147 [v] s = .exc 4 s := by
  rw [vcall_u F_parse_way.e (by decide) rfl (by omega)]
  cases v with
  | str t => exact absurd rfl (hs t)
  | obj i => cases hv
  | dic i => cases hv
  | drw => cases hv
  | exn i => cases hv
  | _ => simp [t_parse_way, ↓vE_cmpH, ↓vS_forH, ↓vS_whileH, vB_nil, vB_cons, vS, vE, vEs, vEb, vIt, vTg, vTgs, vEf, vTgf, vAsg, vAsgN, vAsgO, clr, shr, shb, shrs, shbs, shi, shf, own?, isFr, vbf, vcop, ixN, envOf, List.replicate, List.map, List.append, prD, prDs, ofD, ofDs]
theorem parsed_no [F_l_law_parsed P] [F_l_law_error P] [F_parse_way P] (hm : 3 ≤ m) {v : V} (hv : pla v = true) (hs : ∀ t, v ≠ .str t) : vcallN P F m 148 [v] s = .ok (.str formT) s := by
  rw [vcall_u F_l_law_parsed.e (by decide) rfl (by omega)]
  have kp := parse_no (P := P) (F := F) (m := m - 1) (s := s) (by omega) hv hs
  have ke := k_err4 (P := P) (F := F) (m := m - 1) (s := s) (by omega)
  simp [t_l_law_parsed, ↓vE_cmpH, ↓vS_forH, ↓vS_whileH, vB_nil, vB_cons, vS, vE, vEs, vEb, vIt, vTg, vTgs, vEf, vTgf, vAsg, vAsgN, vAsgO, clr, shr, shb, shrs, shbs, shi, shf, own?, isFr, vbf, vcop, ixN, envOf, List.replicate, List.map, List.append, prD, prDs, ofD, ofDs, kp, vis_, isNon, ke]
theorem odd_facts : (odd15.all fun v => pla v && match v with
  | .str t => decide (t.length ≤ 5000) && !isWay (.tup (shown t))
  | _ => true) = true := by decide +kernel
theorem k_rejected [F_l_law_rejected P] [F_l_law_parsed P] [F_l_law_error P] [F_parse_way P] [F_item_in P] [F_is_way P] [F_is_int P] [F_is_word P] (hm : 6 ≤ m) : vcallN P F m 149 [] s = .ok (.bl true) s := by
  rw [vcall_u F_l_law_rejected.e (by decide) rfl (by omega)]
  have hc : vcomp (vcF (cxm P F m) (.call 148 (.cons (.var 1) .nil)) (.nm 1) (.const (.bl true)) [1] [some (true, .lst odd15), none]) odd15 [] s = .ok (List.replicate 24 (.str formT)) s := by
    rw [vcomp_map (fun _ => .str formT) _ _ (by simp [odd15, LIM]) fun x hx => ?_]
    · rfl
    · have f := List.all_eq_true.mp odd_facts x hx
      rw [Bool.and_eq_true] at f
      have k : vcallN P F (m - 1) 148 [x] s = .ok (.str formT) s := by
        by_cases c : ∃ t, x = .str t
        · obtain ⟨t, rfl⟩ := c
          have f2 := f.2
          simp only [Bool.and_eq_true, decide_eq_true_eq, Bool.not_eq_true'] at f2
          rw [k_parsed (by omega) t (by have := f2.1; unfold LIM; omega)]
          unfold parsed
          rw [f2.2]; rfl
        · exact parsed_no (by omega) f.1 fun t e => c ⟨t, e⟩
      simp [vcF, ↓vE_cmpH, ↓vS_forH, ↓vS_whileH, vB_nil, vB_cons, vS, vE, vEs, vEb, vIt, vTg, vTgs, vEf, vTgf, vAsg, vAsgN, vAsgO, clr, shr, shb, shrs, shbs, shi, shf, own?, isFr, vbf, vcop, ixN, envOf, List.replicate, List.map, List.append, prD, prDs, ofD, ofDs, vwipe, k]
  have e : vB (cxm P F m) t_l_law_rejected (envOf [] 2) s = vB (cxm P F m) (.cons (.ret (.cmp .eq (.comp (.call 148 (.cons (.var 1) .nil)) (.nm 1) (.val (.var 0)) (.const (.bl true)) [1]) (.bin .mul (.lst (.cons (.const (.str [102, 111, 114, 109])) .nil)) (.const (.int 24))))) .nil) [some (true, .lst odd15), none] s := by
    kernel_rfl!
  rw [e]
  have ev : veq (.lst (List.replicate 24 (.str formT))) (.lst (List.replicate 24 (.str [102, 111, 114, 109]))) = some true := by decide +kernel
  simp [vB_nil, vB_cons, vS, ↓vE_cmpH, vE, vEs, vIt, shr, shb, shrs, shi, clr, vItems, hc, prD, ofD, vbop, LIM, smallR, vcop]
  kernel_rfl!
/-- texts that the turns make -/
theorem cut_mem (t : Tx) (l u : Option Int) : ∀ c ∈ cut t l u, c ∈ t := fun c h => by
  unfold cut at h
  exact List.mem_of_mem_drop (List.mem_of_mem_take h)
theorem cut_len (t : Tx) (l u : Option Int) : (cut t l u).length ≤ t.length := by
  unfold cut
  simp only [List.length_take, List.length_drop]
  omega
def marks15 : List V := [.str [48], .str [49], .str [50], .str [51], .str [52], .str [32], .str [99, 117, 116], .str [102, 105, 108, 108], .str [111, 110, 101], .str [120], .str [], .str [45]]
theorem marks_ok : ∀ v ∈ marks15, ∃ t : Tx, v = .str t ∧ t.length ≤ 4 := by
  intro v hv
  simp only [marks15, List.mem_cons, List.not_mem_nil, or_false] at hv
  rcases hv with rfl | rfl | rfl | rfl | rfl | rfl | rfl | rfl | rfl | rfl | rfl | rfl <;> exact ⟨_, rfl, by decide⟩
theorem chars_b : (allWays.all fun y => y.txt.all fun c => decide (c < 1114112)) = true := by decide +kernel
theorem txt_ok {y : Way} (hy : y.ok) : okT y.txt := fun c hc => by
  have h := List.all_eq_true.mp (List.all_eq_true.mp chars_b y (mem_allWays hy)) c hc
  simpa using h
def jn (w : Nat) : IE := .bm .join (.const (.str [32])) (.cons (.comp (.bf .strOf (.cons (.var 4) .nil)) (.nm 4) (.val (.var w)) (.const (.bl true)) [4]) .nil)
theorem jn_shb (w : Nat) : shb (jn w) = [] := rfl
theorem jn_way {c : VCx} {w : Nat} {env : VEnv} {b : Bool} {y : Way} (hy : y.ok) (he : env[w]? = some (some (b, y.v))) (hv : 4 < env.length) : vE c (jn w) env s = .ok (.sh, .str y.txt) s := by
  obtain ⟨h1, h2, h3⟩ := items_show hy
  exact k_join (s := s) (c := c) (v := 4) (w := w) (env := env) (b := b) (xs := y.items) he hv h1 (by rw [h2]; decide) (by rw [h2]; unfold LIM; omega)
/-- the names behind the first rows -/
def I15 (y : Way) (env : VEnv) (s : St) : Prop := s.ob = [] ∧ ∃ (b5 : Bool) (o4 o6 o7 o8 o9 o10 : Option (Bool × V)), noT [o4, o6, o7, o8, o9, o10] = true ∧
  env = [none, some (false, .drw), some (false, y.v), some (false, .str y.txt), o4, some (b5, .lst marks15), o6, o7, o8, o9, o10, none, none, none, none, none, none]
def bt15 : ISs := (.cons (.asg (.tp (.cons (.nm 7) (.cons (.nm 8) .nil))) (.tup (.cons (.call 23 (.cons (.var 1) (.cons (.bin .add (.bf .len (.cons (.var 3) .nil)) (.const (.int 1))) .nil))) (.cons (.call 24 (.cons (.var 1) (.cons (.var 5) .nil))) .nil)))) (.cons (.asg (.nm 9) (.call 24 (.cons (.var 1) (.cons (.lst (.cons (.bin .add (.bin .add (.slcT (.var 3) (.var 7)) (.var 8)) (.slcF (.var 3) (.bin .add (.var 7) (.const (.int 1))))) (.cons (.bin .add (.bin .add (.slcT (.var 3) (.var 7)) (.var 8)) (.slcF (.var 3) (.var 7))) (.cons (.bin .add (.bin .add (.bin .add (.slcT (.var 3) (.var 7)) (.const (.str [32]))) (.var 8)) (.slcF (.var 3) (.var 7))) .nil)))) .nil)))) (.cons (.asg (.nm 10) (.call 148 (.cons (.var 9) .nil))) (.cons (.ifS (.and (.cmp .ne (.var 10) (.const (.str [102, 111, 114, 109]))) (.cmp .ne (jn 10) (.var 9))) (.cons (.ret (.const (.bl false))) .nil) .nil) (.cons (.ifS (.and (.cmp .ne (.var 10) (.const (.str [102, 111, 114, 109]))) (.cmp .isn (.call 16 (.cons (.var 10) .nil)) (.const (.bl true)))) (.cons (.ret (.const (.bl false))) .nil) .nil) .nil)))))
theorem lw15_4_eq : lw15_4 = .forS (.nm 6) (.rng1 (.const (.int 16))) bt15 := rfl
theorem turn15 [F_l_law_pick P] [F_l_law_parsed P] [F_l_law_error P] [F_parse_way P] [F_item_in P] [F_is_way P] [F_is_int P] [F_is_word P] (hm : 7 ≤ m) {y : Way} (hy : y.ok) (x : V) (env : VEnv) (s : St) (h : I15 y env s) : ∃ env' s', vForF (cxm P F m) (.nm 6) bt15 x env s = .nx env' s' ∧ I15 y env' s' := by
  obtain ⟨ho, b5, o4, o6, o7, o8, o9, o10, hn, rfl⟩ := h
  obtain ⟨ob, dr⟩ := s
  simp only at ho
  subst ho
  have hl := txt_len y hy
  have hL : y.txt.length ≤ LIM := by unfold LIM; omega
  obtain ⟨v1, d1, e1, a1, b1⟩ := k_draw (P := P) (F := F) (m := m - 1) (by omega) (lim := ((y.txt.length : Nat) : Int) + 1) (by omega) (by omega) [] dr
  obtain ⟨v2, d2, e2, m2⟩ := k_pick (P := P) (F := F) (m := m - 1) (by omega) (xs := marks15) (by decide) (by decide) [] d1
  obtain ⟨t2, rfl, l2⟩ := marks_ok v2 m2
  have m2' : okT t2 := by
    simp only [marks15, List.mem_cons, List.not_mem_nil, or_false, V.str.injEq] at m2
    rcases m2 with rfl | rfl | rfl | rfl | rfl | rfl | rfl | rfl | rfl | rfl | rfl | rfl <;> (unfold okT; decide)
  have q1 := cut_mem y.txt none (some v1)
  have q2 := cut_mem y.txt (some (v1 + 1)) none
  have q3 := cut_mem y.txt (some v1) none
  have n1 := cut_len y.txt none (some v1)
  have n2 := cut_len y.txt (some (v1 + 1)) none
  have n3 := cut_len y.txt (some v1) none
  have s1 : vSl (.str y.txt) none (some v1) = some (.sh, .str (cut y.txt none (some v1))) := by simp [vSl, hL]
  have s2 : vSl (.str y.txt) (some (v1 + 1)) none = some (.sh, .str (cut y.txt (some (v1 + 1)) none)) := by simp [vSl, hL]
  have s3 : vSl (.str y.txt) (some v1) none = some (.sh, .str (cut y.txt (some v1) none)) := by simp [vSl, hL]
  generalize cut y.txt none (some v1) = c1 at *
  generalize cut y.txt (some (v1 + 1)) none = c2 at *
  generalize cut y.txt (some v1) none = c3 at *
  obtain ⟨v3, d3, e3, m3⟩ := k_pick (P := P) (F := F) (m := m - 1) (by omega) (xs := [.str (c1 ++ t2 ++ c2), .str (c1 ++ t2 ++ c3), .str (c1 ++ [32] ++ t2 ++ c3)]) (by simp) (by simp) [] d2
  obtain ⟨u, rfl, ul, uo⟩ : ∃ u, v3 = .str u ∧ u.length ≤ 200 ∧ okT u := by
    have tx := txt_ok hy
    have g1 : okT c1 := fun c hc => tx c (q1 c hc)
    have g2 : okT c2 := fun c hc => tx c (q2 c hc)
    have g3 : okT c3 := fun c hc => tx c (q3 c hc)
    have ga : ∀ {a b : Tx}, okT a → okT b → okT (a ++ b) := fun ha hb c hc => by
      rcases List.mem_append.mp hc with h | h
      · exact ha c h
      · exact hb c h
    simp only [List.mem_cons, List.not_mem_nil, or_false] at m3
    rcases m3 with rfl | rfl | rfl
    · exact ⟨_, rfl, by simp; omega, ga (ga g1 m2') g2⟩
    · exact ⟨_, rfl, by simp; omega, ga (ga g1 m2') g3⟩
    · exact ⟨_, rfl, by simp; omega, ga (ga (ga g1 (by unfold okT; decide)) m2') g3⟩
  have f1 : c1.length + t2.length ≤ LIM := by unfold LIM; omega
  have f2 : c1.length + t2.length + c2.length ≤ LIM := by unfold LIM; omega
  have f3 : c1.length + t2.length + c3.length ≤ LIM := by unfold LIM; omega
  have f4 : c1.length + 1 ≤ LIM := by unfold LIM; omega
  have f5 : c1.length + 1 + t2.length ≤ LIM := by unfold LIM; omega
  have f6 : c1.length + (t2.length + 1) + c3.length ≤ LIM := by unfold LIM; omega
  have f7 : c1.length + 1 + t2.length + c3.length ≤ LIM := by unfold LIM; omega
  have kp := k_parsed (P := P) (F := F) (m := m - 1) (s := ⟨[], d3⟩) (by omega) u (by unfold LIM; omega)
  have step : vForF (cxm P F m) (.nm 6) bt15 x [none, some (false, .drw), some (false, y.v), some (false, .str y.txt), o4, some (b5, .lst marks15), o6, o7, o8, o9, o10, none, none, none, none, none, none] ⟨[], dr⟩ = .nx [none, some (false, .drw), some (false, y.v), some (false, .str y.txt), o4, some (false, .lst marks15), some (false, x), some (false, .int v1), some (false, .str t2), some (false, .str u), some (false, parsed u), none, none, none, none, none, none] ⟨[], d3⟩ := by
    simp only [vForF, bt15]
    have hj : ∀ y' : Way, y'.ok → vE (cxm P F m) (jn 10) [none, some (false, .drw), some (false, y.v), some (false, .str y.txt), o4, some (false, .lst marks15), some (false, x), some (false, .int v1), some (false, .str t2), some (false, .str u), some (false, y'.v), none, none, none, none, none, none] ⟨[], d3⟩ = .ok (.sh, .str y'.txt) ⟨[], d3⟩ := fun y' hy' => jn_way hy' rfl (by simp)
    simp at e3
    have fo : okT [102, 111, 114, 109] := by unfold okT; decide
    cases hw : isWay (.tup (shown u)) with
    | true =>
      obtain ⟨y', hy', ep, et⟩ := parsed_way u hw
      rw [ep] at kp ⊢
      have hj' := hj y' hy'
      have kw := k_is_wayT (P := P) (F := F) (m := m - 1) (s := ⟨[], d3⟩) (by omega) hy'
      have ne := veq_way_s (y := y') fo
      rw [et] at hj'
      cases b5
      all_goals simp [vB_nil, vB_cons, vS, vE, vEs, vEb, vEf, vTg, vTgf, vAsgN, clr, shr, shb, shrs, shbs, isFr, vbf, prD, ofD, vbop, e1, e2, hL, s1, s2, s3, f1, f2, f3, f4, f5, f6, f7, e3, kp, jn_shb, hj', kw, ne, vcop, vis_]
    | false =>
      have ep : parsed u = .str [102, 111, 114, 109] := by unfold parsed; rw [hw]; rfl
      rw [ep] at kp ⊢
      cases b5
      all_goals simp [vB_nil, vB_cons, vS, vE, vEs, vEb, vEf, vTg, vTgf, vAsgN, clr, shr, shb, shrs, shbs, isFr, vbf, prD, ofD, vbop, e1, e2, hL, s1, s2, s3, f1, f2, f3, f4, f5, f6, f7, e3, kp, jn_shb, vcop, vis_]
  refine ⟨_, _, step, rfl, false, _, _, _, _, _, _, ?_, rfl⟩
  simp [noT] at hn ⊢
  exact hn.1
def dueL : List V := allWays.map Way.v
def due0 : V := .lst [.tup [.int 2, .int 0], .tup [.int 2, .int 1], .tup [.int 3, .int 0], .tup [.int 3, .int 1], .tup [.int 4, .int 0], .tup [.int 4, .int 1]]
theorem tailA (P : Pr) (F m : Nat) (e1 e2 e3 o4 e5 o6 o7 o8 o9 o10 : Option (Bool × V)) (s : St) : vS (cxm P F m) lw15_5 [none, e1, e2, e3, o4, e5, o6, o7, o8, o9, o10, none, none, none, none, none, none] s = .nx [none, e1, e2, e3, o4, e5, o6, o7, o8, o9, o10, none, none, some (true, due0), none, none, none] s := by
  kernel_rfl!
def bw15 : ISs := .cons (.asg (.nm 15) (.lst .nil)) (.cons (.forS (.nm 4) (.val (.var 13)) (.cons (.asg (.nm 15) (.bin .add (.var 15) (.comp (.bin .add (.var 4) (.tup (.cons (.var 16) .nil))) (.nm 16) (.val (.var 14)) (.const (.bl true)) [16]))) .nil)) (.cons (.asg (.nm 13) (.var 15)) .nil))
theorem lw15_6_eq : lw15_6 = .forS (.nm 14) (.val (.call 25 .nil)) bw15 := rfl
theorem tailB (P : Pr) (F m : Nat) (e1 e2 e3 o4 e5 o6 o7 o8 o9 o10 : Option (Bool × V)) (s : St) : vfor (vForF (cxm P F m) (.nm 14) bw15) [.lst (wLong.map .str), .lst (wBlanks.map .str), .lst (wRows.map .str), .lst (wEnds.map .str)] [none, e1, e2, e3, o4, e5, o6, o7, o8, o9, o10, none, none, some (true, due0), none, none, none] s
    = .nx [none, e1, e2, e3, some (false, .tup [.int 4, .int 1, .str tFill, .str tHang, .str tOne]), e5, o6, o7, o8, o9, o10, none, none, some (false, .lst dueL), some (false, .lst (wEnds.map .str)), some (false, .lst dueL), none] s := by
  kernel_rfl!
theorem veq_due : veq (.lst dueL) (.lst dueL) = some true := by decide +kernel
theorem veq_due9 : veq (.lst (cut dueL none (some 9))) (.lst (cut dueL none (some 9))) = some true := by decide +kernel
theorem due_ok {x : V} (h : x ∈ cut dueL none (some 9)) : ∃ y : Way, y.ok ∧ x = y.v := by
  have b : (allWays.all fun y => decide (2 ≤ y.w) && decide (y.w ≤ 4)) = true := by decide
  unfold cut at h
  have h := List.mem_of_mem_drop (List.mem_of_mem_take h)
  obtain ⟨y, hy, rfl⟩ := List.mem_map.mp h
  have := List.all_eq_true.mp b y hy
  rw [Bool.and_eq_true, decide_eq_true_eq, decide_eq_true_eq] at this
  exact ⟨y, this, rfl⟩
def cm15 : IE := .comp (.call 148 (.cons (.call 145 (.cons (.var 4) .nil)) .nil)) (.nm 4) (.val (.slcT (.var 13) (.const (.int 9)))) (.const (.bl true)) [4]
theorem lw15_7_eq : lw15_7 = .ret (.and (.call 149 .nil) (.and (.cmp .eq (.call 51 .nil) (.var 13)) (.and (.cmp .eq (.bf .len (.cons (.var 13) .nil)) (.const (.int 144))) (.cmp .eq cm15 (.slcT (.var 13) (.const (.int 9))))))) := rfl
theorem cm15_ok [F_l_law_parsed P] [F_l_law_error P] [F_format_way P] [F_parse_way P] [F_item_in P] [F_check_way P] [F_is_way P] [F_is_int P] [F_is_word P] (hm : 7 ≤ m) {env : VEnv} (h13 : env[13]? = some (some (false, .lst dueL))) (hl : 4 < env.length) : vE (cxm P F m) cm15 env s = .ok (.fr, .lst (cut dueL none (some 9))) s := by
  have hc : vcomp (vcF (cxm P F m) (.call 148 (.cons (.call 145 (.cons (.var 4) .nil)) .nil)) (.nm 4) (.const (.bl true)) [4] env) (cut dueL none (some 9)) [] s = .ok (cut dueL none (some 9)) s := by
    rw [vcomp_map (fun x => x) _ _ (by decide) fun x hx => ?_]
    · simp
    · obtain ⟨y, hy, rfl⟩ := due_ok hx
      have kf := k_format (P := P) (F := F) (m := m - 1) (s := s) (by omega) hy
      have kp := k_parsed (P := P) (F := F) (m := m - 1) (s := s) (by omega) y.txt (by have := txt_len y hy; unfold LIM; omega)
      rw [parsed_txt y hy] at kp
      have e4 : ((env.set 4 none).set 4 (some (false, y.v)))[4]? = some (some (false, y.v)) := by rw [List.getElem?_set_self]; simpa using hl
      unfold vcF
      simp only [vTg, vwipe, VR.bind_ok]
      generalize (env.set 4 none).set 4 (some (false, y.v)) = env' at e4 ⊢
      simp [vE, vEs, e4, kf, kp, prD, ofD]
  rw [cm15, vE_cmp]
  simp [vIt, vE, h13, prD, ofD, vSl, vItems, hc]
theorem law15 [F_l_law_pick P] [F_l_law_way P] [F_l_law_words P] [F_l_law_rejected P] [F_l_law_parsed P] [F_l_law_error P] [F_format_way P] [F_parse_way P] [F_item_in P] [F_check_way P] [F_is_way P] [F_is_int P] [F_is_word P] [F_all_ways P] (hm : 8 ≤ m) (dr : Dr) :
    ∃ s', vB (cxm P F m) lw15 [none, some (false, .drw), none, none, none, none, none, none, none, none, none, none, none, none, none, none, none] ⟨[], dr⟩ = .ret (.bl true) s' := by
  obtain ⟨y, d1, e1, hy⟩ := k_way (P := P) (F := F) (m := m - 1) (by omega) [] dr
  have kf := k_format (P := P) (F := F) (m := m - 1) (s := ⟨[], d1⟩) (by omega) hy
  have kp := k_parsed (P := P) (F := F) (m := m - 1) (s := ⟨[], d1⟩) (by omega) y.txt (by have := txt_len y hy; unfold LIM; omega)
  rw [parsed_txt y hy] at kp
  have hj : vE (cxm P F m) (jn 2) [none, some (false, .drw), some (false, y.v), some (false, .str y.txt), none, none, none, none, none, none, none, none, none, none, none, none, none] ⟨[], d1⟩ = .ok (.sh, .str y.txt) ⟨[], d1⟩ := jn_way hy rfl (by simp)
  have vv := veq_way (y := y) (z := y)
  have r2 : lw15_2 = .ifS (.or (.cmp .ne (.var 3) (jn 2)) (.cmp .ne (.call 148 (.cons (.var 3) .nil)) (.var 2))) (.cons (.ret (.const (.bl false))) .nil) .nil := rfl
  have E1 : vB (cxm P F m) lw15 [none, some (false, .drw), none, none, none, none, none, none, none, none, none, none, none, none, none, none, none] ⟨[], dr⟩ = vB (cxm P F m) (.cons lw15_4 (.cons lw15_5 (.cons lw15_6 (.cons lw15_7 .nil)))) [none, some (false, .drw), some (false, y.v), some (false, .str y.txt), none, some (true, .lst marks15), none, none, none, none, none, none, none, none, none, none, none] ⟨[], d1⟩ := by
    rw [lw15]
    generalize (ISs.cons lw15_4 (.cons lw15_5 (.cons lw15_6 (.cons lw15_7 .nil)))) = rest
    rw [r2]
    simp [lw15_0, lw15_1, lw15_3, vB_nil, vB_cons, vS, vE, vEs, vAsgN, clr, shr, shb, shrs, e1, kf, kp, jn_shb, hj, vv, vcop, prD, ofD, marks15]
  obtain ⟨env2, s2, E2, ho, b5, o4, o6, o7, o8, o9, o10, hn, rfl⟩ := vfor_inv (f := vForF (cxm P F m) (.nm 6) bt15) (I15 y) (vrange 0 16) [none, some (false, .drw), some (false, y.v), some (false, .str y.txt), none, some (true, .lst marks15), none, none, none, none, none, none, none, none, none, none, none] ⟨[], d1⟩ ⟨rfl, true, none, none, none, none, none, none, rfl, rfl⟩ (fun x _ env s h => turn15 (by omega) hy x env s h)
  have E3 : vB (cxm P F m) (.cons lw15_4 (.cons lw15_5 (.cons lw15_6 (.cons lw15_7 .nil)))) [none, some (false, .drw), some (false, y.v), some (false, .str y.txt), none, some (true, .lst marks15), none, none, none, none, none, none, none, none, none, none, none] ⟨[], d1⟩ = vB (cxm P F m) (.cons lw15_5 (.cons lw15_6 (.cons lw15_7 .nil))) [none, some (false, .drw), some (false, y.v), some (false, .str y.txt), o4, some (b5, .lst marks15), o6, o7, o8, o9, o10, none, none, none, none, none, none] s2 := by
    rw [vB_cons, lw15_4_eq, vS_forH]
    have : vIt (cxm P F m) (.rng1 (.const (.int 16))) (clr [none, some (false, .drw), some (false, y.v), some (false, .str y.txt), none, some (true, .lst marks15), none, none, none, none, none, none, none, none, none, none, none] (shf (.rng1 (.const (.int 16))))) ⟨[], d1⟩ = .ok (false, vrange 0 16) ⟨[], d1⟩ := by rfl
    rw [this]
    simp only [vForI_ok]
    have ec : clr [none, some (false, .drw), some (false, y.v), some (false, .str y.txt), none, some (true, .lst marks15), none, none, none, none, none, none, none, none, none, none, none] (shf (.rng1 (.const (.int 16)))) = [none, some (false, .drw), some (false, y.v), some (false, .str y.txt), none, some (true, .lst marks15), none, none, none, none, none, none, none, none, none, none, none] := rfl
    rw [ec, E2, VRS.seq_nx]
  rw [E1, E3]
  have kw := k_words (P := P) (F := F) (m := m - 1) (s := s2) (by omega)
  have ka := k_all_ways (P := P) (F := F) (m := m - 1) (s := s2) (by omega)
  have kr := k_rejected (P := P) (F := F) (m := m - 1) (s := s2) (by omega)
  refine ⟨s2, ?_⟩
  have e6 : vIt (cxm P F m) (.val (.call 25 .nil)) [none, some (false, .drw), some (false, y.v), some (false, .str y.txt), o4, some (b5, .lst marks15), o6, o7, o8, o9, o10, none, none, some (true, due0), none, none, none] s2 = .ok (false, [.lst (wLong.map .str), .lst (wBlanks.map .str), .lst (wRows.map .str), .lst (wEnds.map .str)]) s2 := by
    simp [vIt, vE, vEs, kw, wordsV, vItems]
  have ec : ∀ env : VEnv, clr env (shf (.val (.call 25 .nil))) = env := fun _ => rfl
  rw [vB_cons, tailA, VRS.seq_nx, vB_cons, lw15_6_eq, vS_forH, ec, e6, vForI_ok, tailB, VRS.seq_nx, lw15_7_eq]
  have k9 := cm15_ok (P := P) (F := F) (m := m) (s := s2) (by omega) (env := [none, some (false, .drw), some (false, y.v), some (false, .str y.txt), some (false, .tup [.int 4, .int 1, .str tFill, .str tHang, .str tOne]), some (b5, .lst marks15), o6, o7, o8, o9, o10, none, none, some (false, .lst dueL), some (false, .lst (wEnds.map .str)), some (false, .lst dueL), none]) rfl (by simp)
  have ecm : shb cm15 = [4] := rfl
  have el : (dueL.length : Int) = 144 := by decide
  have ka' : vcallN P F (m - 1) 51 [] s2 = .ok (.lst dueL) s2 := ka
  generalize cm15 = ce at *
  simp [vB_nil, vB_cons, vS, vE, vEs, vEb, clr, shr, shb, shrs, shbs, ecm, kr, ka', vcop, veq_due, vbf, el, prD, ofD, k9, vSl, veq_due9]
end
end Ve
end

section
set_option maxRecDepth 100000
set_option maxHeartbeats 0
set_option linter.all false
namespace Ev.Dat
open PySem PySem.Spec PyProof.Rows L2 Ev
def top (i : Nat) : Stmt := PySem.Challenge.pw_linebreakers_k15_whole_forms.main.body.getD i (.Pass ⟨0, 0, 0, 0⟩)
def sub (i j : Nat) : Stmt := match top i with
  | .ClassDef _ _ _ b _ _ _ _ _ _ _ => b.getD j (.Pass ⟨0, 0, 0, 0⟩)
  | _ => .Pass ⟨0, 0, 0, 0⟩
def b_is_int : ISs := (.cons (.ret (.and (.bf (.isin .int) (.cons (.var 0) .nil)) (.and (.not (.bf (.isin .bool) (.cons (.var 0) .nil))) (.cmp2 .le .le (.var 1) (.var 0) (.var 2))))) .nil)
def d_is_int : He.DefD := ⟨(("is_int" : Str), none), "is_int", "is_int", defArgs (top 7), defBody (top 7), defScope (top 7), [], []⟩
def r_is_int : Row := ⟨10, d_is_int, [("value" : Str), ("low" : Str), ("high" : Str)], ⟨3, 3, b_is_int⟩⟩
def b_is_word : ISs := (.cons (.ret (.and (.bf (.isin .str) (.cons (.var 0) .nil)) (.cmp .inn (.var 0) (.var 1)))) .nil)
def d_is_word : He.DefD := ⟨(("is_word" : Str), none), "is_word", "is_word", defArgs (top 13), defBody (top 13), defScope (top 13), [], []⟩
def r_is_word : Row := ⟨15, d_is_word, [("value" : Str), ("words" : Str)], ⟨2, 2, b_is_word⟩⟩
def b_is_way : ISs := (.cons (.ifS (.or (.not (.bf (.isin .tuple) (.cons (.var 0) .nil))) (.cmp .ne (.bf .len (.cons (.var 0) .nil)) (.const (.int 6)))) (.cons (.ret (.const (.bl false))) .nil) .nil) (.cons (.ifS (.or (.not (.call 10 (.cons (.idx (.var 0) (.const (.int 0))) (.cons (.const (.int 2)) (.cons (.const (.int 4)) .nil))))) (.not (.call 10 (.cons (.idx (.var 0) (.const (.int 1))) (.cons (.const (.int 0)) (.cons (.const (.int 1)) .nil)))))) (.cons (.ret (.const (.bl false))) .nil) .nil) (.cons (.asg (.nm 1) (.and (.call 15 (.cons (.idx (.var 0) (.const (.int 2))) (.cons (.glob 7 (.tup [(.str [119, 104, 111, 108, 101]), (.str [99, 117, 116]), (.str [102, 105, 108, 108])])) .nil))) (.call 15 (.cons (.idx (.var 0) (.const (.int 3))) (.cons (.glob 6 (.tup [(.str [100, 114, 111, 112]), (.str [104, 97, 110, 103])])) .nil))))) (.cons (.ret (.and (.var 1) (.and (.call 15 (.cons (.idx (.var 0) (.const (.int 4))) (.cons (.glob 5 (.tup [(.str [107, 101, 101, 112]), (.str [111, 110, 101])])) .nil))) (.call 15 (.cons (.idx (.var 0) (.const (.int 5))) (.cons (.glob 4 (.tup [(.str [107, 101, 112, 116]), (.str [102, 105, 108, 108, 101, 100])])) .nil)))))) .nil))))
def d_is_way : He.DefD := ⟨(("is_way" : Str), none), "is_way", "is_way", defArgs (top 14), defBody (top 14), defScope (top 14), [], []⟩
def r_is_way : Row := ⟨16, d_is_way, [("value" : Str), ("words" : Str)], ⟨1, 2, b_is_way⟩⟩
def b_check_way : ISs := (.cons (.ifS (.not (.call 16 (.cons (.var 0) .nil))) (.cons (.raise 1) .nil) .nil) .nil)
def d_check_way : He.DefD := ⟨(("check_way" : Str), none), "check_way", "check_way", defArgs (top 15), defBody (top 15), defScope (top 15), [], []⟩
def r_check_way : Row := ⟨17, d_check_way, [("value" : Str)], ⟨1, 1, b_check_way⟩⟩
def b_all_ways : ISs := (.cons (.asg (.nm 0) (.lst .nil)) (.cons (.forS (.nm 1) (.val (.tup (.cons (.const (.int 2)) (.cons (.const (.int 3)) (.cons (.const (.int 4)) .nil))))) (.cons (.forS (.nm 2) (.val (.tup (.cons (.const (.int 0)) (.cons (.const (.int 1)) .nil)))) (.cons (.forS (.nm 3) (.val (.glob 7 (.tup [(.str [119, 104, 111, 108, 101]), (.str [99, 117, 116]), (.str [102, 105, 108, 108])]))) (.cons (.forS (.nm 4) (.val (.glob 6 (.tup [(.str [100, 114, 111, 112]), (.str [104, 97, 110, 103])]))) (.cons (.forS (.nm 5) (.val (.glob 5 (.tup [(.str [107, 101, 101, 112]), (.str [111, 110, 101])]))) (.cons (.aug 0 .add (.comp (.tup (.cons (.var 1) (.cons (.var 2) (.cons (.var 3) (.cons (.var 4) (.cons (.var 5) (.cons (.var 6) .nil))))))) (.nm 6) (.val (.glob 4 (.tup [(.str [107, 101, 112, 116]), (.str [102, 105, 108, 108, 101, 100])]))) (.const (.bl true)) [6])) .nil)) .nil)) .nil)) .nil)) .nil)) (.cons (.ret (.var 0)) .nil)))
def d_all_ways : He.DefD := ⟨(("all_ways" : Str), none), "all_ways", "all_ways", defArgs (top 16), defBody (top 16), defScope (top 16), [], []⟩
def r_all_ways : Row := ⟨51, d_all_ways, [("found" : Str), ("width" : Str), ("hyphens" : Str), ("long" : Str), ("blanks" : Str), ("rows" : Str), ("ends" : Str)], ⟨0, 7, b_all_ways⟩⟩
def b_format_way : ISs := (.cons (.expr (.call 17 (.cons (.var 0) .nil))) (.cons (.ret (.bm .join (.const (.str [32])) (.cons (.comp (.bf .strOf (.cons (.var 1) .nil)) (.nm 1) (.val (.var 0)) (.const (.bl true)) [1]) .nil))) .nil))
def d_format_way : He.DefD := ⟨(("format_way" : Str), none), "format_way", "format_way", defArgs (top 18), defBody (top 18), defScope (top 18), [], []⟩
def r_format_way : Row := ⟨145, d_format_way, [("way" : Str), ("one" : Str)], ⟨1, 2, b_format_way⟩⟩
def b_item_in : ISs := (.cons (.ret (.ite (.cmp .inn (.var 0) (.tup (.cons (.const (.str [48])) (.cons (.const (.str [49])) (.cons (.const (.str [50])) (.cons (.const (.str [51])) (.cons (.const (.str [52])) .nil))))))) (.bf .intOf (.cons (.var 0) .nil)) (.var 0))) .nil)
def d_item_in : He.DefD := ⟨(("item_in" : Str), none), "item_in", "item_in", defArgs (top 19), defBody (top 19), defScope (top 19), [], []⟩
def r_item_in : Row := ⟨146, d_item_in, [("word" : Str)], ⟨1, 1, b_item_in⟩⟩
def b_parse_way : ISs := (.cons (.ifS (.not (.bf (.isin .str) (.cons (.var 0) .nil))) (.cons (.raise 4) .nil) .nil) (.cons (.asg (.nm 2) (.bf .tupOf (.cons (.comp (.call 146 (.cons (.var 1) .nil)) (.nm 1) (.val (.bm .split (.var 0) (.cons (.const (.str [32])) .nil))) (.const (.bl true)) [1]) .nil))) (.cons (.ifS (.not (.call 16 (.cons (.var 2) .nil))) (.cons (.raise 4) .nil) .nil) (.cons (.ret (.var 2)) .nil))))
def d_parse_way : He.DefD := ⟨(("parse_way" : Str), none), "parse_way", "parse_way", defArgs (top 20), defBody (top 20), defScope (top 20), [], []⟩
def r_parse_way : Row := ⟨147, d_parse_way, [("text" : Str), ("word" : Str), ("found" : Str)], ⟨1, 3, b_parse_way⟩⟩
def b_l_law_draw : ISs := (.cons (.asg (.nm 2) (.idx (.var 0) (.const (.int 0)))) (.cons (.asg (.sub (.var 0) (.const (.int 1))) (.bin .add (.idx (.var 0) (.const (.int 1))) (.const (.int 1)))) (.cons (.asg (.nm 3) (.bin .mod (.idx (.var 0) (.const (.int 1))) (.bf .len (.cons (.var 2) .nil)))) (.cons (.asg (.nm 4) (.idx (.var 2) (.var 3))) (.cons (.ifS (.cmp .ge (.var 4) (.const (.int 1000000000000000000))) (.cons (.asg (.sub (.var 2) (.var 3)) (.bin .fdiv (.var 4) (.var 1))) (.cons (.ret (.bin .mod (.var 4) (.var 1))) .nil)) .nil) (.cons (.asg (.nm 5) (.bin .mod (.bin .add (.var 4) (.bin .mul (.const (.int 104729)) (.idx (.var 0) (.const (.int 1))))) (.const (.int 4294967291)))) (.cons (.asg (.nm 5) (.bin .mod (.bin .pow (.var 5) (.const (.int 5))) (.const (.int 4294967279)))) (.cons (.ret (.bin .mod (.bin .fdiv (.bin .mod (.bin .add (.bin .mul (.bin .fdiv (.var 5) (.const (.int 64))) (.const (.int 69621))) (.var 5)) (.const (.int 4294967231))) (.const (.int 8))) (.var 1))) .nil))))))))
def d_l_law_draw : He.DefD := ⟨(("_law_draw" : Str), none), "_law_draw", "_law_draw", defArgs (top 23), defBody (top 23), defScope (top 23), [], []⟩
def r_l_law_draw : Row := ⟨23, d_l_law_draw, [("_law_draws" : Str), ("_law_limit" : Str), ("_law_numbers" : Str), ("_law_at" : Str), ("_law_cell" : Str), ("_law_mixed" : Str)], ⟨2, 6, b_l_law_draw⟩⟩
def b_l_law_pick : ISs := (.cons (.ret (.idx (.var 1) (.call 23 (.cons (.var 0) (.cons (.bf .len (.cons (.var 1) .nil)) .nil))))) .nil)
def d_l_law_pick : He.DefD := ⟨(("_law_pick" : Str), none), "_law_pick", "_law_pick", defArgs (top 24), defBody (top 24), defScope (top 24), [], []⟩
def r_l_law_pick : Row := ⟨24, d_l_law_pick, [("_law_draws" : Str), ("_law_choices" : Str)], ⟨2, 2, b_l_law_pick⟩⟩
def b_l_law_error : ISs := (.cons (.asg (.nm 1) (.lst (.cons (.bf (.isin (.cls 1)) (.cons (.var 0) .nil)) (.cons (.bf (.isin (.cls 2)) (.cons (.var 0) .nil)) (.cons (.bf (.isin (.cls 3)) (.cons (.var 0) .nil)) .nil))))) (.cons (.asg (.nm 1) (.bin .add (.var 1) (.lst (.cons (.bf (.isin (.cls 4)) (.cons (.var 0) .nil)) (.cons (.bf (.isin (.cls 5)) (.cons (.var 0) .nil)) .nil))))) (.cons (.ifS (.or (.cmp .ne (.bm .count (.var 1) (.cons (.const (.bl true)) .nil)) (.const (.int 1))) (.or (.not (.bf (.isin (.cls 0)) (.cons (.var 0) .nil))) (.not (.bf (.isin .verr) (.cons (.var 0) .nil))))) (.cons (.ret (.const (.str [111, 100, 100]))) .nil) .nil) (.cons (.ret (.idx (.lst (.cons (.const (.str [119, 97, 121])) (.cons (.const (.str [116, 101, 120, 116])) (.cons (.const (.str [110, 117, 109, 98, 101, 114])) (.cons (.const (.str [102, 111, 114, 109])) (.cons (.const (.str [110, 111, 110, 101])) .nil)))))) (.bm .index (.var 1) (.cons (.const (.bl true)) .nil)))) .nil))))
def d_l_law_error : He.DefD := ⟨(("_law_error" : Str), none), "_law_error", "_law_error", defArgs (top 25), defBody (top 25), defScope (top 25), [], []⟩
def r_l_law_error : Row := ⟨45, d_l_law_error, [("_law_caught" : Str), ("_law_kinds" : Str)], ⟨1, 2, b_l_law_error⟩⟩
def b_l_law_words : ISs := (.cons (.ret (.lst (.cons (.lst (.cons (.const (.str [119, 104, 111, 108, 101])) (.cons (.const (.str [99, 117, 116])) (.cons (.const (.str [102, 105, 108, 108])) .nil)))) (.cons (.lst (.cons (.const (.str [100, 114, 111, 112])) (.cons (.const (.str [104, 97, 110, 103])) .nil))) (.cons (.lst (.cons (.const (.str [107, 101, 101, 112])) (.cons (.const (.str [111, 110, 101])) .nil))) (.cons (.lst (.cons (.const (.str [107, 101, 112, 116])) (.cons (.const (.str [102, 105, 108, 108, 101, 100])) .nil))) .nil)))))) .nil)
def d_l_law_words : He.DefD := ⟨(("_law_words" : Str), none), "_law_words", "_law_words", defArgs (top 26), defBody (top 26), defScope (top 26), [], []⟩
def r_l_law_words : Row := ⟨25, d_l_law_words, [], ⟨0, 0, b_l_law_words⟩⟩
def b_l_law_way : ISs := (.cons (.ret (.bin .add (.tup (.cons (.bin .add (.const (.int 2)) (.call 23 (.cons (.var 0) (.cons (.const (.int 3)) .nil)))) (.cons (.call 23 (.cons (.var 0) (.cons (.const (.int 2)) .nil))) .nil))) (.bf .tupOf (.cons (.comp (.call 24 (.cons (.var 0) (.cons (.var 1) .nil))) (.nm 1) (.val (.call 25 .nil)) (.const (.bl true)) [1]) .nil)))) .nil)
def d_l_law_way : He.DefD := ⟨(("_law_way" : Str), none), "_law_way", "_law_way", defArgs (top 27), defBody (top 27), defScope (top 27), [], []⟩
def r_l_law_way : Row := ⟨26, d_l_law_way, [("_law_draws" : Str), ("_law_words_here" : Str)], ⟨1, 2, b_l_law_way⟩⟩
def b_l_law_parsed : ISs := (.cons (.asg (.nm 1) (.const .non)) (.cons (.asg (.nm 2) (.const .non)) (.cons (.tryAs (.cons (.asg (.nm 1) (.call 147 (.cons (.var 0) .nil))) .nil) 2 3) (.cons (.ret (.ite (.cmp .is_ (.var 2) (.const .non)) (.var 1) (.call 45 (.cons (.var 2) .nil)))) .nil))))
def d_l_law_parsed : He.DefD := ⟨(("_law_parsed" : Str), none), "_law_parsed", "_law_parsed", defArgs (top 28), defBody (top 28), defScope (top 28), [], []⟩
def r_l_law_parsed : Row := ⟨148, d_l_law_parsed, [("_law_text" : Str), ("_law_found" : Str), ("_law_caught" : Str), ("e" : Str)], ⟨1, 4, b_l_law_parsed⟩⟩
def b_l_law_rejected : ISs := (.cons (.asg (.nm 0) (.lst (.cons (.const .non) (.cons (.const (.int 5)) (.cons (.const (.str [])) (.cons (.const (.str [32])) (.cons (.const (.str [51, 32, 48, 32, 99, 117, 116, 32, 100, 114, 111, 112, 32, 107, 101, 101, 112])) (.cons (.const (.str [51, 32, 48, 32, 99, 117, 116, 32, 100, 114, 111, 112, 32, 107, 101, 101, 112, 32, 107, 101, 112, 116, 32])) (.cons (.const (.str [32, 51, 32, 48, 32, 99, 117, 116, 32, 100, 114, 111, 112, 32, 107, 101, 101, 112, 32, 107, 101, 112, 116])) (.cons (.const (.str [51, 32, 32, 48, 32, 99, 117, 116, 32, 100, 114, 111, 112, 32, 107, 101, 101, 112, 32, 107, 101, 112, 116])) .nil)))))))))) (.cons (.asg (.nm 0) (.bin .add (.var 0) (.lst (.cons (.const (.str [49, 32, 48, 32, 99, 117, 116, 32, 100, 114, 111, 112, 32, 107, 101, 101, 112, 32, 107, 101, 112, 116])) (.cons (.const (.str [53, 32, 48, 32, 99, 117, 116, 32, 100, 114, 111, 112, 32, 107, 101, 101, 112, 32, 107, 101, 112, 116])) (.cons (.const (.str [51, 32, 50, 32, 99, 117, 116, 32, 100, 114, 111, 112, 32, 107, 101, 101, 112, 32, 107, 101, 112, 116])) (.cons (.const (.str [51, 32, 48, 32, 67, 117, 116, 32, 100, 114, 111, 112, 32, 107, 101, 101, 112, 32, 107, 101, 112, 116])) (.cons (.const (.str [51, 32, 48, 32, 100, 114, 111, 112, 32, 99, 117, 116, 32, 107, 101, 101, 112, 32, 107, 101, 112, 116])) .nil)))))))) (.cons (.asg (.nm 0) (.bin .add (.var 0) (.lst (.cons (.const (.str [51, 32, 48, 32, 99, 117, 116, 32, 100, 114, 111, 112, 32, 107, 101, 112, 116, 32, 107, 101, 101, 112])) (.cons (.const (.str [51, 44, 48, 44, 99, 117, 116, 44, 100, 114, 111, 112, 44, 107, 101, 101, 112, 44, 107, 101, 112, 116])) (.cons (.const (.str [48, 51, 32, 48, 32, 99, 117, 116, 32, 100, 114, 111, 112, 32, 107, 101, 101, 112, 32, 107, 101, 112, 116])) (.cons (.const (.str [51, 32, 48, 32, 99, 117, 116, 32, 100, 114, 111, 112, 32, 107, 101, 101, 112, 32, 107, 101, 112, 116, 10])) (.cons (.lst (.cons (.const (.str [51, 32, 48, 32, 99, 117, 116, 32, 100, 114, 111, 112, 32, 107, 101, 101, 112, 32, 107, 101, 112, 116])) .nil)) .nil)))))))) (.cons (.asg (.nm 0) (.bin .add (.var 0) (.lst (.cons (.tup (.cons (.const (.int 3)) (.cons (.const (.int 0)) (.cons (.const (.str [99, 117, 116])) (.cons (.const (.str [100, 114, 111, 112])) (.cons (.const (.str [107, 101, 101, 112])) (.cons (.const (.str [107, 101, 112, 116])) .nil))))))) (.cons (.const (.str [51, 32, 48, 32, 99, 117, 116, 9, 100, 114, 111, 112, 32, 107, 101, 101, 112, 32, 107, 101, 112, 116])) (.cons (.const (.str [51, 32, 48, 32, 99, 117, 116, 32, 100, 114, 111, 112, 32, 107, 101, 101, 112, 32, 107, 101, 112, 116, 32, 48])) (.cons (.const (.str [99, 117, 116, 32, 48, 32, 51, 32, 100, 114, 111, 112, 32, 107, 101, 101, 112, 32, 107, 101, 112, 116])) (.cons (.const (.str [51, 32, 48, 32, 48, 32, 100, 114, 111, 112, 32, 107, 101, 101, 112, 32, 107, 101, 112, 116])) (.cons (.bin .mul (.const (.str [49])) (.const (.int 4000))) .nil))))))))) (.cons (.ret (.cmp .eq (.comp (.call 148 (.cons (.var 1) .nil)) (.nm 1) (.val (.var 0)) (.const (.bl true)) [1]) (.bin .mul (.lst (.cons (.const (.str [102, 111, 114, 109])) .nil)) (.const (.int 24))))) .nil)))))
def d_l_law_rejected : He.DefD := ⟨(("_law_rejected" : Str), none), "_law_rejected", "_law_rejected", defArgs (top 29), defBody (top 29), defScope (top 29), [], []⟩
def r_l_law_rejected : Row := ⟨149, d_l_law_rejected, [("_law_odd" : Str), ("_law_bad" : Str)], ⟨0, 2, b_l_law_rejected⟩⟩
def d_l_law_start : He.DefD := ⟨(("_law_start" : Str), none), "_law_start", "_law_start", defArgs (top 22), defBody (top 22), defScope (top 22), [], []⟩
def d_law : He.DefD := ⟨(("law" : Str), none), "law", "law", defArgs (top 30), defBody (top 30), defScope (top 30), [], []⟩
def lawTree : ISs := (.cons (.asg (.nm 2) (.call 26 (.cons (.var 1) .nil))) (.cons (.asg (.nm 3) (.call 145 (.cons (.var 2) .nil))) (.cons (.ifS (.or (.cmp .ne (.var 3) (.bm .join (.const (.str [32])) (.cons (.comp (.bf .strOf (.cons (.var 4) .nil)) (.nm 4) (.val (.var 2)) (.const (.bl true)) [4]) .nil))) (.cmp .ne (.call 148 (.cons (.var 3) .nil)) (.var 2))) (.cons (.ret (.const (.bl false))) .nil) .nil) (.cons (.asg (.nm 5) (.lst (.cons (.const (.str [48])) (.cons (.const (.str [49])) (.cons (.const (.str [50])) (.cons (.const (.str [51])) (.cons (.const (.str [52])) (.cons (.const (.str [32])) (.cons (.const (.str [99, 117, 116])) (.cons (.const (.str [102, 105, 108, 108])) (.cons (.const (.str [111, 110, 101])) (.cons (.const (.str [120])) (.cons (.const (.str [])) (.cons (.const (.str [45])) .nil)))))))))))))) (.cons (.forS (.nm 6) (.rng1 (.const (.int 16))) (.cons (.asg (.tp (.cons (.nm 7) (.cons (.nm 8) .nil))) (.tup (.cons (.call 23 (.cons (.var 1) (.cons (.bin .add (.bf .len (.cons (.var 3) .nil)) (.const (.int 1))) .nil))) (.cons (.call 24 (.cons (.var 1) (.cons (.var 5) .nil))) .nil)))) (.cons (.asg (.nm 9) (.call 24 (.cons (.var 1) (.cons (.lst (.cons (.bin .add (.bin .add (.slcT (.var 3) (.var 7)) (.var 8)) (.slcF (.var 3) (.bin .add (.var 7) (.const (.int 1))))) (.cons (.bin .add (.bin .add (.slcT (.var 3) (.var 7)) (.var 8)) (.slcF (.var 3) (.var 7))) (.cons (.bin .add (.bin .add (.bin .add (.slcT (.var 3) (.var 7)) (.const (.str [32]))) (.var 8)) (.slcF (.var 3) (.var 7))) .nil)))) .nil)))) (.cons (.asg (.nm 10) (.call 148 (.cons (.var 9) .nil))) (.cons (.ifS (.and (.cmp .ne (.var 10) (.const (.str [102, 111, 114, 109]))) (.cmp .ne (.bm .join (.const (.str [32])) (.cons (.comp (.bf .strOf (.cons (.var 4) .nil)) (.nm 4) (.val (.var 10)) (.const (.bl true)) [4]) .nil)) (.var 9))) (.cons (.ret (.const (.bl false))) .nil) .nil) (.cons (.ifS (.and (.cmp .ne (.var 10) (.const (.str [102, 111, 114, 109]))) (.cmp .isn (.call 16 (.cons (.var 10) .nil)) (.const (.bl true)))) (.cons (.ret (.const (.bl false))) .nil) .nil) .nil)))))) (.cons (.asg (.nm 13) (.comp (.tup (.cons (.var 11) (.cons (.var 12) .nil))) (.tp (.cons (.nm 11) (.cons (.nm 12) .nil))) (.val (.lst (.cons (.tup (.cons (.const (.int 2)) (.cons (.const (.int 0)) .nil))) (.cons (.tup (.cons (.const (.int 2)) (.cons (.const (.int 1)) .nil))) (.cons (.tup (.cons (.const (.int 3)) (.cons (.const (.int 0)) .nil))) (.cons (.tup (.cons (.const (.int 3)) (.cons (.const (.int 1)) .nil))) (.cons (.tup (.cons (.const (.int 4)) (.cons (.const (.int 0)) .nil))) (.cons (.tup (.cons (.const (.int 4)) (.cons (.const (.int 1)) .nil))) .nil)))))))) (.const (.bl true)) [11, 12])) (.cons (.forS (.nm 14) (.val (.call 25 .nil)) (.cons (.asg (.nm 15) (.lst .nil)) (.cons (.forS (.nm 4) (.val (.var 13)) (.cons (.asg (.nm 15) (.bin .add (.var 15) (.comp (.bin .add (.var 4) (.tup (.cons (.var 16) .nil))) (.nm 16) (.val (.var 14)) (.const (.bl true)) [16]))) .nil)) (.cons (.asg (.nm 13) (.var 15)) .nil)))) (.cons (.ret (.and (.call 149 .nil) (.and (.cmp .eq (.call 51 .nil) (.var 13)) (.and (.cmp .eq (.bf .len (.cons (.var 13) .nil)) (.const (.int 144))) (.cmp .eq (.comp (.call 148 (.cons (.call 145 (.cons (.var 4) .nil)) .nil)) (.nm 4) (.val (.slcT (.var 13) (.const (.int 9)))) (.const (.bl true)) [4]) (.slcT (.var 13) (.const (.int 9)))))))) .nil))))))))
def lawRest : List Stmt := (lawB d_law.body).getD []
def lawN : List Str := [("_law_script" : Str), ("_law_draws" : Str), ("_law_way_here" : Str), ("_law_text" : Str), ("_law_one" : Str), ("_law_marks" : Str), ("_law_turn_here" : Str), ("_law_at" : Str), ("_law_mark" : Str), ("_law_other" : Str), ("_law_found" : Str), ("_law_width" : Str), ("_law_hyphens" : Str), ("_law_due" : Str), ("_law_words_here" : Str), ("_law_longer" : Str), ("_law_word" : Str)]
def rows : List Row := [r_is_int, r_is_word, r_is_way, r_check_way, r_all_ways, r_format_way, r_item_in, r_parse_way, r_l_law_draw, r_l_law_pick, r_l_law_error, r_l_law_words, r_l_law_way, r_l_law_parsed, r_l_law_rejected]
def fns : List (Nat × Str) := [(10, ("is_int" : Str)), (15, ("is_word" : Str)), (16, ("is_way" : Str)), (17, ("check_way" : Str)), (51, ("all_ways" : Str)), (145, ("format_way" : Str)), (146, ("item_in" : Str)), (147, ("parse_way" : Str)), (23, ("_law_draw" : Str)), (24, ("_law_pick" : Str)), (45, ("_law_error" : Str)), (25, ("_law_words" : Str)), (26, ("_law_way" : Str)), (148, ("_law_parsed" : Str)), (149, ("_law_rejected" : Str))]
def own : List (Nat × Str) := []
def exn : List (Nat × Str) := [(0, ("BreakError" : Str)), (1, ("BadWay" : Str)), (2, ("BadText" : Str)), (3, ("BadNumber" : Str)), (4, ("BadForm" : Str)), (5, ("NotFound" : Str))]
def ini : List (Nat × Nat) := []
def met : List (Nat × Nat × Nat) := []
def mnp : List (Nat × Nat) := []
def con : List (Nat × Str × Ev.D) := [(7, ("LONG" : Str), (.tup [(.str [119, 104, 111, 108, 101]), (.str [99, 117, 116]), (.str [102, 105, 108, 108])])), (6, ("BLANKS" : Str), (.tup [(.str [100, 114, 111, 112]), (.str [104, 97, 110, 103])])), (5, ("ROWS" : Str), (.tup [(.str [107, 101, 101, 112]), (.str [111, 110, 101])])), (4, ("ENDS" : Str), (.tup [(.str [107, 101, 112, 116]), (.str [102, 105, 108, 108, 101, 100])]))]
def fld : List Str := []
def mtn : List Str := []
def T : Tab := ⟨rows, fns, own, exn, ini, met, con, fld, mtn, mnp⟩
def A : Top := ⟨T, d_l_law_start, d_law, lawN, lawRest, lawTree⟩
def loose0 : List Str := [("BreakError" : Str), ("BadWay" : Str), ("BadText" : Str), ("BadNumber" : Str), ("BadForm" : Str), ("NotFound" : Str), ("is_int" : Str), ("LONG" : Str), ("BLANKS" : Str), ("ROWS" : Str), ("ENDS" : Str), ("is_word" : Str), ("is_way" : Str), ("check_way" : Str), ("all_ways" : Str), ("format_way" : Str), ("item_in" : Str), ("parse_way" : Str), ("_law_start" : Str), ("_law_draw" : Str), ("_law_pick" : Str), ("_law_error" : Str), ("_law_words" : Str), ("_law_way" : Str), ("_law_parsed" : Str), ("_law_rejected" : Str)]
def loose : List Str := loose0
abbrev R : PySem.W.OpenRow := PySem.W.OpenLaw.row PySem.Challenge.rw_linebreakers_k15_whole_forms
abbrev q : Program := PySem.W.view R.prog [30]
abbrev hk : PySem.W.Hook := He.hookX 5 [] A.fn [] [] A.ex
def ob (s : PySem.W.SharedT) : He.AlX := He.obsX 5 [] A.fn [] [] A.ex (HandSHeadRun.getT s)
theorem ob_eq (s : PySem.W.SharedT) : ob s = hk.obs s.abs := He.obsX_eq (HandSHeadRun.getT_eq s)
theorem aok : A.Ok := ⟨by decide +kernel, by decide +kernel, by decide +kernel, by decide +kernel, by decide +kernel, by decide +kernel, by decide +kernel, by decide +kernel, rfl, by kernel_rfl, by decide +kernel, by decide +kernel, by decide +kernel, by decide +kernel, by decide +kernel, by decide +kernel, by decide +kernel, by decide +kernel, by decide +kernel, by decide +kernel, rfl⟩
set_option maxHeartbeats 0 in
theorem run (w : World) : HandSHeadRun.RunEq R q hk ob 20000 loose w := by
  intro os
  kernel_rfl
end Ev.Dat
theorem k15_end (F n : Nat) (hr : L2.Room (n + 2) PySem.callerA) (plain : Ev.Dat.A.Plain F n) : PySem.Challenge.rw_linebreakers_k15_whole_forms.Holds := by
  w_on; o_law
  refine HandSHeadRun.head_any (r := PySem.W.OpenLaw.row PySem.Challenge.rw_linebreakers_k15_whole_forms) (q := Ev.Dat.q) (H := Ev.Dat.hk) (ob := Ev.Dat.ob) (M := 20000) (loose := Ev.Dat.loose) (d := HandSHeadRun.topDef (PySem.W.OpenLaw.row PySem.Challenge.rw_linebreakers_k15_whole_forms).prog 30) (kwd := []) Ev.Dat.ob_eq
    (by kernel_rfl) (fun s => by kernel_rfl) Ev.Dat.run (by kernel_rfl) (by kernel_rfl) (by kernel_rfl) (by rfl) (by first | assumption | decide +kernel) (by decide +kernel) ⟨rfl, rfl, rfl, rfl, rfl, by decide +kernel⟩ ?hw ?hc
  case hw => w_witness2
  case hc =>
    refine L2.walk_ofE (l := PySem.Challenge.rw_linebreakers_k15_whole_forms) (n := 63) (k := n + 2) (x := "_law_script") (CX := Ev.CXa PySem.Challenge.rw_linebreakers_k15_whole_forms.prog) rfl (by decide) (by kernel_rfl) hr ?F (fun _ _ _ _ z => Ev.cxa_no z)
    intro w mg fa h Y G hmg0
    obtain ⟨K, KX, c⟩ := Y
    have hmg : mg ("law" : PySem.Str) = some (.ref fa) := by
      have e : (HandSHeadRun.topDef (PySem.W.OpenLaw.row PySem.Challenge.rw_linebreakers_k15_whole_forms).prog 30).name = ("law" : PySem.Str) := by kernel_rfl
      rw [← e]
      exact hmg0
    obtain ⟨fd, hb, hF⟩ := Ev.top_end (P := PySem.Challenge.rw_linebreakers_k15_whole_forms.prog) Ev.Dat.A Ev.Dat.aok plain c KX G hmg
    exact ⟨K, fd, _, KX, hb, fun H a ns hl _ hS => ⟨a, ns, rfl, hS, hl, fun _ => rfl⟩, hF⟩
end

section
set_option maxRecDepth 100000
set_option maxHeartbeats 0
namespace Ve
open Ev
instance : F_l_law_pick Ev.Dat.A.T.P := ⟨by kernel_rfl!⟩
instance : F_l_law_way Ev.Dat.A.T.P := ⟨by kernel_rfl!⟩
instance : F_l_law_words Ev.Dat.A.T.P := ⟨by kernel_rfl!⟩
instance : F_l_law_rejected Ev.Dat.A.T.P := ⟨by kernel_rfl!⟩
instance : F_l_law_parsed Ev.Dat.A.T.P := ⟨by kernel_rfl!⟩
instance : F_l_law_error Ev.Dat.A.T.P := ⟨by kernel_rfl!⟩
instance : F_format_way Ev.Dat.A.T.P := ⟨by kernel_rfl!⟩
instance : F_parse_way Ev.Dat.A.T.P := ⟨by kernel_rfl!⟩
instance : F_item_in Ev.Dat.A.T.P := ⟨by kernel_rfl!⟩
instance : F_check_way Ev.Dat.A.T.P := ⟨by kernel_rfl!⟩
instance : F_is_way Ev.Dat.A.T.P := ⟨by kernel_rfl!⟩
instance : F_is_int Ev.Dat.A.T.P := ⟨by kernel_rfl!⟩
instance : F_is_word Ev.Dat.A.T.P := ⟨by kernel_rfl!⟩
instance : F_all_ways Ev.Dat.A.T.P := ⟨by kernel_rfl!⟩
theorem plain_k15 : Ev.Dat.A.Plain 10 18 := plain_of Ev.Dat.A (by kernel_rfl!) fun dr => law15 (P := Ev.Dat.A.T.P) (F := 10) (m := 20) (by decide) dr
end Ve
end
open PySem PySem.W PyProof.Rows
set_option maxRecDepth 100000 in
set_option maxHeartbeats 8000000 in
theorem PySem.Challenge.cw_linebreakers_k15_whole_forms_holds : PySem.Challenge.rw_linebreakers_k15_whole_forms.Holds := by
  exact k15_end 10 18 ⟨rfl, by decide, by decide⟩ Ve.plain_k15
