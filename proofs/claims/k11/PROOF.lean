import PyProof.Rows.All
import Wide.All
import OpenK.AllK
import Wide.FinOn
import HandS.ForMost
import HandS.Exc
import HandS.ExcOwn
import KE.KeyNested
import HandS.IsInst
import HandS.TupAny
import HandS.TupMul
import HandS.Style
import KE.DataEq
import HandS.TryMany
import HandS.Defaults
import HandS.HeadHook1
import HandS.HeadHook2
import HandS.HeadEnd
import KE.KStateDown
import Lean
import HandS.Head0
import HandS.Head1
import HandS.Head2
import PySem.Challenge.RW_weighedin_k11_what_is_shown
set_option Elab.async false
set_option linter.all false
set_option maxRecDepth 100000
/-! Core1: values, the logical heap, the small language, its evaluator. -/
namespace WG
open PySem

/-- values: tuples, and lists and dicts that nobody changes any more, by what they hold; an object that may change by its number -/
inductive D where
  | non | bl (b : Bool) | int (i : Int) | str (x : Str)
  | tup (xs : List D) | lst (xs : List D) | dct (t : Bool) (ks vs : List D) | ref (n : Nat) | fn (f : Nat) | scr (is : List Int)
instance : Inhabited D := ⟨.non⟩

namespace D
mutual
def beq : D → D → Bool
  | .non, .non => true
  | .bl a, .bl b => a == b
  | .int a, .int b => decide (a = b)
  | .str a, .str b => decide (a = b)
  | .tup a, .tup b => beqL a b
  | .lst a, .lst b => beqL a b
  | .dct t a b, .dct u c d => t == u && beqL a c && beqL b d
  | .ref a, .ref b => a == b
  | .fn a, .fn b => a == b
  | .scr a, .scr b => decide (a = b)
  | _, _ => false
def beqL : List D → List D → Bool
  | [], [] => true
  | a :: as, b :: bs => beq a b && beqL as bs
  | _, _ => false
end
mutual
theorem beq_self : ∀ a : D, beq a a = true
  | .non => rfl
  | .bl a => by simp [beq]
  | .int a => by simp [beq]
  | .str a => by simp [beq]
  | .tup a => by rw [beq]; exact beqL_self a
  | .lst a => by rw [beq]; exact beqL_self a
  | .dct t a b => by rw [beq, beqL_self a, beqL_self b]; simp
  | .ref a => by simp [beq]
  | .fn a => by simp [beq]
  | .scr a => by simp [beq]
theorem beqL_self : ∀ a : List D, beqL a a = true
  | [] => rfl
  | a :: as => by rw [beqL, beq_self a, beqL_self as]; rfl
end
mutual
theorem eq_of_beq : ∀ a b : D, beq a b = true → a = b
  | .non, b, h => by cases b <;> first | rfl | simp [beq] at h
  | .bl a, b, h => by cases b <;> first | (simp [beq] at h; rw [h]) | simp [beq] at h
  | .int a, b, h => by cases b <;> first | (simp [beq] at h; rw [h]) | simp [beq] at h
  | .str a, b, h => by cases b <;> first | (simp [beq] at h; rw [h]) | simp [beq] at h
  | .tup a, b, h => by
    cases b with
    | tup b => rw [beq] at h; rw [eq_of_beqL a b h]
    | _ => simp [beq] at h
  | .lst a, b, h => by
    cases b with
    | lst b => rw [beq] at h; rw [eq_of_beqL a b h]
    | _ => simp [beq] at h
  | .dct t a b, c, h => by
    cases c with
    | dct u c d =>
      rw [beq] at h
      simp only [Bool.and_eq_true, beq_iff_eq] at h
      rw [h.1.1, eq_of_beqL a c h.1.2, eq_of_beqL b d h.2]
    | _ => simp [beq] at h
  | .ref a, b, h => by cases b <;> first | (simp [beq] at h; rw [h]) | simp [beq] at h
  | .fn a, b, h => by cases b <;> first | (simp [beq] at h; rw [h]) | simp [beq] at h
  | .scr a, b, h => by cases b <;> first | (simp [beq] at h; rw [h]) | simp [beq] at h
theorem eq_of_beqL : ∀ a b : List D, beqL a b = true → a = b
  | [], [], _ => rfl
  | a :: as, b :: bs, h => by
    rw [beqL, Bool.and_eq_true] at h
    rw [eq_of_beq a b h.1, eq_of_beqL as bs h.2]
  | [], _ :: _, h => by simp [beqL] at h
  | _ :: _, [], h => by simp [beqL] at h
end
instance : DecidableEq D := fun a b => if h : beq a b = true then .isTrue (eq_of_beq a b h) else .isFalse fun e => h (e ▸ beq_self a)
theorem beq_decide (a b : D) : beq a b = decide (a = b) := by
  cases h : beq a b with
  | true => exact (decide_eq_true (eq_of_beq a b h)).symm
  | false => exact (decide_eq_false fun e => by rw [e, beq_self] at h; cases h).symm

-- no number of an object lies within
mutual
def nr : D → Bool
  | .ref _ => false
  | .tup xs => nrL xs
  | .lst xs => nrL xs
  | .dct _ ks vs => nrL ks && nrL vs
  | _ => true
def nrL : List D → Bool
  | [] => true
  | a :: as => nr a && nrL as
end
theorem nrL_all : ∀ xs : List D, nrL xs = xs.all nr
  | [] => rfl
  | a :: as => by rw [nrL, List.all_cons, nrL_all as]

-- all numbers of objects within lie under n
mutual
def under (n : Nat) : D → Bool
  | .ref m => decide (m < n)
  | .tup xs => underL n xs
  | .lst xs => underL n xs
  | .dct _ ks vs => underL n ks && underL n vs
  | _ => true
def underL (n : Nat) : List D → Bool
  | [] => true
  | a :: as => under n a && underL n as
end

/-- plain data, at most so deep -/
def ok : Nat → D → Bool
  | _, .non => true
  | _, .bl _ => true
  | _, .int _ => true
  | _, .str _ => true
  | k + 1, .tup xs => xs.all (ok k)
  | k + 1, .lst xs => xs.all (ok k)
  | _, _ => false

-- == of plain data
mutual
def eqv : D → D → Bool
  | .non, .non => true
  | .bl a, .bl b => a == b
  | .bl a, .int j => decide ((if a then 1 else 0) = j)
  | .int i, .bl b => decide (i = (if b then 1 else 0))
  | .int i, .int j => decide (i = j)
  | .str x, .str y => decide (x = y)
  | .tup a, .tup b => eqvL a b
  | .lst a, .lst b => eqvL a b
  | _, _ => false
def eqvL : List D → List D → Bool
  | [], [] => true
  | a :: as, b :: bs => eqv a b && eqvL as bs
  | _, _ => false
end

/-- what may be a key: a tuple of whole numbers, texts, None and such tuples -/
def key : Nat → D → Bool
  | _, .non => true
  | _, .int _ => true
  | _, .str _ => true
  | k + 1, .tup xs => xs.all (key k)
  | _, _ => false
def keyT : D → Bool
  | .tup xs => xs.all (key 6)
  | _ => false
def keyS : D → Bool
  | .int _ => true
  | .str _ => true
  | _ => false
def isKey (t : Bool) (d : D) : Bool := if t then keyT d else keyS d
end D

/-- an object that may change; locked while a loop walks it -/
inductive OD where
  | lst (xs : List D) | lock (xs : List D)
  | dct (t : Bool) (kvs : List (D × D)) | dlock (t : Bool) (kvs : List (D × D))
  | ins (c : Nat) (fs : List (Str × D))
  deriving DecidableEq
abbrev Hs := List OD

inductive Res (α : Type) where
  | ok (a : α) (hs : Hs) | exn (c : Nat) (p : D) (hs : Hs) | bad
def Res.bind {α β : Type} : Res α → (α → Hs → Res β) → Res β
  | .ok a hs, f => f a hs
  | .exn c p hs, _ => .exn c p hs
  | .bad, _ => .bad
@[simp] theorem Res.bind_ok {α β : Type} {a : α} {hs : Hs} {f : α → Hs → Res β} : (Res.ok a hs).bind f = f a hs := rfl
@[simp] theorem Res.bind_exn {α β : Type} {c : Nat} {p : D} {hs : Hs} {f : α → Hs → Res β} : (Res.exn c p hs : Res α).bind f = .exn c p hs := rfl
@[simp] theorem Res.bind_bad {α β : Type} {f : α → Hs → Res β} : (Res.bad : Res α).bind f = .bad := rfl
/-- no exception may leave -/
def Res.calm {α : Type} : Res α → Res α
  | .exn _ _ _ => .bad
  | r => r
@[simp] theorem Res.calm_ok {α : Type} {a : α} {hs : Hs} : (Res.ok a hs).calm = .ok a hs := rfl

inductive BOp where | add | sub | mul | fdiv | mod | pow
  deriving DecidableEq
inductive COp where | eq | ne | lt | le | gt | ge | isin | notin
  deriving DecidableEq
inductive Ty where | int | bool | str | tuple | list
  deriving DecidableEq
inductive Blt where
  | len | isi (t : Ty) | int | str | abs | min2 | max2 | minL | maxL | list | tuple | sorted | sortset | sum | all | any | bool | dict (t : Bool) | enum | zip | vals
  deriving DecidableEq
inductive Mth where | append | pop | popAt | get | join | split
  deriving DecidableEq

mutual
inductive CE where
  | var (i : Nat)
  | cst (d : D)
  | bin (h : Bool) (op : BOp) (a b : CE)
  | neg (a : CE)
  | not (a : CE)
  | and (a b : CE)
  | or (a b : CE)
  | cmp (op : COp) (a b : CE)
  | chain (op op' : COp) (a b c : CE)
  | isN (a : CE)
  | notN (a : CE)
  | ite (c a b : CE)
  | tup (es : CEs)
  | lst (h : Bool) (es : CEs)
  | dct (h t : Bool) (ks vs : CEs)
  | idx (a i : CE)
  | slice (h : Bool) (a : CE) (l : Bool) (lo : CE) (u : Bool) (hi : CE)
  | rev (h : Bool) (a : CE)
  | call (f : Nat) (es : CEs)
  | blt (h : Bool) (b : Blt) (es : CEs)
  | mth (h : Bool) (m : Mth) (o : CE) (es : CEs)
  | comp (h one : Bool) (own : List Nat) (it : It) (c : CE) (e : CE)
inductive CEs where
  | nil
  | cons (e : CE) (es : CEs)
inductive Tg where
  | var (i : Nat)
  | sub (o i : CE)
  | tup (ts : Tgs)
inductive Tgs where
  | nil
  | cons (t : Tg) (ts : Tgs)
inductive It where
  | val (e : CE)
  | rng (lo hi : CE)
  | zip (a b : CE)
  | enm (a : CE)
end

/-- what a clause behind except does -/
inductive Su where
  | ret (d : D) | cont | var (i : Nat)
/-- the classes: 0 is the base of all others -/
def catches (c h : Nat) : Bool := h == c || h == 0
mutual
inductive CS where
  | set (t : Tg) (e : CE)
  | expr (e : CE)
  | ret (e : CE)
  | pass
  | cont
  | ite (c : CE) (a b : CSs)
  | loop (t : Tg) (it : It) (b : CSs)
  | whil (c : CE) (b : CSs)
  | rais (c : Nat)
  | tryc (b : CSs) (hs : List (Nat × Su))
inductive CSs where
  | nil
  | cons (s : CS) (ss : CSs)
end

abbrev Fr := List (Option D)
def line : Nat := 16777216

/-! ### operations on values -/
def fin (h : Bool) (xs : List D) (hs : Hs) : Res D := if h then .ok (.ref hs.length) (hs ++ [.lst xs]) else .ok (.lst xs) hs
def finD (h t : Bool) (kvs : List (D × D)) (hs : Hs) : Res D := if h then .ok (.ref hs.length) (hs ++ [.dct t kvs]) else .ok (.dct t (kvs.map (·.1)) (kvs.map (·.2))) hs

/-- a list's items, whether it may change or not -/
def items (hs : Hs) : D → Option (List D)
  | .lst xs => some xs
  | .ref n => match hs[n]? with | some (.lst xs) => some xs | some (.lock xs) => some xs | _ => none
  | _ => none
/-- a list's or a tuple's items -/
def itemsT (hs : Hs) : D → Option (List D)
  | .tup xs => some xs
  | d => items hs d
/-- a dict's pairs -/
def pairs (_ : Hs) : D → Option (Bool × List (D × D))
  | _ => none
/-- as data for == -/
def data (hs : Hs) (d : D) : Option D :=
  match d with
  | .ref _ => match items hs d with | some xs => if xs.all (D.ok 12) then some (.lst xs) else none | none => none
  | d => if D.ok 13 d then some d else none

def small (i : Int) : Bool := decide (-18446744073709551616 < i) && decide (i < 18446744073709551616)
def rep {α : Type} (xs : List α) (n : Nat) : List α := (List.replicate n xs).flatten

def binD (h : Bool) (op : BOp) (x y : D) (hs : Hs) : Res D :=
  match op, x, y with
  | .add, .int i, .int j => .ok (.int (i + j)) hs
  | .sub, .int i, .int j => .ok (.int (i - j)) hs
  | .mul, .int i, .int j => if small i || small j then .ok (.int (i * j)) hs else .bad
  | .fdiv, .int i, .int j => if 0 < j ∧ j < 1073741824 then .ok (.int (i / j)) hs else .bad
  | .mod, .int i, .int j => if 0 < j then .ok (.int (i % j)) hs else .bad
  | .pow, .int i, .int j => if small i && decide (0 ≤ j) && decide (j ≤ 1000) then .ok (.int (i ^ j.toNat)) hs else .bad
  | .add, .str i, .str j => if i.length + j.length ≤ line then .ok (.str (i ++ j)) hs else .bad
  | .add, .tup a, .tup b => if a.length + b.length ≤ line then .ok (.tup (a ++ b)) hs else .bad
  | .mul, .tup a, .int k => if decide (2 ≤ k) && decide (k ≤ 1000) && decide (1 ≤ a.length) && decide (a.length ≤ 1000) then .ok (.tup (rep a k.toNat)) hs else .bad
  | .add, x, y => match items hs x, items hs y with
    | some a, some b => if a.length + b.length ≤ line then fin h (a ++ b) hs else .bad
    | _, _ => .bad
  | .mul, x, .int k => match items hs x with
    | some a => if decide (-1000 ≤ k) && decide (k ≤ 1000) && decide (a.length * k.toNat ≤ line) then fin h (rep a k.toNat) hs else .bad
    | none => .bad
  | _, _, _ => .bad

def isinD (hs : Hs) (x y : D) : Option Bool :=
  match y with
  | .str j => match x with | .str i => some (!(Builtin.Str.occurrences j i 0 j.length 1).isEmpty) | _ => none
  | y => match itemsT hs y with
    | some ys => if D.ok 12 x && ys.all (D.ok 12) then some (ys.any fun z => D.eqv z x) else none
    | none => match pairs hs y with
      | some (t, kvs) => if D.isKey t x then some (kvs.any fun p => decide (p.1 = x)) else none
      | none => none

def cmpB (op : COp) (x y : D) (hs : Hs) : Option Bool :=
  match op with
  | .eq => match data hs x, data hs y with | some a, some b => some (D.eqv a b) | _, _ => none
  | .ne => match data hs x, data hs y with | some a, some b => some (!D.eqv a b) | _, _ => none
  | .lt => match x, y with | .int i, .int j => some (decide (i < j)) | _, _ => none
  | .le => match x, y with | .int i, .int j => some (decide (i ≤ j)) | _, _ => none
  | .gt => match x, y with | .int i, .int j => some (decide (j < i)) | _, _ => none
  | .ge => match x, y with | .int i, .int j => some (decide (j ≤ i)) | _, _ => none
  | .isin => isinD hs x y
  | .notin => (isinD hs x y).map (!·)

/-- where an index lies -/
def place (n : Nat) (i : Int) : Option Nat := L2.ixN n i
def lookD (kvs : List (D × D)) (k : D) : Option D := (kvs.find? fun p => decide (p.1 = k)).map (·.2)
def putD (kvs : List (D × D)) (k v : D) : List (D × D) := if kvs.any (fun p => decide (p.1 = k)) then kvs.map fun p => if p.1 = k then (p.1, v) else p else kvs ++ [(k, v)]
def idxD (x i : D) (hs : Hs) : Option D :=
  match x with
  | .scr is => match i with
    | .int k => (L2.atI is k).map .int
    | _ => none
  | x => match itemsT hs x with
  | some xs => match i with
    | .int k => L2.atI xs k
    | _ => none
  | none => match pairs hs x with
    | some (t, kvs) => if D.isKey t i then lookD kvs i else none
    | none => none

/-- what may bound a slice -/
def partB : Bool → D → Bool
  | false, .non => true
  | true, .int _ => true
  | _, _ => false
/-- where a slice's bound lies -/
def cutAt (n : Nat) (dflt : Nat) : D → Option Nat
  | .non => some dflt
  | .int i => some (HT.sIx n dflt (some i))
  | _ => none
def cut {α : Type} (xs : List α) (a b : Nat) : List α := (xs.drop a).take (b - a)
def sliceD (h : Bool) (x lo hi : D) (hs : Hs) : Res D :=
  match x with
  | .tup xs => match cutAt xs.length 0 lo, cutAt xs.length xs.length hi with
    | some a, some b => .ok (.tup (cut xs a b)) hs
    | _, _ => .bad
  | x => match items hs x with
    | some xs => match cutAt xs.length 0 lo, cutAt xs.length xs.length hi with
      | some a, some b => fin h (cut xs a b) hs
      | _, _ => .bad
    | none => .bad
def revD (h : Bool) (x : D) (hs : Hs) : Res D :=
  match x with
  | .tup xs => .ok (.tup xs.reverse) hs
  | x => match items hs x with | some xs => fin h xs.reverse hs | none => .bad

def isTy (hs : Hs) : D → Ty → Option Bool
  | .non, _ => some false
  | .bl _, t => some (t == .int || t == .bool)
  | .int _, t => some (t == .int)
  | .str _, t => some (t == .str)
  | .tup _, t => some (t == .tuple)
  | .lst _, t => some (t == .list)
  | .ref n, t => match hs[n]? with
    | some (.lst _) => some (t == .list)
    | some (.lock _) => some (t == .list)
    | _ => none
  | _, _ => none

def intL : List D → Option (List Int)
  | [] => some []
  | .int i :: r => (intL r).map (i :: ·)
  | _ => none
def boolL : List D → Option (List Bool)
  | [] => some []
  | .bl i :: r => (boolL r).map (i :: ·)
  | _ => none
def strL : List D → Option (List Str)
  | [] => some []
  | .str i :: r => (strL r).map (i :: ·)
  | _ => none
/-- the order of texts -/
def strLe (x y : Str) : Bool := !decide (y.cps.toList < x.cps.toList)
def insS {α : Type} (le : α → α → Bool) (x : α) : List α → List α
  | [] => [x]
  | y :: r => if le x y then x :: y :: r else y :: insS le x r
def sortS {α : Type} (le : α → α → Bool) : List α → List α
  | [] => []
  | x :: r => insS le x (sortS le r)
/-- the order of plain data of one shape: tuples of whole numbers -/
def intsOf : D → Option (List Int)
  | .tup xs => intL xs
  | _ => none
def lexLe : List Int → List Int → Bool
  | [], _ => true
  | _ :: _, [] => false
  | a :: as, b :: bs => if a < b then true else if b < a then false else lexLe as bs
def dedupS : List Str → List Str
  | [] => []
  | x :: r => if r.contains x then dedupS r else x :: dedupS r

def lens (hs : Hs) : D → Option Nat
  | .str x => if x.length ≤ line then some x.length else none
  | .scr is => some is.length
  | d => match itemsT hs d with
    | some xs => some xs.length
    | none => none

def bltD (h : Bool) (b : Blt) (ds : List D) (hs : Hs) : Res D :=
  match b, ds with
  | .len, [x] => match lens hs x with | some n => .ok (.int n) hs | none => .bad
  | .isi t, [x] => match isTy hs x t with | some b => .ok (.bl b) hs | none => .bad
  | .int, [.int i] => .ok (.int i) hs
  | .int, [.bl b] => .ok (.int (if b then 1 else 0)) hs
  | .bool, [.bl b] => .ok (.bl b) hs
  | .str, [.int i] => if i.natAbs < 2 ^ 64 then .ok (.str (toString i)) hs else .bad
  | .abs, [.int i] => .ok (.int (if i < 0 then -i else i)) hs
  | .min2, [.int i, .int j] => .ok (.int (if j < i then j else i)) hs
  | .max2, [.int i, .int j] => .ok (.int (if j > i then j else i)) hs
  | .list, [x] => match itemsT hs x with
    | some xs => fin h xs hs
    | none => match pairs hs x with | some (_, kvs) => fin h (kvs.map (·.1)) hs | none => .bad
  | .tuple, [x] => match itemsT hs x with | some xs => .ok (.tup xs) hs | none => .bad
  | .sum, [x] => match (items hs x).bind intL with | some is => .ok (.int is.sum) hs | none => .bad
  | .all, [x] => match (items hs x).bind boolL with | some bs => .ok (.bl (bs.all id)) hs | none => .bad
  | .any, [x] => match (items hs x).bind boolL with | some bs => .ok (.bl (bs.any id)) hs | none => .bad
  | .sortset, [x] => match (items hs x).bind strL with | some ss => if ss.length < 64 then fin h ((sortS strLe (dedupS ss)).map D.str) hs else .bad | none => .bad
  | .sorted, [x] => match (match items hs x with | some xs => some xs | none => (pairs hs x).map fun (p : Bool × List (D × D)) => p.2.map fun (q : D × D) => q.1) with
    | some xs => match xs.mapM intsOf with
      | some is => if is.all (fun (l : List Int) => l.length == 2) then fin h ((sortS lexLe is).map fun (l : List Int) => D.tup (l.map D.int)) hs else .bad
      | none => .bad
    | none => .bad
  | _, _ => .bad

def joinS (sep : Str) : List Str → Str
  | [] => ⟨#[]⟩
  | [x] => x
  | x :: r => x ++ sep ++ joinS sep r

def mthD (h : Bool) (m : Mth) (o : D) (ds : List D) (hs : Hs) : Res D :=
  match m, o, ds with
  | .append, .ref n, [d] => match hs[n]? with
    | some (.lst xs) => if xs.length < line then .ok .non (hs.set n (.lst (xs ++ [d]))) else .bad
    | _ => .bad
  | .pop, .ref n, [] => match hs[n]? with
    | some (.lst xs) => match xs.getLast? with | some x => .ok x (hs.set n (.lst xs.dropLast)) | none => .bad
    | _ => .bad
  | .popAt, .ref n, [.int 0] => match hs[n]? with
    | some (.lst (x :: xs)) => .ok x (hs.set n (.lst xs))
    | _ => .bad
  | .get, o, [k, d] => match pairs hs o with
    | some (t, kvs) => if D.isKey t k then .ok ((lookD kvs k).getD d) hs else .bad
    | none => .bad
  | .join, .str z, [x] => match (items hs x).bind strL with
    | some ss => if (joinS z ss).length ≤ line then .ok (.str (joinS z ss)) hs else .bad
    | none => .bad
  | _, _, _ => .bad

/-- of which kind the receiver is -/
def mthOk (m : Mth) (o : D) (hs : Hs) : Bool :=
  match m with
  | .append | .pop | .popAt => (items hs o).isSome
  | .get => (pairs hs o).isSome
  | .join | .split => match o with | .str _ => true | _ => false
def setItem (o i v : D) (hs : Hs) : Res Unit :=
  match o with
  | .ref n => match hs[n]? with
    | some (.lst xs) => match i with
      | .int k => match place xs.length k with | some j => .ok () (hs.set n (.lst (xs.set j v))) | none => .bad
      | _ => .bad
    | _ => .bad
  | _ => .bad

def rngItems (lo hi : Int) : Option (List D) :=
  if lo.natAbs ≤ line ∧ hi.natAbs ≤ line then some ((List.range (hi - lo).toNat).map fun k => .int (lo + (k : Nat))) else none

/-- the object that is locked while it is walked; true: it is to be unlocked behind -/
inductive Lk where
  | no | lst (n : Nat) (b : Bool) | dct (n : Nat) (b : Bool)
/-- what is walked -/
def walkOf (hs : Hs) (d : D) : Option (List D × Lk) :=
  match d with
  | .ref n => match hs[n]? with
    | some (.lst xs) => some (xs, .lst n true)
    | some (.lock xs) => some (xs, .lst n false)
    | _ => none
  | .tup xs => some (xs, .no)
  | .lst xs => some (xs, .no)
  | _ => none
def lockO (hs : Hs) : Lk → Hs
  | .lst n true => match hs[n]? with
    | some (.lst xs) => hs.set n (.lock xs)
    | _ => hs
  | .dct n true => match hs[n]? with
    | some (.dct t kvs) => hs.set n (.dlock t kvs)
    | _ => hs
  | _ => hs
def freeO (hs : Hs) : Lk → Hs
  | .lst n true => match hs[n]? with
    | some (.lock xs) => hs.set n (.lst xs)
    | _ => hs
  | .dct n true => match hs[n]? with
    | some (.dlock t kvs) => hs.set n (.dct t kvs)
    | _ => hs
  | _ => hs
/-- it is locked still -/
def held (hs : Hs) (ds : List D) : Lk → Bool
  | .no => true
  | .lst n _ => match hs[n]? with
    | some (.lock xs) => decide (xs = ds)
    | _ => false
  | .dct n _ => match hs[n]? with
    | some (.dlock _ kvs) => decide (kvs.map (·.1) = ds)
    | _ => false

/-- a comprehension over some items: f gives the new item, or none where the test fails -/
def compL (f : D → Hs → Res (Option D)) : List D → Hs → Res (List D)
  | [], hs => .ok [] hs
  | d :: r, hs => (f d hs).bind fun o hs => (compL f r hs).bind fun ys hs => .ok (match o with | some y => y :: ys | none => ys) hs

def wipes (fr : Fr) : List Nat → Fr
  | [] => fr
  | v :: vs => (wipes fr vs).set v none

def setAll (fr : Fr) : List Nat → List D → Option Fr
  | [], [] => some fr
  | i :: is, d :: ds => setAll (fr.set i (some d)) is ds
  | _, _ => none
/-- a comprehension's own names: one, or a tuple of some -/
def bindC (one : Bool) (own : List Nat) (d : D) (fr : Fr) : Option Fr :=
  if one then match own with | [i] => some (fr.set i (some d)) | _ => none
  else match d with | .tup ds => setAll fr own ds | _ => none

/-- a statement's end -/
inductive RS where
  | nx (fr : Fr) (hs : Hs) | rt (d : D) (hs : Hs) | ct (fr : Fr) (hs : Hs) | exn (c : Nat) (p : D) (fr : Fr) (hs : Hs) | bad
def RS.seq : RS → (Fr → Hs → RS) → RS
  | .nx fr hs, f => f fr hs
  | r, _ => r
@[simp] theorem RS.seq_nx {fr : Fr} {hs : Hs} {f : Fr → Hs → RS} : (RS.nx fr hs).seq f = f fr hs := rfl
@[simp] theorem RS.seq_rt {d : D} {hs : Hs} {f : Fr → Hs → RS} : (RS.rt d hs).seq f = .rt d hs := rfl
@[simp] theorem RS.seq_ct {fr : Fr} {hs : Hs} {f : Fr → Hs → RS} : (RS.ct fr hs).seq f = .ct fr hs := rfl
@[simp] theorem RS.seq_exn {c : Nat} {p : D} {fr : Fr} {hs : Hs} {f : Fr → Hs → RS} : (RS.exn c p fr hs).seq f = .exn c p fr hs := rfl
@[simp] theorem RS.seq_bad {f : Fr → Hs → RS} : RS.bad.seq f = .bad := rfl
/-- from an expression to a statement's end -/
def Res.then {α : Type} : Res α → Fr → (α → Hs → RS) → RS
  | .ok a hs, _, f => f a hs
  | .exn c p hs, fr, _ => .exn c p fr hs
  | .bad, _, _ => .bad
@[simp] theorem Res.then_ok {α : Type} {a : α} {hs : Hs} {fr : Fr} {f : α → Hs → RS} : (Res.ok a hs).then fr f = f a hs := rfl
@[simp] theorem Res.then_exn {α : Type} {c : Nat} {p : D} {hs : Hs} {fr : Fr} {f : α → Hs → RS} : (Res.exn c p hs : Res α).then fr f = .exn c p fr hs := rfl
@[simp] theorem Res.then_bad {α : Type} {fr : Fr} {f : α → Hs → RS} : (Res.bad : Res α).then fr f = .bad := rfl

/-- a loop over some items -/
def loopL (f : D → Fr → Hs → RS) : List D → Fr → Hs → RS
  | [], fr, hs => .nx fr hs
  | d :: r, fr, hs => match f d fr hs with
    | .nx fr hs => loopL f r fr hs
    | .ct fr hs => loopL f r fr hs
    | e => e
/-- while, at most n turns -/
def whilN (c : Fr → Hs → Res D) (b : Fr → Hs → RS) : Nat → Fr → Hs → RS
  | 0, _, _ => .bad
  | n + 1, fr, hs => (c fr hs).then fr fun d hs => match d with
    | .bl true => match b fr hs with
      | .nx fr hs => whilN c b n fr hs
      | .ct fr hs => whilN c b n fr hs
      | e => e
    | .bl false => .nx fr hs
    | _ => .bad
def turns : Nat := 1000000000

section
variable (cl : Nat → List D → Hs → Res D)
mutual
def evE : CE → Fr → Hs → Res D
  | .var i, fr, hs => match fr[i]? with | some (some d) => .ok d hs | _ => .bad
  | .cst d, _, hs => .ok d hs
  | .bin h op a b, fr, hs => (evE a fr hs).bind fun x hs => (evE b fr hs).bind fun y hs => binD h op x y hs
  | .neg a, fr, hs => (evE a fr hs).bind fun x hs => match x with | .int i => .ok (.int (-i)) hs | _ => .bad
  | .not a, fr, hs => (evE a fr hs).bind fun x hs => match x with | .bl b => .ok (.bl (!b)) hs | _ => .bad
  | .and a b, fr, hs => (evE a fr hs).bind fun x hs => match x with | .bl true => evE b fr hs | .bl false => .ok (.bl false) hs | _ => .bad
  | .or a b, fr, hs => (evE a fr hs).bind fun x hs => match x with | .bl true => .ok (.bl true) hs | .bl false => evE b fr hs | _ => .bad
  | .cmp op a b, fr, hs => (evE a fr hs).bind fun x hs => (evE b fr hs).bind fun y hs => match cmpB op x y hs with | some r => .ok (.bl r) hs | none => .bad
  | .chain op op' a b c, fr, hs => (evE a fr hs).bind fun x hs => (evE b fr hs).bind fun y hs => match cmpB op x y hs with
    | some true => (evE c fr hs).bind fun z hs => match cmpB op' y z hs with | some r => .ok (.bl r) hs | none => .bad
    | some false => .ok (.bl false) hs
    | none => .bad
  | .isN a, fr, hs => (evE a fr hs).bind fun x hs => .ok (.bl (decide (x = .non))) hs
  | .notN a, fr, hs => (evE a fr hs).bind fun x hs => .ok (.bl (!decide (x = .non))) hs
  | .ite c a b, fr, hs => (evE c fr hs).bind fun x hs => match x with | .bl true => evE a fr hs | .bl false => evE b fr hs | _ => .bad
  | .tup es, fr, hs => (evEs es fr hs).bind fun ds hs => .ok (.tup ds) hs
  | .lst h es, fr, hs => (evEs es fr hs).bind fun ds hs => fin h ds hs
  | .dct h t ks vs, fr, hs => (evEs ks fr hs).bind fun ks hs => (evEs vs fr hs).bind fun vs hs =>
      if ks.all (D.isKey t) && decide (ks.length = vs.length) then finD h t ((ks.zip vs).foldl (fun a p => putD a p.1 p.2) []) hs else .bad
  | .idx a i, fr, hs => (evE a fr hs).bind fun x hs => (evE i fr hs).bind fun y hs => match idxD x y hs with | some d => .ok d hs | none => .bad
  | .slice h a pl lo pu hi, fr, hs => (evE a fr hs).bind fun x hs => (evE lo fr hs).bind fun l hs => if partB pl l then (evE hi fr hs).bind fun u hs => if partB pu u then sliceD h x l u hs else .bad else .bad
  | .rev _ _, _, _ => .bad
  | .call f es, fr, hs => (evEs es fr hs).bind fun ds hs => cl f ds hs
  | .blt h b es, fr, hs => (evEs es fr hs).bind fun ds hs => bltD h b ds hs
  | .mth h m o es, fr, hs => (evE o fr hs).bind fun x hs => if mthOk m x hs then (evEs es fr hs).bind fun ds hs => mthD h m x ds hs else .bad
  | .comp h one own it c e, fr, hs => (evIt it fr hs).bind fun w hs => if w.1.length ≤ line then
      ((compL (fun d hs => if held hs w.1 w.2 then match bindC one own d (wipes fr own) with
        | some fr' => (evE c fr' hs).calm.bind fun x hs => match x with
          | .bl true => (evE e fr' hs).calm.bind fun y hs => .ok (some y) hs
          | .bl false => .ok none hs
          | _ => .bad
        | none => .bad else .bad) w.1 (lockO hs w.2)).bind fun ys hs => if held hs w.1 w.2 then fin h ys (freeO hs w.2) else .bad) else .bad
def evEs : CEs → Fr → Hs → Res (List D)
  | .nil, _, hs => .ok [] hs
  | .cons e es, fr, hs => (evE e fr hs).bind fun d hs => (evEs es fr hs).bind fun ds hs => .ok (d :: ds) hs
def evIt : It → Fr → Hs → Res (List D × Lk)
  | .val e, fr, hs => (evE e fr hs).bind fun x hs => match walkOf hs x with | some w => .ok w hs | none => .bad
  | .rng lo hi, fr, hs => (evE lo fr hs).bind fun x hs => (evE hi fr hs).bind fun y hs => match x, y with
    | .int i, .int j => match rngItems i j with | some ds => .ok (ds, .no) hs | none => .bad
    | _, _ => .bad
  | .zip a b, fr, hs => (evE a fr hs).bind fun x hs => (evE b fr hs).bind fun y hs => match itemsT hs x, itemsT hs y with
    | some xs, some ys => .ok ((xs.zip ys).map fun p => .tup [p.1, p.2], .no) hs
    | _, _ => .bad
  | .enm a, fr, hs => (evE a fr hs).bind fun x hs => match itemsT hs x with
    | some xs => .ok (xs.zipIdx.map fun p => .tup [.int p.2, p.1], .no) hs
    | none => .bad
/-- a target's store -/
def asg : Tg → D → Fr → Hs → Res Fr
  | .var i, d, fr, hs => .ok (fr.set i (some d)) hs
  | .sub o i, d, fr, hs => (evE o fr hs).calm.bind fun x hs => (evE i fr hs).calm.bind fun y hs => (setItem x y d hs).bind fun _ hs => .ok fr hs
  | .tup ts, d, fr, hs => match d with | .tup ds => asgs ts ds fr hs | _ => .bad
def asgs : Tgs → List D → Fr → Hs → Res Fr
  | .nil, ds, fr, hs => match ds with | [] => .ok fr hs | _ => .bad
  | .cons t ts, ds, fr, hs => match ds with
    | d :: ds => (asg t d fr hs).bind fun fr hs => asgs ts ds fr hs
    | [] => .bad
end
mutual
def evS : CS → Fr → Hs → RS
  | .set t e, fr, hs => (evE cl e fr hs).then fr fun d hs => (asg cl t d fr hs).then fr fun fr hs => .nx fr hs
  | .expr e, fr, hs => (evE cl e fr hs).then fr fun _ hs => .nx fr hs
  | .ret e, fr, hs => (evE cl e fr hs).then fr fun d hs => .rt d hs
  | .pass, fr, hs => .nx fr hs
  | .cont, fr, hs => .ct fr hs
  | .ite c a b, fr, hs => (evE cl c fr hs).then fr fun x hs => match x with | .bl true => evSs a fr hs | .bl false => evSs b fr hs | _ => .bad
  | .loop t it b, fr, hs => (evIt cl it fr hs).then fr fun w hs =>
      (loopL (fun d fr hs => if held hs w.1 w.2 then (asg cl t d fr hs).then fr fun fr hs => evSs b fr hs else .bad) w.1 fr (lockO hs w.2)).seq fun fr hs => if held hs w.1 w.2 then .nx fr (freeO hs w.2) else .bad
  | .whil c b, fr, hs => whilN (fun fr hs => evE cl c fr hs) (fun fr hs => evSs b fr hs) turns fr hs
  | .rais c, fr, hs => .exn c .non fr hs
  | .tryc b hd, fr, hs => match evSs b fr hs with
    | .exn c p fr hs => match hd.find? fun x => catches c x.1 with
      | some (_, .ret d) => .rt d hs
      | some (_, .cont) => .ct fr hs
      | some (_, .var i) => match fr[i]? with | some (some d) => .rt d hs | _ => .bad
      | none => .exn c p fr hs
    | r => r
def evSs : CSs → Fr → Hs → RS
  | .nil, fr, hs => .nx fr hs
  | .cons s ss, fr, hs => (evS s fr hs).seq fun fr hs => evSs ss fr hs
end
end

/-- a def: how many parameters, how many names, its body; frz: what it gives is closed, and its own objects are forgotten -/
structure Fn where
  np : Nat
  nv : Nat
  frz : Bool
  body : CSs

def mapO {α β : Type} (f : α → Option β) : List α → Option (List β)
  | [] => some []
  | a :: r => match f a with | some b => (mapO f r).map (b :: ·) | none => none
/-- a result without objects of its own: what lies from n0 on is read out -/
def freeze (hs : Hs) (n0 : Nat) : Nat → D → Option D
  | 0, d => if d.nr then some d else none
  | k + 1, d => if d.nr then some d else match d with
    | .ref n => if n < n0 then none else match hs[n]? with
      | some (.lst xs) => (mapO (freeze hs n0 k) xs).map .lst
      | some (.dct t kvs) => (mapO (freeze hs n0 k) (kvs.map (·.2))).map fun vs => .dct t (kvs.map (·.1)) vs
      | _ => none
    | .tup xs => (mapO (freeze hs n0 k) xs).map .tup
    | _ => none
/-- the end of a call -/
def close (frz : Bool) (hs : Hs) : RS → Res D
  | .rt d hs' => if frz then (if hs'.take hs.length = hs then match freeze hs' hs.length 3 d with | some d => .ok d hs | none => .bad else .bad) else .ok d hs'
  | .nx _ hs' => if frz then (if hs'.take hs.length = hs then .ok .non hs else .bad) else .ok .non hs'
  | .exn c p _ hs' => if frz then (if hs'.take hs.length = hs then (if p.nr then .exn c p hs else .bad) else .bad) else .exn c p hs'
  | _ => .bad
def callF (F : Nat → Option Fn) : Nat → Nat → List D → Hs → Res D
  | 0, _, _, _ => .bad
  | k + 1, f, ds, hs => match F f with
    | some fd => if ds.length = fd.np then close fd.frz hs (evSs (callF F k) fd.body (ds.map some ++ List.replicate (fd.nv - fd.np) none) hs) else .bad
    | none => .bad

end WG

set_option Elab.async false
set_option linter.all false
set_option maxRecDepth 100000
set_option maxHeartbeats 4000000
/-! Core2: how values and the logical heap stand for the hand layer's values and heap. -/
namespace WG
open PySem L2

/-- where the program's defs and classes stand -/
structure Gm where
  P : Program
  w : World
  K : PySem.W.Frag
  fa : Nat → Addr
  ca : Nat → Addr
  /-- what nothing leads to (a list that a comprehension is filling) -/
  eta : List Addr
/-- neither numbered nor held back -/
def Out (g : Gm) (ρ : List Addr) (a : Addr) : Prop := a ∉ ρ ∧ a ∉ g.eta

mutual
def nkOf : D → NestedKey
  | .int i => .num i
  | .str x => .text x
  | .tup xs => .tup (nkL xs)
  | _ => .none
def nkL : List D → List NestedKey
  | [] => []
  | d :: r => nkOf d :: nkL r
end
def skOf : D → Key
  | .str x => .inr x
  | .int i => .inl i
  | _ => .inl 0
def hashD (w : World) (t : Bool) (d : D) : Int := if t then (nkOf d).hash w else keyH w (skOf d)

/-- a dict's object: its entries -/
def DictX (a : Addr) (es : Array DictEntry) : HO := .ext fun h => ∃ o ep, h.get? a = some o ∧ o.ExactDict ∧ o.data = .dict es ep

section
variable (g : Gm) (ρ : List Addr) (H : Hp)
mutual
inductive Rl : D → V → Prop
  | non : Rl .non .non
  | bl (b : Bool) : Rl (.bl b) (.bl b)
  | int (i : Int) : Rl (.int i) (.int i)
  | str (x : Str) : Rl (.str x) (.str x)
  | tup {a : Addr} {ds : List D} {vs : List V} : H a = some (.tup vs) → Out g ρ a → Rls ds vs → Rl (.tup ds) (.ref a)
  | lst {a : Addr} {ds : List D} {vs : List V} : H a = some (.lst vs) → Out g ρ a → Rls ds vs → Rl (.lst ds) (.ref a)
  | dct {a : Addr} {t : Bool} {es : Array DictEntry} {ks vs : List D} : H a = some (DictX a es) → Out g ρ a → (a == sysModules) = false → Ents t ks vs es.toList → ks.Nodup → Rl (.dct t ks vs) (.ref a)
  | ref {a : Addr} {n : Nat} : ρ[n]? = some a → Rl (.ref n) (.ref a)
  | fn (f : Nat) : Rl (.fn f) (.ref (g.fa f))
  | scrF {a : Addr} {o : Obj} {is : List Int} : H a = some (.frz o (.lst (is.map V.int))) → Out g ρ a → Rl (.scr is) (.ref a)
  | scrK {a : Addr} {is : List Int} : (∀ H' : Hp, SqL g.K H' a (is.map V.int)) → Rl (.scr is) (.ref a)
inductive Rls : List D → List V → Prop
  | nil : Rls [] []
  | cons {d : D} {v : V} {ds : List D} {vs : List V} : Rl d v → Rls ds vs → Rls (d :: ds) (v :: vs)
inductive Ents : Bool → List D → List D → List DictEntry → Prop
  | nil {t : Bool} : Ents t [] [] []
  | cons {t : Bool} {k d : D} {kv dv : V} {e : DictEntry} {ks ds : List D} {es : List DictEntry} : Rl k kv → RelV kv e.key → Rl d dv → RelV dv e.val → e.hash = hashD g.w t k → D.isKey t k = true →
      Ents t ks ds es → Ents t (k :: ks) (d :: ds) (e :: es)
end
end

/-- the heap grows, and changes at what is numbered alone -/
structure Evo (ρ : List Addr) (H : Hp) (ρ' : List Addr) (H' : Hp) : Prop where
  more : ∃ m, ρ' = ρ ++ m
  keep : ∀ a o, H a = some o → a ∉ ρ → H' a = some o
  new : ∀ a, a ∈ ρ' → a ∉ ρ → H a = none

theorem lt_of_at {α : Type} {l : List α} {n : Nat} {x : α} (h : l[n]? = some x) : n < l.length := by
  rcases Nat.lt_or_ge n l.length with z | z
  · exact z
  · rw [List.getElem?_eq_none z] at h; cases h
theorem nodup_at {α : Type} : ∀ {l : List α} {i j : Nat} {a : α}, l.Nodup → l[i]? = some a → l[j]? = some a → i = j
  | [], _, _, _, _, h, _ => by simp at h
  | x :: r, 0, 0, _, _, _, _ => rfl
  | x :: r, 0, j + 1, a, nd, h, k => by
    simp at h k
    subst h
    exact absurd (List.mem_of_getElem? k) (List.nodup_cons.mp nd).1
  | x :: r, i + 1, 0, a, nd, h, k => by
    simp at h k
    subst k
    exact absurd (List.mem_of_getElem? h) (List.nodup_cons.mp nd).1
  | x :: r, i + 1, j + 1, a, nd, h, k => by
    simp at h k
    rw [nodup_at (List.nodup_cons.mp nd).2 h k]
theorem at_of_lt {α : Type} {l : List α} {n : Nat} (h : n < l.length) : ∃ x, l[n]? = some x := ⟨_, List.getElem?_eq_getElem h⟩
section
variable {g : Gm} {ρ ρ' ρ'' : List Addr} {H H' H'' : Hp}
theorem Evo.refl : Evo ρ H ρ H := ⟨⟨[], by simp⟩, fun _ _ h _ => h, fun _ h n => absurd h n⟩
theorem Evo.mem (e : Evo ρ H ρ' H') {a : Addr} (h : a ∈ ρ) : a ∈ ρ' := by
  obtain ⟨m, rfl⟩ := e.more
  exact List.mem_append_left _ h
theorem Evo.out (e : Evo ρ H ρ' H') {a : Addr} {o : HO} (h : H a = some o) (n : a ∉ ρ) : a ∉ ρ' := fun z => by
  have := e.new a z n
  rw [h] at this; cases this
theorem Evo.outs (e : Evo ρ H ρ' H') {a : Addr} {o : HO} (h : H a = some o) (n : Out g ρ a) : Out g ρ' a := ⟨e.out h n.1, n.2⟩
theorem Evo.trans (e : Evo ρ H ρ' H') (f : Evo ρ' H' ρ'' H'') : Evo ρ H ρ'' H'' := by
  refine ⟨?_, fun a o h n => f.keep a o (e.keep a o h n) (e.out h n), fun a h n => ?_⟩
  · obtain ⟨m, rfl⟩ := e.more
    obtain ⟨m', rfl⟩ := f.more
    exact ⟨m ++ m', by simp⟩
  · by_cases z : a ∈ ρ'
    · exact e.new a z n
    · have q := f.new a h z
      cases r : H a with
      | none => rfl
      | some o => rw [e.keep a o r n] at q; cases q
theorem Evo.at (e : Evo ρ H ρ' H') {n : Nat} {a : Addr} (h : ρ[n]? = some a) : ρ'[n]? = some a := by
  obtain ⟨m, rfl⟩ := e.more
  have hn : n < ρ.length := by
    rcases Nat.lt_or_ge n ρ.length with z | z
    · exact z
    · rw [List.getElem?_eq_none z] at h; cases h
  rw [List.getElem?_append_left hn]; exact h

mutual
theorem Rl.mono (e : Evo ρ H ρ' H') : ∀ {d : D} {v : V}, Rl g ρ H d v → Rl g ρ' H' d v
  | _, _, .non => .non
  | _, _, .bl b => .bl b
  | _, _, .int i => .int i
  | _, _, .str x => .str x
  | _, _, .tup h n r => .tup (e.keep _ _ h n.1) (e.outs h n) (Rls.mono e r)
  | _, _, .lst h n r => .lst (e.keep _ _ h n.1) (e.outs h n) (Rls.mono e r)
  | _, _, .dct h n sm r nd => .dct (e.keep _ _ h n.1) (e.outs h n) sm (Ents.mono e r) nd
  | _, _, .ref h => .ref (e.at h)
  | _, _, .fn f => .fn f
  | _, _, .scrF h n => .scrF (e.keep _ _ h n.1) (e.outs h n)
  | _, _, .scrK h => .scrK h
theorem Rls.mono (e : Evo ρ H ρ' H') : ∀ {ds : List D} {vs : List V}, Rls g ρ H ds vs → Rls g ρ' H' ds vs
  | _, _, .nil => .nil
  | _, _, .cons r t => .cons (Rl.mono e r) (Rls.mono e t)
theorem Ents.mono (e : Evo ρ H ρ' H') : ∀ {t : Bool} {ks ds : List D} {es : List DictEntry}, Ents g ρ H t ks ds es → Ents g ρ' H' t ks ds es
  | _, _, _, _, .nil => .nil
  | _, _, _, _, .cons a b c d i j r => .cons (Rl.mono e a) b (Rl.mono e c) d i j (Ents.mono e r)
end

mutual
theorem Rl.under : ∀ {d : D} {v : V}, Rl g ρ H d v → d.under ρ.length = true
  | _, _, .non => rfl
  | _, _, .bl _ => rfl
  | _, _, .int _ => rfl
  | _, _, .str _ => rfl
  | _, _, .tup _ _ r => by rw [D.under]; exact Rls.under r
  | _, _, .lst _ _ r => by rw [D.under]; exact Rls.under r
  | _, _, .dct _ _ _ r _ => by
    have := Ents.under r
    rw [D.under, this.1, this.2]; rfl
  | _, _, .ref (n := n) h => by
    rw [D.under]
    rcases Nat.lt_or_ge n ρ.length with z | z
    · exact decide_eq_true z
    · rw [List.getElem?_eq_none z] at h; cases h
  | _, _, .fn _ => rfl
  | _, _, .scrF _ _ => rfl
  | _, _, .scrK _ => rfl
theorem Rls.under : ∀ {ds : List D} {vs : List V}, Rls g ρ H ds vs → D.underL ρ.length ds = true
  | _, _, .nil => rfl
  | _, _, .cons r t => by rw [D.underL, Rl.under r, Rls.under t]; rfl
theorem Ents.under : ∀ {t : Bool} {ks ds : List D} {es : List DictEntry}, Ents g ρ H t ks ds es → D.underL ρ.length ks = true ∧ D.underL ρ.length ds = true
  | _, _, _, _, .nil => ⟨rfl, rfl⟩
  | _, _, _, _, .cons a _ c _ _ _ r => by
    have := Ents.under r
    exact ⟨by rw [D.underL, Rl.under a, this.1]; rfl, by rw [D.underL, Rl.under c, this.2]; rfl⟩
end
mutual
theorem Rl.cut {n : Nat} : ∀ {d : D} {v : V}, Rl g ρ H d v → d.under n = true → Rl g (ρ.take n) H d v
  | _, _, .non, _ => .non
  | _, _, .bl b, _ => .bl b
  | _, _, .int i, _ => .int i
  | _, _, .str x, _ => .str x
  | _, _, .tup h m r, u => .tup h ⟨fun z => m.1 (List.mem_of_mem_take z), m.2⟩ (Rls.cut r (by rw [D.under] at u; exact u))
  | _, _, .lst h m r, u => .lst h ⟨fun z => m.1 (List.mem_of_mem_take z), m.2⟩ (Rls.cut r (by rw [D.under] at u; exact u))
  | _, _, .dct h m sm r nd, u => by
    rw [D.under, Bool.and_eq_true] at u
    exact .dct h ⟨fun z => m.1 (List.mem_of_mem_take z), m.2⟩ sm (Ents.cut r u.1 u.2) nd
  | _, _, .ref h, u => by
    rw [D.under] at u
    refine .ref ?_
    rw [List.getElem?_take_of_lt (of_decide_eq_true u)]; exact h
  | _, _, .fn f, _ => .fn f
  | _, _, .scrF h m, _ => .scrF h ⟨fun z => m.1 (List.mem_of_mem_take z), m.2⟩
  | _, _, .scrK h, _ => .scrK h
theorem Rls.cut {n : Nat} : ∀ {ds : List D} {vs : List V}, Rls g ρ H ds vs → D.underL n ds = true → Rls g (ρ.take n) H ds vs
  | _, _, .nil, _ => .nil
  | _, _, .cons r t, u => by
    rw [D.underL, Bool.and_eq_true] at u
    exact .cons (Rl.cut r u.1) (Rls.cut t u.2)
theorem Ents.cut {n : Nat} : ∀ {t : Bool} {ks ds : List D} {es : List DictEntry}, Ents g ρ H t ks ds es → D.underL n ks = true → D.underL n ds = true → Ents g (ρ.take n) H t ks ds es
  | _, _, _, _, .nil, _, _ => .nil
  | _, _, _, _, .cons a b c d i j r, u1, u2 => by
    rw [D.underL, Bool.and_eq_true] at u1 u2
    exact .cons (Rl.cut a u1.1) b (Rl.cut c u2.1) d i j (Ents.cut r u1.2 u2.2)
end
mutual
theorem under_nr {n : Nat} : ∀ {d : D}, d.nr = true → d.under n = true
  | .non, _ => rfl
  | .bl _, _ => rfl
  | .int _, _ => rfl
  | .str _, _ => rfl
  | .tup xs, h => by rw [D.under]; exact underL_nr (by rw [D.nr] at h; exact h)
  | .lst xs, h => by rw [D.under]; exact underL_nr (by rw [D.nr] at h; exact h)
  | .dct t ks vs, h => by
    rw [D.nr, Bool.and_eq_true] at h
    rw [D.under, underL_nr h.1, underL_nr h.2]; rfl
  | .ref _, h => by cases h
  | .fn _, _ => rfl
  | .scr _, _ => rfl
theorem underL_nr {n : Nat} : ∀ {ds : List D}, D.nrL ds = true → D.underL n ds = true
  | [], _ => rfl
  | d :: ds, h => by
    rw [D.nrL, Bool.and_eq_true] at h
    rw [D.underL, under_nr h.1, underL_nr h.2]; rfl
end
theorem Rls.length {ds : List D} {vs : List V} (r : Rls g ρ H ds vs) : ds.length = vs.length := by
  induction vs generalizing ds with
  | nil => cases r; rfl
  | cons v vs ih => cases r with | cons r t => simp [ih t]
theorem Rls.get : ∀ {ds : List D} {vs : List V} {i : Nat} {d : D}, Rls g ρ H ds vs → ds[i]? = some d → ∃ v, vs[i]? = some v ∧ Rl g ρ H d v
  | _, _, 0, _, .cons r _, h => by
    simp at h; subst h; exact ⟨_, rfl, r⟩
  | _, _, i + 1, _, .cons _ t, h => by
    obtain ⟨v, e, r⟩ := Rls.get (i := i) t (by simpa using h)
    exact ⟨v, by simpa using e, r⟩
  | _, _, _, _, .nil, h => by simp at h
theorem Rls.append : ∀ {ds es : List D} {vs us : List V}, Rls g ρ H ds vs → Rls g ρ H es us → Rls g ρ H (ds ++ es) (vs ++ us)
  | _, _, _, _, .nil, s => s
  | _, _, _, _, .cons r t, s => .cons r (Rls.append t s)
theorem Rls.take : ∀ {ds : List D} {vs : List V} (n : Nat), Rls g ρ H ds vs → Rls g ρ H (ds.take n) (vs.take n)
  | _, _, 0, _ => .nil
  | _, _, _ + 1, .nil => .nil
  | _, _, n + 1, .cons r t => .cons r (Rls.take n t)
theorem Rls.drop : ∀ {ds : List D} {vs : List V} (n : Nat), Rls g ρ H ds vs → Rls g ρ H (ds.drop n) (vs.drop n)
  | _, _, 0, r => r
  | _, _, _ + 1, .nil => .nil
  | _, _, n + 1, .cons _ t => Rls.drop n t
theorem Rls.reverse {ds : List D} {vs : List V} (r : Rls g ρ H ds vs) : Rls g ρ H ds.reverse vs.reverse := by
  induction vs generalizing ds with
  | nil => cases r; exact .nil
  | cons v vs ih => cases r with | cons r t => simpa using (ih t).append (.cons r .nil)
theorem Rls.set {d : D} {v : V} (r : Rl g ρ H d v) : ∀ {ds : List D} {vs : List V} (n : Nat), Rls g ρ H ds vs → Rls g ρ H (ds.set n d) (vs.set n v)
  | _, _, _, .nil => .nil
  | _, _, 0, .cons _ t => .cons r t
  | _, _, n + 1, .cons q t => .cons q (Rls.set r n t)
theorem Rls.ints {ns : List Int} : ∀ {vs : List V}, Rls g ρ H (ns.map D.int) vs → vs = ns.map V.int := by
  induction ns with
  | nil => intro vs r; cases r; rfl
  | cons n ns ih => intro vs r; cases r with | cons r t => cases r; rw [ih t]; rfl
end

/-- an object of the logical heap, at a -/
def ORel (g : Gm) (ρ : List Addr) (H : Hp) (a : Addr) : OD → Prop
  | .lst xs => ∃ vs, H a = some (.lst vs) ∧ Rls g ρ H xs vs
  | .lock xs => ∃ vs, H a = some (.lst vs) ∧ Rls g ρ H xs vs
  | .dct t kvs => ∃ es, H a = some (DictX a es) ∧ (a == sysModules) = false ∧ Ents g ρ H t (kvs.map (·.1)) (kvs.map (·.2)) es.toList ∧ (kvs.map (·.1)).Nodup
  | .dlock t kvs => ∃ es, H a = some (DictX a es) ∧ (a == sysModules) = false ∧ Ents g ρ H t (kvs.map (·.1)) (kvs.map (·.2)) es.toList ∧ (kvs.map (·.1)).Nodup
  | .ins c fs => ∃ dx vs, H a = some (.ins (g.ca c) dx (fs.map (·.1) |>.zip vs)) ∧ Rls g ρ H (fs.map (·.2)) vs ∧ H dx = some (.own a) ∧ Out g ρ dx
structure Rep (g : Gm) (ρ : List Addr) (hs : Hs) (H : Hp) : Prop where
  held : ∀ a, a ∈ g.eta → a ∉ ρ ∧ ∃ o, H a = some o
  nd : ρ.Nodup
  len : ρ.length = hs.length
  obj : ∀ (n : Nat) (a : Addr) (o : OD), ρ[n]? = some a → hs[n]? = some o → ORel g ρ H a o

section
variable {g : Gm} {ρ ρ' ρ'' : List Addr} {hs hs' : Hs} {H H' H'' : Hp}
theorem ORel.there {a : Addr} {o : OD} (x : ORel g ρ H a o) : ∃ u, H a = some u := by
  cases o with
  | lst xs => obtain ⟨_, e, _⟩ := x; exact ⟨_, e⟩
  | lock xs => obtain ⟨_, e, _⟩ := x; exact ⟨_, e⟩
  | dct t kvs => obtain ⟨_, e, _⟩ := x; exact ⟨_, e⟩
  | dlock t kvs => obtain ⟨_, e, _⟩ := x; exact ⟨_, e⟩
  | ins c fs => obtain ⟨_, _, e, _⟩ := x; exact ⟨_, e⟩
theorem Rep.there (R : Rep g ρ hs H) {a : Addr} (h : a ∈ ρ) : ∃ u, H a = some u := by
  obtain ⟨n, e1⟩ := List.mem_iff_getElem?.mp h
  obtain ⟨o, e2⟩ := at_of_lt (l := hs) (n := n) (by rw [← R.len]; exact lt_of_at e1)
  exact (R.obj n a o e1 e2).there
theorem Rep.fresh (R : Rep g ρ hs H) {p : Addr} (h : H p = none) : p ∉ ρ := fun z => by
  obtain ⟨u, e⟩ := R.there z
  rw [h] at e; cases e
theorem Rep.freshs (R : Rep g ρ hs H) {p : Addr} (h : H p = none) : Out g ρ p := ⟨R.fresh h, fun z => by
  obtain ⟨_, o, e⟩ := R.held p z
  rw [h] at e; cases e⟩
theorem Rep.at (R : Rep g ρ hs H) {n : Nat} {o : OD} (h : hs[n]? = some o) : ∃ a, ρ[n]? = some a ∧ ORel g ρ H a o := by
  obtain ⟨a, e⟩ := at_of_lt (l := ρ) (n := n) (by rw [R.len]; exact lt_of_at h)
  exact ⟨a, e, R.obj n a o e h⟩
/-- an object's relation goes on where its own record stays -/
theorem ORel.mono {a : Addr} {o : OD} (x : ORel g ρ H a o) (e : Evo ρ H ρ' H') (h : H' a = H a) (R : Rep g ρ hs H) : ORel g ρ' H' a o := by
  cases o with
  | lst xs => obtain ⟨vs, k, r⟩ := x; exact ⟨vs, h.trans k, r.mono e⟩
  | lock xs => obtain ⟨vs, k, r⟩ := x; exact ⟨vs, h.trans k, r.mono e⟩
  | dct t kvs => obtain ⟨es, k, sm, r, nd⟩ := x; exact ⟨es, h.trans k, sm, r.mono e, nd⟩
  | dlock t kvs => obtain ⟨es, k, sm, r, nd⟩ := x; exact ⟨es, h.trans k, sm, r.mono e, nd⟩
  | ins c fs => obtain ⟨dx, vs, k, r, d, m⟩ := x; exact ⟨dx, vs, h.trans k, r.mono e, e.keep _ _ d m.1, e.outs d m⟩
/-- a new thing that is not numbered -/
theorem Evo.new1 {p : Addr} {o : HO} (h : H p = none) : Evo ρ H ρ (upd H p o) :=
  ⟨⟨[], by simp⟩, fun a u e _ => by rw [upd_ne (ne_of_none e h)]; exact e, fun a z n => absurd z n⟩
theorem Rep.new1 (R : Rep g ρ hs H) {p : Addr} {o : HO} (h : H p = none) : Rep g ρ hs (upd H p o) := by
  refine ⟨fun a z => ⟨(R.held a z).1, ?_⟩, R.nd, R.len, fun n a u e1 e2 => (R.obj n a u e1 e2).mono (Evo.new1 h) (upd_ne ?_) R⟩
  · obtain ⟨_, o', e⟩ := R.held a z
    exact ⟨o', by rw [upd_ne (ne_of_none e h)]; exact e⟩
  intro z; subst z
  exact R.fresh h (List.mem_of_getElem? e1)
/-- the heap grows aside -/
theorem Rep.grow (R : Rep g ρ hs H) (e : Evo ρ H ρ H') (k : ∀ a, a ∈ ρ → H' a = H a) : Rep g ρ hs H' :=
  ⟨fun a z => ⟨(R.held a z).1, let ⟨n, o, q⟩ := R.held a z; ⟨o, e.keep _ _ q n⟩⟩, R.nd, R.len, fun n a u e1 e2 => (R.obj n a u e1 e2).mono e (k a (List.mem_of_getElem? e1)) R⟩
/-- a new numbered object -/
theorem Evo.newN (R : Rep g ρ hs H) {p : Addr} {o : HO} (h : H p = none) : Evo ρ H (ρ ++ [p]) (upd H p o) :=
  ⟨⟨[p], rfl⟩, fun a u e _ => by rw [upd_ne (ne_of_none e h)]; exact e, fun a z n => by
    rcases List.mem_append.mp z with z | z
    · exact absurd z n
    · rw [List.mem_singleton.mp z]; exact h⟩
theorem Rep.newN (R : Rep g ρ hs H) {p : Addr} {o : HO} {od : OD} (h : H p = none) (x : ORel g (ρ ++ [p]) (upd H p o) p od) : Rep g (ρ ++ [p]) (hs ++ [od]) (upd H p o) := by
  refine ⟨fun a z => ?_, ?_, by simp [R.len], fun n a u e1 e2 => ?_⟩
  · obtain ⟨n, o', e⟩ := R.held a z
    have hne : a ≠ p := ne_of_none e h
    exact ⟨fun m => (List.mem_append.mp m).elim n fun m => hne (List.mem_singleton.mp m), o', by rw [upd_ne hne]; exact e⟩
  · rw [List.nodup_append]
    refine ⟨R.nd, by simp, fun a ha b hb => ?_⟩
    rw [List.mem_singleton.mp hb]
    intro z; subst z; exact R.fresh h ha
  · rcases Nat.lt_or_ge n ρ.length with z | z
    · rw [List.getElem?_append_left z] at e1
      rw [List.getElem?_append_left (by rw [← R.len]; exact z)] at e2
      refine (R.obj n a u e1 e2).mono (Evo.newN R h) (upd_ne ?_) R
      intro z; subst z
      exact R.fresh h (List.mem_of_getElem? e1)
    · rw [List.getElem?_append_right z] at e1
      rw [List.getElem?_append_right (by rw [← R.len]; exact z)] at e2
      have hn : n - ρ.length = 0 := by
        rcases Nat.eq_zero_or_pos (n - ρ.length) with q | q
        · exact q
        · rw [List.getElem?_eq_none (by rw [List.length_singleton]; omega)] at e1; cases e1
      rw [hn] at e1
      rw [← R.len, hn] at e2
      simp at e1 e2
      subst e1; subst e2
      exact x
/-- a numbered object is changed -/
theorem Evo.chg {n : Nat} {a : Addr} {o : HO} (h : ρ[n]? = some a) : Evo ρ H ρ (upd H a o) :=
  ⟨⟨[], by simp⟩, fun b u e z => by rw [upd_ne (by rintro rfl; exact z (List.mem_of_getElem? h))]; exact e, fun _ z m => absurd z m⟩
theorem Rep.chg (R : Rep g ρ hs H) {n : Nat} {a : Addr} {o : HO} {od : OD} (h : ρ[n]? = some a) (x : ORel g ρ (upd H a o) a od) : Rep g ρ (hs.set n od) (upd H a o) := by
  have hn : n < ρ.length := by
    rcases Nat.lt_or_ge n ρ.length with z | z
    · exact z
    · rw [List.getElem?_eq_none z] at h; cases h
  refine ⟨fun c z => ?_, R.nd, by rw [List.length_set]; exact R.len, fun m b u e1 e2 => ?_⟩
  · obtain ⟨q, o', e⟩ := R.held c z
    exact ⟨q, o', by rw [upd_ne (by rintro rfl; exact q (List.mem_of_getElem? h))]; exact e⟩
  by_cases hm : m = n
  · subst hm
    rw [h] at e1; cases e1
    rw [List.getElem?_set_self (by rw [← R.len]; exact hn)] at e2
    cases e2
    exact x
  · rw [List.getElem?_set_ne (Ne.symm hm)] at e2
    refine (R.obj m b u e1 e2).mono (Evo.chg h) (upd_ne ?_) R
    rintro rfl
    exact hm (nodup_at R.nd e1 h)
/-- the same record under another word (locked, unlocked) -/
theorem Rep.word (R : Rep g ρ hs H) {n : Nat} {o od : OD} (h : hs[n]? = some o) (x : ∀ a, ORel g ρ H a o → ORel g ρ H a od) : Rep g ρ (hs.set n od) H := by
  refine ⟨R.held, R.nd, by rw [List.length_set]; exact R.len, fun m b u e1 e2 => ?_⟩
  by_cases hm : m = n
  · subst hm
    have hn : m < hs.length := by
      rcases Nat.lt_or_ge m hs.length with z | z
      · exact z
      · rw [List.getElem?_eq_none z] at h; cases h
    rw [List.getElem?_set_self hn] at e2
    cases e2
    exact x b (R.obj m b o e1 h)
  · rw [List.getElem?_set_ne (Ne.symm hm)] at e2
    exact R.obj m b u e1 e2

/-- the frame -/
def FrR (g : Gm) (ρ : List Addr) (H : Hp) (fr : Fr) (σ : St) : Prop := fr.length = σ.length ∧ ∀ (i : Nat) (d : D), fr[i]? = some (some d) → ∃ v : V, σ[i]? = some (some v) ∧ Rl g ρ H d v
theorem FrR.mono {fr : Fr} {σ : St} (x : FrR g ρ H fr σ) (e : Evo ρ H ρ' H') : FrR g ρ' H' fr σ := ⟨x.1, fun i d h => by
  obtain ⟨v, k, r⟩ := x.2 i d h
  exact ⟨v, k, r.mono e⟩⟩
theorem FrR.set {fr : Fr} {σ : St} (x : FrR g ρ H fr σ) {i : Nat} {d : D} {v : V} (r : Rl g ρ H d v) : FrR g ρ H (fr.set i (some d)) (σ.set i (some v)) := by
  refine ⟨by simp [x.1], fun j e h => ?_⟩
  by_cases hj : i = j
  · subst hj
    by_cases hi : i < fr.length
    · rw [List.getElem?_set_self hi] at h
      cases h
      exact ⟨v, by rw [List.getElem?_set_self (by rw [← x.1]; exact hi)], r⟩
    · rw [List.getElem?_eq_none (by simpa using hi)] at h; cases h
  · rw [List.getElem?_set_ne hj] at h
    obtain ⟨u, k, q⟩ := x.2 j e h
    exact ⟨u, by rw [List.getElem?_set_ne hj]; exact k, q⟩
theorem FrR.lose {fr : Fr} {σ : St} (x : FrR g ρ H fr σ) (i : Nat) : FrR g ρ H (fr.set i none) (σ.set i none) := by
  refine ⟨by simp [x.1], fun j e h => ?_⟩
  by_cases hj : i = j
  · subst hj
    by_cases hi : i < fr.length
    · rw [List.getElem?_set_self hi] at h; cases h
    · rw [List.getElem?_eq_none (by simpa using hi)] at h; cases h
  · rw [List.getElem?_set_ne hj] at h
    obtain ⟨u, k, q⟩ := x.2 j e h
    exact ⟨u, by rw [List.getElem?_set_ne hj]; exact k, q⟩
theorem FrR.wipe {fr : Fr} {σ : St} (x : FrR g ρ H fr σ) : ∀ vs : List Nat, FrR g ρ H (wipes fr vs) (L2.wipe σ vs)
  | [] => x
  | v :: vs => (FrR.wipe x vs).lose v
theorem FrR.begin {ds : List D} {vs : List V} (r : Rls g ρ H ds vs) (N : List Str) (k : Nat) (hk : k = N.length - vs.length) : FrR g ρ H (ds.map some ++ List.replicate k none) (L2.start N vs) := by
  subst hk
  refine ⟨by simp [L2.start, r.length], fun i d h => ?_⟩
  by_cases hi : i < ds.length
  · rw [List.getElem?_append_left (by simpa using hi), List.getElem?_map] at h
    cases e : ds[i]? with
    | none => rw [e] at h; cases h
    | some d' =>
      rw [e] at h; cases h
      obtain ⟨v, q, rv⟩ := r.get e
      refine ⟨v, ?_, rv⟩
      unfold L2.start
      rw [List.getElem?_append_left (by rw [List.length_map, ← r.length]; exact hi), List.getElem?_map, q]; rfl
  · rw [List.getElem?_append_right (by simpa using hi), List.getElem?_replicate] at h
    split at h <;> cases h
end

/-- what is wanted behind a part that gives some r: Q behind a value, W behind an exception (its class at g.ca) -/
def Post {α : Type} (g : Gm) (ρ : List Addr) (H : Hp) (r : Res α) (Q : List Addr → Hs → Hp → α → Prop) (W : Value → Option Addr → Hp → Prop) : Prop :=
  match r with
  | .ok a hs => ∀ ρ' H', Evo ρ H ρ' H' → Rep g ρ' hs H' → Q ρ' hs H' a
  | .exn c p hs => ∀ ρ' H' d, Evo ρ H ρ' H' → Rep g ρ' hs H' → (p = .non → d = none) → (∀ e, d = some e → ∃ f pv, H' e = some (.xd [(f, pv)]) ∧ Rl g ρ' H' p pv) → W (.ref (g.ca c)) d H'
  | .bad => False

end WG

set_option Elab.async false
set_option linter.all false
set_option maxRecDepth 100000
set_option maxHeartbeats 4000000
/-! Core3: the operations on values are sound. -/
namespace WG
open PySem L2 PySem.Spec

section
variable {g : Gm} {ρ ρ' : List Addr} {hs hs' : Hs} {H H' : Hp}
/-- what is wanted behind a part that gives a value -/
abbrev Pv (g : Gm) (ρ : List Addr) (H : Hp) (r : Res D) (Q : VK) (W : Value → Option Addr → Hp → Prop) : Prop := Post g ρ H r (fun ρ' _ H' d => ∀ v, Rl g ρ' H' d v → Q v H') W
variable {Q : VK} {W : Value → Option Addr → Hp → Prop}
theorem Pv.here {d : D} {v : V} (R : Rep g ρ hs H) (r : Rl g ρ H d v) (p : Pv g ρ H (.ok d hs) Q W) : Q v H := p ρ H Evo.refl R v r
theorem tup_ok {ds : List D} {vs : List V} (R : Rep g ρ hs H) (r : Rls g ρ H ds vs) (p : Pv g ρ H (.ok (.tup ds) hs) Q W) : ∀ a, H a = none → Q (.ref a) (upd H a (.tup vs)) := fun a h =>
  p ρ _ (Evo.new1 h) (R.new1 h) _ (.tup upd_same (R.freshs h) (r.mono (Evo.new1 h)))
theorem fin_ok {hp : Bool} {ds : List D} {vs : List V} (R : Rep g ρ hs H) (r : Rls g ρ H ds vs) (p : Pv g ρ H (fin hp ds hs) Q W) : ∀ a, H a = none → Q (.ref a) (upd H a (.lst vs)) := fun a h => by
  cases hp with
  | false => exact p ρ _ (Evo.new1 h) (R.new1 h) _ (.lst upd_same (R.freshs h) (r.mono (Evo.new1 h)))
  | true =>
    have e := Evo.newN (o := .lst vs) R h
    refine p (ρ ++ [a]) _ e (R.newN h ⟨vs, upd_same, r.mono e⟩) _ (.ref ?_)
    rw [← R.len]; exact List.getElem?_concat_length
theorem items_ok {d : D} {v : V} {xs : List D} (R : Rep g ρ hs H) (r : Rl g ρ H d v) (h : items hs d = some xs) : ∃ a vs, v = .ref a ∧ H a = some (.lst vs) ∧ Rls g ρ H xs vs := by
  cases r with
  | lst h1 n r => cases h; exact ⟨_, _, rfl, h1, r⟩
  | @ref a n e =>
      have h : (match hs[n]? with | some (.lst xs) => some xs | some (.lock xs) => some xs | _ => none) = some xs := h
      split at h
      · rename_i xs' k
        injection h with h; subst h
        obtain ⟨vs, h1, r1⟩ : ORel g ρ H a (.lst xs') := R.obj _ _ _ e k
        exact ⟨a, vs, rfl, h1, r1⟩
      · rename_i xs' k
        injection h with h; subst h
        obtain ⟨vs, h1, r1⟩ : ORel g ρ H a (.lock xs') := R.obj _ _ _ e k
        exact ⟨a, vs, rfl, h1, r1⟩
      · cases h
  | _ => cases h
theorem itemsT_ok {d : D} {v : V} {xs : List D} (R : Rep g ρ hs H) (r : Rl g ρ H d v) (h : itemsT hs d = some xs) : ∃ a vs, v = .ref a ∧ (H a = some (.lst vs) ∨ H a = some (.tup vs)) ∧ Rls g ρ H xs vs := by
  cases r with
  | tup h1 n r => cases h; exact ⟨_, _, rfl, .inr h1, r⟩
  | lst h1 n r => cases h; exact ⟨_, _, rfl, .inl h1, r⟩
  | ref e =>
    obtain ⟨a, vs, e1, e2, e3⟩ := items_ok R (.ref e) h
    exact ⟨a, vs, e1, .inl e2, e3⟩
  | _ => cases h

-- plain data
mutual
def toP : D → PyData
  | .non => .none
  | .bl b => .bool b
  | .int i => .int i
  | .str x => .str x
  | .tup xs => .tuple (toPs xs)
  | .lst xs => .list (toPs xs)
  | _ => .none
def toPs : List D → List PyData
  | [] => []
  | d :: r => toP d :: toPs r
end
theorem toPs_map : ∀ xs : List D, toPs xs = xs.map toP
  | [] => rfl
  | d :: r => by rw [toPs, List.map_cons, toPs_map r]
theorem ok_tup {k : Nat} {xs : List D} (h : D.ok k (.tup xs) = true) : ∃ j, k = j + 1 ∧ xs.all (D.ok j) = true := by
  cases k with
  | zero => simp [D.ok] at h
  | succ j => exact ⟨j, rfl, by rw [D.ok] at h; exact h⟩
theorem ok_lst {k : Nat} {xs : List D} (h : D.ok k (.lst xs) = true) : ∃ j, k = j + 1 ∧ xs.all (D.ok j) = true := by
  cases k with
  | zero => simp [D.ok] at h
  | succ j => exact ⟨j, rfl, by rw [D.ok] at h; exact h⟩
theorem ok_dct {k : Nat} {t : Bool} {xs ys : List D} (h : D.ok k (.dct t xs ys) = true) : False := by cases k <;> simp [D.ok] at h
theorem ok_ref {k n : Nat} (h : D.ok k (.ref n) = true) : False := by cases k <;> simp [D.ok] at h
theorem ok_scr {k : Nat} {n : List Int} (h : D.ok k (.scr n) = true) : False := by cases k <;> simp [D.ok] at h
theorem ok_fn {k n : Nat} (h : D.ok k (.fn n) = true) : False := by cases k <;> simp [D.ok] at h
mutual
theorem toP_plain : ∀ (d : D) (k : Nat), D.ok k d = true → (toP d).plain = true ∧ (toP d).depth ≤ k
  | .non, _, _ => ⟨rfl, by simp [toP, PyData.depth]⟩
  | .bl _, _, _ => ⟨rfl, by simp [toP, PyData.depth]⟩
  | .int _, _, _ => ⟨rfl, by simp [toP, PyData.depth]⟩
  | .str _, _, _ => ⟨rfl, by simp [toP, PyData.depth]⟩
  | .tup xs, k, h => by
    obtain ⟨j, rfl, h⟩ := ok_tup h
    have := toPs_plain xs j h
    exact ⟨by rw [toP, PyData.plain]; exact this.1, by rw [toP, PyData.depth]; omega⟩
  | .lst xs, k, h => by
    obtain ⟨j, rfl, h⟩ := ok_lst h
    have := toPs_plain xs j h
    exact ⟨by rw [toP, PyData.plain]; exact this.1, by rw [toP, PyData.depth]; omega⟩
  | .dct _ _ _, _, h => (ok_dct h).elim
  | .ref _, _, h => (ok_ref h).elim
  | .fn _, _, h => (ok_fn h).elim
  | .scr _, _, h => (ok_scr h).elim
theorem toPs_plain : ∀ (ds : List D) (k : Nat), ds.all (D.ok k) = true → PyData.plainAll (toPs ds) = true ∧ PyData.depthAll (toPs ds) ≤ k
  | [], _, _ => ⟨rfl, by simp [toPs, PyData.depthAll]⟩
  | d :: ds, k, h => by
    rw [List.all_cons, Bool.and_eq_true] at h
    have h1 := toP_plain d k h.1
    have h2 := toPs_plain ds k h.2
    refine ⟨by rw [toPs, PyData.plainAll, h1.1, h2.1]; rfl, ?_⟩
    rw [toPs, PyData.depthAll]; omega
end
mutual
theorem toP_dp {K : PySem.W.Frag} : ∀ (d : D) (k : Nat) (v : V), D.ok k d = true → Rl g ρ H d v → Dp K H v (toP d)
  | .non, _, _, _, r => by cases r; exact .non
  | .bl _, _, _, _, r => by cases r; exact .bl _
  | .int _, _, _, _, r => by cases r; exact .int _
  | .str _, _, _, _, r => by cases r; exact .str _
  | .tup xs, k, _, h, r => by
    obtain ⟨j, rfl, h⟩ := ok_tup h
    cases r with
    | tup h1 n r => rw [toP]; exact .tup (SqT.of h1) (toPs_dp xs j _ h r)
  | .lst xs, k, _, h, r => by
    obtain ⟨j, rfl, h⟩ := ok_lst h
    cases r with
    | lst h1 n r => rw [toP]; exact .lst (SqL.of h1) (toPs_dp xs j _ h r)
  | .dct _ _ _, _, _, h, _ => (ok_dct h).elim
  | .ref _, _, _, h, _ => (ok_ref h).elim
  | .fn _, _, _, h, _ => (ok_fn h).elim
  | .scr _, _, _, h, _ => (ok_scr h).elim
theorem toPs_dp {K : PySem.W.Frag} : ∀ (ds : List D) (k : Nat) (vs : List V), ds.all (D.ok k) = true → Rls g ρ H ds vs → DpAll K H vs (toPs ds)
  | [], _, _, _, r => by cases r; exact .nil
  | d :: ds, k, _, h, r => by
    rw [List.all_cons, Bool.and_eq_true] at h
    cases r with
    | cons r t => exact .cons (toP_dp d k _ h.1 r) (toPs_dp ds k _ h.2 t)
end
mutual
theorem eqv_toP : ∀ (a b : D) (j k : Nat), D.ok j a = true → D.ok k b = true → PyData.eqv (toP a) (toP b) = D.eqv a b
  | .non, b, _, k, _, h => by cases b <;> first | rfl | exact (ok_dct h).elim | exact (ok_ref h).elim | exact (ok_fn h).elim | exact (ok_scr h).elim | simp [toP, PyData.eqv, D.eqv]
  | .bl x, b, _, k, _, h => by cases b <;> first | exact (ok_dct h).elim | exact (ok_ref h).elim | exact (ok_fn h).elim | exact (ok_scr h).elim | simp [toP, PyData.eqv, D.eqv, Bool.beq_eq_decide_eq]
  | .int x, b, _, k, _, h => by cases b <;> first | exact (ok_dct h).elim | exact (ok_ref h).elim | exact (ok_fn h).elim | exact (ok_scr h).elim | simp [toP, PyData.eqv, D.eqv, Bool.beq_eq_decide_eq]
  | .str x, b, _, k, _, h => by cases b <;> first | exact (ok_dct h).elim | exact (ok_ref h).elim | exact (ok_fn h).elim | exact (ok_scr h).elim | simp [toP, PyData.eqv, D.eqv, Bool.beq_eq_decide_eq]
  | .tup xs, b, j, k, h1, h => by
    obtain ⟨j, rfl, h1⟩ := ok_tup h1
    cases b with
    | tup ys =>
      obtain ⟨k, rfl, h⟩ := ok_tup h
      rw [toP, toP, PyData.eqv, D.eqv, eqvL_toP xs ys j k h1 h]
    | dct _ _ _ => exact (ok_dct h).elim
    | ref _ => exact (ok_ref h).elim
    | fn _ => exact (ok_fn h).elim
    | _ => simp [toP, PyData.eqv, D.eqv]
  | .lst xs, b, j, k, h1, h => by
    obtain ⟨j, rfl, h1⟩ := ok_lst h1
    cases b with
    | lst ys =>
      obtain ⟨k, rfl, h⟩ := ok_lst h
      rw [toP, toP, PyData.eqv, D.eqv, eqvL_toP xs ys j k h1 h]
    | dct _ _ _ => exact (ok_dct h).elim
    | ref _ => exact (ok_ref h).elim
    | fn _ => exact (ok_fn h).elim
    | _ => simp [toP, PyData.eqv, D.eqv]
  | .dct _ _ _, _, _, _, h, _ => (ok_dct h).elim
  | .ref _, _, _, _, h, _ => (ok_ref h).elim
  | .fn _, _, _, _, h, _ => (ok_fn h).elim
  | .scr _, _, _, _, h, _ => (ok_scr h).elim
theorem eqvL_toP : ∀ (xs ys : List D) (j k : Nat), xs.all (D.ok j) = true → ys.all (D.ok k) = true → PyData.eqvAll (toPs xs) (toPs ys) = D.eqvL xs ys
  | [], [], _, _, _, _ => rfl
  | [], _ :: _, _, _, _, _ => by simp [toPs, PyData.eqvAll, D.eqvL]
  | _ :: _, [], _, _, _, _ => by simp [toPs, PyData.eqvAll, D.eqvL]
  | x :: xs, y :: ys, j, k, h1, h2 => by
    rw [List.all_cons, Bool.and_eq_true] at h1 h2
    rw [toPs, toPs, PyData.eqvAll, D.eqvL, eqv_toP x y j k h1.1 h2.1, eqvL_toP xs ys j k h1.2 h2.2]
end
theorem data_ok {K : PySem.W.Frag} {d e : D} {v : V} (R : Rep g ρ hs H) (r : Rl g ρ H d v) (h : data hs d = some e) : Dp K H v (toP e) ∧ D.ok 13 e = true := by
  unfold data at h
  split at h
  · split at h
    · rename_i xs hx
      split at h
      · rename_i ha
        cases h
        obtain ⟨a, vs, rfl, h1, r1⟩ := items_ok R r hx
        exact ⟨by rw [toP]; exact .lst (SqL.of h1) (toPs_dp xs 12 vs ha r1), by rw [D.ok]; exact ha⟩
      · cases h
    · cases h
  · split at h
    · rename_i ha
      cases h
      exact ⟨toP_dp _ 13 v ha r, ha⟩
    · cases h
end

/-! ### with a state -/
section
variable {g : Gm} {X : Cx} {pins : List (Addr × Obj)} {σ : L2.St} {ρ : List Addr} {hs : Hs} {H : Hp} {s : Shared} {Q : VK} {W : Value → Option Addr → Hp → Prop}
variable {dx dy d : D} {x y : V} {v u : Value}
def pyOp : BOp → Operator
  | .add => .Add | .sub => .Sub | .mul => .Mult | .fdiv => .FloorDiv | .mod => .Mod | .pow => .Pow
theorem line_eq : line = sizeLine := by decide
theorem small_iff {i : Int} (h : small i = true) : -(2 ^ 64) < i ∧ i < 2 ^ 64 := by
  unfold small at h
  simp only [Bool.and_eq_true, decide_eq_true_eq] at h
  omega
theorem small_abs {i : Int} (h : small i = true) : i.natAbs < 2 ^ 64 := by
  have := small_iff h; omega
theorem Rls.ne_nil {ds : List D} {vs : List V} (r : Rls g ρ H ds vs) : ds = [] ↔ vs = [] := by
  cases r <;> simp
theorem Rls.rep {ds : List D} {vs : List V} (r : Rls g ρ H ds vs) : ∀ k : Nat, Rls g ρ H (rep ds k) (List.replicate k vs).flatten
  | 0 => .nil
  | k + 1 => by
    unfold WG.rep
    rw [List.replicate_succ, List.replicate_succ, List.flatten_cons, List.flatten_cons]
    exact r.append (Rls.rep r k)

theorem bin_ok {h : Bool} {op : BOp} (I : Inv X pins σ H s) (R : Rep g ρ hs H) (rx : Rl g ρ H dx x) (ry : Rl g ρ H dy y) (vx : RelV x v) (vy : RelV y u)
    (p : Pv g ρ H (binD h op dx dy hs) Q W) : wpAny (model X.prog X.w) X.A (binaryOp (pyOp op) v u) (EP X pins σ Q) X.xe s := by
  unfold binD at p
  split at p
  · cases rx; cases ry; exact op_add pins s σ H _ _ v u Q I vx vy ⟨_, _, rfl, rfl, p.here R (.int _)⟩
  · cases rx; cases ry; exact op_sub pins s σ H _ _ v u Q I vx vy ⟨_, _, rfl, rfl, p.here R (.int _)⟩
  · split at p
    · rename_i hb
      cases rx; cases ry
      refine op_mul pins s σ H _ _ v u Q I vx vy ⟨_, _, rfl, rfl, ?_, p.here R (.int _)⟩
      rw [Bool.or_eq_true] at hb
      exact hb.imp small_iff small_iff
    · exact False.elim p
  · split at p
    · rename_i hb
      cases rx; cases ry
      exact op_fdiv pins s σ H _ _ v u Q I vx vy ⟨_, _, rfl, rfl, hb, p.here R (.int _)⟩
    · exact False.elim p
  · split at p
    · rename_i hb
      cases rx; cases ry
      exact op_mod pins s σ H _ _ v u Q I vx vy ⟨_, _, rfl, rfl, hb, p.here R (.int _)⟩
    · exact False.elim p
  · split at p
    · rename_i hb
      simp only [Bool.and_eq_true, decide_eq_true_eq] at hb
      cases rx; cases ry
      exact op_pow pins s σ H _ _ v u Q I vx vy ⟨_, _, rfl, rfl, ⟨hb.1.2, by omega, small_abs hb.1.1⟩, p.here R (.int _)⟩
    · exact False.elim p
  · split at p
    · rename_i hb
      cases rx; cases ry
      exact op_add_str pins s σ H _ _ v u Q I vx vy ⟨_, _, rfl, rfl, by rw [← line_eq]; exact hb, p.here R (.str _)⟩
    · exact False.elim p
  · split at p
    · rename_i hb
      cases rx with
      | @tup a _ vs h1 n1 r1 =>
        cases ry with
        | @tup b _ us h2 n2 r2 =>
          refine op_catA pins s σ H _ _ v u Q I vx vy ⟨a, b, vs, us, rfl, rfl, SqT.of h1, SqT.of h2, ?_, fun e => ?_, fun _ e => ?_, fun _ _ => ?_⟩
          · rw [← r1.length, ← r2.length, ← line_eq]; exact hb
          · have e' := r1.ne_nil.mpr e
            subst e'
            exact p.here R (.tup h2 n2 r2)
          · have e' := r2.ne_nil.mpr e
            subst e'
            rw [List.append_nil] at p
            exact p.here R (.tup h1 n1 r1)
          · exact tup_ok R (r1.append r2) p
    · exact False.elim p
  · split at p
    · rename_i hb
      simp only [Bool.and_eq_true, decide_eq_true_eq] at hb
      cases ry
      cases rx with
      | @tup a _ vs h1 n1 r1 =>
        refine op_repT pins s σ H _ _ v u Q I vx vy ⟨a, _, vs, rfl, rfl, SqT.of h1, fun e => ?_, hb.1.1.1, hb.1.1.2, by rw [← r1.length]; exact hb.2, ?_⟩
        · have e' := r1.ne_nil.mpr e
          subst e'
          simp at hb
        · exact tup_ok R (r1.rep _) p
    · exact False.elim p
  · split at p
    · rename_i a b ea eb
      split at p
      · rename_i hb
        obtain ⟨l, vs, rfl, h1, r1⟩ := items_ok R rx ea
        obtain ⟨l2, us, rfl, h2, r2⟩ := items_ok R ry eb
        exact op_cat pins s σ H _ _ v u Q I vx vy ⟨l, l2, vs, us, rfl, rfl, h1, h2, by rw [← r1.length, ← r2.length, ← line_eq]; exact hb, fin_ok R (r1.append r2) p⟩
      · exact False.elim p
    · exact False.elim p
  · split at p
    · rename_i a ea
      split at p
      · rename_i hb
        simp only [Bool.and_eq_true, decide_eq_true_eq] at hb
        cases ry
        obtain ⟨l, vs, rfl, h1, r1⟩ := items_ok R rx ea
        exact op_rep pins s σ H _ _ v u Q I vx vy ⟨l, _, vs, rfl, rfl, h1, by omega, by omega, by rw [← r1.length, ← line_eq]; exact hb.2, fin_ok R (r1.rep _) p⟩
      · exact False.elim p
    · exact False.elim p
  · exact False.elim p

def pyCmp : COp → CmpOp
  | .eq => .Eq | .ne => .NotEq | .lt => .Lt | .le => .LtE | .gt => .Gt | .ge => .GtE | .isin => .In | .notin => .NotIn

theorem Dp.get {d : PyData} (I : Inv X pins σ H s) (h : Dp X.K H x d) (r : RelV x v) : ∃ as, Reads s.heap v d as := Dp.reads I d x v h r
theorem any_toP (h1 : D.ok 12 dx = true) : ∀ ys : List D, ys.all (D.ok 12) = true → ((toPs ys).any fun z => PyData.eqv z (toP dx)) = ys.any fun z => D.eqv z dx
  | [], _ => rfl
  | z :: zs, h2 => by
    rw [List.all_cons, Bool.and_eq_true] at h2
    rw [toPs, List.any_cons, List.any_cons, any_toP h1 zs h2.2, eqv_toP z dx 12 12 h2.1 h1]
theorem seqin_ok {b : Bool} {ys : List D} (I : Inv X pins σ H s) (R : Rep g ρ hs H) (hu : X.A.units + 64 < cLine) (rx : Rl g ρ H dx x) (ry : Rl g ρ H dy y) (vx : RelV x v) (vy : RelV y u)
    (hy : itemsT hs dy = some ys) (h1 : D.ok 12 dx = true) (h2 : ys.all (D.ok 12) = true) (neg : Bool)
    (q : Q (.bl (if neg then !(ys.any fun z => D.eqv z dx) else ys.any fun z => D.eqv z dx)) H) : wpAny (model X.prog X.w) X.A (compareOp (if neg then .NotIn else .In) v u) (EP X pins σ Q) X.xe s := by
  obtain ⟨as, ra⟩ := Dp.get I (toP_dp (K := X.K) dx 12 x h1 rx) vx
  have px := toP_plain dx 12 h1
  have pys := toPs_plain ys 12 h2
  have e := any_toP (dx := dx) h1 ys h2
  obtain ⟨a, vs, rfl, ha, rv⟩ := itemsT_ok R ry hy
  rcases ha with ha | ha
  · obtain ⟨bs, rb⟩ := Dp.get I (show Dp X.K H (.ref a) (.list (toPs ys)) from .lst (SqL.of ha) (toPs_dp ys 12 vs h2 rv)) vy
    cases neg with
    | false => exact SeqAt.in_list_data rb ra pys.1 px.1 (by omega) ⟨.bl _, H, I, by rw [e]; rfl, q⟩
    | true => exact SeqAt.notIn_list_data rb ra pys.1 px.1 (by omega) ⟨.bl _, H, I, by rw [e]; rfl, q⟩
  · obtain ⟨bs, rb⟩ := Dp.get I (show Dp X.K H (.ref a) (.tuple (toPs ys)) from .tup (SqT.of ha) (toPs_dp ys 12 vs h2 rv)) vy
    cases neg with
    | false => exact SeqAt.in_tuple_data rb ra pys.1 px.1 (by omega) ⟨.bl _, H, I, by rw [e]; rfl, q⟩
    | true => exact SeqAt.notIn_tuple_data rb ra pys.1 px.1 (by omega) ⟨.bl _, H, I, by rw [e]; rfl, q⟩

theorem eq_ok {ea eb : D} (neg : Bool) (I : Inv X pins σ H s) (R : Rep g ρ hs H) (hu : X.A.units + 64 < cLine) (rx : Rl g ρ H dx x) (ry : Rl g ρ H dy y) (vx : RelV x v) (vy : RelV y u)
    (hx : data hs dx = some ea) (hy : data hs dy = some eb) (q : Q (.bl (if neg then !D.eqv ea eb else D.eqv ea eb)) H) :
    wpAny (model X.prog X.w) X.A (compareOp (if neg then .NotEq else .Eq) v u) (EP X pins σ Q) X.xe s := by
  obtain ⟨d1, o1⟩ := data_ok (K := X.K) R rx hx
  obtain ⟨d2, o2⟩ := data_ok (K := X.K) R ry hy
  obtain ⟨as, ra⟩ := Dp.get I d1 vx
  obtain ⟨bs, rb⟩ := Dp.get I d2 vy
  have p1 := toP_plain ea 13 o1
  have p2 := toP_plain eb 13 o2
  have e := eqv_toP ea eb 13 13 o1 o2
  cases neg with
  | false => exact SeqAt.eq_plain ra rb p1.1 p2.1 (by omega) ⟨.bl _, H, I, by rw [e]; rfl, q⟩
  | true => exact SeqAt.ne_plain ra rb p1.1 p2.1 (by omega) ⟨.bl _, H, I, by rw [e]; rfl, q⟩
end
end WG

set_option Elab.async false
set_option linter.all false
set_option maxRecDepth 100000
set_option maxHeartbeats 4000000
set_option autoImplicit false
/-! Core4: further operations on values are sound. -/
namespace WG
open PySem L2 PySem.Spec
open PyProof.Rows (subscriptTail)

section
variable {g : Gm} {X : Cx} {pins : List (Addr × Obj)} {σ : L2.St} {ρ : List Addr} {hs : Hs} {H : Hp} {s : Shared} {Q : VK} {W : Value → Option Addr → Hp → Prop}
variable {dx dy d : D} {x y : V} {v u : Value}

theorem isin_ok (neg : Bool) {r : Bool} (I : Inv X pins σ H s) (gw : g.w = X.w ∧ g.K = X.K) (R : Rep g ρ hs H) (hu : X.A.units + 64 < cLine) (rx : Rl g ρ H dx x) (ry : Rl g ρ H dy y) (vx : RelV x v) (vy : RelV y u)
    (h : isinD hs dx dy = some r) (q : Q (.bl (if neg then !r else r)) H) : wpAny (model X.prog X.w) X.A (compareOp (if neg then .NotIn else .In) v u) (EP X pins σ Q) X.xe s := by
  unfold isinD at h
  split at h
  · split at h
    · injection h with h
      subst h
      cases rx; cases ry
      cases neg with
      | false => exact op_in_str pins s σ H _ _ v u Q I vx vy ⟨_, _, rfl, rfl, q⟩
      | true => exact op_notin_str pins s σ H _ _ v u Q I vx vy ⟨_, _, rfl, rfl, q⟩
    · cases h
  · split at h
    · rename_i ys hy
      split at h
      · rename_i hb
        injection h with h
        subst h
        rw [Bool.and_eq_true] at hb
        exact seqin_ok (b := true) I R hu rx ry vx vy hy hb.1 hb.2 neg q
      · cases h
    · simp [pairs] at h

theorem cmp_ok {op : COp} {r : Bool} (I : Inv X pins σ H s) (gw : g.w = X.w ∧ g.K = X.K) (R : Rep g ρ hs H) (hu : X.A.units + 64 < cLine) (rx : Rl g ρ H dx x) (ry : Rl g ρ H dy y) (vx : RelV x v) (vy : RelV y u)
    (h : cmpB op dx dy hs = some r) (q : Q (.bl r) H) : wpAny (model X.prog X.w) X.A (compareOp (pyCmp op) v u) (EP X pins σ Q) X.xe s := by
  cases op with
  | eq =>
    simp only [cmpB] at h
    split at h
    · rename_i a b ha hb
      injection h with h
      subst h
      exact eq_ok false I R hu rx ry vx vy ha hb q
    · cases h
  | ne =>
    simp only [cmpB] at h
    split at h
    · rename_i a b ha hb
      injection h with h
      subst h
      exact eq_ok true I R hu rx ry vx vy ha hb q
    · cases h
  | lt =>
    simp only [cmpB] at h
    split at h
    · injection h with h
      subst h
      cases rx; cases ry
      exact op_lt pins s σ H _ _ v u Q I vx vy ⟨_, _, rfl, rfl, q⟩
    · cases h
  | le =>
    simp only [cmpB] at h
    split at h
    · injection h with h
      subst h
      cases rx; cases ry
      exact op_le pins s σ H _ _ v u Q I vx vy ⟨_, _, rfl, rfl, q⟩
    · cases h
  | gt =>
    simp only [cmpB] at h
    split at h
    · injection h with h
      subst h
      cases rx; cases ry
      exact op_gt pins s σ H _ _ v u Q I vx vy ⟨_, _, rfl, rfl, q⟩
    · cases h
  | ge =>
    simp only [cmpB] at h
    split at h
    · injection h with h
      subst h
      cases rx; cases ry
      exact op_ge pins s σ H _ _ v u Q I vx vy ⟨_, _, rfl, rfl, q⟩
    · cases h
  | isin => exact isin_ok false I gw R hu rx ry vx vy h q
  | notin =>
    simp only [cmpB] at h
    obtain ⟨b, hb, e⟩ := Option.map_eq_some_iff.mp h
    subst e
    exact isin_ok true I gw R hu rx ry vx vy hb q

theorem Rls.atI : ∀ {ds : List D} {vs : List V} {k : Int} {d : D}, Rls g ρ H ds vs → L2.atI ds k = some d → ∃ v, L2.atI vs k = some v ∧ Rl g ρ H d v := fun {ds vs k d} r h => by
  unfold L2.atI at h ⊢
  rw [← r.length]
  cases e : ixN ds.length k with
  | none => rw [e] at h; cases h
  | some j =>
    rw [e] at h
    exact r.get h
/-- a subscript -/
theorem atI_map {is : List Int} {k i : Int} (h : L2.atI is k = some i) : L2.atI (is.map V.int) k = some (.int i) := by
  unfold L2.atI at h ⊢
  rw [List.length_map]
  cases e : L2.ixN is.length k with
  | none => rw [e] at h; cases h
  | some n =>
    rw [e] at h
    simp only [Option.bind_some, List.getElem?_map] at h ⊢
    rw [h]; rfl
theorem idx_ok {d : D} (value slice : Expr) (I : Inv X pins σ H s) (gw : g.w = X.w ∧ g.K = X.K) (R : Rep g ρ hs H) (hu : X.A.units + 64 < cLine) (rx : Rl g ρ H dx x) (ry : Rl g ρ H dy y) (vx : RelV x v) (vy : RelV y u)
    (hs' : subscripted slice false v u = operate [v, u] (getItem v u)) (h : idxD dx dy hs = some d) (q : ∀ z, Rl g ρ H d z → Q z H) :
    wpAny (model X.prog X.w) X.A (subscriptTail value slice v u) (EP X pins σ Q) X.xe s := by
  unfold idxD at h
  split at h
  · rename_i is
    split at h
    · rename_i k
      obtain ⟨i, hi, e⟩ := Option.map_eq_some_iff.mp h
      subst e
      cases ry
      have hz : L2.atI (is.map V.int) k = some (.int i) := atI_map hi
      have sq : ∃ a, x = .ref a ∧ SqL X.K H a (is.map V.int) := by
        cases rx with
        | scrF h n => exact ⟨_, rfl, .inl (.inr ⟨_, h⟩)⟩
        | scrK h => exact ⟨_, rfl, by rw [← gw.2]; exact h H⟩
      obtain ⟨a, rfl, hS⟩ := sq
      exact ix_list value slice pins s σ H _ _ v u Q I vx vy ⟨a, _, _, _, rfl, rfl, hS, hz, q _ (.int i)⟩ hs'
    · cases h
  split at h
  · rename_i xs hx
    split at h
    · rename_i k
      cases ry
      obtain ⟨a, vs, rfl, ha, rv⟩ := itemsT_ok R rx hx
      obtain ⟨z, hz, rz⟩ := rv.atI h
      rcases ha with ha | ha
      · exact ix_list value slice pins s σ H _ _ v u Q I vx vy ⟨a, vs, _, z, rfl, rfl, SqL.of ha, hz, q z rz⟩ hs'
      · exact ix_tup value slice pins s σ H _ _ v u Q I vx vy ⟨a, vs, _, z, rfl, rfl, SqT.of ha, hz, q z rz⟩ hs'
    · cases h
  · simp [pairs] at h

/-- a bound of a slice -/
def partOf : D → Option (Option Int)
  | .non => some none
  | .int i => some (some i)
  | _ => none
theorem cutAt_part {n e : Nat} {d : D} {k : Nat} (h : cutAt n e d = some k) : ∃ o, partOf d = some o ∧ HT.sIx n e o = k := by
  unfold cutAt at h
  split at h
  · injection h with h; exact ⟨none, rfl, h⟩
  · injection h with h; exact ⟨some _, rfl, h⟩
  · cases h

theorem ints_ok {ds : List D} {ns : List Int} (h : intL ds = some ns) : ds = ns.map .int := by
  induction ds generalizing ns with
  | nil => cases h; rfl
  | cons d ds ih =>
    cases d with
    | int i =>
      rw [intL] at h
      obtain ⟨ms, hm, e⟩ := Option.map_eq_some_iff.mp h
      subst e
      rw [ih hm]; rfl
    | _ => simp [intL] at h
theorem bools_ok {ds : List D} {ns : List Bool} (h : boolL ds = some ns) : ds = ns.map .bl := by
  induction ds generalizing ns with
  | nil => cases h; rfl
  | cons d ds ih =>
    cases d with
    | bl i =>
      rw [boolL] at h
      obtain ⟨ms, hm, e⟩ := Option.map_eq_some_iff.mp h
      subst e
      rw [ih hm]; rfl
    | _ => simp [boolL] at h
theorem strs_ok {ds : List D} {ns : List Str} (h : strL ds = some ns) : ds = ns.map .str := by
  induction ds generalizing ns with
  | nil => cases h; rfl
  | cons d ds ih =>
    cases d with
    | str i =>
      rw [strL] at h
      obtain ⟨ms, hm, e⟩ := Option.map_eq_some_iff.mp h
      subst e
      rw [ih hm]; rfl
    | _ => simp [strL] at h
theorem Rls.bls {ns : List Bool} : ∀ {vs : List V}, Rls g ρ H (ns.map D.bl) vs → vs = ns.map V.bl := by
  induction ns with
  | nil => intro vs r; cases r; rfl
  | cons n ns ih => intro vs r; cases r with | cons r t => cases r; rw [ih t]; rfl
theorem Rls.strs {ns : List Str} : ∀ {vs : List V}, Rls g ρ H (ns.map D.str) vs → vs = ns.map V.str := by
  induction ns with
  | nil => intro vs r; cases r; rfl
  | cons n ns ih => intro vs r; cases r with | cons r t => cases r; rw [ih t]; rfl

/-- the builtins by name -/
def bltV : Blt → Option Value
  | .len => some (.builtin "len")
  | .int => some (.type "int")
  | .bool => some (.type "bool")
  | .str => some (.type "str")
  | .abs => some (.builtin "abs")
  | .min2 | .minL => some (.builtin "min")
  | .max2 | .maxL => some (.builtin "max")
  | .list => some (.type "list")
  | .tuple => some (.type "tuple")
  | .sum => some (.builtin "sum")
  | .all => some (.builtin "all")
  | .any => some (.builtin "any")
  | _ => none
theorem lens_ok {d : D} {v : V} {n : Nat} {K : PySem.W.Frag} (gk : g.K = K) (R : Rep g ρ hs H) (r : Rl g ρ H d v) (h : lens hs d = some n) : LenV K v H n := by
  unfold lens at h
  split at h
  · split at h
    · rename_i hb
      injection h with h
      cases r
      exact ⟨by rw [← line_eq]; exact hb, h.symm⟩
    · cases h
  · injection h with h
    subst h
    cases r with
    | scrF h n => exact .inl ⟨_, .inl (.inr ⟨_, h⟩), by rw [List.length_map]⟩
    | scrK h => exact .inl ⟨_, by rw [← gk]; exact h H, by rw [List.length_map]⟩
  · split at h
    · rename_i xs hx
      injection h with h
      subst h
      obtain ⟨a, vs, rfl, ha, rv⟩ := itemsT_ok R r hx
      rcases ha with ha | ha
      · exact .inl ⟨vs, SqL.of ha, rv.length⟩
      · exact .inr ⟨vs, SqT.of ha, rv.length⟩
    · cases h
theorem Rls.one {d : D} {vs : List V} (r : Rls g ρ H [d] vs) : ∃ v, vs = [v] ∧ Rl g ρ H d v := by
  cases r with | cons r t => cases t; exact ⟨_, rfl, r⟩
theorem Rls.two {d e : D} {vs : List V} (r : Rls g ρ H [d, e] vs) : ∃ v u, vs = [v, u] ∧ Rl g ρ H d v ∧ Rl g ρ H e u := by
  cases r with | cons r t => cases t with | cons r' t => cases t; exact ⟨_, _, rfl, r, r'⟩
def tyName : Ty → String
  | .int => "int" | .bool => "bool" | .str => "str" | .tuple => "tuple" | .list => "list"
theorem kitB_non (t : Ty) : kitB "NoneType" (tyName t) = some false := by cases t <;> decide +kernel
theorem kitB_bool (t : Ty) : kitB "bool" (tyName t) = some (t == .int || t == .bool) := by cases t <;> decide +kernel
theorem kitB_int (t : Ty) : kitB "int" (tyName t) = some (t == .int) := by cases t <;> decide +kernel
theorem kitB_str (t : Ty) : kitB "str" (tyName t) = some (t == .str) := by cases t <;> decide +kernel
theorem kitB_tuple (t : Ty) : kitB "tuple" (tyName t) = some (t == .tuple) := by cases t <;> decide +kernel
theorem kitB_list (t : Ty) : kitB "list" (tyName t) = some (t == .list) := by cases t <;> decide +kernel
theorem isTy_ok {K : PySem.W.Frag} {d : D} {v : V} {t : Ty} {b : Bool} (R : Rep g ρ hs H) (r : Rl g ρ H d v) (h : isTy hs d t = some b) : ∃ n, TyX K H v (.type n) ∧ kitB n (tyName t) = some b := by
  cases r with
  | non => exact ⟨_, .base .non, by rw [kitB_non]; exact h⟩
  | bl b => exact ⟨_, .base (.bl b), by rw [kitB_bool]; exact h⟩
  | int i => exact ⟨_, .base (.int i), by rw [kitB_int]; exact h⟩
  | str x => exact ⟨_, .base (.str x), by rw [kitB_str]; exact h⟩
  | tup h1 n r => exact ⟨_, .base (.tup h1), by rw [kitB_tuple]; exact h⟩
  | lst h1 n r => exact ⟨_, .base (.lst h1), by rw [kitB_list]; exact h⟩
  | dct => cases h
  | scrF => cases h
  | scrK => cases h
  | @ref a n e =>
    have h : (match hs[n]? with | some (.lst _) => some (t == .list) | some (.lock _) => some (t == .list) | _ => none) = some b := h
    split at h
    · rename_i xs k
      obtain ⟨vs, h1, r1⟩ : ORel g ρ H a (.lst xs) := R.obj _ _ _ e k
      exact ⟨_, .base (.lst h1), by rw [kitB_list]; exact h⟩
    · rename_i xs k
      obtain ⟨vs, h1, r1⟩ : ORel g ρ H a (.lock xs) := R.obj _ _ _ e k
      exact ⟨_, .base (.lst h1), by rw [kitB_list]; exact h⟩
    · cases h
  | fn => cases h
theorem blt_ok {hp : Bool} {b : Blt} {f : Value} {ds : List D} {vs : List V} {us : List Value} (I : Inv X pins σ H s) (gk : g.K = X.K) (hc : X.calm = true) (R : Rep g ρ hs H) (r : Rls g ρ H ds vs) (rv : Vals vs us) (hb : bltV b = some f)
    (p : Pv g ρ H (bltD hp b ds hs) Q W) : wpAny (model X.prog X.w) X.A (call f us) (EP X pins σ Q) X.xe s := by
  unfold bltD at p
  split at p
  · injection hb with hb; subst hb
    split at p
    · rename_i n hn
      obtain ⟨x, rfl, rx⟩ := r.one
      exact call_len pins s σ H _ us Q I rv ⟨x, _, rfl, lens_ok gk R rx hn, p.here R (.int _)⟩
    · exact False.elim p
  · cases hb
  · injection hb with hb; subst hb
    obtain ⟨x, rfl, rx⟩ := r.one
    cases rx
    exact call_int1 pins s σ H _ us Q I rv (.inl ⟨_, rfl, p.here R (.int _)⟩)
  · injection hb with hb; subst hb
    obtain ⟨x, rfl, rx⟩ := r.one
    cases rx
    exact call_int1 pins s σ H _ us Q I rv (.inr ⟨_, rfl, p.here R (.int _)⟩)
  · injection hb with hb; subst hb
    obtain ⟨x, rfl, rx⟩ := r.one
    cases rx
    exact call_bool1 pins s σ H _ us Q I rv (.inr ⟨_, rfl, p.here R (.bl _)⟩)
  · injection hb with hb; subst hb
    split at p
    · rename_i hz
      obtain ⟨x, rfl, rx⟩ := r.one
      cases rx
      refine call_str_int pins s σ H _ us Q I rv ⟨_, rfl, ?_, p.here R (.str _)⟩
      rename_i i
      have h1 : i.natAbs.log2 < 64 := by
        by_cases h0 : i.natAbs = 0
        · rw [h0]; decide
        · exact (Nat.log2_lt h0).mpr hz
      omega
    · exact False.elim p
  · injection hb with hb; subst hb
    obtain ⟨x, rfl, rx⟩ := r.one
    cases rx
    exact call_abs pins s σ H _ us Q I rv ⟨_, rfl, p.here R (.int _)⟩
  · injection hb with hb; subst hb
    obtain ⟨x, y, rfl, rx, ry⟩ := r.two
    cases rx; cases ry
    exact call_min2 hc pins s σ H _ us Q I rv ⟨_, _, rfl, p.here R (.int _)⟩
  · injection hb with hb; subst hb
    obtain ⟨x, y, rfl, rx, ry⟩ := r.two
    cases rx; cases ry
    exact call_max2 hc pins s σ H _ us Q I rv ⟨_, _, rfl, p.here R (.int _)⟩
  · injection hb with hb; subst hb
    obtain ⟨x, rfl, rx⟩ := r.one
    split at p
    · rename_i xs hx
      obtain ⟨a, ws, rfl, ha, rw'⟩ := itemsT_ok R rx hx
      exact call_list_of pins s σ H _ us Q I rv ⟨a, ws, rfl, ha.imp SqL.of SqT.of, fin_ok R rw' p⟩
    · simp only [pairs] at p; exact False.elim p
  · injection hb with hb; subst hb
    obtain ⟨x, rfl, rx⟩ := r.one
    split at p
    · rename_i xs hx
      cases rx with
      | @tup a _ ws h1 n1 rw' =>
        cases hx
        exact call_tuple_of pins s σ H _ us Q I rv ⟨a, ws, rfl, .inr ⟨SqT.of h1, p.here R (.tup h1 n1 rw')⟩⟩
      | @lst a _ ws h1 n1 rw' =>
        cases hx
        exact call_tuple_of pins s σ H _ us Q I rv ⟨a, ws, rfl, .inl ⟨SqL.of h1, tup_ok R rw' p⟩⟩
      | ref e =>
        obtain ⟨a, ws, e1, h1, rw'⟩ := items_ok R (.ref e) hx
        exact call_tuple_of pins s σ H _ us Q I rv ⟨a, ws, by rw [e1], .inl ⟨SqL.of h1, tup_ok R rw' p⟩⟩
      | _ => cases hx
    · exact False.elim p
  · injection hb with hb; subst hb
    obtain ⟨x, rfl, rx⟩ := r.one
    split at p
    · rename_i is hi
      obtain ⟨xs, hx, hi⟩ := Option.bind_eq_some_iff.mp hi
      obtain ⟨a, ws, rfl, ha, rw'⟩ := items_ok R rx hx
      rw [ints_ok hi] at rw'
      rw [rw'.ints] at ha
      exact cr_sum hc pins s σ H _ us Q I rv ⟨a, is, rfl, SqL.of ha, p.here R (.int _)⟩
    · exact False.elim p
  · injection hb with hb; subst hb
    obtain ⟨x, rfl, rx⟩ := r.one
    split at p
    · rename_i is hi
      obtain ⟨xs, hx, hi⟩ := Option.bind_eq_some_iff.mp hi
      obtain ⟨a, ws, rfl, ha, rw'⟩ := items_ok R rx hx
      rw [bools_ok hi] at rw'
      rw [rw'.bls] at ha
      exact cr_all hc pins s σ H _ us Q I rv ⟨a, is, rfl, SqL.of ha, p.here R (.bl _)⟩
    · exact False.elim p
  · injection hb with hb; subst hb
    obtain ⟨x, rfl, rx⟩ := r.one
    split at p
    · rename_i is hi
      obtain ⟨xs, hx, hi⟩ := Option.bind_eq_some_iff.mp hi
      obtain ⟨a, ws, rfl, ha, rw'⟩ := items_ok R rx hx
      rw [bools_ok hi] at rw'
      rw [rw'.bls] at ha
      exact cr_any hc pins s σ H _ us Q I rv ⟨a, is, rfl, SqL.of ha, p.here R (.bl _)⟩
    · exact False.elim p
  · cases hb
  · cases hb
  · exact False.elim p

/-! ### methods that change a list -/
theorem append_ok {ds : List D} {vs : List V} {us : List Value} (I : Inv X pins σ H s) (R : Rep g ρ hs H) (rx : Rl g ρ H dx x) (r : Rls g ρ H ds vs) (vx : RelV x v) (rv : Vals vs us) {hp : Bool}
    (p : Pv g ρ H (mthD hp .append dx ds hs) Q W) : wpAny (model X.prog X.w) X.A (call (.builtin "list.append") (v :: us)) (EP X pins σ Q) X.xe s := by
  unfold mthD at p
  split at p <;> first | (rename_i e; cases e; done) | skip
  · split at p
    · rename_i n d _ xs e
      split at p
      · rename_i hz
        obtain ⟨y, rfl, ry⟩ := r.one
        cases rx with
        | @ref a _ ha =>
          obtain ⟨ws, h1, rw'⟩ : ORel g ρ H a (.lst xs) := R.obj _ _ _ ha e
          refine mt_append pins s σ H _ _ v us Q I vx rv ⟨a, ws, y, rfl, rfl, h1, by rw [← rw'.length, ← line_eq]; exact hz, ?_⟩
          have ev : Evo ρ H ρ (upd H a (.lst (ws ++ [y]))) := Evo.chg ha
          exact p ρ _ ev (R.chg ha ⟨_, upd_same, (rw'.append (.cons ry .nil)).mono ev⟩) _ .non
      · exact False.elim p
    · exact False.elim p
  · exact False.elim p
theorem pop_ok {ds : List D} {vs : List V} {us : List Value} (I : Inv X pins σ H s) (R : Rep g ρ hs H) (rx : Rl g ρ H dx x) (r : Rls g ρ H ds vs) (vx : RelV x v) (rv : Vals vs us) {hp : Bool}
    (p : Pv g ρ H (mthD hp .pop dx ds hs) Q W) : wpAny (model X.prog X.w) X.A (call (.builtin "list.pop") (v :: us)) (EP X pins σ Q) X.xe s := by
  unfold mthD at p
  split at p <;> first | (rename_i e; cases e; done) | skip
  · split at p
    · rename_i n _ xs e
      split at p
      · rename_i z hz
        cases r
        cases rx with
        | @ref a _ ha =>
          obtain ⟨ws, h1, rw'⟩ : ORel g ρ H a (.lst xs) := R.obj _ _ _ ha e
          rw [List.getLast?_eq_getElem?] at hz
          obtain ⟨y, hy, ry⟩ := rw'.get hz
          rw [rw'.length] at hy
          refine mt_pop pins s σ H _ _ v us Q I vx rv ⟨a, ws, y, rfl, rfl, h1, hy, ?_⟩
          have ev : Evo ρ H ρ (upd H a (.lst ws.dropLast)) := Evo.chg ha
          have rd : Rls g ρ H xs.dropLast ws.dropLast := by
            rw [List.dropLast_eq_take, List.dropLast_eq_take, rw'.length]
            exact rw'.take _
          exact p ρ _ ev (R.chg ha ⟨_, upd_same, rd.mono ev⟩) _ (ry.mono ev)
      · exact False.elim p
    · exact False.elim p
  · exact False.elim p

/-! ### xs[i] = v -/
theorem setItem_ok {dv : D} {z : V} {r : Value} {Q : Hp → Prop} (I : Inv X pins σ H s) (gw : g.w = X.w ∧ g.K = X.K) (R : Rep g ρ hs H) (hu : X.A.units + 64 < cLine) (rx : Rl g ρ H dx x) (ry : Rl g ρ H dy y) (rz : Rl g ρ H dv z) (vx : RelV x v) (vy : RelV y u) (vz : RelV z r)
    (p : Post g ρ H (WG.setItem dx dy dv hs) (fun _ _ H' _ => Q H') W) : wpAny (model X.prog X.w) X.A (PySem.setItem v u r) (fun _ s' => ∃ H', Inv X pins σ H' s' ∧ Q H') X.xe s := by
  unfold WG.setItem at p
  split at p
  · split at p
    · rename_i n _ xs e
      split at p
      · rename_i k
        split at p
        · rename_i j hj
          cases ry
          cases rx with
          | @ref a _ ha =>
            obtain ⟨ws, h1, rw'⟩ : ORel g ρ H a (.lst xs) := R.obj _ _ _ ha e
            refine set_list pins s σ H _ _ z v u r Q I vx vy vz ⟨a, ws, _, j, rfl, rfl, h1, by rw [← rw'.length]; exact hj, ?_⟩
            have ev : Evo ρ H ρ (upd H a (.lst (ws.set j z))) := Evo.chg ha
            exact p ρ _ ev (R.chg ha ⟨_, upd_same, (rw'.set rz j).mono ev⟩)
        · exact False.elim p
      · exact False.elim p
    · exact False.elim p
  · exact False.elim p
end
end WG

set_option Elab.async false
set_option linter.all false
set_option maxRecDepth 100000
set_option maxHeartbeats 4000000
set_option autoImplicit false
/-! Core5: expressions. -/
namespace WG
open PySem L2 PySem.Spec
open PyProof.Rows (subscriptTail)

/-- what a global name means -/
inductive GK where
  | fn (f : Nat) | cst (d : D) | blt | cls (c : Nat)
  deriving DecidableEq

abbrev Call := Nat → List D → Hs → Res D
/-- what a def at f promises, by what it computes -/
def Gm.at (g : Gm) (et : List Addr) : Gm := { g with eta := et }
def spF (g : Gm) (run : List D → Hs → Res D) : Sp := fun vs H Q E => ∃ et ρ hs ds, Rep (g.at et) ρ hs H ∧ Rls (g.at et) ρ H ds vs ∧ Pv (g.at et) ρ H (run ds hs) Q E

/-- an own class of exceptions, under ValueError, without an __init__ of its own -/
structure ClOk (X : Cx) (C : Addr) : Prop where
  keep : PySem.W.keepIn X.K (.ref C) = true
  exc : PySem.W.excIn X.K C [.type "ValueError", .type "Exception", .type "BaseException", .type "object"] "ValueError.__new__" = true
  sub : PySem.W.subIn X.K (.ref C) (.type "BaseException") = some true
  typ : PySem.W.typeIn X.K (.ref C) = some (.type "type")
structure GOk (g : Gm) (cl : Call) (k : Nat) (X : Cx) (x : Str) (v : GK) : Prop where
  nd : (x == ("__debug__" : Str)) = false
  nn : x ≠ "__name__"
  fn : ∀ f, v = .fn f → X.mg x = some (.ref (g.fa f)) ∧ PySem.W.keepIn X.K (.ref (g.fa f)) = true ∧ ∃ fd ps, FnOk X.prog X.w X.K X.mg X.base (L2.CX X.prog X.w) k (g.fa f) fd ps (spF g (cl f)) ∧ Binds X.K fd ps []
  cst : ∀ d, v = .cst d → ∃ u w, X.mg x = some u ∧ RelV w u ∧ ((∃ i, d = .int i ∧ w = .int i) ∨ (∃ i, d = .str i ∧ w = .str i))
  blt : v = .blt → X.mg x = none
  cls : ∀ c, v = .cls c → X.mg x = some (.ref (g.ca c)) ∧ ClOk X (g.ca c)

/-- a part's context: the names' slots and kinds, what the global names mean -/
structure Ce where
  N : List Str
  sc : Scope
  G : List (Str × GK)
/-- the context stands as Ce says; W: what is wanted of an exception -/
structure XG (g : Gm) (cl : Call) (ce : Ce) (k : Nat) (W : WX) (X : Cx) : Prop where
  gw : g.w = X.w ∧ g.K = X.K
  calm : X.calm = true
  room : Room k X.A
  nd : X.N.Nodup
  N : X.N = ce.N
  sc : X.env.scope = ce.sc
  glob : ∀ x v, ce.G.lookup x = some v → GOk g cl k X x v
  pass : ∀ σ, PassesAt (L2.CX X.prog X.w) X σ (WE W σ)

/-- an expression that gives what f says -/
def tE (g : Gm) (W : WX) (f : Fr → Hs → Res D) : TE := fun σ H Q => ∃ ρ hs fr, Rep g ρ hs H ∧ FrR g ρ H fr σ ∧ Pv g ρ H (f fr hs) Q (fun c d H' => W c d σ H')
def tT (g : Gm) (W : WX) (f : Fr → Hs → Res D) : TT := fun σ H Q => ∃ ρ hs fr, Rep g ρ hs H ∧ FrR g ρ H fr σ ∧ Post g ρ H (f fr hs) (fun _ _ H' d => ∃ b, d = .bl b ∧ Q b H') (fun c d H' => W c d σ H')
def tA (g : Gm) (W : WX) (f : Fr → Hs → Res (List D)) : TA := fun σ H Q => ∃ ρ hs fr, Rep g ρ hs H ∧ FrR g ρ H fr σ ∧ Post g ρ H (f fr hs) (fun ρ' _ H' ds => ∀ vs, Rls g ρ' H' ds vs → Q vs H') (fun c d H' => W c d σ H')

section
variable {g : Gm} {ρ ρ' : List Addr} {H H' : Hp} {α β : Type}
theorem Post.imp {r : Res α} {Q Q' : List Addr → Hs → Hp → α → Prop} {W : Value → Option Addr → Hp → Prop} (p : Post g ρ H r Q W) (h : ∀ ρ' hs' H' a, Evo ρ H ρ' H' → Rep g ρ' hs' H' → Q ρ' hs' H' a → Q' ρ' hs' H' a) : Post g ρ H r Q' W := by
  cases r with
  | ok a hs => exact fun ρ' H' e R => h _ _ _ _ e R (p ρ' H' e R)
  | exn c q hs => exact p
  | bad => exact p
theorem Post.from {r : Res α} {Q : List Addr → Hs → Hp → α → Prop} {W : Value → Option Addr → Hp → Prop} (p : Post g ρ H r Q W) (e : Evo ρ H ρ' H') : Post g ρ' H' r Q W := by
  cases r with
  | ok a hs => exact fun ρ'' H'' e' R => p ρ'' H'' (e.trans e') R
  | exn c q hs => exact fun ρ'' H'' d e' R => p ρ'' H'' d (e.trans e') R
  | bad => exact p
theorem Post.bind {r : Res α} {f : α → Hs → Res β} {Q : List Addr → Hs → Hp → β → Prop} {W : Value → Option Addr → Hp → Prop} (p : Post g ρ H (r.bind f) Q W) :
    Post g ρ H r (fun ρ' hs' H' a => Post g ρ' H' (f a hs') Q W) W := by
  cases r with
  | ok a hs => exact fun ρ' H' e R => Post.from p e
  | exn c q hs => exact p
  | bad => exact p
theorem Post.calm {r : Res α} {Q : List Addr → Hs → Hp → α → Prop} {W W' : Value → Option Addr → Hp → Prop} (p : Post g ρ H r.calm Q W) : Post g ρ H r Q W' := by
  cases r with
  | ok a hs => exact p
  | exn c q hs => exact False.elim p
  | bad => exact p
end

theorem PE.imp {X : Cx} {e : Expr} {t t' : TE} (h : PE X e t) (i : ∀ σ H Q, t' σ H Q → t σ H Q) : PE X e t' := ⟨fun pins s σ H Q I q => h.run pins s σ H Q I (i σ H Q q)⟩
theorem PT.imp {X : Cx} {e : Expr} {t t' : TT} (h : PT X e t) (i : ∀ σ H Q, t' σ H Q → t σ H Q) : PT X e t' := ⟨fun pins s σ H Q I q => h.run pins s σ H Q I (i σ H Q q)⟩
theorem PW.imp {X : Cx} {e : Expr} {t t' : TT} (h : PW X e t) (i : ∀ σ H Q, t' σ H Q → t σ H Q) : PW X e t' := ⟨fun w pins s σ H Q I q => h.run w pins s σ H Q I (i σ H Q q)⟩
theorem PA.imp {X : Cx} {es : List Expr} {t t' : TA} (h : PA X es t) (i : ∀ σ H Q, t' σ H Q → t σ H Q) : PA X es t' := ⟨fun pos pins s σ H Q I q => h.run pos pins s σ H Q I (i σ H Q q)⟩

section
variable {g : Gm} {cl : Call} {ce : Ce} {k : Nat} {W : WX} {X : Cx} {pos : Pos} {a b c : Expr} {ea eb ec : CE}
abbrev E5 (g : Gm) (cl : Call) (W : WX) (e : CE) : TE := tE g W (evE cl e)
abbrev T5 (g : Gm) (cl : Call) (W : WX) (e : CE) : TT := tT g W (evE cl e)
abbrev A5 (g : Gm) (cl : Call) (W : WX) (e : CEs) : TA := tA g W (evEs cl e)

theorem XG.un (x : XG g cl ce k W X) : X.A.units + 64 < cLine := x.room.units

/-- a value at hand -/
theorem tE_pure {f : Fr → Hs → Res D} {σ : L2.St} {H : Hp} {Q : VK} (h : tE g W f σ H Q) {d : Fr → Hs → D} (hf : ∀ fr hs, f fr hs = .ok (d fr hs) hs) : ∃ ρ hs fr, Rep g ρ hs H ∧ FrR g ρ H fr σ ∧ ∀ v, Rl g ρ H (d fr hs) v → Q v H := by
  obtain ⟨ρ, hs, fr, R, F, p⟩ := h
  rw [hf] at p
  exact ⟨ρ, hs, fr, R, F, fun v r => p.here R r⟩

theorem se_var {x : Str} {i : Nat} (G : XG g cl ce k W X) (hi : ce.N[i]? = some x) (hv : Vis ce.sc x) (hd : (x == ("__debug__" : Str)) = false) (hcd : (x == ("__classdict__" : Str)) = false) : PE X (.Name x pos) (E5 g cl W (.var i)) := by
  refine PE.imp (pe_var (i := i) (by rw [G.N]; exact hi) (by rw [G.sc]; exact hv) hd hcd) fun σ H Q h => ?_
  obtain ⟨ρ, hs, fr, R, F, p⟩ := h
  simp only [evE] at p
  split at p
  · rename_i d e
    obtain ⟨v, hv, r⟩ := F.2 i d e
    exact ⟨v, hv, p.here R r⟩
  · exact False.elim p
theorem se_int {i : Int} {j : Nat} : PE X (.Constant (.int i) j pos) (E5 g cl W (.cst (.int i))) := PE.imp pe_int fun σ H Q ⟨ρ, hs, fr, R, F, p⟩ => p.here R (.int i)
theorem se_bl {i : Bool} {j : Nat} : PE X (.Constant (.bool i) j pos) (E5 g cl W (.cst (.bl i))) := PE.imp pe_bl fun σ H Q ⟨ρ, hs, fr, R, F, p⟩ => p.here R (.bl i)
theorem se_str {i : Str} {j : Nat} : PE X (.Constant (.str i) j pos) (E5 g cl W (.cst (.str i))) := PE.imp pe_str fun σ H Q ⟨ρ, hs, fr, R, F, p⟩ => p.here R (.str i)
theorem se_non {j : Nat} : PE X (.Constant .none j pos) (E5 g cl W (.cst .non)) := PE.imp pe_non fun σ H Q ⟨ρ, hs, fr, R, F, p⟩ => p.here R .non
theorem se_gcst {x : Str} {d : D} (G : XG g cl ce k W X) (hg : ce.sc.names.lookup x = some .globalImplicit) (hx : ce.G.lookup x = some (.cst d)) : PE X (.Name x pos) (E5 g cl W (.cst d)) := by
  have o := G.glob x _ hx
  obtain ⟨u, w, h1, h2, h3⟩ := o.cst d rfl
  refine PE.imp (pe_glob (v := w) (by show X.env.scope.names.lookup x = _; rw [G.sc]; exact hg) h1 h2 o.nd) fun σ H Q ⟨ρ, hs, fr, R, F, p⟩ => ?_
  rcases h3 with ⟨i, rfl, rfl⟩ | ⟨i, rfl, rfl⟩
  · exact p.here R (.int i)
  · exact p.here R (.str i)

/-- two parts, then an operation -/
theorem tE_two {fa fb : Fr → Hs → Res D} {op : D → D → Hs → Res D} {r : R2} {σ : L2.St} {H : Hp} {Q : VK} (h : tE g W (fun fr hs => (fa fr hs).bind fun x hs => (fb fr hs).bind fun y hs => op x y hs) σ H Q)
    (hr : ∀ ρ hs H x y dx dy, Rep g ρ hs H → Rl g ρ H dx x → Rl g ρ H dy y → Pv g ρ H (op dx dy hs) Q (fun c d H' => W c d σ H') → r x y H Q) : tOp r (tE g W fa) (tE g W fb) σ H Q := by
  obtain ⟨ρ, hs, fr, R, F, p⟩ := h
  refine ⟨ρ, hs, fr, R, F, Post.imp (Post.bind p) fun ρ1 hs1 H1 dx e1 R1 p1 x rx => ?_⟩
  refine ⟨ρ1, hs1, fr, R1, F.mono e1, Post.imp (Post.bind p1) fun ρ2 hs2 H2 dy e2 R2 p2 y ry => ?_⟩
  exact hr ρ2 hs2 H2 x y dx dy R2 (rx.mono e2) ry p2
theorem se_bin {h : Bool} {op : BOp} (ha : PE X a (E5 g cl W ea)) (hb : PE X b (E5 g cl W eb)) : PE X (.BinOp a (pyOp op) b pos) (E5 g cl W (.bin h op ea eb)) := by
  have o : ∀ (W' : Value → Option Addr → Hp → Prop), OpR X (binaryOp (pyOp op)) (fun x y H Q => ∃ ρ hs dx dy, Rep g ρ hs H ∧ Rl g ρ H dx x ∧ Rl g ρ H dy y ∧ Pv g ρ H (binD h op dx dy hs) Q W') := fun W' pins s σ H x y v u Q I vx vy ⟨ρ, hs, dx, dy, R, rx, ry, p⟩ => bin_ok I R rx ry vx vy p
  refine ⟨fun pins s σ H Q I q => (pe_op (o fun c d H' => W c d σ H') ha hb).run pins s σ H Q I ?_⟩
  exact tE_two (op := binD h op) (by simpa only [E5, evE] using q) fun ρ hs H x y dx dy R rx ry p => ⟨ρ, hs, dx, dy, R, rx, ry, p⟩
theorem se_neg (ha : PE X a (E5 g cl W ea)) : PE X (.UnaryOp .USub a pos) (E5 g cl W (.neg ea)) := by
  refine PE.imp (pe_un un_neg ha) fun σ H Q ⟨ρ, hs, fr, R, F, p⟩ => ?_
  simp only [evE] at p
  refine ⟨ρ, hs, fr, R, F, Post.imp (Post.bind p) fun ρ1 hs1 H1 dx e1 R1 p1 x rx => ?_⟩
  split at p1
  · cases rx
    exact ⟨_, rfl, p1 ρ1 H1 Evo.refl R1 _ (.int _)⟩
  · exact False.elim p1
theorem se_not (ha : PE X a (E5 g cl W ea)) : PE X (.UnaryOp .Not a pos) (E5 g cl W (.not ea)) := by
  refine PE.imp (pe_not ha) fun σ H Q ⟨ρ, hs, fr, R, F, p⟩ => ?_
  simp only [evE] at p
  refine ⟨ρ, hs, fr, R, F, Post.imp (Post.bind p) fun ρ1 hs1 H1 dx e1 R1 p1 x rx => ?_⟩
  split at p1
  · cases rx
    exact ⟨_, rfl, p1 ρ1 H1 Evo.refl R1 _ (.bl _)⟩
  · exact False.elim p1
theorem st_not (ha : PT X a (T5 g cl W ea)) : PT X (.UnaryOp .Not a pos) (T5 g cl W (.not ea)) := by
  refine PT.imp (pt_not ha) fun σ H Q ⟨ρ, hs, fr, R, F, p⟩ => ?_
  simp only [evE] at p
  refine ⟨ρ, hs, fr, R, F, Post.imp (Post.bind p) fun ρ1 hs1 H1 dx e1 R1 p1 => ?_⟩
  split at p1
  · obtain ⟨b, e, q⟩ := p1 ρ1 H1 Evo.refl R1
    injection e with e
    subst e
    exact ⟨_, rfl, q⟩
  · exact False.elim p1
variable {rest : List Expr}
theorem se_and (ha : PE X a (E5 g cl W ea)) (hb : PE X (.BoolOp .And (b :: rest) pos) (E5 g cl W eb)) : PE X (.BoolOp .And (a :: b :: rest) pos) (E5 g cl W (.and ea eb)) := by
  refine PE.imp (pe_and ha hb) fun σ H Q ⟨ρ, hs, fr, R, F, p⟩ => ?_
  simp only [evE] at p
  refine ⟨ρ, hs, fr, R, F, Post.imp (Post.bind p) fun ρ1 hs1 H1 dx e1 R1 p1 x rx => ?_⟩
  split at p1
  · cases rx
    exact ⟨true, rfl, by (try dsimp only); rw [if_pos rfl]; exact ⟨ρ1, hs1, fr, R1, F.mono e1, p1⟩⟩
  · cases rx
    exact ⟨false, rfl, by (try dsimp only); rw [if_neg Bool.false_ne_true]; exact p1 ρ1 H1 Evo.refl R1 _ (.bl _)⟩
  · exact False.elim p1
theorem se_or (ha : PE X a (E5 g cl W ea)) (hb : PE X (.BoolOp .Or (b :: rest) pos) (E5 g cl W eb)) : PE X (.BoolOp .Or (a :: b :: rest) pos) (E5 g cl W (.or ea eb)) := by
  refine PE.imp (pe_or ha hb) fun σ H Q ⟨ρ, hs, fr, R, F, p⟩ => ?_
  simp only [evE] at p
  refine ⟨ρ, hs, fr, R, F, Post.imp (Post.bind p) fun ρ1 hs1 H1 dx e1 R1 p1 x rx => ?_⟩
  split at p1
  · cases rx
    exact ⟨true, rfl, by (try dsimp only); rw [if_pos rfl]; exact p1 ρ1 H1 Evo.refl R1 _ (.bl _)⟩
  · cases rx
    exact ⟨false, rfl, by (try dsimp only); rw [if_neg Bool.false_ne_true]; exact ⟨ρ1, hs1, fr, R1, F.mono e1, p1⟩⟩
  · exact False.elim p1
theorem se_one {op : BoolOp} (ha : PE X a (E5 g cl W ea)) : PE X (.BoolOp op [a] pos) (E5 g cl W ea) := pe_one ha
theorem st_and (ha : PT X a (T5 g cl W ea)) (hb : PW X (.BoolOp .And (b :: rest) pos) (T5 g cl W eb)) : PW X (.BoolOp .And (a :: b :: rest) pos) (T5 g cl W (.and ea eb)) := by
  refine PW.imp (pw_and ha hb) fun σ H Q ⟨ρ, hs, fr, R, F, p⟩ => ?_
  simp only [evE] at p
  refine ⟨ρ, hs, fr, R, F, Post.imp (Post.bind p) fun ρ1 hs1 H1 dx e1 R1 p1 => ?_⟩
  split at p1
  · exact ⟨true, rfl, by (try dsimp only); rw [if_pos rfl]; exact ⟨ρ1, hs1, fr, R1, F.mono e1, p1⟩⟩
  · obtain ⟨b, e, q⟩ := p1 ρ1 H1 Evo.refl R1
    injection e with e
    subst e
    exact ⟨false, rfl, by (try dsimp only); rw [if_neg Bool.false_ne_true]; exact q⟩
  · exact False.elim p1
theorem st_or (ha : PT X a (T5 g cl W ea)) (hb : PW X (.BoolOp .Or (b :: rest) pos) (T5 g cl W eb)) : PW X (.BoolOp .Or (a :: b :: rest) pos) (T5 g cl W (.or ea eb)) := by
  refine PW.imp (pw_or ha hb) fun σ H Q ⟨ρ, hs, fr, R, F, p⟩ => ?_
  simp only [evE] at p
  refine ⟨ρ, hs, fr, R, F, Post.imp (Post.bind p) fun ρ1 hs1 H1 dx e1 R1 p1 => ?_⟩
  split at p1
  · obtain ⟨b, e, q⟩ := p1 ρ1 H1 Evo.refl R1
    injection e with e
    subst e
    exact ⟨true, rfl, by (try dsimp only); rw [if_pos rfl]; exact q⟩
  · exact ⟨false, rfl, by (try dsimp only); rw [if_neg Bool.false_ne_true]; exact ⟨ρ1, hs1, fr, R1, F.mono e1, p1⟩⟩
  · exact False.elim p1
theorem st_one_and (ha : PT X a (T5 g cl W ea)) : PW X (.BoolOp .And [a] pos) (T5 g cl W ea) := pw_and1 ha
theorem st_one_or (ha : PT X a (T5 g cl W ea)) : PW X (.BoolOp .Or [a] pos) (T5 g cl W ea) := pw_or1 ha
/-- any other expression as a test -/
theorem st_val {e : Expr} {ee : CE} (h : PE X e (E5 g cl W ee)) (he : ∀ whole, isTrue e X.env whole = (do let v ← whole; standAt e.pos; holding [v] (truthy v))) : PT X e (T5 g cl W ee) := by
  refine PT.imp (pt_val h he) fun σ H Q ⟨ρ, hs, fr, R, F, p⟩ => ?_
  refine ⟨ρ, hs, fr, R, F, Post.imp p fun ρ1 hs1 H1 dx e1 R1 ⟨b, e, q⟩ x rx => ?_⟩
  subst e
  cases rx
  exact ⟨b, rfl, q⟩
theorem cmpR (G : XG g cl ce k W X) (op : COp) : OpR X (compareOp (pyCmp op)) (fun x y H Q => ∃ ρ hs dx dy b, Rep g ρ hs H ∧ Rl g ρ H dx x ∧ Rl g ρ H dy y ∧ cmpB op dx dy hs = some b ∧ Q (.bl b) H) :=
  fun pins s σ H x y v u Q I vx vy ⟨ρ, hs, dx, dy, b, R, rx, ry, e, q⟩ => cmp_ok I G.gw R G.un rx ry vx vy e q
theorem pc_cmp5 (G : XG g cl ce k W X) {op : COp} (ha : PE X a (E5 g cl W ea)) (hb : PE X b (E5 g cl W eb)) : PC X (pyCmp op) a b (E5 g cl W (.cmp op ea eb)) := by
  refine ⟨fun pins s σ H Q I q => ?_⟩
  refine binT ha hb I (R := fun x y H2 => ∃ ρ hs dx dy b, Rep g ρ hs H2 ∧ Rl g ρ H2 dx x ∧ Rl g ρ H2 dy y ∧ cmpB op dx dy hs = some b ∧ Q (.bl b) H2) ?_ fun v u s2 x y H2 I2 vx vy q2 => cmpR G op pins s2 σ H2 x y v u Q I2 vx vy q2
  obtain ⟨ρ, hs, fr, R, F, p⟩ := q
  simp only [evE] at p
  refine ⟨ρ, hs, fr, R, F, Post.imp (Post.bind p) fun ρ1 hs1 H1 dx e1 R1 p1 x rx => ?_⟩
  refine ⟨ρ1, hs1, fr, R1, F.mono e1, Post.imp (Post.bind p1) fun ρ2 hs2 H2 dy e2 R2 p2 y ry => ?_⟩
  split at p2
  · rename_i b hb
    exact ⟨ρ2, hs2, dx, dy, b, R2, rx.mono e2, ry, hb, p2 ρ2 H2 Evo.refl R2 _ (.bl b)⟩
  · exact False.elim p2
theorem se_cmp (G : XG g cl ce k W X) {op : COp} (ha : PE X a (E5 g cl W ea)) (hb : PE X b (E5 g cl W eb)) (hm : behindInMarks (pyCmp op) b = false) : PE X (.Compare a [pyCmp op] [b] pos) (E5 g cl W (.cmp op ea eb)) := pe_cmp (pc_cmp5 G ha hb) hm
theorem tB_of {f : Fr → Hs → Res D} {σ : L2.St} {H : Hp} {Q : Bool → Hp → Prop} (h : tT g W f σ H Q) : tB (tE g W f) σ H Q := by
  obtain ⟨ρ, hs, fr, R, F, p⟩ := h
  refine ⟨ρ, hs, fr, R, F, Post.imp p fun ρ1 hs1 H1 dx e1 R1 ⟨b, e, q⟩ x rx => ?_⟩
  subst e
  cases rx
  exact ⟨b, rfl, q⟩
theorem st_cmp (G : XG g cl ce k W X) {op : COp} (ha : PE X a (E5 g cl W ea)) (hb : PE X b (E5 g cl W eb)) (hm : behindInMarks (pyCmp op) b = false) : PT X (.Compare a [pyCmp op] [b] pos) (T5 g cl W (.cmp op ea eb)) :=
  PT.imp (pt_cmp (pc_cmp5 G ha hb) hm) fun _ _ _ h => tB_of h
theorem pc_isN5 (ha : PE X a (E5 g cl W ea)) {j : Nat} {p' : Pos} : PC X .Is a (.Constant .none j p') (E5 g cl W (.isN ea)) := by
  refine ⟨fun pins s σ H Q I q => (pc_isN ha).run pins s σ H Q I ?_⟩
  obtain ⟨ρ, hs, fr, R, F, p⟩ := q
  simp only [evE] at p
  refine ⟨ρ, hs, fr, R, F, Post.imp (Post.bind p) fun ρ1 hs1 H1 dx e1 R1 p1 x rx => ?_⟩
  have e : decide (x = .non) = decide (dx = .non) := by cases rx <;> simp
  dsimp only
  rw [e]
  exact p1 ρ1 H1 Evo.refl R1 _ (.bl _)
theorem pc_notN5 (ha : PE X a (E5 g cl W ea)) {j : Nat} {p' : Pos} : PC X .IsNot a (.Constant .none j p') (E5 g cl W (.notN ea)) := by
  refine ⟨fun pins s σ H Q I q => (pc_notN ha).run pins s σ H Q I ?_⟩
  obtain ⟨ρ, hs, fr, R, F, p⟩ := q
  simp only [evE] at p
  refine ⟨ρ, hs, fr, R, F, Post.imp (Post.bind p) fun ρ1 hs1 H1 dx e1 R1 p1 x rx => ?_⟩
  have e : decide (x = .non) = decide (dx = .non) := by cases rx <;> simp
  dsimp only
  rw [e]
  exact p1 ρ1 H1 Evo.refl R1 _ (.bl _)
theorem se_isN (ha : PE X a (E5 g cl W ea)) {j : Nat} {p' : Pos} : PE X (.Compare a [.Is] [.Constant .none j p'] pos) (E5 g cl W (.isN ea)) := pe_cmp (pc_isN5 ha) rfl
theorem se_notN (ha : PE X a (E5 g cl W ea)) {j : Nat} {p' : Pos} : PE X (.Compare a [.IsNot] [.Constant .none j p'] pos) (E5 g cl W (.notN ea)) := pe_cmp (pc_notN5 ha) rfl
theorem st_isN (ha : PE X a (E5 g cl W ea)) {j : Nat} {p' : Pos} : PT X (.Compare a [.Is] [.Constant .none j p'] pos) (T5 g cl W (.isN ea)) := PT.imp (pt_cmp (pc_isN5 ha) rfl) fun _ _ _ h => tB_of h
theorem st_notN (ha : PE X a (E5 g cl W ea)) {j : Nat} {p' : Pos} : PT X (.Compare a [.IsNot] [.Constant .none j p'] pos) (T5 g cl W (.notN ea)) := PT.imp (pt_cmp (pc_notN5 ha) rfl) fun _ _ _ h => tB_of h
theorem se_ite (hc : PT X c (T5 g cl W ec)) (ha : PE X a (E5 g cl W ea)) (hb : PE X b (E5 g cl W eb)) : PE X (.IfExp c a b pos) (E5 g cl W (.ite ec ea eb)) := by
  refine PE.imp (pe_ifExp hc ha hb) fun σ H Q ⟨ρ, hs, fr, R, F, p⟩ => ?_
  simp only [evE] at p
  refine ⟨ρ, hs, fr, R, F, Post.imp (Post.bind p) fun ρ1 hs1 H1 dx e1 R1 p1 => ?_⟩
  split at p1
  · exact ⟨true, rfl, by (try dsimp only); rw [if_pos rfl]; exact ⟨ρ1, hs1, fr, R1, F.mono e1, p1⟩⟩
  · exact ⟨false, rfl, by (try dsimp only); rw [if_neg Bool.false_ne_true]; exact ⟨ρ1, hs1, fr, R1, F.mono e1, p1⟩⟩
  · exact False.elim p1

-- argument lists
theorem sa_nil : PA X [] (A5 g cl W .nil) := PA.imp pa_nil fun σ H Q ⟨ρ, hs, fr, R, F, p⟩ => p ρ H Evo.refl R [] .nil
theorem starEach_cons {e : Expr} {es : List Expr} {env : Env} (h : ∀ v p, e ≠ .Starred v p) : starEach (e :: es) env = (false, eval e env) :: starEach es env := by
  cases e <;> first | rfl | exact absurd rfl (h _ _)
theorem sa_cons {es : List Expr} {ees : CEs} (hs : ∀ v p, a ≠ .Starred v p) (ha : PE X a (E5 g cl W ea)) (hr : PA X es (A5 g cl W ees)) : PA X (a :: es) (A5 g cl W (.cons ea ees)) := by
  refine PA.imp (pa_cons ha hr (starEach_cons hs)) fun σ H Q ⟨ρ, hs, fr, R, F, p⟩ => ?_
  simp only [evEs] at p
  refine ⟨ρ, hs, fr, R, F, Post.imp (Post.bind p) fun ρ1 hs1 H1 dx e1 R1 p1 x rx => ?_⟩
  refine ⟨ρ1, hs1, fr, R1, F.mono e1, Post.imp (Post.bind p1) fun ρ2 hs2 H2 ds e2 R2 p2 vs rv => ?_⟩
  exact p2 ρ2 H2 Evo.refl R2 _ (.cons (rx.mono e2) rv)
/-- how many -/
def CEs.len : CEs → Nat
  | .nil => 0
  | .cons _ es => es.len + 1
theorem evEs_len : ∀ (es : CEs) (fr : Fr) (hs hs' : Hs) (ds : List D), evEs cl es fr hs = .ok ds hs' → ds.length = es.len
  | .nil, _, _, _, _, h => by simp only [evEs] at h; cases h; rfl
  | .cons e es, fr, hs, hs', ds, h => by
    simp only [evEs] at h
    cases h1 : evE cl e fr hs with
    | ok d hs1 =>
      rw [h1, Res.bind_ok] at h
      cases h2 : evEs cl es fr hs1 with
      | ok ds2 hs2 =>
        rw [h2, Res.bind_ok] at h
        cases h
        rw [List.length_cons, CEs.len, evEs_len es fr hs1 _ ds2 h2]
      | exn _ _ _ => rw [h2] at h; cases h
      | bad => rw [h2] at h; cases h
    | exn _ _ _ => rw [h1] at h; cases h
    | bad => rw [h1] at h; cases h
theorem Post.and {α : Type} {ρ : List Addr} {H : Hp} {r : Res α} {Q : List Addr → Hs → Hp → α → Prop} {W : Value → Option Addr → Hp → Prop} {φ : α → Prop} (p : Post g ρ H r Q W) (h : ∀ a hs, r = .ok a hs → φ a) : Post g ρ H r (fun ρ' hs' H' a => φ a ∧ Q ρ' hs' H' a) W := by
  cases r with
  | ok a hs => exact fun ρ' H' e R => ⟨h a hs rfl, p ρ' H' e R⟩
  | exn c q hs => exact p
  | bad => exact p
theorem se_tup {es : List Expr} {ees : CEs} {j : Nat} (hl : ees.len ≤ line) (h : PA X es (A5 g cl W ees)) : PE X (.Tuple es j pos) (E5 g cl W (.tup ees)) := by
  refine PE.imp (pe_tup h) fun σ H Q ⟨ρ, hs, fr, R, F, p⟩ => ?_
  simp only [evE] at p
  refine ⟨ρ, hs, fr, R, F, Post.imp (Post.and (Post.bind p) (φ := fun ds => ds.length = ees.len) fun ds hs' e => evEs_len ees fr hs hs' ds e) fun ρ1 hs1 H1 ds e1 R1 ⟨hl1, p1⟩ vs rv => ?_⟩
  refine ⟨by rw [← rv.length, hl1, ← line_eq]; exact hl, ?_⟩
  exact tup_ok R1 rv p1
theorem se_lst {es : List Expr} {ees : CEs} {hp : Bool} (hl : ees.len ≤ line) (h : PA X es (A5 g cl W ees)) : PE X (.List es pos) (E5 g cl W (.lst hp ees)) := by
  refine PE.imp (pe_lst h) fun σ H Q ⟨ρ, hs, fr, R, F, p⟩ => ?_
  simp only [evE] at p
  refine ⟨ρ, hs, fr, R, F, Post.imp (Post.and (Post.bind p) (φ := fun ds => ds.length = ees.len) fun ds hs' e => evEs_len ees fr hs hs' ds e) fun ρ1 hs1 H1 ds e1 R1 ⟨hl1, p1⟩ vs rv => ?_⟩
  refine ⟨by rw [← rv.length, hl1, ← line_eq]; exact hl, ?_⟩
  exact fin_ok R1 rv p1
/-- a subscript -/
theorem se_idx (G : XG g cl ce k W X) (ha : PE X a (E5 g cl W ea)) (hb : PE X b (E5 g cl W eb)) (hs : PlainIx b) : PE X (.Subscript a b pos) (E5 g cl W (.idx ea eb)) := by
  have o : IxR X (fun x y H Q => ∃ ρ hs dx dy d, Rep g ρ hs H ∧ Rl g ρ H dx x ∧ Rl g ρ H dy y ∧ idxD dx dy hs = some d ∧ ∀ z, Rl g ρ H d z → Q z H) :=
    fun value slice pins s σ H x y v u Q I vx vy ⟨ρ, hs, dx, dy, d, R, rx, ry, e, q⟩ h => idx_ok value slice I G.gw R G.un rx ry vx vy h e q
  refine PE.imp (pe_ix o ha hb hs) fun σ H Q ⟨ρ, hs, fr, R, F, p⟩ => ?_
  simp only [evE] at p
  refine ⟨ρ, hs, fr, R, F, Post.imp (Post.bind p) fun ρ1 hs1 H1 dx e1 R1 p1 x rx => ?_⟩
  refine ⟨ρ1, hs1, fr, R1, F.mono e1, Post.imp (Post.bind p1) fun ρ2 hs2 H2 dy e2 R2 p2 y ry => ?_⟩
  split at p2
  · rename_i d hd
    exact ⟨ρ2, hs2, dx, dy, d, R2, rx.mono e2, ry, hd, fun z rz => p2 ρ2 H2 Evo.refl R2 _ rz⟩
  · exact False.elim p2
end
end WG

set_option Elab.async false
set_option linter.all false
set_option maxRecDepth 100000
set_option maxHeartbeats 4000000
set_option autoImplicit false
/-! Core6: slices, calls, methods, what is walked, comprehensions. -/
namespace WG
open PySem L2 PySem.Spec
open PyProof.Rows (subscriptTail)

section
variable {g : Gm} {cl : Call} {ce : Ce} {k : Nat} {W : WX} {X : Cx} {pos : Pos} {a b c : Expr} {ea eb ec : CE}

/-! ### slices -/
/-- a slice's bound: left out, or an expression -/
def tO (g : Gm) (W : WX) (l : Bool) (f : Fr → Hs → Res D) : TO := fun σ H Q => ∃ ρ hs fr, Rep g ρ hs H ∧ FrR g ρ H fr σ ∧ Post g ρ H (f fr hs) (fun _ _ H' d => ∃ o, partB l d = true ∧ partOf d = some o ∧ Q o H') (fun c d H' => W c d σ H')
structure PartOk (g : Gm) (cl : Call) (W : WX) (X : Cx) (e : Option Expr) (l : Bool) (ee : CE) : Prop where
  po : PO X e (tO g W l (evE cl ee))
theorem po_no : PartOk g cl W X none false (.cst .non) := ⟨⟨fun pins s σ H Q I ⟨ρ, hs, fr, R, F, p⟩ => by
  obtain ⟨o, _, e, q⟩ := p ρ H Evo.refl R
  injection e with e
  subst e
  exact po_none.run pins s σ H Q I q⟩⟩
theorem po_ex (h : PE X a (E5 g cl W ea)) : PartOk g cl W X (some a) true ea := ⟨⟨fun pins s σ H Q I ⟨ρ, hs, fr, R, F, p⟩ => by
  refine (po_some h).run pins s σ H Q I ⟨ρ, hs, fr, R, F, Post.imp p fun ρ1 hs1 H1 d e1 R1 ⟨o, hd, e, q⟩ x rx => ?_⟩
  cases d with
  | int i =>
    injection e with e
    subst e
    cases rx
    exact ⟨_, rfl, q⟩
  | _ => cases hd⟩⟩
theorem partB_of {l : Bool} {d : D} (h : partB l d = true) : ∃ o, partOf d = some o := by cases d <;> first | exact ⟨_, rfl⟩ | (cases l <;> cases h)
theorem cut_eq {ds : List D} {vs : List V} {ρ : List Addr} {H : Hp} (r : Rls g ρ H ds vs) {o u : Option Int} : Rls g ρ H (cut ds (HT.sIx ds.length 0 o) (HT.sIx ds.length ds.length u)) (cutV vs o u) := by
  unfold cut cutV
  rw [r.length]
  exact (r.drop _).take _
def rSliceT (X : Cx) : V → Option Int → Option Int → Hp → VK → Prop := fun x lo hi H Q => rSlA X.K x lo hi H Q
theorem cut_all {α : Type} {xs : List α} {a b : Nat} (h : a = 0 ∧ b = xs.length) : cut xs a b = xs := by
  obtain ⟨rfl, rfl⟩ := h
  unfold cut
  simp
theorem sl_listM {X : Cx} : SlR X (fun x lo hi H Q => ∃ a xs, x = .ref a ∧ H a = some (.lst xs) ∧ ∀ p, H p = none → Q (.ref p) (upd H p (.lst (cutV xs lo hi)))) := by
  intro pins s σ H x v vl vu lo hi sl Q I rx hs pl pu h
  obtain ⟨a, xs, rfl, hx, q⟩ := h
  exact sl_list pins s σ H _ v vl vu lo hi sl Q I rx hs pl pu ⟨a, xs, rfl, SqL.of hx, q⟩
theorem slR {h : Bool} (W' : Value → Option Addr → Hp → Prop) : SlR X (fun x lo hi H Q => ∃ ρ hs dx dl du, Rep g ρ hs H ∧ Rl g ρ H dx x ∧ partOf dl = some lo ∧ partOf du = some hi ∧ Pv g ρ H (sliceD h dx dl du hs) Q W') := by
  intro pins s σ H x v vl vu lo hi sl Q I vx hsl pl pu ⟨ρ, hs, dx, dl, du, R, rx, el, eu, p⟩
  unfold sliceD at p
  split at p
  · rename_i xs
    split at p
    · rename_i i j hi' hj
      obtain ⟨o1, e1, c1⟩ := cutAt_part hi'
      obtain ⟨o2, e2, c2⟩ := cutAt_part hj
      rw [el] at e1; injection e1 with e1; subst e1
      rw [eu] at e2; injection e2 with e2; subst e2
      cases rx with
      | @tup a _ vs h1 n1 r1 =>
        have hlen := r1.length
        refine sl_tupA pins s σ H _ v vl vu lo hi sl Q I vx hsl pl pu ⟨a, vs, rfl, SqT.of h1, fun z => ?_, fun _ => ?_⟩
        · rw [← hlen, c1, c2] at z
          rw [cut_all z] at p
          exact p ρ H Evo.refl R _ (.tup h1 n1 r1)
        · subst c1 c2
          exact tup_ok R (cut_eq r1) p
    · exact False.elim p
  · split at p
    · rename_i xs hx
      split at p
      · rename_i i j hi' hj
        obtain ⟨o1, e1, c1⟩ := cutAt_part hi'
        obtain ⟨o2, e2, c2⟩ := cutAt_part hj
        rw [el] at e1; injection e1 with e1; subst e1
        rw [eu] at e2; injection e2 with e2; subst e2
        obtain ⟨a, vs, rfl, h1, r1⟩ := items_ok R rx hx
        subst c1 c2
        exact sl_listM pins s σ H _ v vl vu lo hi sl Q I vx hsl pl pu ⟨a, vs, rfl, h1, fin_ok R (cut_eq r1) p⟩
      · exact False.elim p
    · exact False.elim p
theorem se_slice {h pl pu : Bool} {lo hi : Option Expr} {el eu : CE} {p2 : Pos} (ha : PE X a (E5 g cl W ea)) (hl : PartOk g cl W X lo pl el) (hu : PartOk g cl W X hi pu eu) : PE X (.Subscript a (.Slice lo hi none p2) pos) (E5 g cl W (.slice h ea pl el pu eu)) := by
  refine ⟨fun pins s σ H Q I q => (pe_slice (slR (g := g) (h := h) fun c d H' => W c d σ H') ha hl.po hu.po).run pins s σ H Q I ?_⟩
  obtain ⟨ρ, hs, fr, R, F, p⟩ := q
  simp only [evE] at p
  refine ⟨ρ, hs, fr, R, F, Post.imp (Post.bind p) fun ρ1 hs1 H1 dx e1 R1 p1 x rx => ?_⟩
  refine ⟨ρ1, hs1, fr, R1, F.mono e1, Post.imp (Post.bind p1) fun ρ2 hs2 H2 dl e2 R2 p2 => ?_⟩
  split at p2
  · rename_i hl
    obtain ⟨o, ho⟩ := partB_of hl
    refine ⟨o, hl, ho, ρ2, hs2, fr, R2, (F.mono e1).mono e2, Post.imp (Post.bind p2) fun ρ3 hs3 H3 du e3 R3 p3 => ?_⟩
    split at p3
    · rename_i hu
      obtain ⟨o', ho'⟩ := partB_of hu
      exact ⟨o', hu, ho', ρ3, hs3, dx, dl, du, R3, (rx.mono e2).mono e3, ho, ho', p3⟩
    · exact False.elim p3
  · exact False.elim p2
theorem se_rev {h : Bool} {j : Nat} {p1 p2 p3 : Pos} (ha : PE X a (E5 g cl W ea)) : PE X (.Subscript a (.Slice none none (some (.UnaryOp .USub (.Constant (.int 1) j p1) p2)) p3) pos) (E5 g cl W (.rev h ea)) := by
  refine ⟨fun pins s σ H Q I ⟨ρ, hs, fr, R, F, p⟩ => ?_⟩
  simp only [evE] at p
  exact False.elim p

/-! ### calls -/
theorem se_call {x : Str} {p : Pos} {f : Nat} {e : Expr} {es : List Expr} {ees : CEs} (G : XG g cl ce k W X) (hg : ce.sc.names.lookup x = some .globalImplicit) (hx : ce.G.lookup x = some (.fn f)) (hs : ∀ v p, e ≠ .Starred v p)
    (hpl : (backTo pos (starEach es X.env)).any (·.1) = false) (ha : PA X (e :: es) (A5 g cl W ees)) : PE X (.Call (.Name x p) (e :: es) [] pos) (E5 g cl W (.call f ees)) := by
  have o := G.glob x _ hx
  obtain ⟨h1, h2, fd, ps, F, B⟩ := o.fn f rfl
  refine PE.imp (pe_callS (E := WE W) F G.room (by show X.env.scope.names.lookup x = _; rw [G.sc]; exact hg) h1 h2 B G.pass ha o.nd (starEach_cons hs) hpl) fun σ H Q ⟨ρ, hs, fr, R, F, p⟩ => ?_
  simp only [evE] at p
  exact ⟨ρ, hs, fr, R, F, Post.imp (Post.bind p) fun ρ1 hs1 H1 ds e1 R1 p1 vs rv => ⟨g.eta, ρ1, hs1, ds, R1, rv, p1⟩⟩
theorem se_call0 {x : Str} {p : Pos} {f : Nat} (G : XG g cl ce k W X) (hg : ce.sc.names.lookup x = some .globalImplicit) (hx : ce.G.lookup x = some (.fn f)) : PE X (.Call (.Name x p) [] [] pos) (E5 g cl W (.call f .nil)) := by
  have o := G.glob x _ hx
  obtain ⟨h1, h2, fd, ps, F, B⟩ := o.fn f rfl
  refine ⟨fun pins s σ H Q I ⟨ρ, hs, fr, R, FR, p⟩ => ?_⟩
  simp only [evE, evEs, Res.bind_ok] at p
  refine wpAny_Call_Name_kw (ld_glob I (by show X.env.scope.names.lookup x = _; rw [G.sc]; exact hg) h1 ?_ o.nd)
  exact PySem.W.callWith_K0 I.kIn h2 (run_fnS (E := WE W) (us := []) F G.room B (G.pass σ) I .nil ⟨g.eta, ρ, hs, [], R, .nil, p⟩)
/-- a built-in function or type called -/
theorem se_blt {x : Str} {p : Pos} {b : Blt} {f : Value} {h : Bool} {e : Expr} {es : List Expr} {ees : CEs} (G : XG g cl ce k W X) (hg : ce.sc.names.lookup x = some .globalImplicit) (hx : ce.G.lookup x = some .blt) (hb : bltV b = some f) (hv : bootBuiltins x = some f)
    (hs : ∀ v p, e ≠ .Starred v p) (hpl : (backTo pos (starEach es X.env)).any (·.1) = false) (ha : PA X (e :: es) (A5 g cl W ees)) : PE X (.Call (.Name x p) (e :: es) [] pos) (E5 g cl W (.blt h b ees)) := by
  have o := G.glob x _ hx
  have hm := o.blt rfl
  have hgl : Gl X x := by show X.env.scope.names.lookup x = _; rw [G.sc]; exact hg
  have r : ∀ W' : Value → Option Addr → Hp → Prop, CallR X f (fun vs H Q => ∃ ρ hs ds, Rep g ρ hs H ∧ Rls g ρ H ds vs ∧ Pv g ρ H (bltD h b ds hs) Q W') := fun W' pins s σ H vs us Q I rv ⟨ρ, hs, ds, R, rd, p⟩ => blt_ok I G.gw.2 G.calm R rd rv hb p
  have fin : ∀ {t : TE} (W' : St → Value → Option Addr → Hp → Prop), (∀ σ : St, PE X (.Call (.Name x p) (e :: es) [] pos) (tCB (fun vs H Q => ∃ ρ hs ds, Rep g ρ hs H ∧ Rls g ρ H ds vs ∧ Pv g ρ H (bltD h b ds hs) Q (W' σ)) (A5 g cl W ees))) →
      (W' = fun σ c d H' => W c d σ H') → PE X (.Call (.Name x p) (e :: es) [] pos) (E5 g cl W (.blt h b ees)) := fun {t} W' hp hW => by
    subst hW
    refine ⟨fun pins s σ H Q I ⟨ρ, hs, fr, R, FR, p⟩ => (hp σ).run pins s σ H Q I ?_⟩
    simp only [evE] at p
    exact ⟨ρ, hs, fr, R, FR, Post.imp (Post.bind p) fun ρ1 hs1 H1 ds e1 R1 p1 vs rv => ⟨ρ1, hs1, ds, R1, rv, p1⟩⟩
  refine fin (t := fun _ _ _ => True) _ (fun σ => ?_) rfl
  cases hf : f with
  | builtin id =>
    subst hf
    exact pe_callB (r _) hgl hm hv ha o.nn o.nd (starEach_cons hs) hpl
  | type T =>
    subst hf
    exact pe_callTy (r _) hgl hm hv ha o.nn o.nd (starEach_cons hs) hpl
  | _ => subst hf; cases b <;> cases hb
end
end WG

set_option Elab.async false
set_option linter.all false
set_option maxRecDepth 100000
set_option maxHeartbeats 4000000
set_option autoImplicit false
/-! Core7: methods, what is walked, comprehensions. -/
namespace WG
open PySem L2 PySem.Spec

section
variable {g g' : Gm} {ρ : List Addr} {H H' : Hp}
-- the same values over another heap, other things held back
variable {ρ' : List Addr}
mutual
theorem Rl.conv' (hw : (g'.w, g'.K) = (g.w, g.K)) (hf : g'.fa = g.fa) (hr : ∀ (n : Nat) (a : Addr), ρ[n]? = some a → ρ'[n]? = some a) (ho : ∀ a o, H a = some o → Out g ρ a → Out g' ρ' a ∧ H' a = some o) : ∀ {d : D} {v : V}, Rl g ρ H d v → Rl g' ρ' H' d v
  | _, _, .non => .non
  | _, _, .bl b => .bl b
  | _, _, .int i => .int i
  | _, _, .str x => .str x
  | _, _, .tup h n r => .tup (ho _ _ h n).2 (ho _ _ h n).1 (Rls.conv' hw hf hr ho r)
  | _, _, .lst h n r => .lst (ho _ _ h n).2 (ho _ _ h n).1 (Rls.conv' hw hf hr ho r)
  | _, _, .dct h n sm r nd => .dct (ho _ _ h n).2 (ho _ _ h n).1 sm (Ents.conv' hw hf hr ho r) nd
  | _, _, .ref h => .ref (hr _ _ h)
  | _, _, .fn f => by rw [← hf]; exact .fn f
  | _, _, .scrF h n => .scrF (ho _ _ h n).2 (ho _ _ h n).1
  | _, _, .scrK h => .scrK (by have e : g'.K = g.K := congrArg (·.2) hw; rw [e]; exact h)
theorem Rls.conv' (hw : (g'.w, g'.K) = (g.w, g.K)) (hf : g'.fa = g.fa) (hr : ∀ (n : Nat) (a : Addr), ρ[n]? = some a → ρ'[n]? = some a) (ho : ∀ a o, H a = some o → Out g ρ a → Out g' ρ' a ∧ H' a = some o) : ∀ {ds : List D} {vs : List V}, Rls g ρ H ds vs → Rls g' ρ' H' ds vs
  | _, _, .nil => .nil
  | _, _, .cons r t => .cons (Rl.conv' hw hf hr ho r) (Rls.conv' hw hf hr ho t)
theorem Ents.conv' (hw : (g'.w, g'.K) = (g.w, g.K)) (hf : g'.fa = g.fa) (hr : ∀ (n : Nat) (a : Addr), ρ[n]? = some a → ρ'[n]? = some a) (ho : ∀ a o, H a = some o → Out g ρ a → Out g' ρ' a ∧ H' a = some o) : ∀ {t : Bool} {ks ds : List D} {es : List DictEntry}, Ents g ρ H t ks ds es → Ents g' ρ' H' t ks ds es
  | _, _, _, _, .nil => .nil
  | _, _, _, _, .cons a b c d i j r => .cons (Rl.conv' hw hf hr ho a) b (Rl.conv' hw hf hr ho c) d (by have e : g'.w = g.w := congrArg (·.1) hw; rw [e]; exact i) j (Ents.conv' hw hf hr ho r)
end
theorem Rl.conv (hw : (g'.w, g'.K) = (g.w, g.K)) (hf : g'.fa = g.fa) (ho : ∀ a o, H a = some o → Out g ρ a → Out g' ρ a ∧ H' a = some o) {d : D} {v : V} (r : Rl g ρ H d v) : Rl g' ρ H' d v := r.conv' hw hf (fun _ _ h => h) ho
theorem Rls.conv (hw : (g'.w, g'.K) = (g.w, g.K)) (hf : g'.fa = g.fa) (ho : ∀ a o, H a = some o → Out g ρ a → Out g' ρ a ∧ H' a = some o) {ds : List D} {vs : List V} (r : Rls g ρ H ds vs) : Rls g' ρ H' ds vs := r.conv' hw hf (fun _ _ h => h) ho
theorem ORel.conv' (hw : (g'.w, g'.K) = (g.w, g.K)) (hf : g'.fa = g.fa) (hc : g'.ca = g.ca) (hr : ∀ (n : Nat) (a : Addr), ρ[n]? = some a → ρ'[n]? = some a) (ho : ∀ a o, H a = some o → Out g ρ a → Out g' ρ' a ∧ H' a = some o) {a : Addr} {od : OD} (x : ORel g ρ H a od) (h : H' a = H a) : ORel g' ρ' H' a od := by
  cases od with
  | lst xs => obtain ⟨vs, k, r⟩ := x; exact ⟨vs, h.trans k, r.conv' hw hf hr ho⟩
  | lock xs => obtain ⟨vs, k, r⟩ := x; exact ⟨vs, h.trans k, r.conv' hw hf hr ho⟩
  | dct t kvs => obtain ⟨es, k, sm, r, nd⟩ := x; exact ⟨es, h.trans k, sm, r.conv' hw hf hr ho, nd⟩
  | dlock t kvs => obtain ⟨es, k, sm, r, nd⟩ := x; exact ⟨es, h.trans k, sm, r.conv' hw hf hr ho, nd⟩
  | ins c fs => obtain ⟨dx, vs, k, r, d, m⟩ := x; exact ⟨dx, vs, by rw [hc]; exact h.trans k, r.conv' hw hf hr ho, (ho _ _ d m).2, (ho _ _ d m).1⟩
theorem ORel.conv (hw : (g'.w, g'.K) = (g.w, g.K)) (hf : g'.fa = g.fa) (hc : g'.ca = g.ca) (ho : ∀ a o, H a = some o → Out g ρ a → Out g' ρ a ∧ H' a = some o) {a : Addr} {od : OD} (x : ORel g ρ H a od) (h : H' a = H a) : ORel g' ρ H' a od := x.conv' hw hf hc (fun _ _ h => h) ho h
theorem FrR.conv (hw : (g'.w, g'.K) = (g.w, g.K)) (hf : g'.fa = g.fa) (ho : ∀ a o, H a = some o → Out g ρ a → Out g' ρ a ∧ H' a = some o) {fr : Fr} {σ : L2.St} (x : FrR g ρ H fr σ) : FrR g' ρ H' fr σ := ⟨x.1, fun i d h => by
  obtain ⟨v, k, r⟩ := x.2 i d h
  exact ⟨v, k, r.conv hw hf ho⟩⟩
def Gm.hold (g : Gm) (D : Addr) : Gm := { g with eta := D :: g.eta }
variable {hs : Hs} {D : Addr} {o : HO}
theorem hold_out (hD : H D = none) : ∀ a u, H a = some u → Out g ρ a → Out (g.hold D) ρ a ∧ upd H D o a = some u := fun a u e n => by
  have hne : a ≠ D := ne_of_none e hD
  exact ⟨⟨n.1, fun z => (List.mem_cons.mp z).elim hne n.2⟩, by rw [upd_ne hne]; exact e⟩
theorem Rep.hold (R : Rep g ρ hs H) (hD : H D = none) : Rep (g.hold D) ρ hs (upd H D o) := by
  refine ⟨fun a z => ?_, R.nd, R.len, fun n a u e1 e2 => (R.obj n a u e1 e2).conv (g := g) (g' := g.hold D) rfl rfl rfl (hold_out hD) (upd_ne ?_)⟩
  · rcases List.mem_cons.mp z with e | z
    · rw [e]; exact ⟨R.fresh hD, o, upd_same⟩
    · obtain ⟨q, u, e⟩ := R.held a z
      exact ⟨q, u, by rw [upd_ne (ne_of_none e hD)]; exact e⟩
  · rintro rfl
    exact R.fresh hD (List.mem_of_getElem? e1)
theorem poke_out : ∀ a u, H a = some u → Out (g.hold D) ρ a → Out (g.hold D) ρ a ∧ upd H D o a = some u := fun a u e n => by
  have hne : a ≠ D := fun z => n.2 (by rw [z]; exact List.mem_cons_self)
  exact ⟨n, by rw [upd_ne hne]; exact e⟩
theorem Rep.poke (R : Rep (g.hold D) ρ hs H) : Rep (g.hold D) ρ hs (upd H D o) := by
  have hD := R.held D List.mem_cons_self
  refine ⟨fun a z => ?_, R.nd, R.len, fun n a u e1 e2 => (R.obj n a u e1 e2).conv (g' := g.hold D) rfl rfl rfl poke_out (upd_ne ?_)⟩
  · obtain ⟨q, u, e⟩ := R.held a z
    refine ⟨q, ?_⟩
    by_cases ha : a = D
    · subst ha; exact ⟨o, upd_same⟩
    · exact ⟨u, by rw [upd_ne ha]; exact e⟩
  · rintro rfl
    exact hD.1 (List.mem_of_getElem? e1)
theorem loose_out : ∀ a u, H a = some u → Out (g.hold D) ρ a → Out g ρ a ∧ H a = some u := fun a u e n => ⟨⟨n.1, fun z => n.2 (List.mem_cons_of_mem _ z)⟩, e⟩
theorem Rep.loose (R : Rep (g.hold D) ρ hs H) : Rep g ρ hs H :=
  ⟨fun a z => R.held a (List.mem_cons_of_mem _ z), R.nd, R.len, fun n a u e1 e2 => (R.obj n a u e1 e2).conv (g := g.hold D) (g' := g) rfl rfl rfl loose_out rfl⟩
theorem Evo.aside {ρ' : List Addr} (e : Evo ρ H ρ' H') (hD : H D = none) : Evo ρ H ρ' (upd H' D o) :=
  ⟨e.more, fun a u h n => by rw [upd_ne (ne_of_none h hD)]; exact e.keep a u h n, e.new⟩
end

section
variable {g : Gm} {cl : Call} {ce : Ce} {k : Nat} {W : WX} {X : Cx} {pos : Pos} {a b c : Expr} {ea eb ec : CE}

/-! ### methods of built-in types -/
section
variable {o e : Expr} {es : List Expr} {to : TE} {t : TA} {name : Str} {apos cpos : Pos} {T id : String} {r : V → List V → Hp → VK → Prop} {tyok : V → Hp → Prop}
def tMt0 (tyok : V → Hp → Prop) (r : V → List V → Hp → VK → Prop) (to : TE) : TE := fun σ H Q => to σ H fun x H1 => tyok x H1 ∧ r x [] H1 Q
def tMt (tyok : V → Hp → Prop) (r : V → List V → Hp → VK → Prop) (to : TE) (t : TA) : TE := fun σ H Q => to σ H fun x H1 => tyok x H1 ∧ t σ H1 fun xs H2 => r x xs H2 Q
def TyOk (X : Cx) (T : String) (tyok : V → Hp → Prop) : Prop := ∀ (pins : List (Addr × Obj)) (σ : L2.St) (H : Hp) (s : Shared) (x : V) (v : Value), Inv X pins σ H s → RelV x v → tyok x H → s.TypeIs v T ∧ ∀ a, v = .ref a → ∃ ob, s.heap.get? a = some ob ∧ ob.dict = none
theorem pe_mt0 (pa : PlainAttrs T) (slot : Slot T name id) (hty : typeOf (.builtin id) = pure (.type "method_descriptor")) (ht : TyOk X T tyok) (hm : MtR X id r) (ho : PE X o to)
    (hbase : attributeBase o name X.env (eval o X.env) = eval o X.env) (hline : (apos.endLine == cpos.line) = true) : PE X (.Call (.Attribute o name apos) [] [] cpos) (tMt0 tyok r to) := by
  refine ⟨fun pins s σ H Q I h => ?_⟩
  refine wpAny_Call_method0_late hbase hline (thn (ho.run pins s σ H _ I h) fun v s1 ⟨x, H1, I1, r1, ty, q1⟩ => ?_)
  obtain ⟨h1, h2⟩ := ht pins σ H1 s1 x v I1 r1 ty
  exact ⟨T, id, pa, slot, hty, h1, h2, Calls.callWith_builtin rfl (PySem.evalArgs_none (hm pins s1 σ H1 x [] v [] Q I1 r1 .nil q1))⟩
theorem pe_mt (pa : PlainAttrs T) (slot : Slot T name id) (hty : typeOf (.builtin id) = pure (.type "method_descriptor")) (ht : TyOk X T tyok) (hm : MtR X id r) (ho : PE X o to) (ha : PA X (e :: es) t)
    (hbase : attributeBase o name X.env (eval o X.env) = eval o X.env)
    (hfew : ((backTo cpos (starEach (e :: es) X.env)).all (fun x => !x.1) && (backToKw cpos (keywordEach [] X.env)).all (fun x => x.1.isSome)
      && decide ((e :: es).length + ([] : List Keyword).length + (if ([] : List Keyword).isEmpty then 0 else 1) < 30)) = true)
    (hline : (apos.endLine == cpos.line) = true) (hs : starEach (e :: es) X.env = (false, eval e X.env) :: starEach es X.env) (hplain : (backTo cpos (starEach es X.env)).any (·.1) = false) :
    PE X (.Call (.Attribute o name apos) (e :: es) [] cpos) (tMt tyok r to t) := by
  refine ⟨fun pins s σ H Q I h => ?_⟩
  refine wpAny_Call_method_late hbase hfew hline rfl (thn (ho.run pins s σ H _ I h) fun v s1 ⟨x, H1, I1, r1, ty, q1⟩ => ?_)
  obtain ⟨h1, h2⟩ := ht pins σ H1 s1 x v I1 r1 ty
  refine ⟨T, id, pa, slot, hty, h1, h2, ?_⟩
  have hA := ha.run cpos pins s1 σ H1 _ I1 q1
  rw [hs] at hA ⊢
  refine Calls.callWith_builtin (by show (false || (backTo cpos (starEach es X.env)).any (·.1)) = false; rw [hplain] <;> rfl) (Calls.evalArgs_plain ?_)
  exact thn hA fun us s2 ⟨vs, H2, I2, r2, q2⟩ => hm pins s2 σ H2 x vs v us Q I2 r1 r2 q2
end
def lstV (x : V) (H : Hp) : Prop := ∃ a vs, x = .ref a ∧ H a = some (.lst vs)
theorem lstV_ok : TyOk X "list" lstV := fun pins σ H s x v I rx ⟨a, vs, e, h⟩ => by
  subst e
  exact tyV_is I rx (T := "list") (.inl ⟨rfl, vs, SqL.of h⟩)
/-- no star among the arguments -/
def noStar : List Expr → Bool
  | [] => true
  | .Starred _ _ :: _ => false
  | _ :: r => noStar r
theorem noStar_cons {e : Expr} {es : List Expr} (h : noStar (e :: es) = true) : (∀ v p, e ≠ .Starred v p) ∧ noStar es = true := by
  cases e <;> first | exact ⟨fun _ _ z => (by cases z), h⟩ | (simp [noStar] at h)
theorem noStar_all : ∀ {es : List Expr} {env : Env}, noStar es = true → (starEach es env).all (fun x => !x.1) = true
  | [], _, _ => rfl
  | e :: es, env, h => by
    obtain ⟨h1, h2⟩ := noStar_cons h
    rw [starEach_cons h1, List.all_cons, noStar_all h2]; rfl
theorem noStar_any {es : List Expr} {env : Env} (p : Pos) (h : noStar es = true) : (backTo p (starEach es env)).any (·.1) = false := by
  have q := noStar_all (env := env) h
  rw [List.all_eq_true] at q
  rw [List.any_eq_false]
  intro x hx
  unfold backTo at hx
  obtain ⟨y, hy, e⟩ := List.mem_map.mp hx
  subst e
  have := q y hy
  simpa using this
theorem noStar_few {es : List Expr} {env : Env} (p : Pos) (h : noStar es = true) : (backTo p (starEach es env)).all (fun x => !x.1) = true := by
  have q := noStar_all (env := env) h
  rw [List.all_eq_true] at q ⊢
  intro x hx
  unfold backTo at hx
  obtain ⟨y, hy, e⟩ := List.mem_map.mp hx
  subst e
  exact q y hy
/-- not a call of a name without arguments -/
def plainBase : Expr → Bool
  | .Call _ [] [] _ => false
  | _ => true
theorem plainBase_ok {o : Expr} {name : Str} {env : Env} {t : Sem Value} (h : plainBase o = true) : attributeBase o name env t = t := by
  unfold attributeBase
  split
  · cases h
  · rfl
theorem se_mth {o e : Expr} {es : List Expr} {eo : CE} {ees : CEs} {h : Bool} {m : Mth} {T id : String} {name : Str} {apos cpos : Pos} {tyok : V → Hp → Prop}
    (pa : PlainAttrs T) (slot : Slot T name id) (hty : typeOf (.builtin id) = pure (.type "method_descriptor")) (ht : TyOk X T tyok)
    (hok : ∀ ρ hs H d x, Rep g ρ hs H → Rl g ρ H d x → mthOk m d hs = true → tyok x H)
    (hm : ∀ W' : Value → Option Addr → Hp → Prop, MtR X id (fun x vs H Q => ∃ ρ hs dx ds, Rep g ρ hs H ∧ Rl g ρ H dx x ∧ Rls g ρ H ds vs ∧ Pv g ρ H (mthD h m dx ds hs) Q W'))
    (ho : PE X o (E5 g cl W eo)) (ha : PA X (e :: es) (A5 g cl W ees)) (hb : plainBase o = true) (hs : noStar (e :: es) = true) (hl : (apos.endLine == cpos.line) = true) (hn : (e :: es).length < 30) :
    PE X (.Call (.Attribute o name apos) (e :: es) [] cpos) (E5 g cl W (.mth h m eo ees)) := by
  refine ⟨fun pins s σ H Q I q => (pe_mt pa slot hty ht (hm fun c d H' => W c d σ H') ho ha (plainBase_ok hb) ?_ hl (starEach_cons (noStar_cons hs).1) (noStar_any _ (noStar_cons hs).2)).run pins s σ H Q I ?_⟩
  · rw [noStar_few _ hs]
    simp only [keywordEach, backToKw, List.map_nil, List.all_nil, Bool.true_and, decide_eq_true_eq]
    simpa using hn
  · obtain ⟨ρ, hs, fr, R, F, p⟩ := q
    simp only [evE] at p
    refine ⟨ρ, hs, fr, R, F, Post.imp (Post.bind p) fun ρ1 hs1 H1 dx e1 R1 p1 x rx => ?_⟩
    split at p1
    · rename_i hk
      refine ⟨hok _ _ _ _ _ R1 rx hk, ρ1, hs1, fr, R1, F.mono e1, Post.imp (Post.bind p1) fun ρ2 hs2 H2 ds e2 R2 p2 vs rv => ?_⟩
      exact ⟨ρ2, hs2, dx, ds, R2, rx.mono e2, rv, p2⟩
    · exact False.elim p1
theorem se_mth0 {o : Expr} {eo : CE} {h : Bool} {m : Mth} {T id : String} {name : Str} {apos cpos : Pos} {tyok : V → Hp → Prop}
    (pa : PlainAttrs T) (slot : Slot T name id) (hty : typeOf (.builtin id) = pure (.type "method_descriptor")) (ht : TyOk X T tyok)
    (hok : ∀ ρ hs H d x, Rep g ρ hs H → Rl g ρ H d x → mthOk m d hs = true → tyok x H)
    (hm : ∀ W' : Value → Option Addr → Hp → Prop, MtR X id (fun x vs H Q => ∃ ρ hs dx ds, Rep g ρ hs H ∧ Rl g ρ H dx x ∧ Rls g ρ H ds vs ∧ Pv g ρ H (mthD h m dx ds hs) Q W'))
    (ho : PE X o (E5 g cl W eo)) (hb : plainBase o = true) (hl : (apos.endLine == cpos.line) = true) :
    PE X (.Call (.Attribute o name apos) [] [] cpos) (E5 g cl W (.mth h m eo .nil)) := by
  refine ⟨fun pins s σ H Q I q => (pe_mt0 pa slot hty ht (hm fun c d H' => W c d σ H') ho (plainBase_ok hb) hl).run pins s σ H Q I ?_⟩
  obtain ⟨ρ, hs, fr, R, F, p⟩ := q
  simp only [evE] at p
  refine ⟨ρ, hs, fr, R, F, Post.imp (Post.bind p) fun ρ1 hs1 H1 dx e1 R1 p1 x rx => ?_⟩
  split at p1
  · rename_i hk
    simp only [evEs, Res.bind_ok] at p1
    exact ⟨hok _ _ _ _ _ R1 rx hk, ρ1, hs1, dx, [], R1, rx, .nil, p1⟩
  · exact False.elim p1
theorem lst_mthOk : ∀ ρ hs H d x, Rep g ρ hs H → Rl g ρ H d x → (items hs d).isSome = true → lstV x H := fun ρ hs H d x R r h => by
  obtain ⟨xs, hx⟩ := Option.isSome_iff_exists.mp h
  obtain ⟨a, vs, e, h1, _⟩ := items_ok R r hx
  exact ⟨a, vs, e, h1⟩
theorem se_append {o e : Expr} {eo : CE} {ees : CEs} {h : Bool} {apos cpos : Pos} (ho : PE X o (E5 g cl W eo)) (ha : PA X [e] (A5 g cl W ees)) (hb : plainBase o = true) (hs : noStar [e] = true) (hl : (apos.endLine == cpos.line) = true) :
    PE X (.Call (.Attribute o "append" apos) [e] [] cpos) (E5 g cl W (.mth h .append eo ees)) :=
  se_mth PySem.F.plainAttrs_list PySem.F.slot_list_append PySem.F.type_list_append lstV_ok lst_mthOk (fun W' pins s σ H x vs v us Q I rx rv ⟨ρ, hs, dx, ds, R, r1, r2, p⟩ => append_ok I R r1 r2 rx rv p) ho ha hb hs hl (by simp)
theorem se_pop {o : Expr} {eo : CE} {h : Bool} {apos cpos : Pos} (ho : PE X o (E5 g cl W eo)) (hb : plainBase o = true) (hl : (apos.endLine == cpos.line) = true) :
    PE X (.Call (.Attribute o "pop" apos) [] [] cpos) (E5 g cl W (.mth h .pop eo .nil)) :=
  se_mth0 PySem.F.plainAttrs_list PySem.F.slot_list_pop PySem.F.type_list_pop lstV_ok lst_mthOk (fun W' pins s σ H x vs v us Q I rx rv ⟨ρ, hs, dx, ds, R, r1, r2, p⟩ => pop_ok I R r1 r2 rx rv p) ho hb hl

/-! ### what is walked -/
structure Src (g : Gm) (ds : List D) (lk : Lk) (J : L2.It) (S : List Addr → List Addr → Hs → Hp → Prop) : Prop where
  mono : ∀ et ρ hs H ρ' hs' H', S et ρ hs H → Evo ρ H ρ' H' → (hs' = hs ∨ held hs' ds lk = true) → S et ρ' hs' H'
  hold : ∀ et ρ hs H D o, H D = none → S et ρ hs H → S (D :: et) ρ hs (upd H D o)
  poke : ∀ et ρ hs H D o, S (D :: et) ρ hs H → S (D :: et) ρ hs (upd H D o)
  go : ∀ et i ρ hs H, Rep (g.at et) ρ hs H → S et ρ hs H → i < ds.length → J.go i H ∧ ∀ x H', J.yld i H x H' → Evo ρ H ρ H' ∧ Rep (g.at et) ρ hs H' ∧ ∃ d, ds[i]? = some d ∧ Rl (g.at et) ρ H' d x
  stop : ∀ et i ρ hs H, Rep (g.at et) ρ hs H → S et ρ hs H → ds.length ≤ i → J.stop i H
def tI (g : Gm) (W : WX) (f : Fr → Hs → Res (List D × Lk)) : TI := fun σ H R => ∃ ρ hs fr, Rep g ρ hs H ∧ FrR g ρ H fr σ ∧
  Post g ρ H (f fr hs) (fun ρ' hs' H' w => ∀ J S, Src g w.1 w.2 J S → S g.eta ρ' (lockO hs' w.2) H' → R J H') (fun c d H' => W c d σ H')
abbrev I5 (g : Gm) (cl : Call) (W : WX) (it : WG.It) : TI := tI g W (evIt cl it)

theorem src_lst {K : PySem.W.Frag} {a : Addr} {ds : List D} : Src g ds .no (Itl K a) (fun et ρ _ H => ∃ vs, H a = some (.lst vs) ∧ Out (g.at et) ρ a ∧ Rls (g.at et) ρ H ds vs) where
  mono := fun et ρ hs H ρ' hs' H' ⟨vs, h, n, r⟩ e _ => ⟨vs, e.keep _ _ h n.1, e.outs h n, r.mono e⟩
  hold := fun et ρ hs H D o hD ⟨vs, h, n, r⟩ => ⟨vs, (hold_out hD _ _ h n).2, (hold_out (o := o) hD _ _ h n).1, r.conv (g := g.at et) (g' := (g.at et).hold D) rfl rfl (hold_out hD)⟩
  poke := fun et ρ hs H D o ⟨vs, h, n, r⟩ => ⟨vs, (poke_out (g := g.at et) (D := D) _ _ h n).2, n, r.conv (g := (g.at et).hold D) (g' := (g.at et).hold D) rfl rfl poke_out⟩
  go := fun et i ρ hs H R ⟨vs, h, n, r⟩ hi => by
    obtain ⟨d, hd⟩ := at_of_lt hi
    obtain ⟨v, hv, rv⟩ := r.get hd
    refine ⟨⟨vs, v, SqL.of h, hv⟩, fun x H' ⟨e, y⟩ => ?_⟩
    subst e
    have := y vs (SqL.of h)
    rw [hv] at this; cases this
    exact ⟨Evo.refl, R, d, hd, rv⟩
  stop := fun et i ρ hs H R ⟨vs, h, n, r⟩ hi => ⟨vs, SqL.of h, by rw [← r.length]; exact hi⟩
theorem src_tup {K : PySem.W.Frag} {a : Addr} {ds : List D} : Src g ds .no (Itt K a) (fun et ρ _ H => ∃ vs, H a = some (.tup vs) ∧ Out (g.at et) ρ a ∧ Rls (g.at et) ρ H ds vs) where
  mono := fun et ρ hs H ρ' hs' H' ⟨vs, h, n, r⟩ e _ => ⟨vs, e.keep _ _ h n.1, e.outs h n, r.mono e⟩
  hold := fun et ρ hs H D o hD ⟨vs, h, n, r⟩ => ⟨vs, (hold_out hD _ _ h n).2, (hold_out (o := o) hD _ _ h n).1, r.conv (g := g.at et) (g' := (g.at et).hold D) rfl rfl (hold_out hD)⟩
  poke := fun et ρ hs H D o ⟨vs, h, n, r⟩ => ⟨vs, (poke_out (g := g.at et) (D := D) _ _ h n).2, n, r.conv (g := (g.at et).hold D) (g' := (g.at et).hold D) rfl rfl poke_out⟩
  go := fun et i ρ hs H R ⟨vs, h, n, r⟩ hi => by
    obtain ⟨d, hd⟩ := at_of_lt hi
    obtain ⟨v, hv, rv⟩ := r.get hd
    refine ⟨⟨vs, v, SqT.of h, hv⟩, fun x H' ⟨e, y⟩ => ?_⟩
    subst e
    have := y vs (SqT.of h)
    rw [hv] at this; cases this
    exact ⟨Evo.refl, R, d, hd, rv⟩
  stop := fun et i ρ hs H R ⟨vs, h, n, r⟩ hi => ⟨vs, SqT.of h, by rw [← r.length]; exact hi⟩
/-- a list that is locked -/
theorem src_ref {K : PySem.W.Frag} {a : Addr} {n : Nat} {b : Bool} {ds : List D} : Src g ds (.lst n b) (Itl K a) (fun _ ρ hs _ => ρ[n]? = some a ∧ hs[n]? = some (.lock ds)) where
  mono := fun et ρ hs H ρ' hs' H' ⟨h1, h2⟩ e h => by
    refine ⟨e.at h1, ?_⟩
    rcases h with h | h
    · rw [h]; exact h2
    simp only [held] at h
    split at h
    · rename_i xs hx
      rw [hx, of_decide_eq_true h]
    · cases h
  hold := fun et ρ hs H D o hD h => h
  poke := fun et ρ hs H D o h => h
  go := fun et i ρ hs H R ⟨h1, h2⟩ hi => by
    obtain ⟨vs, h, r⟩ : ORel (g.at et) ρ H a (.lock ds) := R.obj _ _ _ h1 h2
    obtain ⟨d, hd⟩ := at_of_lt hi
    obtain ⟨v, hv, rv⟩ := r.get hd
    refine ⟨⟨vs, v, SqL.of h, hv⟩, fun x H' ⟨e, y⟩ => ?_⟩
    subst e
    have := y vs (SqL.of h)
    rw [hv] at this; cases this
    exact ⟨Evo.refl, R, d, hd, rv⟩
  stop := fun et i ρ hs H R ⟨h1, h2⟩ hi => by
    obtain ⟨vs, h, r⟩ : ORel (g.at et) ρ H a (.lock ds) := R.obj _ _ _ h1 h2
    exact ⟨vs, SqL.of h, by rw [← r.length]; exact hi⟩
theorem src_rng {lo hi : Int} {ds : List D} (h : rngItems lo hi = some ds) : Src g ds .no (Itr lo (hi - lo).toNat) (fun _ _ _ _ => True) := by
  have e : ds = (List.range (hi - lo).toNat).map fun k => .int (lo + (k : Nat)) := by
    unfold rngItems at h
    split at h
    · injection h with h; exact h.symm
    · cases h
  subst e
  refine ⟨fun _ _ _ _ _ _ _ _ _ _ => trivial, fun _ _ _ _ _ _ _ _ => trivial, fun _ _ _ _ _ _ _ => trivial, fun et i ρ hs H R _ hi' => ?_, fun et i ρ hs H R _ hi' => ?_⟩
  · have hi2 : i < (hi - lo).toNat := by simpa using hi'
    refine ⟨hi2, fun x H' ⟨e, y⟩ => ?_⟩
    subst e; subst y
    refine ⟨Evo.refl, R, .int (lo + (i : Nat)), ?_, .int _⟩
    rw [List.getElem?_map, List.getElem?_range hi2]; rfl
  · exact (by simpa using hi' : (hi - lo).toNat ≤ i)
theorem pi_val {tg e : Expr} {ee : CE} (he : PE X e (E5 g cl W ee)) : PI X tg e (I5 g cl W (.val ee)) := by
  refine ⟨fun pins s σ H R I ⟨ρ, hs, fr, Rp, F, p⟩ => ?_⟩
  simp only [evIt] at p
  cases hr : evE cl ee fr hs with
  | bad => rw [hr] at p; exact False.elim p
  | exn c q hs1 =>
    rw [hr] at p
    exact (pi_list he).run pins s σ H R I ⟨ρ, hs, fr, Rp, F, by rw [hr]; exact p⟩
  | ok dx hs1 =>
    rw [hr] at p
    have go : ∀ {te : TE → TI} (h : PI X tg e (te (E5 g cl W ee))), (te (E5 g cl W ee) σ H R) → _ := fun {te} h q => h.run pins s σ H R I q
    cases dx with
    | lst xs =>
      refine (pi_list he).run pins s σ H R I ⟨ρ, hs, fr, Rp, F, ?_⟩
      rw [hr]
      intro ρ' H' e1 R1 v rv
      cases rv with
      | @lst a _ vs h1 n r1 => exact ⟨a, rfl, ⟨vs, SqL.of h1⟩, p ρ' H' e1 R1 _ _ src_lst ⟨vs, h1, n, r1⟩⟩
    | tup xs =>
      refine (pi_tup he).run pins s σ H R I ⟨ρ, hs, fr, Rp, F, ?_⟩
      rw [hr]
      intro ρ' H' e1 R1 v rv
      cases rv with
      | @tup a _ vs h1 n r1 => exact ⟨a, rfl, ⟨vs, SqT.of h1⟩, p ρ' H' e1 R1 _ _ src_tup ⟨vs, h1, n, r1⟩⟩
    | ref n =>
      have p : Post g ρ H (match walkOf hs1 (.ref n) with | some w => .ok w hs1 | none => .bad) _ _ := p
      cases hn : hs1[n]? with
      | none => simp only [walkOf, hn] at p; exact False.elim p
      | some od =>
        cases od with
        | lst xs =>
          simp only [walkOf, hn] at p
          refine (pi_list he).run pins s σ H R I ⟨ρ, hs, fr, Rp, F, ?_⟩
          rw [hr]
          intro ρ' H' e1 R1 v rv
          cases rv with
          | @ref a _ h1 =>
            obtain ⟨vs, h2, r2⟩ : ORel g ρ' H' a (.lst xs) := R1.obj _ _ _ h1 hn
            refine ⟨a, rfl, ⟨vs, SqL.of h2⟩, p ρ' H' e1 R1 _ _ src_ref ⟨h1, ?_⟩⟩
            simp only [lockO, hn]
            rw [List.getElem?_set_self (lt_of_at hn)]
        | lock xs =>
          simp only [walkOf, hn] at p
          refine (pi_list he).run pins s σ H R I ⟨ρ, hs, fr, Rp, F, ?_⟩
          rw [hr]
          intro ρ' H' e1 R1 v rv
          cases rv with
          | @ref a _ h1 =>
            obtain ⟨vs, h2, r2⟩ : ORel g ρ' H' a (.lock xs) := R1.obj _ _ _ h1 hn
            exact ⟨a, rfl, ⟨vs, SqL.of h2⟩, p ρ' H' e1 R1 _ _ src_ref ⟨h1, hn⟩⟩
        | _ => simp only [walkOf, hn] at p; exact False.elim p
    | _ => exact False.elim p
theorem rng_bounds {i j : Int} {ds : List D} (h : rngItems i j = some ds) : (-(2 ^ 62) ≤ i ∧ i < 2 ^ 62) ∧ -(2 ^ 62) ≤ j ∧ j < 2 ^ 62 := by
  unfold rngItems at h
  split at h
  · rename_i hb
    have h1 : i.natAbs ≤ 16777216 := hb.1
    have h2 : j.natAbs ≤ 16777216 := hb.2
    omega
  · cases h
theorem pi_rng2 {tg : Expr} {p : Pos} (G : XG g cl ce k W X) (hg : ce.sc.names.lookup ("range" : Str) = some .globalImplicit) (hx : ce.G.lookup ("range" : Str) = some .blt) (ha : PE X a (E5 g cl W ea)) (hb : PE X b (E5 g cl W eb)) (hs : noStar [a, b] = true) :
    PI X tg (.Call (.Name "range" p) [a, b] [] pos) (I5 g cl W (.rng ea eb)) := by
  have o := G.glob _ _ hx
  have h1 := noStar_cons hs
  have h2 := noStar_cons h1.2
  refine ⟨fun pins s σ H R I ⟨ρ, hs, fr, Rp, F, q⟩ => (pi_range2 (by show X.env.scope.names.lookup _ = _; rw [G.sc]; exact hg) (o.blt rfl) (sa_cons h1.1 ha (sa_cons h2.1 hb sa_nil)) (by rw [starEach_cons h1.1, starEach_cons h2.1]; rfl) (by rw [starEach_cons h2.1]; rfl)).run pins s σ H R I ⟨ρ, hs, fr, Rp, F, ?_⟩⟩
  simp only [evIt] at q
  simp only [evEs]
  cases hr : evE cl ea fr hs with
  | bad => rw [hr] at q; exact False.elim q
  | exn c d hs1 => rw [hr] at q; exact q
  | ok dx hs1 =>
    rw [hr, Res.bind_ok] at q
    rw [Res.bind_ok]
    cases hr2 : evE cl eb fr hs1 with
    | bad => rw [hr2] at q; exact False.elim q
    | exn c d hs2 => rw [hr2] at q; exact q
    | ok dy hs2 =>
      rw [hr2, Res.bind_ok] at q
      simp only [Res.bind_ok]
      intro ρ' H' e1 R1 vs rv
      split at q
      · split at q
        · rename_i ds hd
          obtain ⟨x, y, rfl, rx, ry⟩ := rv.two
          cases rx; cases ry
          have hb := rng_bounds hd
          exact ⟨_, _, rfl, ⟨hb.1.1, hb.1.2, hb.2.1, hb.2.2⟩, q ρ' H' e1 R1 _ _ (src_rng hd) trivial⟩
        · exact False.elim q
      · exact False.elim q
theorem pi_rng1 {tg : Expr} {p : Pos} (G : XG g cl ce k W X) (hg : ce.sc.names.lookup ("range" : Str) = some .globalImplicit) (hx : ce.G.lookup ("range" : Str) = some .blt) (hb : PE X b (E5 g cl W eb)) (hs : noStar [b] = true) :
    PI X tg (.Call (.Name "range" p) [b] [] pos) (I5 g cl W (.rng (.cst (.int 0)) eb)) := by
  have o := G.glob _ _ hx
  have h2 := noStar_cons hs
  refine ⟨fun pins s σ H R I ⟨ρ, hs, fr, Rp, F, q⟩ => (pi_range1 (by show X.env.scope.names.lookup _ = _; rw [G.sc]; exact hg) (o.blt rfl) (sa_cons h2.1 hb sa_nil) (by rw [starEach_cons h2.1]; rfl)).run pins s σ H R I ⟨ρ, hs, fr, Rp, F, ?_⟩⟩
  simp only [evIt, evE, Res.bind_ok] at q
  simp only [evEs]
  cases hr2 : evE cl eb fr hs with
  | bad => rw [hr2] at q; exact False.elim q
  | exn c d hs2 => rw [hr2] at q; exact q
  | ok dy hs2 =>
    rw [hr2, Res.bind_ok] at q
    simp only [Res.bind_ok]
    intro ρ' H' e1 R1 vs rv
    split at q
    · split at q
      · rename_i ds hd
        rename_i i j e1' e2'
        injection e1' with e1'
        subst e1'
        obtain ⟨y, rfl, ry⟩ := rv.one
        cases ry
        have hb := rng_bounds hd
        have z := q ρ' H' e1 R1 _ _ (src_rng hd) trivial
        rw [Int.sub_zero] at z
        exact ⟨_, rfl, hb.2.1, hb.2.2, z⟩
      · exact False.elim q
    · exact False.elim q
end
end WG

set_option Elab.async false
set_option linter.all false
set_option maxRecDepth 100000
set_option maxHeartbeats 4000000
set_option autoImplicit false
/-! Core8: comprehensions. -/
namespace WG
open PySem L2 PySem.Spec

theorem Evo.both {ρ ρ' : List Addr} {H H' : Hp} {D : Addr} {o : HO} (e : Evo ρ H ρ' H') (hn : D ∉ ρ') : Evo ρ (upd H D o) ρ' (upd H' D o) := by
  refine ⟨e.more, fun a u h n => ?_, fun a h n => ?_⟩
  · by_cases ha : a = D
    · subst ha; rw [upd_same] at h ⊢; exact h
    · rw [upd_ne ha] at h ⊢; exact e.keep a u h n
  · rw [upd_ne (by rintro rfl; exact hn h)]
    exact e.new a h n
/-- what was held back is numbered -/
theorem Rep.adopt {g : Gm} {ρ : List Addr} {hs : Hs} {H : Hp} {dA : Addr} {acc : List D} {accV : List V} (hd : dA ∉ g.eta) (R : Rep (g.hold dA) ρ hs H) (h : H dA = some (.lst accV)) (r : Rls (g.hold dA) ρ H acc accV) : Rep g (ρ ++ [dA]) (hs ++ [.lst acc]) H := by
  have hn : dA ∉ ρ := (R.held dA List.mem_cons_self).1
  have hr : ∀ (n : Nat) (a : Addr), ρ[n]? = some a → (ρ ++ [dA])[n]? = some a := fun n a e => by rw [List.getElem?_append_left (lt_of_at e)]; exact e
  have ho : ∀ a o, H a = some o → Out (g.hold dA) ρ a → Out g (ρ ++ [dA]) a ∧ H a = some o := fun a o e n => ⟨⟨fun z => (List.mem_append.mp z).elim n.1 fun z => n.2 (by rw [List.mem_singleton.mp z]; exact List.mem_cons_self), fun z => n.2 (List.mem_cons_of_mem _ z)⟩, e⟩
  refine ⟨fun a z => ?_, ?_, by simp [R.len], fun n a u e1 e2 => ?_⟩
  · obtain ⟨q, o, e⟩ := R.held a (List.mem_cons_of_mem _ z)
    exact ⟨fun m => (List.mem_append.mp m).elim q fun m => hd (by rw [← List.mem_singleton.mp m]; exact z), o, e⟩
  · rw [List.nodup_append]
    refine ⟨R.nd, by simp, fun a ha b hb => ?_⟩
    rw [List.mem_singleton.mp hb]
    intro z; subst z; exact hn ha
  · rcases Nat.lt_or_ge n ρ.length with z | z
    · rw [List.getElem?_append_left z] at e1
      rw [List.getElem?_append_left (by rw [← R.len]; exact z)] at e2
      exact (R.obj n a u e1 e2).conv' (g := g.hold dA) (g' := g) rfl rfl rfl hr ho rfl
    · rw [List.getElem?_append_right z] at e1
      rw [List.getElem?_append_right (by rw [← R.len]; exact z)] at e2
      have hn : n - ρ.length = 0 := by
        rcases Nat.eq_zero_or_pos (n - ρ.length) with q | q
        · exact q
        · rw [List.getElem?_eq_none (by rw [List.length_singleton]; omega)] at e1; cases e1
      rw [hn] at e1
      rw [← R.len, hn] at e2
      simp at e1 e2
      subst e1; subst e2
      exact ⟨accV, h, r.conv' (g := g.hold dA) (g' := g) rfl rfl hr ho⟩
theorem Rep.locked {g : Gm} {ρ : List Addr} {hs : Hs} {H : Hp} (R : Rep g ρ hs H) (l : Lk) : Rep g ρ (lockO hs l) H := by
  unfold lockO
  split
  · split
    · rename_i n _ xs h
      exact R.word h fun a x => x
    · exact R
  · split
    · rename_i n _ t kvs h
      exact R.word h fun a x => x
    · exact R
  · exact R
theorem Rep.freed {g : Gm} {ρ : List Addr} {hs : Hs} {H : Hp} (R : Rep g ρ hs H) (l : Lk) : Rep g ρ (freeO hs l) H := by
  unfold freeO
  split
  · split
    · rename_i n _ xs h
      exact R.word h fun a x => x
    · exact R
  · split
    · rename_i n _ t kvs h
      exact R.word h fun a x => x
    · exact R
  · exact R
/-! ### a comprehension's own names -/
def gNs : List Nat → TGs
  | [] => gNil
  | i :: r => gCons (gName i) (gNs r)
/-- names of a target, with their slots -/
def ownEs : List (Str × Nat) → List Expr → Bool
  | [], [] => true
  | (x, _) :: r, .Name y _ :: es => decide (x = y) && ownEs r es
  | _, _ => false
theorem ownEs_cons {x : Str} {i : Nat} {own : List (Str × Nat)} {es : List Expr} (h : ownEs ((x, i) :: own) es = true) : ∃ p r, es = .Name x p :: r ∧ ownEs own r = true := by
  cases es with
  | nil => simp [ownEs] at h
  | cons e r =>
    cases e with
    | Name y p =>
      simp only [ownEs, Bool.and_eq_true, decide_eq_true_eq] at h
      obtain ⟨rfl, h⟩ := h
      exact ⟨p, r, rfl, h⟩
    | _ => simp [ownEs] at h
theorem ownEs_each {env : Env} : ∀ {own : List (Str × Nat)} {es : List Expr}, ownEs own es = true → (assignEach es env).length = own.length ∧ (assignEach es env).findIdx? (·.1) = none
  | [], [], _ => ⟨rfl, rfl⟩
  | [], _ :: _, h => by simp [ownEs] at h
  | (x, i) :: own, es, h => by
    obtain ⟨p, r, rfl, h'⟩ := ownEs_cons h
    obtain ⟨h1, h2⟩ := ownEs_each (env := env) h'
    refine ⟨by simp only [assignEach, List.length_cons, h1], ?_⟩
    simp only [assignEach, List.findIdx?_cons, h2]
    rfl
/-- names that X lets be stored -/
def Stor (X : Cx) (x : Str) (i : Nat) : Prop := X.N[i]? = some x ∧ Loc X.env.scope x ∧ (X.fn x = true ∨ X.env.scope.names.lookup x = some .local)
theorem pgs_names {X : Cx} (nd : X.N.Nodup) : ∀ {own : List (Str × Nat)} {es : List Expr}, ownEs own es = true → (∀ q ∈ own, Stor X q.1 q.2) → PGs X es (gNs (own.map (·.2)))
  | [], [], _, _ => pgs_nil
  | [], _ :: _, h, _ => by simp [ownEs] at h
  | (x, i) :: own, es, h, hs => by
    obtain ⟨p, r, rfl, h'⟩ := ownEs_cons h
    obtain ⟨h1, h2, h3⟩ := hs (x, i) List.mem_cons_self
    exact pgs_cons (pg_name nd h1 h2 h3) (pgs_names nd h' fun q hq => hs q (List.mem_cons_of_mem _ hq)) rfl
/-- what a comprehension's target does -/
def gOwn (K : PySem.W.Frag) (one : Bool) (own : List Nat) : TG := if one then (match own with | [i] => gName i | _ => fun _ _ _ _ => False) else gTup K own.length (gNs own)
/-- the target is one name, or a tuple of names -/
def ownTg (one : Bool) (own : List (Str × Nat)) (tg : Expr) : Bool :=
  if one then (match own, tg with | [(x, _)], .Name y _ => decide (x = y) | _, _ => false) else (match tg with | .Tuple es _ _ => ownEs own es | _ => false)
theorem pg_own {X : Cx} {one : Bool} {own : List (Str × Nat)} {tg : Expr} (hc : X.calm = true) (nd : X.N.Nodup) (h : ownTg one own tg = true) (hs : ∀ q ∈ own, Stor X q.1 q.2) : PG X tg (gOwn X.K one (own.map (·.2))) := by
  cases one with
  | true =>
    unfold ownTg at h
    rw [if_pos rfl] at h
    split at h
    · rename_i x i y p
      have e := of_decide_eq_true h
      subst e
      obtain ⟨h1, h2, h3⟩ := hs (x, i) List.mem_cons_self
      exact pg_name nd h1 h2 h3
    · cases h
  | false =>
    unfold ownTg at h
    rw [if_neg Bool.false_ne_true] at h
    split at h
    · obtain ⟨h1, h2⟩ := ownEs_each (env := X.env) h
      exact pg_tup hc (pgs_names nd h hs) (by rw [h1, List.length_map]) h2
    · cases h
theorem wipe_set {σ : L2.St} {i : Nat} {v : Option V} : ∀ {vs : List Nat}, i ∈ vs → L2.wipe (σ.set i v) vs = L2.wipe σ vs
  | [], h => by cases h
  | j :: vs, h => by
    by_cases hi : i ∈ vs
    · unfold L2.wipe; rw [wipe_set hi]
    · have hj : i = j := by
        rcases List.mem_cons.mp h with e | e
        · exact e
        · exact absurd e hi
      subst hj
      have aux : ∀ (ws : List Nat) (τ : L2.St), i ∉ ws → L2.wipe (τ.set i v) ws = (L2.wipe τ ws).set i v := by
        intro ws
        induction ws with
        | nil => intro τ _; rfl
        | cons w ws ih =>
          intro τ hn
          unfold L2.wipe
          rw [ih τ fun z => hn (List.mem_cons_of_mem _ z), List.set_comm _ _ fun z => hn (by rw [z]; exact List.mem_cons_self)]
      unfold L2.wipe
      rw [aux vs σ hi, List.set_set]
theorem wipe_wipe (σ : L2.St) : ∀ vs ws : List Nat, (∀ i ∈ vs, i ∈ ws) → L2.wipe (L2.wipe σ vs) ws = L2.wipe σ ws
  | [], _, _ => rfl
  | v :: vs, ws, h => by
    show L2.wipe ((L2.wipe σ vs).set v none) ws = _
    rw [wipe_set (h v List.mem_cons_self), wipe_wipe σ vs ws fun i hi => h i (List.mem_cons_of_mem _ hi)]
section
variable {g : Gm} {ρ : List Addr} {H : Hp}
theorem gNs_run {vs0 : List Nat} : ∀ {is : List Nat} {ds : List D} {vs : List V} {fr fr' : Fr} {σ : L2.St} {Q : L2.St → Hp → Prop}, setAll fr is ds = some fr' → Rls g ρ H ds vs → FrR g ρ H fr σ → (∀ i ∈ is, i ∈ vs0) →
    (∀ σ', FrR g ρ H fr' σ' → L2.wipe σ' vs0 = L2.wipe σ vs0 → Q σ' H) → gNs is vs σ H Q
  | [], [], _, fr, fr', σ, Q, h, r, F, _, q => by
    cases r
    injection h with h
    subst h
    exact ⟨rfl, q σ F rfl⟩
  | [], _ :: _, _, _, _, _, _, h, _, _, _, _ => by simp [setAll] at h
  | _ :: _, [], _, _, _, _, _, h, _, _, _, _ => by simp [setAll] at h
  | i :: is, d :: ds, _, fr, fr', σ, Q, h, r, F, hv, q => by
    cases r with
    | @cons _ v _ vs r t =>
      refine ⟨v, vs, rfl, ?_⟩
      exact gNs_run (Q := Q) (fr := fr.set i (some d)) h t (F.set r) (fun j hj => hv j (List.mem_cons_of_mem _ hj)) fun σ' F' e => q σ' F' (by rw [e, wipe_set (hv i List.mem_cons_self)])
theorem gOwn_run {K : PySem.W.Frag} {one : Bool} {own : List Nat} {d : D} {v : V} {fr fr' : Fr} {σ : L2.St} {Q : L2.St → Hp → Prop} (h : bindC one own d fr = some fr') (r : Rl g ρ H d v) (F : FrR g ρ H fr σ)
    (q : ∀ σ', FrR g ρ H fr' σ' → L2.wipe σ' own = L2.wipe σ own → Q σ' H) : gOwn K one own v σ H Q := by
  cases one with
  | true =>
    unfold bindC at h
    rw [if_pos rfl] at h
    split at h
    · injection h with h
      subst h
      exact q _ (F.set r) (wipe_set List.mem_cons_self)
    · cases h
  | false =>
    unfold bindC at h
    rw [if_neg Bool.false_ne_true] at h
    split at h
    · rename_i ds
      have hl : ds.length = own.length := by
        clear q r F
        induction own generalizing ds fr with
        | nil => cases ds <;> simp [setAll] at h ⊢
        | cons i is ih =>
          cases ds with
          | nil => simp [setAll] at h
          | cons d ds => simp [ih (ds := ds) h]
      cases r with
      | @tup a _ vs h1 n r => exact ⟨a, vs, rfl, SqT.of h1, by rw [← r.length]; exact hl, gNs_run (vs0 := own) h r F (fun _ z => z) q⟩
    · cases h
end

/-! ### the block -/
def Wno : WX := fun _ _ _ _ => False
def Ce.blk (ce : Ce) (scope : Scope) : Ce := { ce with sc := relS scope ce.sc }
section
variable {g : Gm} {cl : Call} {ce : Ce} {k : Nat} {W : WX} {X : Cx} {pos : Pos}
theorem GOk.blk {D : Addr} {x : Str} {v : GK} {s : Shared} {H : Hp} {scope : Scope} {cenv : Env} {fp : List Addr} (o : GOk g cl k X x v) : GOk (g.hold D) cl k (X.blk s H scope cenv fp) x v := ⟨o.nd, o.nn, o.fn, o.cst, o.blt, fun c h => ⟨(o.cls c h).1, ⟨(o.cls c h).2.keep, (o.cls c h).2.exc, (o.cls c h).2.sub, (o.cls c h).2.typ⟩⟩⟩
theorem XG.blk (G : XG g cl ce k W X) (s : Shared) (H : Hp) (scope : Scope) (C : Addr) (cl' : List (Str × Addr)) (fp : List Addr) (D : Addr) : XG (g.hold D) cl (ce.blk scope) k Wno (X.blk s H scope (compEnvC scope cl' C X.env) fp) where
  gw := G.gw
  calm := G.calm
  room := G.room
  nd := G.nd
  N := G.N
  sc := by
    show relS scope X.env.scope = relS scope ce.sc
    rw [G.sc]
  glob := fun x v h => (G.glob x v h).blk
  pass := fun σ pins H s e s' I c => by
    obtain ⟨_, _, _, _, _, _, _, _, _, _, _, _, f⟩ := c
    exact f.elim
/-- the block's own names are its own -/
def ownSc (scope : Scope) (own : List (Str × Nat)) : Bool := own.all fun q => decide (scope.names.lookup q.1 = some .local) || decide (scope.names.lookup q.1 = some .cell)
theorem stor_blk (G : XG g cl ce k W X) {s : Shared} {H : Hp} {scope : Scope} {C : Addr} {cl' : List (Str × Addr)} {fp : List Addr} {own : List (Str × Nat)} (h1 : blkC ce.N ce.sc scope own = true) (h2 : ownSc scope own = true) :
    ∀ q ∈ own, Stor (X.blk s H scope (compEnvC scope cl' C X.env) fp) q.1 q.2 := fun q hq => by
  have b := blkOk_by h1
  have h := (List.all_eq_true.mp h2) q hq
  rw [Bool.or_eq_true, decide_eq_true_eq, decide_eq_true_eq] at h
  have keep : ∀ {kd : NameKind}, kd ≠ .free → scope.names.lookup q.1 = some kd → (relS scope X.env.scope).names.lookup q.1 = some kd := fun n e => lookup_relS_keep n e
  refine ⟨by show X.N[q.2]? = _; rw [G.N]; exact b.ix q hq, ?_, ?_⟩
  · rcases h with h | h
    · exact .inl (keep (by decide) h)
    · exact .inr (keep (by decide) h)
  · rcases h with h | h
    · exact .inr (keep (by decide) h)
    · exact .inl (by show (scope.names.lookup q.1 == some .cell) = true; rw [h]; rfl)
theorem pts_yes : PTs X [] (T5 g cl W (.cst (.bl true))) := ⟨fun pins s σ H Q I ⟨ρ, hs, fr, R, F, p⟩ => by
  obtain ⟨b, e, q⟩ := p ρ H Evo.refl R
  injection e with e
  subst e
  exact pts_nil.run pins s σ H Q I q⟩

variable {elt tg iter : Expr} {ifs : List Expr} {scope : Scope} {own : List (Str × Nat)} {it : WG.It} {ec ee : CE} {h one : Bool}
theorem comp_key (X : Cx) (σ : L2.St) (H : Hp) (Q : VK) : E5 g cl W (.comp h one (own.map (·.2)) it ec ee) σ H Q →
  tLc (I5 g cl W it) (gOwn X.K one (own.map (·.2))) (fun σ H Q => ∃ dA, T5 (g.hold dA) cl Wno ec σ H Q) (fun σ H Q => ∃ dA, E5 (g.hold dA) cl Wno ee σ H Q) (own.map (·.2)) σ H Q := by
  intro ⟨ρ, hs, fr, R, F, p⟩
  simp only [evE] at p
  refine ⟨ρ, hs, fr, R, F, Post.imp (Post.bind p) fun ρ1 hs1 H1 w e1 R1 p1 J S src s0 dA hD => ?_⟩
  split at p1
  · rename_i hline
    have hz : w.1.length ≤ sizeLine := by rw [← line_eq]; exact hline
    generalize hf : (fun (d : D) (hs : Hs) => if held hs w.1 w.2 = true then (match bindC one (own.map (·.2)) d (wipes fr (own.map (·.2))) with
      | some fr' => (evE cl ec fr' hs).calm.bind fun x hs => (match x with
        | .bl true => (evE cl ee fr' hs).calm.bind fun y hs => Res.ok (some y) hs
        | .bl false => Res.ok none hs
        | _ => Res.bad)
      | none => Res.bad) else (Res.bad : Res (Option D))) = f at p1
    generalize hK : (fun (ys : List D) (hs : Hs) => if held hs w.1 w.2 = true then fin h ys (freeO hs w.2) else Res.bad) = K at p1
    generalize hr : (compL f w.1 (lockO hs1 w.2)).bind K = r at p1
    have bad : r ≠ .bad := fun z => by rw [z] at p1; exact p1
    generalize hIv : (fun (i : Nat) (H' : Hp) => i ≤ w.1.length ∧ ∃ (ρ' : List Addr) (hs' : Hs) (acc : List D) (accV : List V) (ρo : List Addr) (hso : Hs) (Ho : Hp), Evo ρ1 H1 ρ' H' ∧ Rep (g.hold dA) ρ' hs' H' ∧ H' dA = some (.lst accV) ∧
      Rls (g.hold dA) ρ' H' acc accV ∧ acc.length ≤ i ∧ FrR (g.hold dA) ρ' H' fr σ ∧ S (dA :: g.eta) ρo hso Ho ∧ Evo ρo Ho ρ' H' ∧ r = ((compL f (w.1.drop i) hs').bind fun ys hs => K (acc ++ ys) hs)) = Iv
    refine ⟨fun i m H' => m = w.1.length - i ∧ Iv i H', ⟨w.1.length, by simp, ?_⟩, ?_⟩
    · rw [← hIv]
      refine ⟨Nat.zero_le _, ρ1, lockO hs1 w.2, [], [], ρ1, lockO hs1 w.2, _, Evo.new1 hD, (R1.locked w.2).hold hD, upd_same, .nil, Nat.le_refl _, (F.mono e1).conv (g := g) (g' := g.hold dA) rfl rfl (hold_out hD),
        src.hold _ _ _ _ dA (.lst []) hD s0, Evo.refl, ?_⟩
      rw [← hr]
      simp only [List.drop_zero, List.nil_append]
    · rintro i m H2 ⟨rfl, iv⟩
      rw [← hIv] at iv
      obtain ⟨hi2, ρ', hs', acc, accV, ρo, hso, Ho, e2, R2, hD2, ra, la, F2, so, eo, eq⟩ := iv
      by_cases hlt : i < w.1.length
      · obtain ⟨d, hd⟩ := at_of_lt hlt
        have hdrop : w.1.drop i = d :: w.1.drop (i + 1) := by
          rw [List.drop_eq_getElem_cons hlt]
          rw [List.getElem?_eq_getElem hlt] at hd
          rw [Option.some.inj hd]
        rw [hdrop] at eq
        simp only [compL] at eq
        -- the turn
        have hheld : held hs' w.1 w.2 = true := by
          cases hh : held hs' w.1 w.2 with
          | true => rfl
          | false =>
            rw [← hf] at eq
            simp only [hh, Bool.false_eq_true, if_false, Res.bind_bad] at eq
            exact absurd eq bad
        have s2 := src.mono _ _ _ _ ρ' hs' H2 so eo (.inr hheld)
        refine .inr ⟨(src.go _ i ρ' hs' H2 R2 s2 hlt).1, fun H3 => Iv (i + 1) H3, fun H3 x => ⟨w.1.length - (i + 1), by omega, rfl, x⟩, fun x H3 y => ?_⟩
        obtain ⟨e3, R3, d', hd', rd⟩ := (src.go _ i ρ' hs' H2 R2 s2 hlt).2 x H3 y
        rw [hd] at hd'; injection hd' with hd'; subst hd'
        have hno : dA ∉ ρ' := (R2.held dA List.mem_cons_self).1
        have hD3 : H3 dA = some (.lst accV) := e3.keep _ _ hD2 hno
        have fd : f d hs' = (match bindC one (own.map (·.2)) d (wipes fr (own.map (·.2))) with
            | some fr' => (evE cl ec fr' hs').calm.bind fun x hs => (match x with
              | .bl true => (evE cl ee fr' hs).calm.bind fun y hs => Res.ok (some y) hs
              | .bl false => Res.ok none hs
              | _ => Res.bad)
            | none => Res.bad) := by rw [← hf]; simp only [hheld, if_true]
        rw [fd] at eq
        cases hb : bindC one (own.map (·.2)) d (wipes fr (own.map (·.2))) with
        | none => rw [hb] at eq; exact absurd eq bad
        | some fr' =>
          rw [hb] at eq
          dsimp only at eq
          have F3 : FrR (g.hold dA) ρ' H3 (wipes fr (own.map (·.2))) (L2.wipe σ (own.map (·.2))) := (F2.mono e3).wipe _
          refine gOwn_run (g := g.hold dA) hb rd F3 fun σ2 Fb ew => ⟨by rw [ew]; exact wipe_wipe _ _ _ fun _ z => z, dA, ρ', hs', fr', R3, Fb, ?_⟩
          cases hc : evE cl ec fr' hs' with
          | bad => rw [hc] at eq; exact absurd eq bad
          | exn _ _ _ => rw [hc] at eq; exact absurd eq bad
          | ok dc hs3 =>
            rw [hc] at eq
            intro ρ4 H4 e4 R4
            have so4 := src.mono _ _ _ _ ρ' hs' H2 so eo (.inr hheld)
            cases dc with
            | bl bb =>
              refine ⟨bb, rfl, ?_⟩
              cases bb with
              | true =>
                rw [if_pos rfl]
                refine ⟨dA, ρ4, hs3, fr', R4, Fb.mono e4, ?_⟩
                simp only [Res.calm_ok, Res.bind_ok] at eq
                cases hy : evE cl ee fr' hs3 with
                | bad => rw [hy] at eq; exact absurd eq bad
                | exn _ _ _ => rw [hy] at eq; exact absurd eq bad
                | ok dy hs5 =>
                  rw [hy] at eq
                  intro ρ5 H5 e5 R5 v rv
                  have hno5 : dA ∉ ρ5 := (R5.held dA List.mem_cons_self).1
                  have e25 := e3.trans (e4.trans e5)
                  have hD5 : H5 dA = some (.lst accV) := e25.keep _ _ hD2 hno
                  refine ⟨accV, hD5, by rw [← ra.length]; omega, ?_⟩
                  rw [← hIv]
                  refine ⟨by omega, ρ5, hs5, acc ++ [dy], accV ++ [v], ρ', hs', upd H2 dA (.lst (accV ++ [v])), (e2.trans e25).aside hD, R5.poke, upd_same, ?_, ?_, ?_, src.poke _ _ _ _ _ _ so4, ?_, ?_⟩
                  · exact ((ra.mono e25).append (.cons rv .nil)).conv (g := g.hold dA) (g' := g.hold dA) rfl rfl poke_out
                  · rw [List.length_append, List.length_singleton]; omega
                  · exact (F2.mono e25).conv (g := g.hold dA) (g' := g.hold dA) rfl rfl poke_out
                  · exact e25.both hno5
                  · simp only [Res.calm_ok, Res.bind_ok] at eq
                    rw [eq]
                    cases compL f (w.1.drop (i + 1)) hs5 <;> simp [Res.bind]
              | false =>
                rw [if_neg Bool.false_ne_true]
                simp only [Res.calm_ok, Res.bind_ok] at eq
                rw [← hIv]
                have e24 := e3.trans e4
                refine ⟨by omega, ρ4, hs3, acc, accV, ρ', hs', H2, e2.trans e24, R4, e24.keep _ _ hD2 hno, ra.mono e24, by omega, F2.mono e24, so4, e24, ?_⟩
                rw [eq]
                cases compL f (w.1.drop (i + 1)) hs3 <;> simp [Res.bind]
            | _ => exact absurd eq bad
      · have hi3 : i = w.1.length := by omega
        subst hi3
        rw [List.drop_length] at eq
        simp only [compL, Res.bind_ok, List.append_nil] at eq
        have hheld : held hs' w.1 w.2 = true := by
          cases hh : held hs' w.1 w.2 with
          | true => rfl
          | false =>
            rw [← hK] at eq
            simp only [hh, Bool.false_eq_true, if_false] at eq
            exact absurd eq bad
        have s2 := src.mono _ _ _ _ ρ' hs' H2 so eo (.inr hheld)
        refine .inl ⟨src.stop _ _ ρ' hs' H2 R2 s2 (Nat.le_refl _), ?_⟩
        rw [← hK] at eq
        simp only [hheld, if_true] at eq
        rw [eq] at p1
        -- the list itself
        have Rf : Rep g ρ' (freeO hs' w.2) H2 := R2.loose.freed w.2
        have rl : Rls g ρ' H2 acc accV := ra.conv (g := g.hold dA) (g' := g) rfl rfl loose_out
        have hno : dA ∉ ρ' := (R2.held dA List.mem_cons_self).1
        have hout : Out g ρ' dA := ⟨hno, fun z => by
          obtain ⟨_, o, q⟩ := R1.held dA z
          rw [hD] at q; cases q⟩
        cases h with
        | false => exact p1 ρ' H2 e2 Rf _ (.lst hD2 hout rl)
        | true =>
          refine p1 (ρ' ++ [dA]) H2 ⟨?_, e2.keep, fun a z n => ?_⟩ (((R2.freed w.2)).adopt hout.2 hD2 ra) _ (.ref ?_)
          · obtain ⟨m, e⟩ := e2.more
            exact ⟨m ++ [dA], by rw [e, List.append_assoc]⟩
          · rcases List.mem_append.mp z with z | z
            · exact e2.new a z n
            · rw [List.mem_singleton.mp z]; exact hD
          · rw [← Rf.len]; exact List.getElem?_concat_length
  · exact False.elim p1

structure CompOk (g : Gm) (cl : Call) (ce : Ce) (k : Nat) (W : WX) (X : Cx) (tg iter : Expr) (ifs : List Expr) (scope : Scope) (own : List (Str × Nat)) (one : Bool) (elt : Expr) (it : WG.It) (ec ee : CE) : Prop where
  G : XG g cl ce k W X
  hi : PI X tg iter (I5 g cl W it)
  h1 : blkC ce.N ce.sc scope own = true
  h2 : ownSc scope own = true
  h3 : ownTg one own tg = true
  ht : ∀ (g' : Gm) (X' : Cx), XG g' cl (ce.blk scope) k Wno X' → PTs X' ifs (T5 g' cl Wno ec)
  he : ∀ (g' : Gm) (X' : Cx), XG g' cl (ce.blk scope) k Wno X' → PE X' elt (E5 g' cl Wno ee)
  hs : ∀ x, foldedSetIterable iter X.env x = pure x
theorem se_comp (C : CompOk g cl ce k W X tg iter ifs scope own one elt it ec ee) : PE X (.ListComp elt [⟨tg, iter, ifs, 0⟩] scope pos) (E5 g cl W (.comp h one (own.map (·.2)) it ec ee)) := by
  have G' := fun s H Ca cl' fp D => C.G.blk s H scope Ca cl' fp D
  exact PE.imp (pe_lc (own := own) C.G.calm C.G.nd C.hi (by rw [C.G.N, C.G.sc]; exact blkOk_by C.h1) (fun s H Ca cl' fp => pg_own (G' s H Ca cl' fp 0).calm (G' s H Ca cl' fp 0).nd C.h3 (stor_blk C.G C.h1 C.h2))
    (fun s H Ca cl' fp => ⟨fun pins s' σ H' Q I ⟨D, q⟩ => (C.ht _ _ (G' s H Ca cl' fp D)).run pins s' σ H' Q I q⟩) (fun s H Ca cl' fp => ⟨fun pins s' σ H' Q I ⟨D, q⟩ => (C.he _ _ (G' s H Ca cl' fp D)).run pins s' σ H' Q I q⟩) C.hs) (comp_key X)
/-- name = [..] -/
theorem ss_setLc (C : CompOk g cl ce k W X tg iter ifs scope own one elt it ec ee) {y : Str} {i : Nat} {py spos : Pos} (hy : X.N[i]? = some y) (hyl : X.env.scope.names.lookup y = some .local)
    (hsw : swapsWith (.ListComp elt [⟨tg, iter, ifs, 0⟩] scope pos) (some (.Name y py)) spos.line X.env = pure true) :
    PS X (.Assign [.Name y py] (.ListComp elt [⟨tg, iter, ifs, 0⟩] scope pos) spos) (tAsg (E5 g cl W (.comp h one (own.map (·.2)) it ec ee)) (gName i)) := by
  have G' := fun s H Ca cl' fp D => C.G.blk s H scope Ca cl' fp D
  have P := ps_setLc (i := i) (y := y) (py := py) (pos := pos) (spos := spos) (own := own) (wi := I5 g cl W it) (g := gOwn X.K one (own.map (·.2))) (tt := fun σ H Q => ∃ dA, T5 (g.hold dA) cl Wno ec σ H Q) (te := fun σ H Q => ∃ dA, E5 (g.hold dA) cl Wno ee σ H Q) C.G.calm C.G.nd hy hyl hsw C.hi (by rw [C.G.N, C.G.sc]; exact blkOk_by C.h1) (fun s H Ca cl' fp => pg_own (G' s H Ca cl' fp 0).calm (G' s H Ca cl' fp 0).nd C.h3 (stor_blk C.G C.h1 C.h2))
    (fun s H Ca cl' fp => ⟨fun pins s' σ H' Q I ⟨D, q⟩ => (C.ht _ _ (G' s H Ca cl' fp D)).run pins s' σ H' Q I q⟩) (fun s H Ca cl' fp => ⟨fun pins s' σ H' Q I ⟨D, q⟩ => (C.he _ _ (G' s H Ca cl' fp D)).run pins s' σ H' Q I q⟩) C.hs
  exact ⟨fun pins s σ H D I q => P.run pins s σ H D I (comp_key X σ H _ q)⟩
end
end WG

set_option Elab.async false
set_option linter.all false
set_option maxRecDepth 100000
set_option maxHeartbeats 4000000
set_option autoImplicit false
/-! Core9: statements. -/
namespace WG
open PySem L2 PySem.Spec

/-- what is wanted behind a statement that gives r -/
def PostS (g : Gm) (ρ : List Addr) (H : Hp) (W : WX) (D : Ends) (r : RS) : Prop :=
  match r with
  | .nx fr hs => ∀ ρ' H' σ', Evo ρ H ρ' H' → Rep g ρ' hs H' → FrR g ρ' H' fr σ' → D.nx σ' H'
  | .ct fr hs => ∀ ρ' H' σ', Evo ρ H ρ' H' → Rep g ρ' hs H' → FrR g ρ' H' fr σ' → D.ct σ' H'
  | .rt d hs => ∀ ρ' H' v, Evo ρ H ρ' H' → Rep g ρ' hs H' → Rl g ρ' H' d v → D.rt v H'
  | .exn c p fr hs => ∀ ρ' H' σ' d, Evo ρ H ρ' H' → Rep g ρ' hs H' → FrR g ρ' H' fr σ' → (p = .non → d = none) → (∀ e, d = some e → ∃ f pv, H' e = some (.xd [(f, pv)]) ∧ Rl g ρ' H' p pv) → W (.ref (g.ca c)) d σ' H'
  | .bad => False
def tS (g : Gm) (W : WX) (f : Fr → Hs → RS) : TS := fun D σ H => ∃ ρ hs fr, Rep g ρ hs H ∧ FrR g ρ H fr σ ∧ PostS g ρ H W D (f fr hs)
section
variable {g : Gm} {ρ ρ' : List Addr} {H H' : Hp} {W : WX} {D : Ends} {r : RS}
theorem PostS.from (p : PostS g ρ H W D r) (e : Evo ρ H ρ' H') : PostS g ρ' H' W D r := by
  cases r with
  | nx fr hs => exact fun ρ'' H'' σ' e' => p ρ'' H'' σ' (e.trans e')
  | ct fr hs => exact fun ρ'' H'' σ' e' => p ρ'' H'' σ' (e.trans e')
  | rt d hs => exact fun ρ'' H'' v e' => p ρ'' H'' v (e.trans e')
  | exn c q fr hs => exact fun ρ'' H'' σ' d e' => p ρ'' H'' σ' d (e.trans e')
  | bad => exact p
theorem PostS.imp {D' : Ends} {W' : WX} (p : PostS g ρ H W D r) (h1 : ∀ σ' H', D.nx σ' H' → D'.nx σ' H') (h2 : ∀ σ' H', D.ct σ' H' → D'.ct σ' H') (h3 : ∀ v H', D.rt v H' → D'.rt v H') (h4 : ∀ c d σ' H', W c d σ' H' → W' c d σ' H') : PostS g ρ H W' D' r := by
  cases r with
  | nx fr hs => exact fun ρ'' H'' σ' e' R F => h1 _ _ (p ρ'' H'' σ' e' R F)
  | ct fr hs => exact fun ρ'' H'' σ' e' R F => h2 _ _ (p ρ'' H'' σ' e' R F)
  | rt d hs => exact fun ρ'' H'' v e' R F => h3 _ _ (p ρ'' H'' v e' R F)
  | exn c q fr hs => exact fun ρ'' H'' σ' d e' R F a b => h4 _ _ _ _ (p ρ'' H'' σ' d e' R F a b)
  | bad => exact p
/-- an expression, then a statement -/
theorem PostS.then {α : Type} {x : Res α} {fr : Fr} {k : α → Hs → RS} {σ : L2.St} (F : FrR g ρ H fr σ) (p : PostS g ρ H W D (x.then fr k)) : Post g ρ H x (fun ρ' hs' H' a => PostS g ρ' H' W D (k a hs')) (fun c d H' => W c d σ H') := by
  cases x with
  | ok a hs => exact fun ρ' H' e R => PostS.from p e
  | exn c q hs => exact fun ρ' H' d e R h1 h2 => p ρ' H' σ d e R (F.mono e) h1 h2
  | bad => exact p
/-- a statement, then the rest -/
theorem PostS.seq {k : Fr → Hs → RS} (p : PostS g ρ H W D (r.seq k)) : PostS g ρ H W { D with nx := fun σ' H' => ∃ ρ' hs' fr', Rep g ρ' hs' H' ∧ FrR g ρ' H' fr' σ' ∧ PostS g ρ' H' W D (k fr' hs') } r := by
  cases r with
  | nx fr hs => exact fun ρ' H' σ' e R F => ⟨ρ', hs, fr, R, F, PostS.from p e⟩
  | ct fr hs => exact p
  | rt d hs => exact p
  | exn c q fr hs => exact p
  | bad => exact p
end
theorem PSs.imp {X : Cx} {st : List Stmt} {t t' : TS} (h : PSs X st t) (i : ∀ D σ H, t' D σ H → t D σ H) : PSs X st t' := ⟨fun pins s σ H D I q => h.run pins s σ H D I (i D σ H q)⟩
theorem PS.imp {X : Cx} {st : Stmt} {t t' : TS} (h : PS X st t) (i : ∀ D σ H, t' D σ H → t D σ H) : PS X st t' := ⟨fun pins s σ H D I q => h.run pins s σ H D I (i D σ H q)⟩

/-- a statement's context -/
structure XS (g : Gm) (cl : Call) (ce : Ce) (k : Nat) (W : WX) (X : Cx) : Prop where
  G : XG g cl ce k W X
  tk : Takes X W
  own : PassesOwn (model X.prog X.w) X.A X.env X.xe
  fn : ∀ x, X.fn x = true
  kind : ce.sc.kind = .function
  stack : X.stack = X.env :: X.outer
  frame : X.env.frame = some X.env.locals
  exm : ∀ c y h, ce.G.lookup y = some (.cls h) → PySem.W.exmOne X.K (.ref (g.ca c)) (.ref (g.ca h)) = some (catches c h)

abbrev S5 (g : Gm) (cl : Call) (W : WX) (s : CS) : TS := tS g W (evS cl s)
abbrev B5 (g : Gm) (cl : Call) (W : WX) (s : CSs) : TS := tS g W (evSs cl s)

section
variable {g : Gm} {cl : Call} {ce : Ce} {k : Nat} {W : WX} {X : Cx} {pos : Pos} {e c : Expr} {ee ec : CE} {st : Stmt} {rest a b : List Stmt} {s : CS} {ss sa sb : CSs}
theorem sb_nil : PSs X [] (B5 g cl W .nil) := PSs.imp pss_nil fun D σ H ⟨ρ, hs, fr, R, F, p⟩ => p ρ H σ Evo.refl R F
theorem sb_cons (h1 : PS X st (S5 g cl W s)) (h2 : PSs X rest (B5 g cl W ss)) : PSs X (st :: rest) (B5 g cl W (.cons s ss)) := by
  refine PSs.imp (pss_cons h1 h2) fun D σ H ⟨ρ, hs, fr, R, F, p⟩ => ?_
  simp only [evSs] at p
  exact ⟨ρ, hs, fr, R, F, PostS.seq p⟩
theorem ss_pass : PS X (.Pass pos) (S5 g cl W .pass) := PS.imp ps_pass fun D σ H ⟨ρ, hs, fr, R, F, p⟩ => p ρ H σ Evo.refl R F
theorem ss_cont : PS X (.Continue pos) (S5 g cl W .cont) := PS.imp ps_continue fun D σ H ⟨ρ, hs, fr, R, F, p⟩ => p ρ H σ Evo.refl R F
/-- no comprehension -/
def noComp : Expr → Bool
  | .ListComp _ _ _ _ | .SetComp _ _ _ _ | .DictComp _ _ _ _ _ => false
  | _ => true
theorem noComp_sw {t : Option Expr} {l : Nat} {env : Env} (h : noComp e = true) : swapsWith e t l env = pure false := by
  cases e <;> first | rfl | cases h
theorem ss_expr (h : PE X e (E5 g cl W ee)) (hn : noComp e = true) : PS X (.Expr e pos) (S5 g cl W (.expr ee)) := by
  refine PS.imp (ps_expr h (noComp_sw hn)) fun D σ H ⟨ρ, hs, fr, R, F, p⟩ => ?_
  simp only [evS] at p
  exact ⟨ρ, hs, fr, R, F, Post.imp (PostS.then F p) fun ρ1 hs1 H1 d e1 R1 p1 v rv => p1 ρ1 H1 σ Evo.refl R1 (F.mono e1)⟩
theorem ss_ret (h : PE X e (E5 g cl W ee)) : PS X (.Return (some e) pos) (S5 g cl W (.ret ee)) := by
  refine PS.imp (ps_ret h) fun D σ H ⟨ρ, hs, fr, R, F, p⟩ => ?_
  simp only [evS] at p
  exact ⟨ρ, hs, fr, R, F, Post.imp (PostS.then F p) fun ρ1 hs1 H1 d e1 R1 p1 v rv => p1 ρ1 H1 v Evo.refl R1 rv⟩
theorem ss_retN : PS X (.Return none pos) (S5 g cl W (.ret (.cst .non))) := by
  refine PS.imp ps_retN fun D σ H ⟨ρ, hs, fr, R, F, p⟩ => ?_
  simp only [evS, evE, Res.then_ok] at p
  exact p ρ H .non Evo.refl R .non
theorem ss_if (h : PT X c (T5 g cl W ec)) (ha : PSs X a (B5 g cl W sa)) (hb : PSs X b (B5 g cl W sb)) : PS X (.If c a b pos) (S5 g cl W (.ite ec sa sb)) := by
  refine PS.imp (ps_if h ha hb) fun D σ H ⟨ρ, hs, fr, R, F, p⟩ => ?_
  simp only [evS] at p
  refine ⟨ρ, hs, fr, R, F, Post.imp (PostS.then F p) fun ρ1 hs1 H1 d e1 R1 p1 => ?_⟩
  split at p1
  · exact ⟨true, rfl, by (try dsimp only); rw [if_pos rfl]; exact ⟨ρ1, hs1, fr, R1, F.mono e1, p1⟩⟩
  · exact ⟨false, rfl, by (try dsimp only); rw [if_neg Bool.false_ne_true]; exact ⟨ρ1, hs1, fr, R1, F.mono e1, p1⟩⟩
  · exact False.elim p1

/-! ### targets -/
def tG (g : Gm) (f : D → Fr → Hs → Res Fr) : TG := fun v σ H Q => ∃ ρ hs fr d, Rep g ρ hs H ∧ FrR g ρ H fr σ ∧ Rl g ρ H d v ∧ Post g ρ H (f d fr hs) (fun ρ' _ H' fr' => ∀ σ', FrR g ρ' H' fr' σ' → Q σ' H') (fun _ _ _ => False)
def tGs (g : Gm) (f : List D → Fr → Hs → Res Fr) : TGs := fun vs σ H Q => ∃ ρ hs fr ds, Rep g ρ hs H ∧ FrR g ρ H fr σ ∧ Rls g ρ H ds vs ∧ Post g ρ H (f ds fr hs) (fun ρ' _ H' fr' => ∀ σ', FrR g ρ' H' fr' σ' → Q σ' H') (fun _ _ _ => False)
abbrev G5 (g : Gm) (cl : Call) (t : Tg) : TG := tG g (asg cl t)
abbrev Gs5 (g : Gm) (cl : Call) (t : Tgs) : TGs := tGs g (asgs cl t)
theorem PG.imp {t : Expr} {u u' : TG} (h : PG X t u) (i : ∀ v σ H Q, u' v σ H Q → u v σ H Q) : PG X t u' := ⟨fun pins s σ H v w Q I r q => h.run pins s σ H v w Q I r (i v σ H Q q)⟩
theorem PGs.imp {t : List Expr} {u u' : TGs} (h : PGs X t u) (i : ∀ v σ H Q, u' v σ H Q → u v σ H Q) : PGs X t u' := ⟨fun pins s σ H v w Q I r q => h.run pins s σ H v w Q I r (i v σ H Q q)⟩
theorem sg_var {x : Str} {i : Nat} (nd : X.N.Nodup) (h : Stor X x i) : PG X (.Name x pos) (G5 g cl (.var i)) := by
  refine PG.imp (pg_name nd h.1 h.2.1 h.2.2) fun v σ H Q ⟨ρ, hs, fr, d, R, F, r, p⟩ => ?_
  simp only [asg] at p
  exact p ρ H Evo.refl R _ (F.set r)
def noSlice : Expr → Bool
  | .Slice _ _ _ _ => false
  | _ => true
theorem noSlice_ix {i : Expr} (h : noSlice i = true) : PlainIx i := by
  cases i <;> first | exact fun _ _ => rfl | cases h
theorem noSlice_asg {o i : Expr} {p : Pos} {env : Env} (h : noSlice i = true) (v : Value) : assign (.Subscript o i p) env v = (do
      let ov ← holding [v] (eval o env)
      let iv ← holding [v, ov] (eval i env)
      standAt p
      holding [v, ov, iv] (PySem.setItem ov iv v)
      release [v, ov, iv] []) := by
  cases i <;> first | rfl | cases h
theorem sg_sub {o i : Expr} {eo ei : CE} (G : XG g cl ce k W X) (ho : PE X o (E5 g cl W eo)) (hi : PE X i (E5 g cl W ei)) (hs : noSlice i = true) : PG X (.Subscript o i pos) (G5 g cl (.sub eo ei)) := by
  have set : PSet X (fun x y z H Q => ∃ ρ hs dx dy dz, Rep g ρ hs H ∧ Rl g ρ H dx x ∧ Rl g ρ H dy y ∧ Rl g ρ H dz z ∧ Post g ρ H (WG.setItem dx dy dz hs) (fun _ _ H' _ => Q H') (fun _ _ _ => False)) :=
    fun pins s σ H x y z v u r Q I vx vy vz ⟨ρ, hs, dx, dy, dz, R, rx, ry, rz, p⟩ => setItem_ok I G.gw R G.un rx ry rz vx vy vz p
  refine PG.imp (pg_sub ho hi set (noSlice_asg hs)) fun v σ H Q ⟨ρ, hs, fr, d, R, F, r, p⟩ => ?_
  simp only [asg] at p
  refine ⟨ρ, hs, fr, R, F, Post.imp (Post.calm (Post.bind p)) fun ρ1 hs1 H1 dx e1 R1 p1 x rx => ?_⟩
  refine ⟨ρ1, hs1, fr, R1, F.mono e1, Post.imp (Post.calm (Post.bind p1)) fun ρ2 hs2 H2 dy e2 R2 p2 y ry => ?_⟩
  refine ⟨ρ2, hs2, dx, dy, d, R2, rx.mono e2, ry, (r.mono e1).mono e2, Post.imp (Post.bind p2) fun ρ3 hs3 H3 _ e3 R3 p3 => ?_⟩
  exact p3 ρ3 H3 Evo.refl R3 σ (((F.mono e1).mono e2).mono e3)
theorem sgs_nil : PGs X [] (Gs5 g cl .nil) := by
  refine PGs.imp pgs_nil fun v σ H Q ⟨ρ, hs, fr, ds, R, F, r, p⟩ => ?_
  simp only [asgs] at p
  split at p
  · cases r
    exact ⟨rfl, p ρ H Evo.refl R σ F⟩
  · exact False.elim p
theorem asgEach_cons {t : Expr} {ts : List Expr} {env : Env} (h : ∀ v p, t ≠ .Starred v p) : (assignEach (t :: ts) env) = (false, assign t env) :: assignEach ts env := by
  cases t <;> first | rfl | exact absurd rfl (h _ _)
theorem sgs_cons {t : Expr} {ts : List Expr} {et : Tg} {ets : Tgs} (hn : ∀ v p, t ≠ .Starred v p) (h1 : PG X t (G5 g cl et)) (h2 : PGs X ts (Gs5 g cl ets)) : PGs X (t :: ts) (Gs5 g cl (.cons et ets)) := by
  refine PGs.imp (pgs_cons h1 h2 (by rw [asgEach_cons hn]; rfl)) fun vs σ H Q ⟨ρ, hs, fr, ds, R, F, r, p⟩ => ?_
  simp only [asgs] at p
  split at p
  · rename_i d ds
    cases r with
    | @cons _ v _ vs r rs =>
      refine ⟨v, vs, rfl, ρ, hs, fr, d, R, F, r, Post.imp (Post.bind p) fun ρ1 hs1 H1 fr1 e1 R1 p1 σ1 F1 => ?_⟩
      exact ⟨ρ1, hs1, fr1, ds, R1, F1, rs.mono e1, p1⟩
  · exact False.elim p
theorem asgEach_all {env : Env} : ∀ {ts : List Expr}, noStar ts = true → (assignEach ts env).length = ts.length ∧ (assignEach ts env).findIdx? (·.1) = none
  | [], _ => ⟨rfl, rfl⟩
  | t :: ts, h => by
    obtain ⟨h1, h2⟩ := noStar_cons h
    obtain ⟨h3, h4⟩ := asgEach_all (env := env) h2
    rw [asgEach_cons h1]
    refine ⟨by rw [List.length_cons, h3]; rfl, ?_⟩
    simp only [List.findIdx?_cons, h4]; rfl
def Res.noex {α : Type} (r : Res α) : Prop := ∀ c q hs, r ≠ .exn c q hs
theorem Res.noex_calm {α : Type} {r : Res α} : r.calm.noex := by
  cases r <;> (intro c q hs h; cases h)
theorem Res.noex_bind {α β : Type} {r : Res α} {f : α → Hs → Res β} (h : r.noex) (hf : ∀ a hs, (f a hs).noex) : (r.bind f).noex := by
  cases r with
  | ok a hs => exact hf a hs
  | exn c q hs => exact absurd rfl (h c q hs)
  | bad => intro c q hs h; cases h
theorem Res.noex_ok {α : Type} {a : α} {hs : Hs} : (Res.ok a hs).noex := fun _ _ _ h => by cases h
theorem Res.noex_bad {α : Type} : (Res.bad : Res α).noex := fun _ _ _ h => by cases h
theorem setItem_noex (o i v : D) (hs : Hs) : (WG.setItem o i v hs).noex := by
  intro c q hs' h
  unfold WG.setItem at h
  repeat' split at h
  all_goals cases h
mutual
theorem asg_noex : ∀ (t : Tg) (d : D) (fr : Fr) (hs : Hs), (asg cl t d fr hs).noex
  | .var i, d, fr, hs => by simp only [asg]; exact Res.noex_ok
  | .sub o i, d, fr, hs => by
    simp only [asg]
    exact Res.noex_bind Res.noex_calm fun x hs => Res.noex_bind Res.noex_calm fun y hs => Res.noex_bind (setItem_noex _ _ _ _) fun _ _ => Res.noex_ok
  | .tup ts, d, fr, hs => by
    simp only [asg]
    split
    · exact asgs_noex ts _ fr hs
    · exact Res.noex_bad
theorem asgs_noex : ∀ (t : Tgs) (d : List D) (fr : Fr) (hs : Hs), (asgs cl t d fr hs).noex
  | .nil, ds, fr, hs => by
    simp only [asgs]
    split
    · exact Res.noex_ok
    · exact Res.noex_bad
  | .cons t ts, ds, fr, hs => by
    simp only [asgs]
    split
    · exact Res.noex_bind (asg_noex t _ fr hs) fun fr hs => asgs_noex ts _ fr hs
    · exact Res.noex_bad
end
theorem asg_calm {t : Tg} {d : D} {fr : Fr} {hs : Hs} {c : Nat} {q : D} {hs' : Hs} : asg cl t d fr hs ≠ .exn c q hs' := asg_noex t d fr hs c q hs'
def Tgs.len : Tgs → Nat
  | .nil => 0
  | .cons _ ts => ts.len + 1
theorem asgs_len : ∀ {ts : Tgs} {ds : List D} {fr : Fr} {hs hs' : Hs} {fr' : Fr}, asgs cl ts ds fr hs = .ok fr' hs' → ds.length = ts.len
  | .nil, ds, fr, hs, hs', fr', h => by
    simp only [asgs] at h
    split at h
    · rfl
    · cases h
  | .cons t ts, ds, fr, hs, hs', fr', h => by
    simp only [asgs] at h
    split at h
    · rename_i d ds
      cases h1 : asg cl t d fr hs with
      | ok fr1 hs1 =>
        rw [h1, Res.bind_ok] at h
        rw [List.length_cons, Tgs.len, asgs_len h]
      | exn _ _ _ => rw [h1] at h; cases h
      | bad => rw [h1] at h; cases h
    · cases h
theorem sg_tup {ts : List Expr} {ets : Tgs} {j : Nat} (hc : X.calm = true) (hn : noStar ts = true) (hl : ets.len = ts.length) (h : PGs X ts (Gs5 g cl ets)) : PG X (.Tuple ts j pos) (G5 g cl (.tup ets)) := by
  obtain ⟨h1, h2⟩ := asgEach_all (env := X.env) hn
  refine PG.imp (pg_tup hc h h1 h2) fun v σ H Q ⟨ρ, hs, fr, d, R, F, r, p⟩ => ?_
  simp only [asg] at p
  split at p
  · rename_i ds
    cases r with
    | @tup a _ vs h3 n rs =>
      refine ⟨a, vs, rfl, SqT.of h3, ?_, ρ, hs, fr, ds, R, F, rs, p⟩
      cases hr : asgs cl ets ds fr hs with
      | ok fr' hs' => rw [← rs.length, asgs_len hr, hl]
      | exn _ _ _ => exact absurd hr (asgs_noex _ _ _ _ _ _ _)
      | bad => rw [hr] at p; exact False.elim p
  · exact False.elim p

/-! ### stores -/
theorem Post.noexn {α : Type} {ρ : List Addr} {H : Hp} {r : Res α} {Q : List Addr → Hs → Hp → α → Prop} {W W' : Value → Option Addr → Hp → Prop} (p : Post g ρ H r Q W) (h : ∀ c q hs, r ≠ .exn c q hs) : Post g ρ H r Q W' := by
  cases r with
  | ok a hs => exact p
  | exn c q hs => exact absurd rfl (h c q hs)
  | bad => exact p
/-- target = value -/
theorem ss_asg {t : Expr} {et : Tg} (he : PE X e (E5 g cl W ee)) (ht : PG X t (G5 g cl et)) (hn : ∀ v p, t ≠ .Starred v p) (hs : swapsWithSole [t] e pos.line X.env = pure false) (hw : swappedStores [t] e X.env = pure none) : PS X (.Assign [t] e pos) (S5 g cl W (.set et ee)) := by
  refine PS.imp (ps_asg he ht hs hw (by rw [asgEach_cons hn]; rfl)) fun D σ H ⟨ρ, hs, fr, R, F, p⟩ => ?_
  simp only [evS] at p
  refine ⟨ρ, hs, fr, R, F, Post.imp (PostS.then F p) fun ρ1 hs1 H1 d e1 R1 p1 v rv => ?_⟩
  exact ⟨ρ1, hs1, fr, d, R1, F.mono e1, rv, Post.noexn (Post.imp (PostS.then (F.mono e1) p1) fun ρ2 hs2 H2 fr2 e2 R2 p2 σ2 F2 => p2 ρ2 H2 σ2 Evo.refl R2 F2) fun _ _ _ => asg_calm⟩
/-- what a name's store gives -/
theorem tAsg_name {f : Fr → Hs → Res D} {i : Nat} {D : Ends} {σ : L2.St} {H : Hp} (h : tS g W (fun fr hs => (f fr hs).then fr fun d hs => (asg cl (.var i) d fr hs).then fr fun fr hs => .nx fr hs) D σ H) : tAsg (tE g W f) (gName i) D σ H := by
  obtain ⟨ρ, hs, fr, R, F, p⟩ := h
  refine ⟨ρ, hs, fr, R, F, Post.imp (PostS.then F p) fun ρ1 hs1 H1 d e1 R1 p1 v rv => ?_⟩
  simp only [asg, Res.then_ok] at p1
  exact p1 ρ1 H1 _ Evo.refl R1 ((F.mono e1).set rv)
theorem ss_setN {x : Str} {i : Nat} {px : Pos} (nd : X.N.Nodup) (h : Stor X x i) (he : PE X e (E5 g cl W ee)) (hs : swapsWith e (some (.Name x px)) pos.line X.env = pure false) : PS X (.Assign [.Name x px] e pos) (S5 g cl W (.set (.var i) ee)) :=
  PS.imp (ps_set nd h.1 h.2.1 he hs h.2.2) fun D σ H q => tAsg_name (cl := cl) (by simpa only [S5, evS] using q)

/-! ### loops -/
theorem ss_while (own : PassesOwn (model X.prog X.w) X.A X.env X.xe) (hc : PT X c (T5 g cl W ec)) (hb : PSs X b (B5 g cl W sb)) : PS X (.While c b [] pos) (S5 g cl W (.whil ec sb)) := by
  refine PS.imp (ps_while own hc hb) fun D σ H ⟨ρ, hs, fr, R, F, p⟩ => ?_
  simp only [evS] at p
  refine ⟨fun m σ' H' => ∃ ρ' hs' fr', Rep g ρ' hs' H' ∧ FrR g ρ' H' fr' σ' ∧ PostS g ρ' H' W D (whilN (fun fr hs => evE cl ec fr hs) (fun fr hs => evSs cl sb fr hs) m fr' hs'), ⟨turns, ρ, hs, fr, R, F, p⟩, ?_⟩
  rintro m σ1 H1 ⟨ρ1, hs1, fr1, R1, F1, p1⟩
  cases m with
  | zero => exact False.elim p1
  | succ m =>
    simp only [whilN] at p1
    refine ⟨ρ1, hs1, fr1, R1, F1, Post.imp (PostS.then F1 p1) fun ρ2 hs2 H2 d e2 R2 p2 => ?_⟩
    split at p2
    · refine ⟨true, rfl, ?_⟩
      (try dsimp only)
      rw [if_pos rfl]
      refine ⟨fun σ' H' => ∃ ρ' hs' fr', Rep g ρ' hs' H' ∧ FrR g ρ' H' fr' σ' ∧ PostS g ρ' H' W D (whilN (fun fr hs => evE cl ec fr hs) (fun fr hs => evSs cl sb fr hs) m fr' hs'), fun σ' H' x => ⟨m, Nat.lt_succ_self m, x⟩, ρ2, hs2, fr1, R2, F1.mono e2, ?_⟩
      split at p2
      · rename_i fr3 hs3 hr
        rw [hr]
        exact fun ρ' H' σ' e' R' F' => ⟨ρ', hs3, fr3, R', F', PostS.from p2 e'⟩
      · rename_i fr3 hs3 hr
        rw [hr]
        exact fun ρ' H' σ' e' R' F' => ⟨ρ', hs3, fr3, R', F', PostS.from p2 e'⟩
      · rename_i r h1 h2
        revert p2 h1 h2
        cases evSs cl sb fr1 hs2 with
        | nx fr hs => exact fun z _ _ => absurd rfl (z _ _)
        | ct fr hs => exact fun _ z _ => absurd rfl (z _ _)
        | rt d hs => exact fun _ _ p2 => p2
        | exn c q fr hs => exact fun _ _ p2 => p2
        | bad => exact fun _ _ p2 => p2
    · refine ⟨false, rfl, ?_⟩
      (try dsimp only)
      rw [if_neg Bool.false_ne_true]
      exact p2 ρ2 H2 σ1 Evo.refl R2 (F1.mono e2)
    · exact False.elim p2

theorem ss_for {tg iter : Expr} {it : WG.It} {et : Tg} (own : PassesOwn (model X.prog X.w) X.A X.env X.xe) (hc : X.calm = true) (hi : PI X tg iter (I5 g cl W it)) (hg : PG X tg (G5 g cl et)) (hb : PSs X b (B5 g cl W sb))
    (hs : ∀ x, foldedSetIterable iter X.env x = pure x) : PS X (.For tg iter b [] pos) (S5 g cl W (.loop et it sb)) := by
  refine PS.imp (ps_for own hc hi hg hb hs) fun D σ H ⟨ρ, hs, fr, R, F, p⟩ => ?_
  simp only [evS] at p
  refine ⟨ρ, hs, fr, R, F, Post.imp (PostS.then F p) fun ρ1 hs1 H1 w e1 R1 p1 J S src s0 => ?_⟩
  generalize hf : (fun (d : WG.D) (fr : Fr) (hs : Hs) => if held hs w.1 w.2 = true then (asg cl et d fr hs).then fr fun fr hs => evSs cl sb fr hs else RS.bad) = f at p1
  generalize hK : (fun (fr : Fr) (hs : Hs) => if held hs w.1 w.2 = true then RS.nx fr (freeO hs w.2) else RS.bad) = K at p1
  generalize hIv : (fun (i : Nat) (σ' : L2.St) (H' : Hp) => i ≤ w.1.length ∧ ∃ (ρ' : List Addr) (hs' : Hs) (fr' : Fr) (ρo : List Addr) (hso : Hs) (Ho : Hp), Rep g ρ' hs' H' ∧ FrR g ρ' H' fr' σ' ∧ S g.eta ρo hso Ho ∧ Evo ρo Ho ρ' H' ∧
    PostS g ρ' H' W D ((loopL f (w.1.drop i) fr' hs').seq K)) = Iv
  refine ⟨fun i m σ' H' => m = w.1.length - i ∧ Iv i σ' H', ⟨w.1.length, by simp, ?_⟩, ?_⟩
  · rw [← hIv]
    exact ⟨Nat.zero_le _, ρ1, lockO hs1 w.2, fr, ρ1, lockO hs1 w.2, H1, R1.locked w.2, F.mono e1, s0, Evo.refl, by rw [List.drop_zero]; exact p1⟩
  · rintro i m σ2 H2 ⟨rfl, iv⟩
    rw [← hIv] at iv
    obtain ⟨hi2, ρ', hs', fr', ρo, hso, Ho, R2, F2, so, eo, p2⟩ := iv
    by_cases hlt : i < w.1.length
    · obtain ⟨d, hd⟩ := at_of_lt hlt
      have hdrop : w.1.drop i = d :: w.1.drop (i + 1) := by
        rw [List.drop_eq_getElem_cons hlt]
        rw [List.getElem?_eq_getElem hlt] at hd
        rw [Option.some.inj hd]
      rw [hdrop] at p2
      simp only [loopL] at p2
      have hheld : held hs' w.1 w.2 = true := by
        cases hh : held hs' w.1 w.2 with
        | true => rfl
        | false =>
          rw [← hf] at p2
          simp only [hh, Bool.false_eq_true, if_false, RS.seq_bad] at p2
          exact False.elim p2
      have s2 := src.mono _ _ _ _ ρ' hs' H2 so eo (.inr hheld)
      refine .inr ⟨(src.go _ i ρ' hs' H2 R2 s2 hlt).1, fun σ3 H3 => Iv (i + 1) σ3 H3, fun σ3 H3 x => ⟨w.1.length - (i + 1), by omega, rfl, x⟩, fun x H3 y => ?_⟩
      obtain ⟨e3, R3, d', hd', rd⟩ := (src.go _ i ρ' hs' H2 R2 s2 hlt).2 x H3 y
      rw [hd] at hd'; injection hd' with hd'; subst hd'
      have fd : f d fr' hs' = ((asg cl et d fr' hs').then fr' fun fr hs => evSs cl sb fr hs) := by rw [← hf]; simp only [hheld, if_true]
      rw [fd] at p2
      refine ⟨ρ', hs', fr', d, R3, F2.mono e3, rd, ?_⟩
      cases ha : asg cl et d fr' hs' with
      | bad => rw [ha] at p2; exact False.elim p2
      | exn _ _ _ => exact absurd ha asg_calm
      | ok fr4 hs4 =>
        rw [ha, Res.then_ok] at p2
        intro ρ4 H4 e4 R4 σ4 F4
        refine ⟨ρ4, hs4, fr4, R4, F4, ?_⟩
        have e24 := e3.trans e4
        have p4 := PostS.from p2 e24
        have again : ∀ {fr5 hs5 ρ5 H5 σ5}, Evo ρ4 H4 ρ5 H5 → Rep g ρ5 hs5 H5 → FrR g ρ5 H5 fr5 σ5 → PostS g ρ4 H4 W D ((loopL f (w.1.drop (i + 1)) fr5 hs5).seq K) → Iv (i + 1) σ5 H5 := fun {fr5 hs5 ρ5 H5 σ5} e5 R5 F5 p5 => by
          rw [← hIv]
          exact ⟨hlt, ρ5, hs5, fr5, ρ', hs', H2, R5, F5, s2, e24.trans e5, PostS.from p5 e5⟩
        cases hr : evSs cl sb fr4 hs4 with
        | nx fr5 hs5 => rw [hr] at p4; exact fun ρ5 H5 σ5 e5 R5 F5 => again e5 R5 F5 p4
        | ct fr5 hs5 => rw [hr] at p4; exact fun ρ5 H5 σ5 e5 R5 F5 => again e5 R5 F5 p4
        | rt d5 hs5 => rw [hr] at p4; exact p4
        | exn c5 q5 fr5 hs5 => rw [hr] at p4; exact p4
        | bad => rw [hr] at p4; exact p4
    · have hi3 : i = w.1.length := by omega
      subst hi3
      rw [List.drop_length] at p2
      simp only [loopL, RS.seq_nx] at p2
      have hheld : held hs' w.1 w.2 = true := by
        cases hh : held hs' w.1 w.2 with
        | true => rfl
        | false =>
          rw [← hK] at p2
          simp only [hh, Bool.false_eq_true, if_false] at p2
          exact False.elim p2
      have s2 := src.mono _ _ _ _ ρ' hs' H2 so eo (.inr hheld)
      refine .inl ⟨src.stop _ _ ρ' hs' H2 R2 s2 (Nat.le_refl _), ?_⟩
      rw [← hK] at p2
      simp only [hheld, if_true] at p2
      exact p2 ρ' H2 σ2 Evo.refl (R2.freed w.2) F2
/-- what a comprehension's store gives -/
theorem ss_setC {tg iter elt : Expr} {ifs : List Expr} {scope : Scope} {own : List (Str × Nat)} {it : WG.It} {one h : Bool} (C : CompOk g cl ce k W X tg iter ifs scope own one elt it ec ee) {y : Str} {i : Nat} {py spos : Pos} (hy : X.N[i]? = some y) (hyl : X.env.scope.names.lookup y = some .local)
    (hsw : swapsWith (.ListComp elt [⟨tg, iter, ifs, 0⟩] scope pos) (some (.Name y py)) spos.line X.env = pure true) :
    PS X (.Assign [.Name y py] (.ListComp elt [⟨tg, iter, ifs, 0⟩] scope pos) spos) (S5 g cl W (.set (.var i) (.comp h one (own.map (·.2)) it ec ee))) :=
  PS.imp (ss_setLc C hy hyl hsw) fun D σ H q => tAsg_name (cl := cl) (by simpa only [S5, evS] using q)

/-! ### two names, three names at once -/
def ces2 (a b : CE) : CEs := .cons a (.cons b .nil)
def ces3 (a b c : CE) : CEs := .cons a (.cons b (.cons c .nil))
theorem ss_par {i j : Nat} {x y : Str} {a b : Expr} {ea eb : CE} {px py pt : Pos} {kt k2 pt2} (G : XG g cl ce k W X) (hi : X.N[i]? = some x) (hj : X.N[j]? = some y) (hij : i ≠ j)
    (hx : X.env.scope.names.lookup x = some .local) (hy : X.env.scope.names.lookup y = some .local) (ha : PA X [a, b] (A5 g cl W (ces2 ea eb)))
    (hw : swappedStores [.Tuple [.Name x px, .Name y py] kt pt] (.Tuple [a, b] k2 pt2) X.env = pure (some [x, y])) :
    PS X (.Assign [.Tuple [.Name x px, .Name y py] kt pt] (.Tuple [a, b] k2 pt2) pos) (S5 g cl W (.set (.tup (.cons (.var i) (.cons (.var j) .nil))) (.tup (ces2 ea eb)))) := by
  refine PS.imp (ps_par G.calm G.nd hi hj hij hx hy ha hw (by rfl)) fun D σ H ⟨ρ, hs, fr, R, F, p⟩ => ?_
  simp only [evS, evE] at p
  refine ⟨ρ, hs, fr, R, F, ?_⟩
  cases hr : evEs cl (ces2 ea eb) fr hs with
  | bad => rw [hr] at p; exact False.elim p
  | exn c q hs1 => rw [hr] at p; exact fun ρ' H' d e R h1 h2 => p ρ' H' σ d e R (F.mono e) h1 h2
  | ok ds hs1 =>
    rw [hr, Res.bind_ok, Res.then_ok] at p
    intro ρ1 H1 e1 R1 vs rv
    cases ds with
    | nil => exact False.elim p
    | cons d ds =>
      cases ds with
      | nil => exact False.elim p
      | cons d2 ds =>
        cases ds with
        | cons d3 ds => exact False.elim p
        | nil =>
          obtain ⟨v, w, rfl, r1, r2⟩ := rv.two
          refine ⟨v, w, rfl, ?_⟩
          simp only [asg, asgs, Res.bind_ok, Res.then_ok] at p
          exact p ρ1 H1 _ e1 R1 (((F.mono e1).set r1).set r2)
theorem ss_par3 {i j l : Nat} {x y z : Str} {a b c : Expr} {ea eb ec : CE} {px py pz pt : Pos} {kt k2 pt2} (G : XG g cl ce k W X) (hi : X.N[i]? = some x) (hj : X.N[j]? = some y) (hl : X.N[l]? = some z) (hij : i ≠ j) (hil : i ≠ l) (hjl : j ≠ l)
    (hx : X.env.scope.names.lookup x = some .local) (hy : X.env.scope.names.lookup y = some .local) (hz : X.env.scope.names.lookup z = some .local) (ha : PA X [a, b, c] (A5 g cl W (ces3 ea eb ec)))
    (hw : swappedStores [.Tuple [.Name x px, .Name y py, .Name z pz] kt pt] (.Tuple [a, b, c] k2 pt2) X.env = pure (some [x, y, z])) :
    PS X (.Assign [.Tuple [.Name x px, .Name y py, .Name z pz] kt pt] (.Tuple [a, b, c] k2 pt2) pos) (S5 g cl W (.set (.tup (.cons (.var i) (.cons (.var j) (.cons (.var l) .nil)))) (.tup (ces3 ea eb ec)))) := by
  refine PS.imp (ps_par3 G.calm G.nd hi hj hl hij hil hjl hx hy hz ha hw (by rfl)) fun D σ H ⟨ρ, hs, fr, R, F, p⟩ => ?_
  simp only [evS, evE] at p
  refine ⟨ρ, hs, fr, R, F, ?_⟩
  cases hr : evEs cl (ces3 ea eb ec) fr hs with
  | bad => rw [hr] at p; exact False.elim p
  | exn c q hs1 => rw [hr] at p; exact fun ρ' H' d e R h1 h2 => p ρ' H' σ d e R (F.mono e) h1 h2
  | ok ds hs1 =>
    rw [hr, Res.bind_ok, Res.then_ok] at p
    intro ρ1 H1 e1 R1 vs rv
    cases ds with
    | nil => exact False.elim p
    | cons d ds =>
      cases ds with
      | nil => exact False.elim p
      | cons d2 ds =>
        cases ds with
        | nil => exact False.elim p
        | cons d3 ds =>
          cases ds with
          | cons d4 ds => exact False.elim p
          | nil =>
            cases rv with
            | cons r1 rv =>
              obtain ⟨v, w, rfl, r2, r3⟩ := rv.two
              refine ⟨_, v, w, rfl, ?_⟩
              simp only [asg, asgs, Res.bind_ok, Res.then_ok] at p
              exact p ρ1 H1 _ e1 R1 ((((F.mono e1).set r1).set r2).set r3)
end
end WG

set_option Elab.async false
set_option linter.all false
set_option maxRecDepth 100000
set_option maxHeartbeats 4000000
set_option autoImplicit false
/-! Core10: chains of comparisons, isinstance, raise, try. -/
namespace WG
open PySem L2 PySem.Spec

section
variable {g : Gm} {cl : Call} {ce : Ce} {k : Nat} {W : WX} {X : Cx} {pos : Pos} {a b c : Expr} {ea eb ec : CE}
theorem chain_key {op op' : COp} {σ : L2.St} {H : Hp} {Q : VK} (h : E5 g cl W (.chain op op' ea eb ec) σ H Q) :
    tChain (fun x y H Q => ∃ ρ hs dx dy b, Rep g ρ hs H ∧ Rl g ρ H dx x ∧ Rl g ρ H dy y ∧ cmpB op dx dy hs = some b ∧ Q (.bl b) H) (fun x y H Q => ∃ ρ hs dx dy b, Rep g ρ hs H ∧ Rl g ρ H dx x ∧ Rl g ρ H dy y ∧ cmpB op' dx dy hs = some b ∧ Q (.bl b) H)
      (E5 g cl W ea) (E5 g cl W eb) (E5 g cl W ec) σ H Q := by
  obtain ⟨ρ, hs, fr, R, F, p⟩ := h
  simp only [evE] at p
  refine ⟨ρ, hs, fr, R, F, Post.imp (Post.bind p) fun ρ1 hs1 H1 dx e1 R1 p1 x rx => ?_⟩
  refine ⟨ρ1, hs1, fr, R1, F.mono e1, Post.imp (Post.bind p1) fun ρ2 hs2 H2 dy e2 R2 p2 y ry => ?_⟩
  split at p2
  · rename_i hc
    refine ⟨ρ2, hs2, dx, dy, true, R2, rx.mono e2, ry, hc, true, rfl, ?_⟩
    rw [if_pos rfl]
    refine ⟨ρ2, hs2, fr, R2, (F.mono e1).mono e2, Post.imp (Post.bind p2) fun ρ3 hs3 H3 dz e3 R3 p3 z rz => ?_⟩
    split at p3
    · rename_i b hb
      exact ⟨ρ3, hs3, dy, dz, b, R3, ry.mono e3, rz, hb, p3 ρ3 H3 Evo.refl R3 _ (.bl b)⟩
    · exact False.elim p3
  · rename_i hc
    refine ⟨ρ2, hs2, dx, dy, false, R2, rx.mono e2, ry, hc, false, rfl, ?_⟩
    rw [if_neg Bool.false_ne_true]
    exact p2 ρ2 H2 Evo.refl R2 _ (.bl _)
  · exact False.elim p2
theorem se_chain (G : XG g cl ce k W X) {op op' : COp} (ha : PE X a (E5 g cl W ea)) (hb : PE X b (E5 g cl W eb)) (hc : PE X c (E5 g cl W ec)) (hm : lastMarks [pyCmp op, pyCmp op'] [b, c] = false) :
    PE X (.Compare a [pyCmp op, pyCmp op'] [b, c] pos) (E5 g cl W (.chain op op' ea eb ec)) :=
  PE.imp (pe_chain (cmpR G op) (cmpR G op') ha hb hc hm) fun σ H Q h => chain_key h
theorem st_chain (G : XG g cl ce k W X) {op op' : COp} (ha : PE X a (E5 g cl W ea)) (hb : PE X b (E5 g cl W eb)) (hc : PE X c (E5 g cl W ec)) (hm : lastMarks [pyCmp op, pyCmp op'] [b, c] = false) :
    PT X (.Compare a [pyCmp op, pyCmp op'] [b, c] pos) (T5 g cl W (.chain op op' ea eb ec)) := by
  refine PT.imp (pt_chain (cmpR G op) (cmpR G op') ha hb hc hm) fun σ H Q h => ?_
  have z := tB_of h
  exact chain_key z
/-- isinstance(e, T), T a built-in type -/
theorem se_isi {x y : Str} {p q : Pos} {t : Ty} {h : Bool} (G : XG g cl ce k W X) (hx : x = "isinstance") (hg : ce.sc.names.lookup x = some .globalImplicit) (hgx : ce.G.lookup x = some .blt) (hy : ce.sc.names.lookup y = some .globalImplicit) (hgy : ce.G.lookup y = some .blt) (hv : bootBuiltins y = some (.type (tyName t)))
    (hs : noStar [a] = true) (ha : PE X a (E5 g cl W ea)) : PE X (.Call (.Name x p) [a, .Name y q] [] pos) (E5 g cl W (.blt h (.isi t) (.cons ea .nil))) := by
  subst hx
  have o := G.glob _ _ hgx
  have oy := G.glob _ _ hgy
  have py : PE X (.Name y q) (tC (.ty (tyName t))) := pe_bltn (v := .ty (tyName t)) (by show X.env.scope.names.lookup y = _; rw [G.sc]; exact hy) (oy.blt rfl) hv rfl oy.nn oy.nd
  have hs1 := noStar_cons hs
  have pa : PA X [a, .Name y q] (tCons (E5 g cl W ea) (tCons (tC (.ty (tyName t))) tNil)) := pa_cons ha (pa_cons py pa_nil rfl) (starEach_cons hs1.1)
  refine PE.imp (pe_callB (r := rIsi X.K) (id := "isinstance") call_isi (by show X.env.scope.names.lookup _ = _; rw [G.sc]; exact hg) (o.blt rfl) (by rfl) pa (by decide) (by decide) (starEach_cons hs1.1) (by rfl)) fun σ H Q ⟨ρ, hs, fr, R, F, p⟩ => ?_
  simp only [evE, evEs] at p
  refine ⟨ρ, hs, fr, R, F, ?_⟩
  cases hr : evE cl ea fr hs with
  | bad => rw [hr] at p; exact False.elim p
  | exn c q hs1 => rw [hr] at p; exact p
  | ok d hs1 =>
    rw [hr] at p
    simp only [Res.bind_ok, bltD] at p
    intro ρ1 H1 e1 R1 v rv
    split at p
    · rename_i bb hb
      obtain ⟨n, ty, kb⟩ := isTy_ok (K := X.K) R1 rv hb
      exact ⟨v, .ty (tyName t), _, _, bb, rfl, .ty _, ty, kit_ty kb, p ρ1 H1 e1 R1 _ (.bl _)⟩
    · exact False.elim p

variable {st : Stmt} {rest : List Stmt} {s : CS} {ss sb : CSs}
theorem ss_raise {x m : Str} {j n : Nat} {p p2 pos2 : Pos} (A : XS g cl ce k W X) (hg : ce.sc.names.lookup x = some .globalImplicit) (hx : ce.G.lookup x = some (.cls n)) :
    PS X (.Raise (some (.Call (.Name x p) [.Constant (.str m) j p2] [] pos)) none pos2) (S5 g cl W (.rais n)) := by
  have o := A.G.glob x _ hx
  obtain ⟨h1, c⟩ := o.cls n rfl
  refine PS.imp (ps_raise A.G.calm A.tk (pmk_own PySem.F.excBase_ValueError c.exc h1 c.keep (raises_own c.sub c.typ) (by show X.env.scope.names.lookup _ = _; rw [A.G.sc]; exact hg) o.nd)) fun D σ H ⟨ρ, hs, fr, R, F, p⟩ => ?_
  simp only [evS] at p
  exact p ρ H σ none Evo.refl R F (fun _ => rfl) (fun e z => by cases z)

/-! ### try -/
/-- what a suite does -/
def suTS : Su → TS
  | .ret .non => fun D _ H => D.rt .non H
  | .ret (.bl b) => fun D _ H => D.rt (.bl b) H
  | .ret (.int i) => fun D _ H => D.rt (.int i) H
  | .ret (.str i) => fun D _ H => D.rt (.str i) H
  | .ret _ => fun _ _ _ => False
  | .cont => fun D σ H => D.ct σ H
  | .var i => fun D σ H => ∃ v, σ[i]? = some (some v) ∧ D.rt v H
def suL (g : Gm) : List (Nat × Su) → List (Value × (Addr → Value → Option Addr → TS))
  | [] => []
  | (h, s) :: r => (.ref (g.ca h), fun _ _ _ => suTS s) :: suL g r
theorem tr_XS (A : XS g cl ce k W X) {W' : WX} {pn : List (Addr × Obj)} {xe : Value → Shared → Prop} (tk : Takes (X.tr pn xe) W') (po : PassesOwn (model X.prog X.w) X.A X.env xe) : XS g cl ce k W' (X.tr pn xe) := by
  refine ⟨⟨A.G.gw, A.G.calm, A.G.room, A.G.nd, A.G.N, A.G.sc, fun x v h => ?_, passAt tk⟩, tk, po, A.fn, A.kind, A.stack, A.frame, A.exm⟩
  have o := A.G.glob x v h
  exact ⟨o.nd, o.nn, o.fn, o.cst, o.blt, fun c h => ⟨(o.cls c h).1, ⟨(o.cls c h).2.keep, (o.cls c h).2.exc, (o.cls c h).2.sub, (o.cls c h).2.typ⟩⟩⟩
/-- the clauses -/
def wSu (hd : List (Nat × Su)) (c : Nat) (p : WG.D) (fr : Fr) (hs : Hs) : RS :=
  match hd.find? fun x => catches c x.1 with
      | some (_, .ret d) => .rt d hs
      | some (_, .cont) => .ct fr hs
      | some (_, .var i) => match fr[i]? with | some (some d) => .rt d hs | _ => .bad
      | none => .exn c p fr hs
theorem wMany_ok {D : Ends} {c : Nat} {p : WG.D} {fr : Fr} {hs : Hs} {ρ : List Addr} {H : Hp} {σ : L2.St} {d : Option Addr} : ∀ {hd : List (Nat × Su)}, (∀ q ∈ hd, PySem.W.exmOne X.K (.ref (g.ca c)) (.ref (g.ca q.1)) = some (catches c q.1)) → (∀ q ∈ hd, ∀ v, q.2 = .ret v → (∃ i, v = .int i) ∨ (∃ i, v = .str i) ∨ (∃ i, v = .bl i) ∨ v = .non) →
    PostS g ρ H W D (wSu hd c p fr hs) → Rep g ρ hs H → FrR g ρ H fr σ → (p = .non → d = none) → (∀ e, d = some e → ∃ f pv, H e = some (.xd [(f, pv)]) ∧ Rl g ρ H p pv) → wMany X.K W D (suL g hd) (.ref (g.ca c)) d σ H
  | [], _, _, q, R, F, h1, h2 => by
    have q : PostS g ρ H W D (.exn c p fr hs) := q
    exact q ρ H σ d Evo.refl R F h1 h2
  | (h, s) :: r, he, hv, q, R, F, h1, h2 => by
    refine ⟨catches c h, he _ List.mem_cons_self, fun hb a _ => ?_, fun hb => ?_⟩
    · unfold wSu at q
      rw [List.find?_cons] at q
      simp only [hb] at q
      cases s with
      | ret v =>
        have q : PostS g ρ H W D (.rt v hs) := q
        rcases hv _ List.mem_cons_self v rfl with ⟨i, rfl⟩ | ⟨i, rfl⟩ | ⟨i, rfl⟩ | rfl
        · exact q ρ H _ Evo.refl R (.int i)
        · exact q ρ H _ Evo.refl R (.str i)
        · exact q ρ H _ Evo.refl R (.bl i)
        · exact q ρ H _ Evo.refl R .non
      | cont => exact q ρ H σ Evo.refl R F
      | var i =>
        dsimp only at q
        split at q
        · rename_i v hv
          obtain ⟨u, hu, ru⟩ := F.2 i v hv
          exact ⟨u, hu, q ρ H u Evo.refl R ru⟩
        · exact False.elim q
    · refine wMany_ok (fun q hq => he q (List.mem_cons_of_mem _ hq)) (fun q hq => hv q (List.mem_cons_of_mem _ hq)) ?_ R F h1 h2
      unfold wSu at q ⊢
      rw [List.find?_cons] at q
      simp only [hb] at q
      exact q
/-- a clause's own text -/
def suIs (ce : Ce) (x : Str) (st : List Stmt) (n : Nat) (s : Su) : Bool :=
  decide (ce.G.lookup x = some (.cls n)) && decide (ce.sc.names.lookup x = some .globalImplicit) && (match st, s with
    | [.Return (some (.Constant (.int i) _ _)) _], .ret d => decide (d = .int i)
    | [.Return (some (.Constant (.str i) _ _)) _], .ret d => decide (d = .str i)
    | [.Return (some (.Constant (.bool i) _ _)) _], .ret d => decide (d = .bl i)
    | [.Return (some (.Constant .none _ _)) _], .ret d => decide (d = .non)
    | [.Return none _], .ret d => decide (d = .non)
    | [.Continue _], .cont => true
    | [.Return (some (.Name y _)) _], .var i => decide (ce.N[i]? = some y) && decide (ce.sc.names.lookup y = some .local) && !(y == ("__debug__" : Str)) && !(y == ("__classdict__" : Str))
    | _, _ => false)
def hdsIs (ce : Ce) : List ExceptHandler → List (Nat × Su) → Bool
  | [], [] => true
  | .ExceptHandler (some (.Name x _)) none st _ :: hs, (n, s) :: r => suIs ce x st n s && hdsIs ce hs r
  | _, _ => false
theorem su_ok {x : Str} {st : List Stmt} {n : Nat} {s : Su} (A : XS g cl ce k W X) (h : suIs ce x st n s = true) :
    ce.G.lookup x = some (.cls n) ∧ ce.sc.names.lookup x = some .globalImplicit ∧ (∃ b0 r, st = b0 :: r) ∧ (∀ v, s = .ret v → (∃ i, v = .int i) ∨ (∃ i, v = .str i) ∨ (∃ i, v = .bl i) ∨ v = .non) ∧
    ∀ (a : Addr) (oe : Obj) (pn : List (Addr × Obj)), PSs (X.suite a ((a, oe) :: pn)) st (suTS s) := by
  unfold suIs at h
  simp only [Bool.and_eq_true, decide_eq_true_eq] at h
  obtain ⟨⟨h1, h2⟩, h3⟩ := h
  refine ⟨h1, h2, ?_⟩
  split at h3
  · have e := of_decide_eq_true h3; subst e
    exact ⟨⟨_, _, rfl⟩, fun v hv => (by injection hv with hv; subst hv; exact .inl ⟨_, rfl⟩), fun a oe pn => PSs.imp (pss_cons (ps_ret pe_int) pss_nil) fun D σ H q => q⟩
  · have e := of_decide_eq_true h3; subst e
    exact ⟨⟨_, _, rfl⟩, fun v hv => (by injection hv with hv; subst hv; exact .inr (.inl ⟨_, rfl⟩)), fun a oe pn => PSs.imp (pss_cons (ps_ret pe_str) pss_nil) fun D σ H q => q⟩
  · have e := of_decide_eq_true h3; subst e
    exact ⟨⟨_, _, rfl⟩, fun v hv => (by injection hv with hv; subst hv; exact .inr (.inr (.inl ⟨_, rfl⟩))), fun a oe pn => PSs.imp (pss_cons (ps_ret pe_bl) pss_nil) fun D σ H q => q⟩
  · have e := of_decide_eq_true h3; subst e
    exact ⟨⟨_, _, rfl⟩, fun v hv => (by injection hv with hv; subst hv; exact .inr (.inr (.inr rfl))), fun a oe pn => PSs.imp (pss_cons (ps_ret pe_non) pss_nil) fun D σ H q => q⟩
  · have e := of_decide_eq_true h3; subst e
    exact ⟨⟨_, _, rfl⟩, fun v hv => (by injection hv with hv; subst hv; exact .inr (.inr (.inr rfl))), fun a oe pn => PSs.imp (pss_cons ps_retN pss_nil) fun D σ H q => q⟩
  · exact ⟨⟨_, _, rfl⟩, fun v hv => (by cases hv), fun a oe pn => PSs.imp (pss_cons ps_continue pss_nil) fun D σ H q => q⟩
  · rename_i y _ _ i
    simp only [Bool.and_eq_true, decide_eq_true_eq, Bool.not_eq_true'] at h3
    obtain ⟨⟨⟨q1, q2⟩, q3⟩, q4⟩ := h3
    exact ⟨⟨_, _, rfl⟩, fun v hv => (by cases hv), fun a oe pn => PSs.imp (pss_cons (ps_ret (pe_var (i := i) (by show X.N[i]? = _; rw [A.G.N]; exact q1) (by show Vis X.env.scope y; rw [A.G.sc]; exact .inl q2) q3 q4)) pss_nil) fun D σ H q => q⟩
  · cases h3
theorem hds_ok (A : XS g cl ce k W X) : ∀ {hds : List ExceptHandler} {hd : List (Nat × Su)}, hdsIs ce hds hd = true → HdsOk X hds (suL g hd) ∧ (∀ c, ∀ q ∈ hd, PySem.W.exmOne X.K (.ref (g.ca c)) (.ref (g.ca q.1)) = some (catches c q.1)) ∧ ∀ q ∈ hd, ∀ v, q.2 = .ret v → (∃ i, v = .int i) ∨ (∃ i, v = .str i) ∨ (∃ i, v = .bl i) ∨ v = .non := by
  intro hds
  induction hds with
  | nil =>
    intro hd h
    cases hd with
    | nil => exact ⟨.nil, (fun _ _ z => by cases z), (fun _ z => by cases z)⟩
    | cons _ _ => simp [hdsIs] at h
  | cons hh hds ih =>
    intro hd h
    have aux : ∀ (hh : ExceptHandler) (hd : List (Nat × Su)), hdsIs ce (hh :: hds) hd = true → ∃ x np st pos' n s r, hh = .ExceptHandler (some (.Name x np)) none st pos' ∧ hd = (n, s) :: r ∧ (suIs ce x st n s && hdsIs ce hds r) = true := by
      intro hh hd h
      unfold hdsIs at h
      split at h
      · rename_i e1; cases e1
      · rename_i x np st pos' hs n s r e1
        injection e1 with e1 e1'
        subst e1; subst e1'
        exact ⟨x, np, st, pos', n, s, r, rfl, rfl, h⟩
      · cases h
    obtain ⟨x, np, st, pos', n, s, r, eh, ed, h2⟩ := aux hh hd h
    clear h
    subst eh ed
    · have h := h2
      rw [Bool.and_eq_true] at h
      obtain ⟨a1, a2, ⟨b0, r0, a3⟩, a4, a5⟩ := su_ok A h.1
      obtain ⟨i1, i2, i3⟩ := ih h.2
      subst a3
      refine ⟨.cons (np := np) ⟨by show X.env.scope.names.lookup _ = _; rw [A.G.sc]; exact a2, (A.G.glob x _ a1).nd, .inl ((A.G.glob x _ a1).cls n rfl).1⟩ (fun a oe cls d pn _ _ => a5 a oe pn) i1, fun c q hq => ?_, fun q hq => ?_⟩
      · rcases List.mem_cons.mp hq with e | hq
        · subst e; exact A.exm c x n a1
        · exact i2 c q hq
      · rcases List.mem_cons.mp hq with e | hq
        · subst e; exact a4
        · exact i3 q hq
theorem ss_try {body : List Stmt} {h₀ : ExceptHandler} {hds : List ExceptHandler} {hd : List (Nat × Su)} (A : XS g cl ce k W X) (hb : ∀ (W' : WX) (X' : Cx), XS g cl ce k W' X' → PSs X' body (B5 g cl W' sb)) (hh : hdsIs ce (h₀ :: hds) hd = true) :
    PS X (.Try body (h₀ :: hds) [] [] pos) (S5 g cl W (.tryc sb hd)) := by
  obtain ⟨i1, i2, i3⟩ := hds_ok A hh
  refine PS.imp (ps_try_many (tb := fun W' => B5 g cl W' sb) A.stack A.frame A.tk (fun W' pn xe tk po => hb W' _ (tr_XS A tk po)) i1) fun D σ H ⟨ρ, hs, fr, R, F, p⟩ => ?_
  simp only [evS] at p
  refine ⟨ρ, hs, fr, R, F, ?_⟩
  cases hr : evSs cl sb fr hs with
  | nx fr' hs' => rw [hr] at p; exact p
  | ct fr' hs' => rw [hr] at p; exact p
  | rt d hs' => rw [hr] at p; exact p
  | bad => rw [hr] at p; exact p
  | exn c q fr' hs' =>
    rw [hr] at p
    have p : PostS g ρ H W D (wSu hd c q fr' hs') := p
    exact fun ρ' H' σ' d e R' F' h1 h2 => wMany_ok (i2 c) i3 (PostS.from p e) R' F' h1 h2
end
end WG

set_option Elab.async false
set_option linter.all false
set_option maxRecDepth 100000
set_option maxHeartbeats 4000000
set_option autoImplicit false
/-! Core11: the check that a program's text is the core's, and what follows of it. -/
namespace WG
open PySem L2 PySem.Spec

def noIf : Expr → Bool
  | .IfExp _ _ _ _ => false
  | _ => true
def noSet : Expr → Bool
  | .Set _ _ _ => false
  | _ => true
theorem noSet_ok {e : Expr} {env : Env} (h : noSet e = true) (x : Value) : foldedSetIterable e env x = pure x := by
  cases e <;> first | rfl | cases h
def visB (sc : Scope) (x : Str) : Bool := decide (sc.names.lookup x = some .local) || decide (sc.names.lookup x = some .cell) || decide (sc.names.lookup x = some .free)
theorem visB_ok {sc : Scope} {x : Str} (h : visB sc x = true) : Vis sc x := by
  unfold visB at h
  simp only [Bool.or_eq_true, decide_eq_true_eq] at h
  rcases h with (h | h) | h
  · exact .inl h
  · exact .inr (.inl h)
  · exact .inr (.inr h)
def locB (sc : Scope) (x : Str) : Bool := decide (sc.names.lookup x = some .local) || decide (sc.names.lookup x = some .cell)
theorem locB_ok {sc : Scope} {x : Str} (h : locB sc x = true) : Loc sc x := by
  unfold locB at h
  simp only [Bool.or_eq_true, decide_eq_true_eq] at h
  exact h
def glB (sc : Scope) (x : Str) : Bool := decide (sc.names.lookup x = some .globalImplicit)
/-- the built-in names -/
def bltN : Blt → Option Str
  | .len => some "len" | .int => some "int" | .str => some "str" | .abs => some "abs" | .min2 => some "min" | .max2 => some "max" | .minL => some "min" | .maxL => some "max"
  | .list => some "list" | .tuple => some "tuple" | .sum => some "sum" | .all => some "all" | .any => some "any" | _ => none
theorem bltN_ok {b : Blt} {x : Str} (h : bltN b = some x) : ∃ f, bltV b = some f ∧ bootBuiltins x = some f := by
  cases b <;> simp only [bltN] at h <;> first | (cases h; done) | (injection h with h; subst h; exact ⟨_, rfl, rfl⟩)
def tyB : Ty → Str
  | .int => "int" | .bool => "bool" | .str => "str" | .tuple => "tuple" | .list => "list"
theorem tyB_ok (t : Ty) : bootBuiltins (tyB t) = some (.type (tyName t)) := by cases t <;> rfl
/-- a comprehension's own names, with their slots -/
def ownN (N : List Str) (own : List Nat) : List (Str × Nat) := own.map fun i => ((N[i]?).getD ⟨#[]⟩, i)
theorem ownN_snd (N : List Str) : ∀ own : List Nat, (ownN N own).map (·.2) = own
  | [] => rfl
  | i :: r => by
    have := ownN_snd N r
    unfold ownN at this ⊢
    simp only [List.map_cons]
    rw [this]
def noneB : CE → Bool
  | .cst .non => true
  | _ => false
theorem noneB_ok {c : CE} (h : noneB c = true) : c = .cst .non := by
  unfold noneB at h
  split at h
  · rfl
  · cases h
def trueB : CE → Bool
  | .cst (.bl true) => true
  | _ => false
theorem trueB_ok {c : CE} (h : trueB c = true) : c = .cst (.bl true) := by
  unfold trueB at h
  split at h
  · rfl
  · cases h
def nilB : CEs → Bool
  | .nil => true
  | _ => false
def cstB (ce : Ce) (d : D) : Expr → Bool
  | .Constant (.int i) _ _ => decide (d = .int i)
  | .Constant (.str i) _ _ => decide (d = .str i)
  | .Constant (.bool i) _ _ => decide (d = .bl i)
  | .Constant .none _ _ => decide (d = .non)
  | .Name x _ => glB ce.sc x && decide (ce.G.lookup x = some (.cst d))
  | _ => false

mutual
def chkE : CE → Ce → Expr → Bool
  | .var i, ce, e => match e with
    | .Name x _ => decide (ce.N[i]? = some x) && visB ce.sc x && !(x == ("__debug__" : Str)) && !(x == ("__classdict__" : Str))
    | _ => false
  | .cst d, ce, e => cstB ce d e
  | .bin _ op a b, ce, e => match e with
    | .BinOp x o y _ => decide (o = pyOp op) && chkE a ce x && chkE b ce y
    | _ => false
  | .neg a, ce, e => match e with
    | .UnaryOp .USub x _ => chkE a ce x
    | _ => false
  | .not a, ce, e => match e with
    | .UnaryOp .Not x _ => noIf x && chkE a ce x
    | _ => false
  | .and a b, ce, e => match e with
    | .BoolOp .And (x :: y :: r) p => noIf x && chkE a ce x && (match r with | [] => noIf y && chkE b ce y | r => chkE b ce (.BoolOp .And (y :: r) p))
    | _ => false
  | .or a b, ce, e => match e with
    | .BoolOp .Or (x :: y :: r) p => noIf x && chkE a ce x && (match r with | [] => noIf y && chkE b ce y | r => chkE b ce (.BoolOp .Or (y :: r) p))
    | _ => false
  | .cmp op a b, ce, e => match e with
    | .Compare x [o] [y] _ => decide (o = pyCmp op) && !behindInMarks (pyCmp op) y && chkE a ce x && chkE b ce y
    | _ => false
  | .chain op op' a b c, ce, e => match e with
    | .Compare x [o, o'] [y, z] _ => decide (o = pyCmp op) && decide (o' = pyCmp op') && !lastMarks [pyCmp op, pyCmp op'] [y, z] && chkE a ce x && chkE b ce y && chkE c ce z
    | _ => false
  | .isN a, ce, e => match e with
    | .Compare x [.Is] [.Constant .none _ _] _ => chkE a ce x
    | _ => false
  | .notN a, ce, e => match e with
    | .Compare x [.IsNot] [.Constant .none _ _] _ => chkE a ce x
    | _ => false
  | .ite c a b, ce, e => match e with
    | .IfExp t x y _ => noIf t && chkE c ce t && chkE a ce x && chkE b ce y
    | _ => false
  | .tup es, ce, e => match e with
    | .Tuple xs _ _ => decide (es.len ≤ line) && chkEs es ce xs
    | _ => false
  | .lst _ es, ce, e => match e with
    | .List xs _ => decide (es.len ≤ line) && chkEs es ce xs
    | _ => false
  | .dct _ _ _ _, _, _ => false
  | .idx a i, ce, e => match e with
    | .Subscript x y _ => noSlice y && chkE a ce x && chkE i ce y
    | _ => false
  | .slice _ a pl lo pu hi, ce, e => match e with
    | .Subscript x (.Slice l u none _) _ => chkE a ce x && (match l with | none => !pl && noneB lo | some l => pl && chkE lo ce l) && (match u with | none => !pu && noneB hi | some u => pu && chkE hi ce u)
    | _ => false
  | .rev _ a, ce, e => match e with
    | .Subscript x (.Slice none none (some (.UnaryOp .USub (.Constant (.int 1) _ _) _)) _) _ => chkE a ce x
    | _ => false
  | .call f es, ce, e => match e with
    | .Call (.Name x _) xs [] _ => glB ce.sc x && decide (ce.G.lookup x = some (.fn f)) && chkEs es ce xs
    | _ => false
  | .blt _ b es, ce, e => match e with
    | .Call (.Name x _) xs [] _ => glB ce.sc x && decide (ce.G.lookup x = some .blt) && (match b, es, xs with
      | .isi t, .cons ea r, [a, .Name y _] => decide (x = "isinstance") && nilB r && glB ce.sc y && decide (ce.G.lookup y = some .blt) && decide (y = tyB t) && chkE ea ce a
      | b, .cons ea r, a :: as => decide (bltN b = some x) && chkE ea ce a && chkEs r ce as
      | _, _, _ => false)
    | _ => false
  | .mth _ m o es, ce, e => match e with
    | .Call (.Attribute x name ap) xs [] cp => plainBase x && (ap.endLine == cp.line) && chkE o ce x && chkEs es ce xs && (match m with
      | .append => decide (name = "append") && decide (xs.length = 1)
      | .pop => decide (name = "pop") && decide (xs.length = 0)
      | _ => false)
    | _ => false
  | .comp _ one own it c el, ce, e => match e with
    | .ListComp elt [⟨tg, iter, ifs, 0⟩] scope _ => blkC ce.N ce.sc scope (ownN ce.N own) && ownSc scope (ownN ce.N own) && ownTg one (ownN ce.N own) tg && noSet iter && chkIt it ce iter &&
        (match ifs with | [] => trueB c | [t] => noIf t && chkE c (ce.blk scope) t | _ => false) && chkE el (ce.blk scope) elt
    | _ => false
def chkEs : CEs → Ce → List Expr → Bool
  | .nil, _, es => match es with
    | [] => true
    | _ => false
  | .cons c cs, ce, es => match es with
    | e :: es => chkE c ce e && chkEs cs ce es
    | [] => false
def chkIt : WG.It → Ce → Expr → Bool
  | .val c, ce, e => chkE c ce e
  | .rng lo hi, ce, e => match e with
    | .Call (.Name x _) [a, b] [] _ => decide (x = "range") && glB ce.sc x && decide (ce.G.lookup x = some .blt) && chkE lo ce a && chkE hi ce b
    | .Call (.Name x _) [b] [] _ => decide (x = "range") && glB ce.sc x && decide (ce.G.lookup x = some .blt) && (match lo with | .cst (.int 0) => true | _ => false) && chkE hi ce b
    | _ => false
  | .zip _ _, _, _ => false
  | .enm _, _, _ => false
end
theorem chk_star {c : CE} {ce : Ce} {v : Expr} {p : Pos} : chkE c ce (.Starred v p) = false := by
  cases c <;> simp only [chkE, cstB]
theorem chk_ns {c : CE} {ce : Ce} {e : Expr} (h : chkE c ce e = true) : ∀ v p, e ≠ .Starred v p := by
  rintro v p rfl
  rw [chk_star] at h; cases h
theorem noStar_to {e : Expr} {es : List Expr} (h : ∀ v p, e ≠ .Starred v p) (hr : noStar es = true) : noStar (e :: es) = true := by
  cases e <;> first | exact hr | exact absurd rfl (h _ _)
theorem chkEs_ns : ∀ {cs : CEs} {ce : Ce} {es : List Expr}, chkEs cs ce es = true → noStar es = true
  | .nil, ce, [], _ => rfl
  | .nil, ce, _ :: _, h => by simp [chkEs] at h
  | .cons c cs, ce, [], h => by simp [chkEs] at h
  | .cons c cs, ce, e :: es, h => by
    simp only [chkEs, Bool.and_eq_true] at h
    have n := chk_ns h.1
    have := chkEs_ns h.2
    cases e <;> first | exact this | exact absurd rfl (n _ _)

section
variable {g : Gm} {cl : Call}
/-- what a checked expression keeps -/
structure EOk (g : Gm) (cl : Call) (ce : Ce) (k : Nat) (W : WX) (X : Cx) (e : Expr) (c : CE) : Prop where
  pe : PE X e (E5 g cl W c)
  pt : noIf e = true → PT X e (T5 g cl W c)
  pw : ∀ op es p, e = .BoolOp op es p → PW X e (T5 g cl W c)
variable {ce : Ce} {k : Nat} {W : WX} {X : Cx}
theorem EOk.val {e : Expr} {c : CE} (h : PE X e (E5 g cl W c)) (he : ∀ whole, isTrue e X.env whole = (do let v ← whole; standAt e.pos; holding [v] (truthy v))) (hb : ∀ op es p, e ≠ .BoolOp op es p) : EOk g cl ce k W X e c :=
  ⟨h, fun _ => st_val h he, fun op es p z => absurd z (hb op es p)⟩
theorem glB_ok {x : Str} (h : glB ce.sc x = true) : ce.sc.names.lookup x = some .globalImplicit := of_decide_eq_true h
theorem cst_ok {d : D} {e : Expr} (h : cstB ce d e = true) (G : XG g cl ce k W X) : EOk g cl ce k W X e (.cst d) := by
  unfold cstB at h
  split at h
  · have e := of_decide_eq_true h; subst e
    exact .val se_int (fun _ => rfl) (fun _ _ _ z => by cases z)
  · have e := of_decide_eq_true h; subst e
    exact .val se_str (fun _ => rfl) (fun _ _ _ z => by cases z)
  · have e := of_decide_eq_true h; subst e
    exact .val se_bl (fun _ => rfl) (fun _ _ _ z => by cases z)
  · have e := of_decide_eq_true h; subst e
    exact .val se_non (fun _ => rfl) (fun _ _ _ z => by cases z)
  · rw [Bool.and_eq_true, decide_eq_true_eq] at h
    exact .val (se_gcst G (glB_ok h.1) h.2) (fun _ => rfl) (fun _ _ _ z => by cases z)
  · cases h
mutual
theorem e_ok : ∀ (c : CE) {ce : Ce} {e : Expr}, chkE c ce e = true → ∀ {g : Gm} {k : Nat} {W : WX} {X : Cx}, XG g cl ce k W X → EOk g cl ce k W X e c
  | .var i, ce, e, h, g, k, W, X, G => by
    simp only [chkE] at h
    split at h
    · simp only [Bool.and_eq_true, decide_eq_true_eq, Bool.not_eq_true'] at h
      obtain ⟨⟨⟨h1, h2⟩, h3⟩, h4⟩ := h
      exact .val (se_var G h1 (visB_ok h2) h3 h4) (fun _ => rfl) (fun _ _ _ z => by cases z)
    · cases h
  | .cst d, ce, e, h, g, k, W, X, G => cst_ok (by simpa only [chkE] using h) G
  | .bin hp op a b, ce, e, h, g, k, W, X, G => by
    simp only [chkE] at h
    split at h
    · simp only [Bool.and_eq_true, decide_eq_true_eq] at h
      obtain ⟨⟨h1, h2⟩, h3⟩ := h
      subst h1
      exact .val (se_bin (e_ok a h2 G).pe (e_ok b h3 G).pe) (fun _ => rfl) (fun _ _ _ z => by cases z)
    · cases h
  | .neg a, ce, e, h, g, k, W, X, G => by
    simp only [chkE] at h
    split at h
    · exact .val (se_neg (e_ok a h G).pe) (fun _ => rfl) (fun _ _ _ z => by cases z)
    · cases h
  | .not a, ce, e, h, g, k, W, X, G => by
    simp only [chkE] at h
    split at h
    · simp only [Bool.and_eq_true] at h
      have ih := e_ok a h.2 G
      exact ⟨se_not ih.pe, fun _ => st_not (ih.pt h.1), fun _ _ _ z => by cases z⟩
    · cases h
  | .and a b, ce, e, h, g, k, W, X, G => by
    simp only [chkE] at h
    split at h
    · rename_i x y r p
      simp only [Bool.and_eq_true] at h
      obtain ⟨⟨h1, h2⟩, h3⟩ := h
      have iha := e_ok a h2 G
      split at h3
      · rw [Bool.and_eq_true] at h3
        have ihb := e_ok b h3.2 G
        have w := st_and (pos := p) (iha.pt h1) (st_one_and (pos := p) (ihb.pt h3.1))
        exact ⟨se_and iha.pe (se_one ihb.pe), fun _ => w.pt, fun _ _ _ _ => w⟩
      · have ihb := e_ok b h3 G
        have w := st_and (pos := p) (iha.pt h1) (ihb.pw _ _ _ rfl)
        exact ⟨se_and iha.pe ihb.pe, fun _ => w.pt, fun _ _ _ _ => w⟩
    · cases h
  | .or a b, ce, e, h, g, k, W, X, G => by
    simp only [chkE] at h
    split at h
    · rename_i x y r p
      simp only [Bool.and_eq_true] at h
      obtain ⟨⟨h1, h2⟩, h3⟩ := h
      have iha := e_ok a h2 G
      split at h3
      · rw [Bool.and_eq_true] at h3
        have ihb := e_ok b h3.2 G
        have w := st_or (pos := p) (iha.pt h1) (st_one_or (pos := p) (ihb.pt h3.1))
        exact ⟨se_or iha.pe (se_one ihb.pe), fun _ => w.pt, fun _ _ _ _ => w⟩
      · have ihb := e_ok b h3 G
        have w := st_or (pos := p) (iha.pt h1) (ihb.pw _ _ _ rfl)
        exact ⟨se_or iha.pe ihb.pe, fun _ => w.pt, fun _ _ _ _ => w⟩
    · cases h
  | .cmp op a b, ce, e, h, g, k, W, X, G => by
    simp only [chkE] at h
    split at h
    · simp only [Bool.and_eq_true, decide_eq_true_eq, Bool.not_eq_true'] at h
      obtain ⟨⟨⟨h1, h2⟩, h3⟩, h4⟩ := h
      subst h1
      exact ⟨se_cmp G (e_ok a h3 G).pe (e_ok b h4 G).pe h2, fun _ => st_cmp G (e_ok a h3 G).pe (e_ok b h4 G).pe h2, fun _ _ _ z => by cases z⟩
    · cases h
  | .chain op op' a b c, ce, e, h, g, k, W, X, G => by
    simp only [chkE] at h
    split at h
    · simp only [Bool.and_eq_true, decide_eq_true_eq, Bool.not_eq_true'] at h
      obtain ⟨⟨⟨⟨⟨h1, h2⟩, h3⟩, h4⟩, h5⟩, h6⟩ := h
      subst h1 h2
      exact ⟨se_chain G (e_ok a h4 G).pe (e_ok b h5 G).pe (e_ok c h6 G).pe h3, fun _ => st_chain G (e_ok a h4 G).pe (e_ok b h5 G).pe (e_ok c h6 G).pe h3, fun _ _ _ z => by cases z⟩
    · cases h
  | .isN a, ce, e, h, g, k, W, X, G => by
    simp only [chkE] at h
    split at h
    · exact ⟨se_isN (e_ok a h G).pe, fun _ => st_isN (e_ok a h G).pe, fun _ _ _ z => by cases z⟩
    · cases h
  | .notN a, ce, e, h, g, k, W, X, G => by
    simp only [chkE] at h
    split at h
    · exact ⟨se_notN (e_ok a h G).pe, fun _ => st_notN (e_ok a h G).pe, fun _ _ _ z => by cases z⟩
    · cases h
  | .ite c a b, ce, e, h, g, k, W, X, G => by
    simp only [chkE] at h
    split at h
    · simp only [Bool.and_eq_true] at h
      obtain ⟨⟨⟨h1, h2⟩, h3⟩, h4⟩ := h
      exact ⟨se_ite ((e_ok c h2 G).pt h1) (e_ok a h3 G).pe (e_ok b h4 G).pe, fun z => by (simp [noIf] at z), fun _ _ _ z => by cases z⟩
    · cases h
  | .tup es, ce, e, h, g, k, W, X, G => by
    simp only [chkE] at h
    split at h
    · simp only [Bool.and_eq_true, decide_eq_true_eq] at h
      exact .val (se_tup h.1 (es_ok es h.2 G)) (fun _ => rfl) (fun _ _ _ z => by cases z)
    · cases h
  | .lst _ es, ce, e, h, g, k, W, X, G => by
    simp only [chkE] at h
    split at h
    · simp only [Bool.and_eq_true, decide_eq_true_eq] at h
      exact .val (se_lst h.1 (es_ok es h.2 G)) (fun _ => rfl) (fun _ _ _ z => by cases z)
    · cases h
  | .dct _ _ _ _, ce, e, h, g, k, W, X, G => by simp only [chkE] at h; cases h
  | .idx a i, ce, e, h, g, k, W, X, G => by
    simp only [chkE] at h
    split at h
    · simp only [Bool.and_eq_true] at h
      exact .val (se_idx G (e_ok a h.1.2 G).pe (e_ok i h.2 G).pe (noSlice_ix h.1.1)) (fun _ => rfl) (fun _ _ _ z => by cases z)
    · cases h
  | .slice hp a pl lo pu hi, ce, e, h, g, k, W, X, G => by
    simp only [chkE] at h
    split at h
    · rename_i x l u p1 p2
      simp only [Bool.and_eq_true] at h
      obtain ⟨⟨h1, h2⟩, h3⟩ := h
      have k1 : PartOk g cl W X l pl lo := by
        split at h2
        · simp only [Bool.and_eq_true, Bool.not_eq_true'] at h2
          rw [h2.1, noneB_ok h2.2]; exact po_no
        · simp only [Bool.and_eq_true] at h2
          rw [h2.1]; exact po_ex (e_ok lo h2.2 G).pe
      have k2 : PartOk g cl W X u pu hi := by
        split at h3
        · simp only [Bool.and_eq_true, Bool.not_eq_true'] at h3
          rw [h3.1, noneB_ok h3.2]; exact po_no
        · simp only [Bool.and_eq_true] at h3
          rw [h3.1]; exact po_ex (e_ok hi h3.2 G).pe
      exact .val (se_slice (e_ok a h1 G).pe k1 k2) (fun _ => rfl) (fun _ _ _ z => by cases z)
    · cases h
  | .rev hp a, ce, e, h, g, k, W, X, G => by
    simp only [chkE] at h
    split at h
    · exact .val (se_rev (e_ok a h G).pe) (fun _ => rfl) (fun _ _ _ z => by cases z)
    · cases h
  | .call f es, ce, e, h, g, k, W, X, G => by
    simp only [chkE] at h
    split at h
    · rename_i x p xs p2
      simp only [Bool.and_eq_true, decide_eq_true_eq] at h
      obtain ⟨⟨h1, h2⟩, h3⟩ := h
      have n := chkEs_ns h3
      have ih := es_ok es h3 G
      cases xs with
      | nil =>
        cases es with
        | nil => exact .val (se_call0 G (glB_ok h1) h2) (fun _ => rfl) (fun _ _ _ z => by cases z)
        | cons _ _ => simp [chkEs] at h3
      | cons a as => exact .val (se_call G (glB_ok h1) h2 (noStar_cons n).1 (noStar_any _ (noStar_cons n).2) ih) (fun _ => rfl) (fun _ _ _ z => by cases z)
    · cases h
  | .blt hp b .nil, ce, e, h, g, k, W, X, G => by
    rw [chkE.eq_def] at h
    dsimp only at h
    split at h
    · simp only [Bool.and_eq_true] at h
      exact absurd h.2 Bool.false_ne_true
    · cases h
  | .blt hp b (.cons ea r), ce, e, h, g, k, W, X, G => by
    rw [chkE.eq_def] at h
    dsimp only at h
    split at h
    · rename_i x p xs p2
      simp only [Bool.and_eq_true, decide_eq_true_eq] at h
      obtain ⟨⟨h1, h2⟩, h3⟩ := h
      split at h3
      · rename_i t ea' r' a y q e1 
        injection e1 with e1 e2
        subst e1 e2
        simp only [Bool.and_eq_true, decide_eq_true_eq] at h3
        obtain ⟨⟨⟨⟨⟨q1, q2⟩, q3⟩, q4⟩, q5⟩, q6⟩ := h3
        have er : r = .nil := by cases r <;> first | rfl | cases q2
        subst er q5
        have n := chk_ns q6
        exact .val (se_isi G q1 (glB_ok h1) h2 (glB_ok q3) q4 (tyB_ok t) (noStar_to n rfl) (e_ok ea q6 G).pe) (fun _ => rfl) (fun _ _ _ z => by cases z)
      · rename_i e1 
        injection e1 with e1 e2
        subst e1 e2
        simp only [Bool.and_eq_true, decide_eq_true_eq] at h3
        obtain ⟨⟨q1, q2⟩, q3⟩ := h3
        obtain ⟨f, f1, f2⟩ := bltN_ok q1
        exact .val (se_blt G (glB_ok h1) h2 f1 f2 (chk_ns q2) (noStar_any _ (chkEs_ns q3)) (sa_cons (chk_ns q2) (e_ok ea q2 G).pe (es_ok r q3 G))) (fun _ => rfl) (fun _ _ _ z => by cases z)
      · cases h3
    · cases h
  | .mth hp m o es, ce, e, h, g, k, W, X, G => by
    simp only [chkE] at h
    split at h
    · rename_i x name ap xs cp
      simp only [Bool.and_eq_true] at h
      obtain ⟨⟨⟨⟨h1, h2⟩, h3⟩, h4⟩, h5⟩ := h
      have ih := (e_ok o h3 G).pe
      have ia := es_ok es h4 G
      have n := chkEs_ns h4
      split at h5
      · simp only [Bool.and_eq_true, decide_eq_true_eq] at h5
        obtain ⟨rfl, h6⟩ := h5
        match xs, h6 with
        | [e1], _ => exact .val (se_append ih ia h1 n h2) (fun _ => rfl) (fun _ _ _ z => by cases z)
      · simp only [Bool.and_eq_true, decide_eq_true_eq] at h5
        obtain ⟨rfl, h6⟩ := h5
        match xs, h6 with
        | [], _ =>
          cases es with
          | nil => exact .val (se_pop ih h1 h2) (fun _ => rfl) (fun _ _ _ z => by cases z)
          | cons _ _ => simp [chkEs] at h4
      · cases h5
    · cases h
  | .comp hp one own it c el, ce, e, h, g, k, W, X, G => by
    simp only [chkE] at h
    split at h
    · rename_i elt tg iter ifs scope p
      simp only [Bool.and_eq_true] at h
      obtain ⟨⟨⟨⟨⟨⟨h1, h2⟩, h3⟩, h4⟩, h5⟩, h6⟩, h7⟩ := h
      have C : CompOk g cl ce k W X tg iter ifs scope (ownN ce.N own) one elt it c el := by
        refine ⟨G, it_ok it h5 G, h1, h2, h3, fun g' X' G' => ?_, fun g' X' G' => (e_ok el h7 G').pe, noSet_ok h4⟩
        split at h6
        · rw [trueB_ok h6]; exact pts_yes
        · rw [Bool.and_eq_true] at h6
          exact pts_one ((e_ok c h6.2 G').pt h6.1)
        · cases h6
      have q := se_comp (h := hp) (pos := p) C
      rw [ownN_snd] at q
      exact .val q (fun _ => rfl) (fun _ _ _ z => by cases z)
    · cases h
theorem es_ok : ∀ (cs : CEs) {ce : Ce} {es : List Expr}, chkEs cs ce es = true → ∀ {g : Gm} {k : Nat} {W : WX} {X : Cx}, XG g cl ce k W X → PA X es (A5 g cl W cs)
  | .nil, ce, [], _, g, k, W, X, G => sa_nil
  | .nil, ce, _ :: _, h, g, k, W, X, G => by simp [chkEs] at h
  | .cons c cs, ce, [], h, g, k, W, X, G => by simp [chkEs] at h
  | .cons c cs, ce, e :: es, h, g, k, W, X, G => by
    simp only [chkEs, Bool.and_eq_true] at h
    exact sa_cons (chk_ns h.1) (e_ok c h.1 G).pe (es_ok cs h.2 G)
theorem it_ok : ∀ (it : WG.It) {ce : Ce} {e : Expr}, chkIt it ce e = true → ∀ {g : Gm} {k : Nat} {W : WX} {X : Cx} {tg : Expr}, XG g cl ce k W X → PI X tg e (I5 g cl W it)
  | .val c, ce, e, h, g, k, W, X, tg, G => pi_val (e_ok c (by simpa only [chkIt] using h) G).pe
  | .rng lo hi, ce, e, h, g, k, W, X, tg, G => by
    simp only [chkIt] at h
    split at h
    · simp only [Bool.and_eq_true, decide_eq_true_eq] at h
      obtain ⟨⟨⟨⟨h1, h2⟩, h3⟩, h4⟩, h5⟩ := h
      subst h1
      have n1 := chk_ns h4
      have n2 := chk_ns h5
      exact pi_rng2 G (glB_ok h2) h3 (e_ok lo h4 G).pe (e_ok hi h5 G).pe (noStar_to n1 (noStar_to n2 rfl))
    · simp only [Bool.and_eq_true, decide_eq_true_eq] at h
      obtain ⟨⟨⟨⟨h1, h2⟩, h3⟩, h4⟩, h5⟩ := h
      subst h1
      have n2 := chk_ns h5
      split at h4
      · exact pi_rng1 G (glB_ok h2) h3 (e_ok hi h5 G).pe (noStar_to n2 rfl)
      · cases h4
    · cases h
  | .zip _ _, ce, e, h, g, k, W, X, tg, G => by simp only [chkIt] at h; cases h
  | .enm _, ce, e, h, g, k, W, X, tg, G => by simp only [chkIt] at h; cases h
end
end
end WG

set_option Elab.async false
set_option linter.all false
set_option maxRecDepth 100000
set_option maxHeartbeats 4000000
set_option autoImplicit false
/-! Core12: the check of statements. -/
namespace WG
open PySem L2 PySem.Spec

def storB (ce : Ce) (i : Nat) (x : Str) : Bool := decide (ce.N[i]? = some x) && locB ce.sc x
/-- whether a name takes a comprehension's value by a swap -/
def swapB (sc : Scope) : Expr → Expr → Option Scope
  | .Name y py, .ListComp _ _ scope pos => if decide (sc.names.lookup y = some .local) && (py.line == pos.line) && !(scope.names.any fun (n, k) => n == y && (k == .local || k == .cell)) then some scope else none
  | _, _ => none
/-- no swap -/
def plainB : Expr → Bool := noComp
/-- stores of some names that are not swapped -/
def noSwapB : Expr → Expr → Bool
  | .Tuple _ _ _, .Tuple _ _ _ => false
  | .List _ _, _ => false
  | _, _ => true
theorem noSwapB_ok {t v : Expr} {env : Env} (h : noSwapB t v = true) : swappedStores [t] v env = pure none := by
  unfold swappedStores
  cases t <;> cases v <;> first | rfl | cases h
mutual
def chkG : Tg → Ce → Expr → Bool
  | .var i, ce, e => match e with
    | .Name x _ => storB ce i x
    | _ => false
  | .sub o i, ce, e => match e with
    | .Subscript x y _ => noSlice y && chkE o ce x && chkE i ce y
    | _ => false
  | .tup ts, ce, e => match e with
    | .Tuple xs _ _ => chkGs ts ce xs
    | _ => false
def chkGs : Tgs → Ce → List Expr → Bool
  | .nil, _, es => match es with
    | [] => true
    | _ => false
  | .cons t ts, ce, es => match es with
    | e :: es => chkG t ce e && chkGs ts ce es
    | [] => false
end
theorem chkG_star {c : Tg} {ce : Ce} {v : Expr} {p : Pos} : chkG c ce (.Starred v p) = false := by
  cases c <;> simp only [chkG]
theorem chkG_ns {c : Tg} {ce : Ce} {e : Expr} (h : chkG c ce e = true) : ∀ v p, e ≠ .Starred v p := by
  rintro v p rfl
  rw [chkG_star] at h; cases h
theorem chkGs_ns : ∀ {cs : Tgs} {ce : Ce} {es : List Expr}, chkGs cs ce es = true → noStar es = true ∧ cs.len = es.length
  | .nil, ce, [], _ => ⟨rfl, rfl⟩
  | .nil, ce, _ :: _, h => by simp [chkGs] at h
  | .cons c cs, ce, [], h => by simp [chkGs] at h
  | .cons c cs, ce, e :: es, h => by
    simp only [chkGs, Bool.and_eq_true] at h
    have i := chkGs_ns h.2
    exact ⟨noStar_to (chkG_ns h.1) i.1, by rw [Tgs.len, i.2]; rfl⟩
section
variable {cl : Call}
theorem storB_ok {g : Gm} {ce : Ce} {k : Nat} {W : WX} {X : Cx} {i : Nat} {x : Str} (A : XS g cl ce k W X) (h : storB ce i x = true) : Stor X x i := by
  unfold storB at h
  rw [Bool.and_eq_true, decide_eq_true_eq] at h
  refine ⟨by rw [A.G.N]; exact h.1, ?_, .inl (A.fn x)⟩
  have := locB_ok h.2
  show Loc X.env.scope x
  rw [A.G.sc]; exact this
mutual
theorem g_ok : ∀ (t : Tg) {ce : Ce} {e : Expr}, chkG t ce e = true → ∀ {g : Gm} {k : Nat} {W : WX} {X : Cx}, XS g cl ce k W X → PG X e (G5 g cl t)
  | .var i, ce, e, h, g, k, W, X, A => by
    simp only [chkG] at h
    split at h
    · exact sg_var A.G.nd (storB_ok A h)
    · cases h
  | .sub o i, ce, e, h, g, k, W, X, A => by
    simp only [chkG] at h
    split at h
    · simp only [Bool.and_eq_true] at h
      exact sg_sub A.G (e_ok o h.1.2 A.G).pe (e_ok i h.2 A.G).pe h.1.1
    · cases h
  | .tup ts, ce, e, h, g, k, W, X, A => by
    simp only [chkG] at h
    split at h
    · obtain ⟨n1, n2⟩ := chkGs_ns h
      exact sg_tup A.G.calm n1 n2 (gs_ok ts h A)
    · cases h
theorem gs_ok : ∀ (ts : Tgs) {ce : Ce} {es : List Expr}, chkGs ts ce es = true → ∀ {g : Gm} {k : Nat} {W : WX} {X : Cx}, XS g cl ce k W X → PGs X es (Gs5 g cl ts)
  | .nil, ce, [], h, g, k, W, X, A => sgs_nil
  | .nil, ce, _ :: _, h, g, k, W, X, A => by simp [chkGs] at h
  | .cons t ts, ce, [], h, g, k, W, X, A => by simp [chkGs] at h
  | .cons t ts, ce, e :: es, h, g, k, W, X, A => by
    simp only [chkGs, Bool.and_eq_true] at h
    exact sgs_cons (chkG_ns h.1) (g_ok t h.1 A) (gs_ok ts h.2 A)
end
end

/-- two names from two values; three from three -/
def lcl (sc : Scope) (x : Str) : Bool := decide (sc.names.lookup x = some .local)
def parE (vs : List Expr) : Bool := !(vs.all (foldedForSure 8)) && !(vs.all (constantsAlone 8)) && noStar vs
def par2 (ce : Ce) (i j : Nat) (x y : Str) (px py : Pos) (vs : List Expr) : Bool :=
  decide (ce.N[i]? = some x) && decide (ce.N[j]? = some y) && !(i == j) && lcl ce.sc x && lcl ce.sc y && (py.line == px.line) && !(x == y) && parE vs
def par3 (ce : Ce) (i j l : Nat) (x y z : Str) (px py pz : Pos) (vs : List Expr) : Bool :=
  decide (ce.N[i]? = some x) && decide (ce.N[j]? = some y) && decide (ce.N[l]? = some z) && !(i == j) && !(i == l) && !(j == l) && lcl ce.sc x && lcl ce.sc y && lcl ce.sc z && (py.line == px.line) && (pz.line == px.line) && !(x == y) && !(x == z) && !(y == z) && parE vs
/-- the value is no comprehension that is swapped with the name -/
def nswB (sc : Scope) (tg v : Expr) : Bool :=
  match tg, v with
  | .Name y py, .ListComp _ _ s pos => !(decide (sc.names.lookup y = some .local) && (py.line == pos.line) && !(s.names.any fun (n, k) => n == y && (k == .local || k == .cell)))
  | .Subscript _ _ _, _ => true
  | _, v => noComp v
def chkSet (t : Tg) (c : CE) (ce : Ce) (tg v : Expr) (line : Nat) : Bool :=
  match swapB ce.sc tg v with
  | some _ => (match t, tg, c with
    | .var i, .Name y _, .comp _ _ _ _ _ _ => decide (ce.N[i]? = some y) && chkE c ce v
    | _, _, _ => false)
  | none => (match t, tg, c, v with
    | .tup (.cons (.var i) (.cons (.var j) .nil)), .Tuple [.Name x px, .Name y py] _ _, .tup (.cons _ (.cons _ .nil)), .Tuple [a, b] _ _ => par2 ce i j x y px py [a, b] && chkE c ce v
    | .tup (.cons (.var i) (.cons (.var j) (.cons (.var l) .nil))), .Tuple [.Name x px, .Name y py, .Name z pz] _ _, .tup (.cons _ (.cons _ (.cons _ .nil))), .Tuple [a, b, c'] _ _ => par3 ce i j l x y z px py pz [a, b, c'] && chkE c ce v
    | t, tg, c, v => nswB ce.sc tg v && noSwapB tg v && chkG t ce tg && chkE c ce v)
mutual
def chkS : CS → Ce → Stmt → Bool
  | .set t c, ce, s => match s with
    | .Assign [tg] v p => chkSet t c ce tg v p.line
    | _ => false
  | .expr c, ce, s => match s with
    | .Expr v _ => noComp v && chkE c ce v
    | _ => false
  | .ret c, ce, s => match s with
    | .Return (some v) _ => chkE c ce v
    | .Return none _ => noneB c
    | _ => false
  | .pass, _, s => match s with
    | .Pass _ => true
    | _ => false
  | .cont, _, s => match s with
    | .Continue _ => true
    | _ => false
  | .ite c a b, ce, s => match s with
    | .If t xs ys _ => noIf t && chkE c ce t && chkSs a ce xs && chkSs b ce ys
    | _ => false
  | .loop t it b, ce, s => match s with
    | .For tg iter body [] _ => noSet iter && chkG t ce tg && chkIt it ce iter && chkSs b ce body
    | _ => false
  | .whil c b, ce, s => match s with
    | .While t body [] _ => noIf t && chkE c ce t && chkSs b ce body
    | _ => false
  | .rais n, ce, s => match s with
    | .Raise (some (.Call (.Name x _) [.Constant (.str _) _ _] [] _)) none _ => glB ce.sc x && decide (ce.G.lookup x = some (.cls n))
    | _ => false
  | .tryc b hd, ce, s => match s with
    | .Try body (h0 :: hds) [] [] _ => chkSs b ce body && hdsIs ce (h0 :: hds) hd
    | _ => false
def chkSs : CSs → Ce → List Stmt → Bool
  | .nil, _, ss => match ss with
    | [] => true
    | _ => false
  | .cons c cs, ce, ss => match ss with
    | s :: ss => chkS c ce s && chkSs cs ce ss
    | [] => false
end

section
variable {cl : Call}
theorem swapB_ok {sc : Scope} {tg v : Expr} {s : Scope} (h : swapB sc tg v = some s) : ∃ y py elt gens pos, tg = .Name y py ∧ v = .ListComp elt gens s pos ∧ sc.names.lookup y = some .local ∧ py.line = pos.line ∧ (s.names.any fun (n, k) => n == y && (k == .local || k == .cell)) = false := by
  unfold swapB at h
  split at h
  · split at h
    · rename_i hc
      injection h with h
      subst h
      simp only [Bool.and_eq_true, decide_eq_true_eq, beq_iff_eq, Bool.not_eq_true'] at hc
      exact ⟨_, _, _, _, _, rfl, rfl, hc.1.1, hc.1.2, hc.2⟩
    · cases h
  · cases h
theorem lcl_ok {sc : Scope} {x : Str} (h : lcl sc x = true) : sc.names.lookup x = some .local := of_decide_eq_true h
theorem kindOf_ok {g : Gm} {ce : Ce} {k : Nat} {W : WX} {X : Cx} {x : Str} (A : XS g cl ce k W X) (h : ce.sc.names.lookup x = some .local) : X.env.kindOf x = some .local := by
  show X.env.scope.names.lookup x = _
  rw [A.G.sc]; exact h
theorem blockKind_ok {g : Gm} {ce : Ce} {k : Nat} {W : WX} {X : Cx} (A : XS g cl ce k W X) : X.env.blockKind = .function := by
  show (if X.env.scope.kind.isAnnotationScope then .function else X.env.scope.kind) = ScopeKind.function
  rw [A.G.sc, A.kind]; rfl
theorem noStar_b : ∀ {vs : List Expr}, noStar vs = true → (vs.any fun | .Starred .. => true | _ => false) = false
  | [], _ => rfl
  | e :: es, h => by
    obtain ⟨h1, h2⟩ := noStar_cons h
    rw [List.any_cons, noStar_b h2, Bool.or_false]
    cases e <;> first | rfl | exact absurd rfl (h1 _ _)
theorem parE_ok {vs : List Expr} (h : parE vs = true) : vs.all (foldedForSure 8) = false ∧ vs.all (constantsAlone 8) = false ∧ (vs.any fun | .Starred .. => true | _ => false) = false := by
  unfold parE at h
  simp only [Bool.and_eq_true, Bool.not_eq_true'] at h
  exact ⟨h.1.1, h.1.2, noStar_b h.2⟩
theorem parE_ns {vs : List Expr} (h : parE vs = true) : noStar vs = true := by
  unfold parE at h
  simp only [Bool.and_eq_true, Bool.not_eq_true'] at h
  exact h.2
theorem swap2_ok {x y : Str} {px py pt pt2 : Pos} {a b : Expr} {kt k2 : Nat} {env : Env} (hb : env.blockKind = .function) (hx : env.kindOf x = some .local) (hy : env.kindOf y = some .local) (hl : py.line = px.line) (hxy : ¬ x = y) (h : parE [a, b] = true) :
    swappedStores [.Tuple [.Name x px, .Name y py] kt pt] (.Tuple [a, b] k2 pt2) env = pure (some [x, y]) := by
  obtain ⟨h1, h2, h3⟩ := parE_ok h
  have e1 : ((Expr.Name x px).pos.line) = px.line := rfl
  unfold swappedStores
  simp only [hb, h1, h2, h3, hx, hy, hl, e1, List.length_cons, List.length_nil, List.head?_cons, Option.map_some, Option.getD_some, List.filterMap_cons, List.filterMap_nil, beq_self_eq_true, Bool.and_true, Bool.and_self, if_true]
  have e2 : (y == x) = false := by simpa using fun z => hxy z.symm
  simp [List.eraseDups, List.eraseDupsBy, List.eraseDupsBy.loop, e2, hxy]
  have n := parE_ns h
  have n1 := noStar_cons n
  have n2 := noStar_cons n1.2
  rintro (z | z)
  · split at z
    · exact absurd rfl (n1.1 _ _)
    · cases z
  · split at z
    · exact absurd rfl (n2.1 _ _)
    · cases z
theorem swap3_ok {x y z : Str} {px py pz pt pt2 : Pos} {a b c : Expr} {kt k2 : Nat} {env : Env} (hb : env.blockKind = .function) (hx : env.kindOf x = some .local) (hy : env.kindOf y = some .local) (hz : env.kindOf z = some .local) (hl : py.line = px.line) (hl2 : pz.line = px.line) (hxy : ¬ x = y) (hxz : ¬ x = z) (hyz : ¬ y = z) (h : parE [a, b, c] = true) :
    swappedStores [.Tuple [.Name x px, .Name y py, .Name z pz] kt pt] (.Tuple [a, b, c] k2 pt2) env = pure (some [x, y, z]) := by
  obtain ⟨h1, h2, h3⟩ := parE_ok h
  have e1 : ((Expr.Name x px).pos.line) = px.line := rfl
  unfold swappedStores
  simp only [hb, h1, h2, h3, hx, hy, hz, hl, hl2, e1, List.length_cons, List.length_nil, List.head?_cons, Option.map_some, Option.getD_some, List.filterMap_cons, List.filterMap_nil, beq_self_eq_true, Bool.and_true, Bool.and_self, if_true]
  have e2 : (y == x) = false := by simpa using fun z => hxy z.symm
  have e3 : (z == x) = false := by simpa using fun z => hxz z.symm
  have e4 : (z == y) = false := by simpa using fun z => hyz z.symm
  simp [List.eraseDups, List.eraseDupsBy, List.eraseDupsBy.loop, e2, e3, e4, hxy, hxz, hyz]
  have n := parE_ns h
  have n1 := noStar_cons n
  have n2 := noStar_cons n1.2
  have n3 := noStar_cons n2.2
  rintro (z | z | z)
  · split at z
    · exact absurd rfl (n1.1 _ _)
    · cases z
  · split at z
    · exact absurd rfl (n2.1 _ _)
    · cases z
  · split at z
    · exact absurd rfl (n3.1 _ _)
    · cases z
theorem nswB_ok {g : Gm} {ce : Ce} {k : Nat} {W : WX} {X : Cx} {tg v : Expr} {l : Nat} (A : XS g cl ce k W X) (h : nswB ce.sc tg v = true) : swapsWithSole [tg] v l X.env = pure false := by
  show swapsWith v (some tg) l X.env = pure false
  unfold nswB at h
  split at h
  · rename_i y py elt gens s pos
    show (do
            pure (X.env.blockKind == .function && X.env.kindOf y == some .local && py.line == pos.line && !(s.names.any fun (n, k) => n == y && (k == .local || k == .cell)))) = (pure false : Sem Bool)
    have e : (X.env.kindOf y == some NameKind.local) = decide (ce.sc.names.lookup y = some .local) := by
      have : X.env.kindOf y = ce.sc.names.lookup y := by show X.env.scope.names.lookup y = _; rw [A.G.sc]
      rw [this]
      cases ce.sc.names.lookup y with
      | none => rfl
      | some kd => cases kd <;> rfl
    rw [blockKind_ok A, e]
    rw [Bool.not_eq_true'] at h
    have b : (ScopeKind.function == ScopeKind.function) = true := rfl
    rw [b, Bool.true_and, h]
  · cases v <;> rfl
  · exact noComp_sw h
theorem set_ok {g : Gm} {ce : Ce} {k : Nat} {W : WX} {X : Cx} {t : Tg} {c : CE} {tg v : Expr} {p : Pos} (A : XS g cl ce k W X) (h : chkSet t c ce tg v p.line = true) : PS X (.Assign [tg] v p) (S5 g cl W (.set t c)) := by
  unfold chkSet at h
  split at h
  · rename_i s hs
    obtain ⟨y, py, elt, gens, pos, rfl, rfl, h1, h2, h3⟩ := swapB_ok hs
    split at h
    · rename_i i y' _ hp one own it cc el e1
      injection e1 with e1 e1'
      subst e1
      simp only [Bool.and_eq_true, decide_eq_true_eq] at h
      obtain ⟨hi, hc⟩ := h
      simp only [chkE] at hc
      split at hc
      · rename_i elt' tg' iter ifs scope p' e2
        injection e2 with e2 e3 e4 e5
        subst e2 e3 e4 e5
        simp only [Bool.and_eq_true] at hc
        obtain ⟨⟨⟨⟨⟨⟨q1, q2⟩, q3⟩, q4⟩, q5⟩, q6⟩, q7⟩ := hc
        have C : CompOk g cl ce k W X tg' iter ifs s (ownN ce.N own) one elt it cc el := by
          refine ⟨A.G, it_ok it q5 A.G, q1, q2, q3, fun g' X' G' => ?_, fun g' X' G' => (e_ok el q7 G').pe, noSet_ok q4⟩
          split at q6
          · rw [trueB_ok q6]; exact pts_yes
          · rw [Bool.and_eq_true] at q6
            exact pts_one ((e_ok cc q6.2 G').pt q6.1)
          · cases q6
        have q := ss_setC (h := hp) (pos := pos) (i := i) (y := y) (py := py) (spos := p) C (by rw [A.G.N]; exact hi) (kindOf_ok A h1) ?_
        · rw [ownN_snd] at q; exact q
        · show (do
            pure (X.env.blockKind == .function && X.env.kindOf y == some .local && py.line == pos.line && !(s.names.any fun (n, k) => n == y && (k == .local || k == .cell)))) = (pure true : Sem Bool)
          rw [blockKind_ok A, kindOf_ok A h1, h2, h3]
          simp
      · cases hc
    · cases h
  · rename_i hs
    split at h
    · simp only [Bool.and_eq_true, par2, decide_eq_true_eq, Bool.not_eq_true', beq_eq_false_iff_ne, beq_iff_eq] at h
      obtain ⟨⟨⟨⟨⟨⟨⟨⟨q1, q2⟩, q3⟩, q4⟩, q5⟩, q6⟩, q7⟩, q8⟩, q9⟩ := h
      rename_i ea eb a b _ _
      have pa : PA X [a, b] (A5 g cl W (ces2 ea eb)) := by
        simp only [chkE, Bool.and_eq_true] at q9
        exact es_ok (ces2 ea eb) q9.2 A.G
      exact ss_par A.G (by rw [A.G.N]; exact q1) (by rw [A.G.N]; exact q2) q3 (kindOf_ok A (lcl_ok q4)) (kindOf_ok A (lcl_ok q5)) pa (swap2_ok (blockKind_ok A) (kindOf_ok A (lcl_ok q4)) (kindOf_ok A (lcl_ok q5)) q6 q7 q8)
    · simp only [Bool.and_eq_true, par3, decide_eq_true_eq, Bool.not_eq_true', beq_eq_false_iff_ne, beq_iff_eq] at h
      obtain ⟨⟨⟨⟨⟨⟨⟨⟨⟨⟨⟨⟨⟨⟨⟨q1, q2⟩, q3⟩, q4⟩, q5⟩, q6⟩, q7⟩, q8⟩, q9⟩, r1⟩, r2⟩, r3⟩, r4⟩, r5⟩, r6⟩, r7⟩ := h
      rename_i ea eb ec a b c' _ _
      have pa : PA X [a, b, c'] (A5 g cl W (ces3 ea eb ec)) := by
        simp only [chkE, Bool.and_eq_true] at r7
        exact es_ok (ces3 ea eb ec) r7.2 A.G
      exact ss_par3 A.G (by rw [A.G.N]; exact q1) (by rw [A.G.N]; exact q2) (by rw [A.G.N]; exact q3) q4 q5 q6 (kindOf_ok A (lcl_ok q7)) (kindOf_ok A (lcl_ok q8)) (kindOf_ok A (lcl_ok q9)) pa (swap3_ok (blockKind_ok A) (kindOf_ok A (lcl_ok q7)) (kindOf_ok A (lcl_ok q8)) (kindOf_ok A (lcl_ok q9)) r1 r2 r3 r4 r5 r6)
    · simp only [Bool.and_eq_true] at h
      obtain ⟨⟨⟨h1, h2⟩, h3⟩, h4⟩ := h
      exact ss_asg (e_ok c h4 A.G).pe (g_ok t h3 A) (chkG_ns h3) (nswB_ok A h1) (noSwapB_ok h2)
mutual
theorem s_ok : ∀ (c : CS) {ce : Ce} {s : Stmt}, chkS c ce s = true → ∀ {g : Gm} {k : Nat} {W : WX} {X : Cx}, XS g cl ce k W X → PS X s (S5 g cl W c)
  | .set t c, ce, s, h, g, k, W, X, A => by
    simp only [chkS] at h
    split at h
    · exact set_ok A h
    · cases h
  | .expr c, ce, s, h, g, k, W, X, A => by
    simp only [chkS] at h
    split at h
    · rw [Bool.and_eq_true] at h
      exact ss_expr (e_ok c h.2 A.G).pe h.1
    · cases h
  | .ret c, ce, s, h, g, k, W, X, A => by
    simp only [chkS] at h
    split at h
    · exact ss_ret (e_ok c h A.G).pe
    · rw [noneB_ok h]; exact ss_retN
    · cases h
  | .pass, ce, s, h, g, k, W, X, A => by
    simp only [chkS] at h
    split at h
    · exact ss_pass
    · cases h
  | .cont, ce, s, h, g, k, W, X, A => by
    simp only [chkS] at h
    split at h
    · exact ss_cont
    · cases h
  | .ite c a b, ce, s, h, g, k, W, X, A => by
    simp only [chkS] at h
    split at h
    · simp only [Bool.and_eq_true] at h
      obtain ⟨⟨⟨h1, h2⟩, h3⟩, h4⟩ := h
      exact ss_if ((e_ok c h2 A.G).pt h1) (ss_ok a h3 A) (ss_ok b h4 A)
    · cases h
  | .loop t it b, ce, s, h, g, k, W, X, A => by
    simp only [chkS] at h
    split at h
    · simp only [Bool.and_eq_true] at h
      obtain ⟨⟨⟨h1, h2⟩, h3⟩, h4⟩ := h
      exact ss_for A.own A.G.calm (it_ok it h3 A.G) (g_ok t h2 A) (ss_ok b h4 A) (noSet_ok h1)
    · cases h
  | .whil c b, ce, s, h, g, k, W, X, A => by
    simp only [chkS] at h
    split at h
    · simp only [Bool.and_eq_true] at h
      exact ss_while A.own ((e_ok c h.1.2 A.G).pt h.1.1) (ss_ok b h.2 A)
    · cases h
  | .rais n, ce, s, h, g, k, W, X, A => by
    simp only [chkS] at h
    split at h
    · rw [Bool.and_eq_true, decide_eq_true_eq] at h
      exact ss_raise A (glB_ok h.1) h.2
    · cases h
  | .tryc b hd, ce, s, h, g, k, W, X, A => by
    simp only [chkS] at h
    split at h
    · rw [Bool.and_eq_true] at h
      exact ss_try A (fun W' X' A' => ss_ok b h.1 A') h.2
    · cases h
theorem ss_ok : ∀ (cs : CSs) {ce : Ce} {ss : List Stmt}, chkSs cs ce ss = true → ∀ {g : Gm} {k : Nat} {W : WX} {X : Cx}, XS g cl ce k W X → PSs X ss (B5 g cl W cs)
  | .nil, ce, [], h, g, k, W, X, A => sb_nil
  | .nil, ce, _ :: _, h, g, k, W, X, A => by simp [chkSs] at h
  | .cons c cs, ce, [], h, g, k, W, X, A => by simp [chkSs] at h
  | .cons c cs, ce, s :: ss, h, g, k, W, X, A => by
    simp only [chkSs, Bool.and_eq_true] at h
    exact sb_cons (s_ok c h.1 A) (ss_ok cs h.2 A)
end
end
end WG

set_option Elab.async false
set_option linter.all false
set_option maxRecDepth 100000
set_option maxHeartbeats 4000000
set_option autoImplicit false
/-! Core13: a call's end; all defs at once. -/
namespace WG
open PySem L2 PySem.Spec PyProof.Rows

theorem key_nr : ∀ {k : Nat} {d : D}, D.key k d = true → d.nr = true := by
  intro k
  induction k with
  | zero => intro d h; cases d <;> first | rfl | (simp [D.key] at h)
  | succ k ih =>
    intro d h
    cases d with
    | tup xs =>
      rw [D.nr, D.nrL_all, List.all_eq_true]
      rw [D.key, List.all_eq_true] at h
      exact fun x hx => ih (h x hx)
    | _ => first | rfl | (simp [D.key] at h)
theorem isKey_nr {t : Bool} {d : D} (h : D.isKey t d = true) : d.nr = true := by
  cases t with
  | true =>
    have h : D.keyT d = true := h
    cases d with
    | tup xs =>
      rw [D.nr, D.nrL_all, List.all_eq_true]
      rw [D.keyT, List.all_eq_true] at h
      exact fun x hx => key_nr (h x hx)
    | _ => cases h
  | false =>
    have h : D.keyS d = true := h
    cases d <;> first | rfl | cases h
section
variable {g : Gm} {ρ ρ' : List Addr} {H H' : Hp} {hs hs' : Hs}
theorem take_out {n : Nat} {a : Addr} (nd : ρ.Nodup) {m : Nat} (h : ρ[m]? = some a) (hm : ¬ m < n) : a ∉ ρ.take n := fun z => by
  obtain ⟨j, hj⟩ := List.mem_iff_getElem?.mp z
  by_cases hl : j < n
  · rw [List.getElem?_take_of_lt hl] at hj
    have := nodup_at nd h hj
    omega
  · rw [List.getElem?_eq_none (by rw [List.length_take]; omega)] at hj; cases hj
theorem mapO_rls {f : D → Option D} {n : Nat} (hf : ∀ {d d' : D} {v : V}, f d = some d' → Rl g ρ H d v → Rl g (ρ.take n) H d' v) : ∀ {ds ds' : List D} {vs : List V}, mapO f ds = some ds' → Rls g ρ H ds vs → Rls g (ρ.take n) H ds' vs
  | [], ds', vs, h, r => by cases r; cases h; exact .nil
  | d :: ds, ds', vs, h, r => by
    cases r with
    | cons r t =>
      rw [mapO] at h
      split at h
      · rename_i b hb
        obtain ⟨bs, hbs, e⟩ := Option.map_eq_some_iff.mp h
        subst e
        exact .cons (hf hb r) (mapO_rls hf hbs t)
      · cases h
theorem mapO_ents {f : D → Option D} {n : Nat} {t : Bool} (hf : ∀ {d d' : D} {v : V}, f d = some d' → Rl g ρ H d v → Rl g (ρ.take n) H d' v) : ∀ {ks ds ds' : List D} {es : List DictEntry}, mapO f ds = some ds' → Ents g ρ H t ks ds es → Ents g (ρ.take n) H t ks ds' es
  | _, _, ds', _, h, .nil => by cases h; exact .nil
  | _, _, ds', _, h, .cons a b c d i j r => by
    rw [mapO] at h
    split at h
    · rename_i b' hb
      obtain ⟨bs, hbs, e⟩ := Option.map_eq_some_iff.mp h
      subst e
      exact .cons (Rl.cut a (under_nr (isKey_nr j))) b (hf hb c) d i j (mapO_ents hf hbs r)
    · cases h
theorem freeze_ok (R : Rep g ρ hs H) {n0 : Nat} : ∀ {k : Nat} {d d' : D} {v : V}, freeze hs n0 k d = some d' → Rl g ρ H d v → Rl g (ρ.take n0) H d' v := by
  intro k
  induction k with
  | zero =>
    intro d d' v h r
    rw [freeze] at h
    split at h
    · rename_i hn
      cases h; exact Rl.cut r (under_nr hn)
    · cases h
  | succ k ih =>
    intro d d' v h r
    rw [freeze.eq_def] at h
    dsimp only at h
    split at h
    · rename_i hn
      cases h; exact Rl.cut r (under_nr hn)
    · cases r with
      | @ref a n e =>
        dsimp only at h
        split at h
        · cases h
        · rename_i hn0
          have out : Out g (ρ.take n0) a := ⟨take_out R.nd e hn0, fun z => (R.held a z).1 (List.mem_of_getElem? e)⟩
          split at h
          · rename_i xs hx
            obtain ⟨ys, hy, e2⟩ := Option.map_eq_some_iff.mp h
            subst e2
            obtain ⟨vs, h1, r1⟩ : ORel g ρ H a (.lst xs) := R.obj _ _ _ e hx
            exact .lst h1 out (mapO_rls ih hy r1)
          · rename_i t kvs hx
            obtain ⟨ys, hy, e2⟩ := Option.map_eq_some_iff.mp h
            subst e2
            obtain ⟨es, h1, sm, r1, nd⟩ : ORel g ρ H a (.dct t kvs) := R.obj _ _ _ e hx
            exact .dct h1 out sm (mapO_ents ih hy r1) nd
          · cases h
      | tup h1 n r1 =>
        obtain ⟨ys, hy, e2⟩ := Option.map_eq_some_iff.mp h
        subst e2
        exact .tup h1 ⟨fun z => n.1 (List.mem_of_mem_take z), n.2⟩ (mapO_rls ih hy r1)
      | _ => cases h
theorem ORel.cut {a : Addr} {od : OD} {n : Nat} (x : ORel g ρ H a od) (u : ∀ d, (match od with | .lst xs => d ∈ xs | .lock xs => d ∈ xs | .dct _ kvs => d ∈ kvs.map (·.1) ∨ d ∈ kvs.map (·.2) | .dlock _ kvs => d ∈ kvs.map (·.1) ∨ d ∈ kvs.map (·.2) | .ins _ fs => d ∈ fs.map (·.2)) → d.under n = true) : ORel g (ρ.take n) H a od := by
  have all : ∀ {ds : List D}, (∀ d ∈ ds, d.under n = true) → D.underL n ds = true := by
    intro ds
    induction ds with
    | nil => intro _; rfl
    | cons d ds ih => intro h; rw [D.underL, h d List.mem_cons_self, ih fun x hx => h x (List.mem_cons_of_mem _ hx)]; rfl
  cases od with
  | lst xs => obtain ⟨vs, h, r⟩ := x; exact ⟨vs, h, r.cut (all u)⟩
  | lock xs => obtain ⟨vs, h, r⟩ := x; exact ⟨vs, h, r.cut (all u)⟩
  | dct t kvs => obtain ⟨es, h, sm, r, nd⟩ := x; exact ⟨es, h, sm, r.cut (all fun d hd => u d (.inl hd)) (all fun d hd => u d (.inr hd)), nd⟩
  | dlock t kvs => obtain ⟨es, h, sm, r, nd⟩ := x; exact ⟨es, h, sm, r.cut (all fun d hd => u d (.inl hd)) (all fun d hd => u d (.inr hd)), nd⟩
  | ins c fs => obtain ⟨dx, vs, h, r, k, m⟩ := x; exact ⟨dx, vs, h, r.cut (all u), k, fun z => m.1 (List.mem_of_mem_take z), m.2⟩
theorem under_mem : ∀ {n : Nat} {ds : List D}, D.underL n ds = true → ∀ d ∈ ds, d.under n = true
  | n, [], _, d, h => by cases h
  | n, x :: xs, h, d, hd => by
    rw [D.underL, Bool.and_eq_true] at h
    rcases List.mem_cons.mp hd with e | hd
    · rw [e]; exact h.1
    · exact under_mem h.2 d hd
/-- what stood before stands, what came is forgotten -/
theorem Rep.back (R0 : Rep g ρ hs H) (e : Evo ρ H ρ' H') (R : Rep g ρ' hs' H') (h : hs'.take hs.length = hs) : Rep g ρ hs H' ∧ Evo ρ H ρ H' ∧ ρ'.take hs.length = ρ := by
  obtain ⟨m, hm⟩ := e.more
  have ht : ρ'.take hs.length = ρ := by rw [hm, ← R0.len]; simp
  refine ⟨⟨fun a z => ⟨(R0.held a z).1, (R.held a z).2⟩, R0.nd, R0.len, fun n a u e1 e2 => ?_⟩, ⟨⟨[], by simp⟩, e.keep, fun a z n => absurd z n⟩, ht⟩
  have x0 := R0.obj n a u e1 e2
  have e2' : hs'[n]? = some u := by
    have hl := lt_of_at e2
    rw [← h] at e2
    rw [List.getElem?_take_of_lt hl] at e2
    exact e2
  have x1 := R.obj n a u (e.at e1) e2'
  have c := x1.cut (n := hs.length) fun d hd => by
    rw [← R0.len]
    cases u with
    | lst xs => obtain ⟨vs, _, r⟩ := x0; exact under_mem r.under d hd
    | lock xs => obtain ⟨vs, _, r⟩ := x0; exact under_mem r.under d hd
    | dct t kvs => obtain ⟨es, _, _, r, _⟩ := x0; exact hd.elim (under_mem r.under.1 d) (under_mem r.under.2 d)
    | dlock t kvs => obtain ⟨es, _, _, r, _⟩ := x0; exact hd.elim (under_mem r.under.1 d) (under_mem r.under.2 d)
    | ins c fs => obtain ⟨dx, vs, _, r, _⟩ := x0; exact under_mem r.under d hd
  rw [ht] at c
  exact c
theorem close_ok {frz : Bool} {r : RS} {Q : VK} {E : XK} (R : Rep g ρ hs H) (p : Pv g ρ H (close frz hs r) Q E) : PostS g ρ H (fun c d _ H => E c d H) { nx := fun _ H' => Q .non H', rt := Q } r := by
  cases r with
  | bad => exact p
  | ct fr hs' => exact False.elim p
  | nx fr hs' =>
    intro ρ' H' σ' e R' F
    cases frz with
    | false => exact p ρ' H' e R' _ .non
    | true =>
      simp only [close, if_true] at p
      split at p
      · rename_i ht
        obtain ⟨R1, e1, _⟩ := R.back e R' ht
        exact p ρ H' e1 R1 _ .non
      · exact False.elim p
  | rt d hs' =>
    intro ρ' H' v e R' rv
    cases frz with
    | false => exact p ρ' H' e R' _ rv
    | true =>
      simp only [close, if_true] at p
      split at p
      · rename_i ht
        obtain ⟨R1, e1, et⟩ := R.back e R' ht
        split at p
        · rename_i d' hd
          have := freeze_ok R' hd rv
          rw [et] at this
          exact p ρ H' e1 R1 _ this
        · exact False.elim p
      · exact False.elim p
  | exn c q fr hs' =>
    intro ρ' H' σ' d e R' F h1 h2
    cases frz with
    | false => exact p ρ' H' d e R' h1 h2
    | true =>
      simp only [close, if_true] at p
      split at p
      · rename_i ht
        obtain ⟨R1, e1, et⟩ := R.back e R' ht
        split at p
        · rename_i hn
          refine p ρ H' d e1 R1 h1 fun a z => ?_
          obtain ⟨f, pv, k1, k2⟩ := h2 a z
          have := Rl.cut (n := hs.length) k2 (under_nr hn)
          rw [et] at this
          exact ⟨f, pv, k1, this⟩
        · exact False.elim p
      · exact False.elim p
end

/-! ### all defs -/
def scopeB (N ps : List Str) (sc : Scope) : Bool :=
  (match sc.kind with | .function => true | _ => false) && !sc.isCoroutine && !sc.isGenerator && decide N.Nodup && decide (N.take ps.length = ps) && ps.all (locB sc) && sc.names.all fun y => decide (y.2 ≠ .free)
theorem scopeB_ok {N ps : List Str} {sc : Scope} (h : scopeB N ps sc = true) : FnScope N ps sc := by
  unfold scopeB at h
  simp only [Bool.and_eq_true, decide_eq_true_eq, Bool.not_eq_true', List.all_eq_true] at h
  obtain ⟨⟨⟨⟨⟨⟨h1, h2⟩, h3⟩, h4⟩, h5⟩, h6⟩, h7⟩ := h
  refine ⟨?_, h2, h3, h4, h5, fun x hx => locB_ok (h6 x hx), fun y hy => h7 y hy⟩
  cases hk : sc.kind <;> rw [hk] at h1 <;> first | rfl | cases h1
/-- one def: its text, its names, what it is in the core -/
structure Df where
  d : He.DefD
  N : List Str
  f : Fn
def Df.ok (G : List (Str × GK)) (x : Df) : Bool :=
  (match x.d.dfl, x.d.kwd with | [], [] => true | _, _ => false) && decide (x.f.nv = x.N.length) && decide ((x.N.take x.f.np).length = x.f.np) && scopeB x.N (x.N.take x.f.np) x.d.scope && chkSs x.f.body ⟨x.N, x.d.scope, G⟩ x.d.body
/-- its parameters are bound one by one -/
def Df.bnd (x : Df) : Prop := ∀ (kV doc pm : Value) (an : Option Addr) (cdv ct : Value) (us : List Value), us.length = (x.N.take x.f.np).length → bindArgs (PySem.W.fnOf x.d.name x.d.qual x.d.params x.d.body x.d.scope .none kV doc pm an cdv ct) ⟨us, []⟩ = pure ((x.N.take x.f.np).zip us)
/-- what a global name stands for, the promises of defs apart -/
structure GB (g : Gm) (K : PySem.W.Frag) (mg : Str → Option Value) (x : Str) (v : GK) : Prop where
  nd : (x == ("__debug__" : Str)) = false
  nn : x ≠ "__name__"
  fn : ∀ f, v = .fn f → mg x = some (.ref (g.fa f))
  cst : ∀ d, v = .cst d → ∃ u w, mg x = some u ∧ RelV w u ∧ ((∃ i, d = .int i ∧ w = .int i) ∨ (∃ i, d = .str i ∧ w = .str i))
  blt : v = .blt → mg x = none
  cls : ∀ c, v = .cls c → mg x = some (.ref (g.ca c)) ∧ PySem.W.excIn K (g.ca c) He.veBase "ValueError.__new__" = true ∧ PySem.W.keepIn K (.ref (g.ca c)) = true ∧ PySem.W.subIn K (.ref (g.ca c)) (.type "BaseException") = some true ∧ PySem.W.typeIn K (.ref (g.ca c)) = some (.type "type")
theorem mem_lk {β : Type} : ∀ {l : List (Nat × β)} {i : Nat} {x : β}, l.lookup i = some x → (i, x) ∈ l
  | (j, y) :: r, i, x, h => by
    rw [List.lookup_cons] at h
    cases e : (i == j) with
    | true =>
      rw [e] at h
      have e := eq_of_beq e
      subst e
      cases h; exact List.mem_cons_self
    | false =>
      rw [e] at h
      exact List.mem_cons_of_mem _ (mem_lk h)
def prgOf (ds : List (Nat × Df)) (i : Nat) : Option Fn := (ds.lookup i).map (·.f)
/-- the world behind the top -/
structure Wd (g : Gm) (mg : Str → Option Value) (base : Heap) (G : List (Str × GK)) (ds : List (Nat × Df)) : Prop where
  fns : ∀ (i : Nat) (x : Df), ds.lookup i = some x → ∃ fd, FunD g.K x.d.name x.d.qual x.d.params x.d.body x.d.scope [] [] (g.fa i) fd
  ok : (ds.all fun p => Df.ok G p.2) = true
  bnd : ∀ p ∈ ds, Df.bnd p.2
  glob : ∀ x v, G.lookup x = some v → GB g g.K mg x v
  lt : ∀ x i, G.lookup x = some (.fn i) → ∃ z, ds.lookup i = some z
  exm : ∀ c y h, G.lookup y = some (.cls h) → PySem.W.exmOne g.K (.ref (g.ca c)) (.ref (g.ca h)) = some (catches c h)
theorem passes_cx {P : Program} {w : World} {K : PySem.W.Frag} {mg : Str → Option Value} {base : Heap} {N : List Str} {qual : Str} {scope : Scope} {f : Addr} {cd : Value} {A : Around} {outer : List Env} {s : Shared} {H : Hp} {E : XK} :
    PassesOwn (model P w) (A.deeper (envOfC qual scope s.heap.objs.size f cd)) (envOfC qual scope s.heap.objs.size f cd) (cxOf (L2.CX P w) P w K mg base N qual scope f cd A outer s H E).xe := PassesOwn.leaving
theorem all_fn {g : Gm} {mg : Str → Option Value} {base : Heap} {G : List (Str × GK)} {ds : List (Nat × Df)} (Wd : Wd g mg base G ds) : ∀ (k i : Nat) (x : Df), ds.lookup i = some x → ∀ fd, FunD g.K x.d.name x.d.qual x.d.params x.d.body x.d.scope [] [] (g.fa i) fd →
    FnOk g.P g.w g.K mg base (L2.CX g.P g.w) k (g.fa i) fd (x.N.take x.f.np) (spF g (callF (prgOf ds) k i)) := by
  intro k
  induction k with
  | zero =>
    intro i x hx fd F
    have no : ∀ vs H Q E, spF g (callF (prgOf ds) 0 i) vs H Q E → False := fun vs H Q E ⟨et, ρ, hs, dd, R, rv, p⟩ => p
    exact ⟨fun vs H Q E h => (no _ _ _ _ h).elim, fun A outer s H args us vs Q E _ _ _ _ h => (no _ _ _ _ h).elim⟩
  | succ k ih =>
    intro i x hx fd F
    have ok : Df.ok G x = true := (List.all_eq_true.mp Wd.ok) (i, x) (mem_lk hx)
    unfold Df.ok at ok
    simp only [Bool.and_eq_true, decide_eq_true_eq] at ok
    obtain ⟨⟨⟨⟨o1, o2⟩, o4⟩, o5⟩, o6⟩ := ok
    have S := scopeB_ok o5
    have hF : prgOf ds i = some x.f := by unfold prgOf; rw [hx]; rfl
    -- what the call says
    have open_ : ∀ {vs H Q E}, spF g (callF (prgOf ds) (k + 1) i) vs H Q E → ∃ et ρ hs dd, Rep (g.at et) ρ hs H ∧ Rls (g.at et) ρ H dd vs ∧ dd.length = x.f.np ∧
        Pv (g.at et) ρ H (close x.f.frz hs (evSs (callF (prgOf ds) k) x.f.body (dd.map some ++ List.replicate (x.f.nv - x.f.np) none) hs)) Q E := fun {vs H Q E} ⟨et, ρ, hs, dd, R, rv, p⟩ => by
      unfold callF at p
      simp only [hF] at p
      split at p
      · rename_i hl
        exact ⟨et, ρ, hs, dd, R, rv, hl, p⟩
      · exact False.elim p
    refine F.ok S (fun vs H Q E h => ?_) (fun cdv A outer s H vs Q E hr h => ?_)
    · obtain ⟨et, ρ, hs, dd, R, rv, hl, p⟩ := open_ h
      rw [← rv.length, hl, o4]
    · obtain ⟨et, ρ, hs, dd, R, rv, hl, p⟩ := open_ h
      refine ⟨B5 (g.at et) (callF (prgOf ds) k) (fun c d _ H => E c d H) x.f.body, ?_, ρ, hs, _, R, FrR.begin rv x.N _ (by rw [← rv.length, hl, o2]), close_ok R p⟩
      refine ss_ok x.f.body o6 (g := g.at et) (k := k) ⟨⟨⟨rfl, rfl⟩, rfl, hr, S.nd, rfl, rfl, fun y v hy => ?_, passAt (takes_of rfl rfl rfl rfl)⟩, takes_of rfl rfl rfl rfl, passes_cx, fun _ => rfl, S.kind, rfl, rfl, Wd.exm⟩
      have b := Wd.glob y v hy
      refine ⟨b.nd, b.nn, fun f hf => ?_, b.cst, b.blt, fun c hc => ⟨(b.cls c hc).1, ⟨(b.cls c hc).2.2.1, (b.cls c hc).2.1, (b.cls c hc).2.2.2.1, (b.cls c hc).2.2.2.2⟩⟩⟩
      subst hf
      obtain ⟨z, hz⟩ := Wd.lt y f hy
      obtain ⟨fd', F'⟩ := Wd.fns f z hz
      exact ⟨b.fn f rfl, F'.kp, fd', z.N.take z.f.np, ih f z hz fd' F', F'.bindsN fun kV doc pm an cdv ct us hl => Wd.bnd (f, z) (mem_lk hz) kV doc pm an cdv ct us hl⟩
end WG

set_option Elab.async false
set_option linter.all false
set_option maxRecDepth 100000
set_option maxHeartbeats 4000000
set_option autoImplicit false
/-! Core14: from the head's facts to the law. -/
namespace WG
open PySem L2 PySem.Spec PyProof.Rows

def faOf (v : Str × GK) : List He.Fa :=
  match v.2 with
  | .fn _ => [.glo v.1]
  | .cst (.int i) => [.int v.1 i]
  | .cst (.str z) => [.str v.1 z]
  | .blt => [.free v.1]
  | .cls _ => [.glo v.1, .exc v.1]
  | _ => []
def exmFa (cls : List (Nat × Str)) : List He.Fa := cls.flatMap fun c => cls.map fun h => He.Fa.exm c.2 h.2 (catches c.1 h.1)
def fasOf (G : List (Str × GK)) (cls : List (Nat × Str)) : List He.Fa := G.flatMap faOf ++ exmFa cls
/-- the data fit -/
def gOk (ds : List (Nat × Df)) (cls : List (Nat × Str)) (v : Str × GK) : Bool :=
  !(v.1 == ("__debug__" : Str)) && !decide (v.1 = "__name__") && (match v.2 with
    | .fn f => (match ds.lookup f with | some x => decide (x.d.at_ = (v.1, none)) | none => false)
    | .cst (.int _) => true
    | .cst (.str _) => true
    | .blt => true
    | .cls c => decide (cls.lookup c = some v.1) && (cls.lookup 0).isSome
    | _ => false)
def clsN (cls : List (Nat × Str)) (c : Nat) : Str := (cls.lookup c).getD ((cls.lookup 0).getD ⟨#[]⟩)
def gmOf (P : Program) (w : World) (K : PySem.W.Frag) (ds : List (Nat × Df)) (cls : List (Nat × Str)) : Gm where
  P := P
  w := w
  K := K
  fa := fun i => match ds.lookup i with | some x => He.fAd K x.d.at_ | none => 0
  ca := fun c => He.ga K (clsN cls c)
  eta := []
section
variable {P : Program} {w : World} {K : PySem.W.Frag} {mg : Str → Option Value} {h base : Heap} {G : List (Str × GK)} {ds : List (Nat × Df)} {cls : List (Nat × Str)}
theorem says_mem {fa : List He.Fa} {fn : List He.DefD} (c : He.SaysD fa fn K) {f : He.Fa} (h : f ∈ fa) : f.ok K = true := by
  obtain ⟨i, hi⟩ := List.mem_iff_getElem?.mp h
  exact c.fact i hi
theorem mem_exm {c h : Nat} {x y : Str} (hc : cls.lookup c = some x) (hh : cls.lookup h = some y) : He.Fa.exm x y (catches c h) ∈ exmFa cls := by
  unfold exmFa
  rw [List.mem_flatMap]
  exact ⟨(c, x), mem_lk hc, List.mem_map.mpr ⟨(h, y), mem_lk hh, rfl⟩⟩
theorem wd_of (X : K.In h) (hG : h.Ns mainGlobals mg) (c : He.SaysD (fasOf G cls) (ds.map (·.2.d)) K) (h1 : (ds.all fun p => Df.ok G p.2) = true) (h2 : G.all (gOk ds cls) = true) (h3 : ∀ p ∈ ds, Df.bnd p.2) : Wd (gmOf P w K ds cls) mg base G ds := by
  have fact : ∀ x v, G.lookup x = some v → gOk ds cls (x, v) = true ∧ ∀ f ∈ faOf (x, v), f.ok K = true := fun x v hx => by
    have m := PySem.mem_of_lookup hx
    refine ⟨(List.all_eq_true.mp h2) _ m, fun f hf => says_mem c ?_⟩
    exact List.mem_append_left _ (List.mem_flatMap.mpr ⟨(x, v), m, hf⟩)
  refine ⟨fun i x hx => ?_, h1, h3, fun x v hx => ?_, fun x i hx => ?_, fun c' y h' hy => ?_⟩
  · obtain ⟨j, hj⟩ := List.mem_iff_getElem?.mp (mem_lk hx)
    have hd : (ds.map (·.2.d))[j]? = some x.d := by rw [List.getElem?_map, hj]; rfl
    obtain ⟨fd, F⟩ := c.def_ j hd
    have ok : Df.ok G x = true := (List.all_eq_true.mp h1) (i, x) (mem_lk hx)
    unfold Df.ok at ok
    simp only [Bool.and_eq_true] at ok
    have o1 := ok.1.1.1.1
    have hfa : (gmOf P w K ds cls).fa i = He.fAd K x.d.at_ := by simp only [gmOf, hx]
    have e1 : x.d.dvs K = [] := by
      unfold He.DefD.dvs
      cases hd : x.d.dfl with
      | nil => rfl
      | cons _ _ => rw [hd] at o1; cases o1
    have e2 : x.d.kws K = [] := by
      unfold He.DefD.kws
      cases hd : x.d.kwd with
      | nil => rfl
      | cons _ _ => rw [hd] at o1; cases hz : x.d.dfl <;> rw [hz] at o1 <;> cases o1
    rw [e1, e2] at F
    exact ⟨fd, by rw [hfa]; exact F⟩
  · obtain ⟨ok, fc⟩ := fact x v hx
    unfold gOk at ok
    simp only [Bool.and_eq_true, Bool.not_eq_true', decide_eq_false_iff_not] at ok
    obtain ⟨⟨o1, o2⟩, o3⟩ := ok
    refine ⟨o1, o2, fun f hf => ?_, fun d hd => ?_, fun hb => ?_, fun n hn => ?_⟩
    · subst hf
      dsimp only at o3
      split at o3
      · rename_i z hz
        have e := of_decide_eq_true o3
        have hfa : (gmOf P w K ds cls).fa f = He.fAd K z.d.at_ := by simp only [gmOf, hz]
        rw [hfa, e]
        exact He.glo_ok X hG (fc (.glo x) List.mem_cons_self)
      · cases o3
    · subst hd
      cases d with
      | int i =>
        obtain ⟨t, e⟩ := He.int_ok X hG (fc (.int x i) List.mem_cons_self)
        exact ⟨_, .int i, e, ⟨t, rfl⟩, .inl ⟨i, rfl, rfl⟩⟩
      | str i =>
        obtain ⟨t, e⟩ := He.str_ok X hG (fc (.str x i) List.mem_cons_self)
        exact ⟨_, .str i, e, ⟨t, rfl⟩, .inr ⟨i, rfl, rfl⟩⟩
      | _ => cases o3
    · subst hb
      exact He.free_ok X hG (fc (.free x) List.mem_cons_self)
    · subst hn
      dsimp only at o3
      rw [Bool.and_eq_true, decide_eq_true_eq] at o3
      have e := o3.1
      have hca : (gmOf P w K ds cls).ca n = He.ga K x := by
        show He.ga K (clsN cls n) = _
        unfold clsN
        rw [e]; rfl
      rw [hca]
      have q := He.exc_ok (fc (.exc x) (List.mem_cons_of_mem _ List.mem_cons_self))
      exact ⟨He.glo_ok X hG (fc (.glo x) List.mem_cons_self), q.1, q.2.1, q.2.2.1, q.2.2.2⟩
  · obtain ⟨ok, _⟩ := fact x _ hx
    unfold gOk at ok
    simp only [Bool.and_eq_true] at ok
    have o3 := ok.2
    split at o3
    · rename_i z hz; exact ⟨z, hz⟩
    · cases o3
  · obtain ⟨ok, _⟩ := fact y _ hy
    unfold gOk at ok
    simp only [Bool.and_eq_true] at ok
    have o3 := ok.2
    rw [decide_eq_true_eq] at o3
    have hh := o3.1
    obtain ⟨z0, hz0⟩ := Option.isSome_iff_exists.mp o3.2
    have eh : clsN cls h' = y := by unfold clsN; rw [hh]; rfl
    show PySem.W.exmOne K (.ref (He.ga K (clsN cls c'))) (.ref (He.ga K (clsN cls h'))) = _
    rw [eh]
    cases hc : cls.lookup c' with
    | some x =>
      have ec : clsN cls c' = x := by unfold clsN; rw [hc]; rfl
      rw [ec]
      exact He.exm_ok (says_mem c (List.mem_append_right _ (mem_exm hc hh)))
    | none =>
      have ec : clsN cls c' = z0 := by unfold clsN; rw [hc, hz0]; rfl
      rw [ec]
      have q := He.exm_ok (says_mem c (List.mem_append_right _ (mem_exm hz0 hh)))
      rw [q]
      have hne : c' ≠ h' := fun e => by rw [e, hh] at hc; cases hc
      have e1 : (h' == c') = false := by simpa using fun e => hne e.symm
      unfold catches
      rw [e1]
      cases h' <;> rfl
/-- a def that lets nothing out -/
theorem quiet {mg : Str → Option Value} {base : Heap} {k : Nat} {f : Addr} {fd : FuncData} {ps : List Str} {sp : Sp} (F : FnOk P w K mg base (L2.CX P w) k f fd ps sp) :
    FnOk P w K mg base CX0 k f fd ps (fun vs H Q _ => sp vs H Q fun _ _ _ => False) := by
  refine ⟨fun vs H Q E h => F.len _ _ _ _ h, fun A outer s H args us vs Q E hr e0 hb r h => ?_⟩
  refine codeAny_mono (F.run A outer s H args us vs Q _ hr e0 hb r h) fun r s' q => ?_
  cases r with
  | error e => obtain ⟨_, _, _, _, _, _, _, _, _, _, _, _, z⟩ := q; exact z.elim
  | ok fl => cases fl <;> exact q
/-- what the law's def promises -/
theorem law_fn (X : K.In h) (hG : h.Ns mainGlobals mg) (c : He.SaysD (fasOf G cls) (ds.map (·.2.d)) K) (h1 : (ds.all fun p => Df.ok G p.2) = true) (h2 : G.all (gOk ds cls) = true) (h3 : ∀ p ∈ ds, Df.bnd p.2)
    {i k n : Nat} {x : Df} {fa : Addr} {sn : Str} (hi : ds.lookup i = some x) (hN : x.N.take x.f.np = [sn]) (hat : x.d.at_ = (("law" : Str), none)) (hg : G.lookup ("law" : Str) = some (.fn i)) (hfa : mg ("law" : Str) = some (.ref fa))
    (law : ∀ ns : List Int, ns.length ≤ n → callF (prgOf ds) k i [.scr ns] [] = .ok (.bl true) []) :
    ∃ (K : PySem.W.Frag) (fd : FuncData) (sp : Sp), K.In h ∧ (∀ (s : Shared) (u : Value), BindsTo s fd ⟨[u], []⟩ [(sn, u)]) ∧
        (∀ (H : Hp) (a : Addr) (ns : List Int), ns.length ≤ n → Only H → SqL K H a (ns.map V.int) → sp [.ref a] H (fun v _ => v = .bl true) fun _ _ _ => False) ∧
        ∀ base : Heap, K.In base → base.Ns mainGlobals mg → FnOk P w K mg base CX0 k fa fd [sn] sp := by
  have W := fun base => wd_of (P := P) (w := w) (base := base) X hG c h1 h2 h3
  obtain ⟨fd, F⟩ := (W h).fns i x hi
  have efa : (gmOf P w K ds cls).fa i = fa := by
    have := ((W h).glob _ _ hg).fn i rfl
    rw [hfa] at this
    injection this with this
    injection this with this
    exact this.symm
  rw [efa] at F
  refine ⟨K, fd, fun vs H Q _ => spF (gmOf P w K ds cls) (callF (prgOf ds) k i) vs H Q fun _ _ _ => False, X, fun s u => ?_, fun H a ns hl hO hS => ?_, fun base hb hn => ?_⟩
  · have b := F.bindsA (ps := [sn]) (fun kV doc pm an cdv ct us hl => by
      have q := h3 (i, x) (mem_lk hi) kV doc pm an cdv ct us (by rw [hN]; exact hl)
      rw [hN] at q; exact q)
    exact b s [u] rfl
  · refine ⟨[], [], [], [.scr ns], ⟨fun a z => (by cases z), by simp, rfl, fun n a u e => (by simp at e)⟩, .cons ?_ .nil, ?_⟩
    · rcases hS with (hS | ⟨o, hS⟩) | hS
      · rcases hO a with z | ⟨o, xs, z⟩ <;> (rw [hS] at z; cases z)
      · exact .scrF hS ⟨by simp, by simp [Gm.at]⟩
      · exact .scrK fun H' => .inr hS
    · rw [law ns hl]
      intro ρ' H' e R v rv
      cases rv; rfl
  · have q := all_fn (W base) k i x hi fd (by rw [efa]; exact F)
    rw [hN, efa] at q
    exact quiet q
end
end WG

set_option Elab.async false
set_option linter.all false
set_option maxRecDepth 100000
set_option maxHeartbeats 4000000
set_option autoImplicit false
/-! Fns: the core functions of all laws (printed by gall.py). -/
namespace WG
open PySem
-- 0 is_whole(value=0, low=1, high=2)
def c_is_whole : Fn := ⟨3, 3, true,
 (.cons (.ret (.and (.blt false (.isi .int) (.cons (.var 0) .nil)) (.and (.not (.blt false (.isi .bool) (.cons (.var 0) .nil))) (.chain .le .le (.var 1) (.var 0) (.var 2)))))
 .nil)⟩
-- 1 is_word(value=0, words=1)
def c_is_word : Fn := ⟨2, 2, true,
 (.cons (.ret (.and (.blt false (.isi .str) (.cons (.var 0) .nil)) (.cmp .isin (.var 0) (.var 1))))
 .nil)⟩
-- 2 is_right_scale(value=0)
def c_is_right_scale : Fn := ⟨1, 1, true,
 (.cons (.ite (.or (.not (.blt false (.isi .tuple) (.cons (.var 0) .nil))) (.cmp .ne (.blt false .len (.cons (.var 0) .nil)) (.cst (.int 4))))
  (.cons (.ret (.cst (.bl false)))
   .nil)
  .nil)
 (.cons (.ite (.or (.not (.call 0 (.cons (.idx (.var 0) (.cst (.int 0))) (.cons (.cst (.int 1)) (.cons (.cst (.int 10)) .nil))))) (.not (.call 1 (.cons (.idx (.var 0) (.cst (.int 1))) (.cons (.tup (.cons (.cst (.str "down")) (.cons (.cst (.str "near")) .nil))) .nil)))))
  (.cons (.ret (.cst (.bl false)))
   .nil)
  .nil)
 (.cons (.ret (.and (.call 0 (.cons (.idx (.var 0) (.cst (.int 2))) (.cons (.cst (.int 0)) (.cons (.cst (.int 5)) .nil)))) (.call 1 (.cons (.idx (.var 0) (.cst (.int 3))) (.cons (.tup (.cons (.cst (.str "exact")) (.cons (.cst (.str "shown")) .nil))) .nil)))))
 .nil)))⟩
-- 3 is_name(value=0, sign=1)
def c_is_name : Fn := ⟨1, 2, true,
 (.cons (.ite (.or (.not (.blt false (.isi .str) (.cons (.var 0) .nil))) (.not (.chain .le .le (.cst (.int 1)) (.blt false .len (.cons (.var 0) .nil)) (.cst (.int 8)))))
  (.cons (.ret (.cst (.bl false)))
   .nil)
  .nil)
 (.cons (.ret (.blt false .all (.cons (.comp false true [1] (.val (.var 0)) (.cst (.bl true)) (.cmp .isin (.var 1) (.cst (.str "abcdefghijklmnopqrstuvwxyz")))) .nil)))
 .nil))⟩
-- 4 are_bounds(low=0, high=1, most=2)
def c_are_bounds : Fn := ⟨3, 3, true,
 (.cons (.ret (.and (.call 0 (.cons (.var 0) (.cons (.cst (.int 0)) (.cons (.var 2) .nil)))) (.call 0 (.cons (.var 1) (.cons (.var 0) (.cons (.var 2) .nil))))))
 .nil)⟩
-- 5 is_right_deed(value=0)
def c_is_right_deed : Fn := ⟨1, 1, true,
 (.cons (.ite (.or (.not (.blt false (.isi .tuple) (.cons (.var 0) .nil))) (.or (.cmp .eq (.var 0) (.tup .nil)) (.not (.blt false (.isi .str) (.cons (.idx (.var 0) (.cst (.int 0))) .nil)))))
  (.cons (.ret (.cst (.bl false)))
   .nil)
  .nil)
 (.cons (.ite (.cmp .eq (.idx (.var 0) (.cst (.int 0))) (.cst (.str "tare")))
  (.cons (.ret (.cmp .eq (.blt false .len (.cons (.var 0) .nil)) (.cst (.int 1))))
   .nil)
  .nil)
 (.cons (.ite (.cmp .isin (.idx (.var 0) (.cst (.int 0))) (.tup (.cons (.cst (.str "put")) (.cons (.cst (.str "lift")) .nil))))
  (.cons (.ret (.and (.cmp .eq (.blt false .len (.cons (.var 0) .nil)) (.cst (.int 3))) (.call 4 (.cons (.idx (.var 0) (.cst (.int 1))) (.cons (.idx (.var 0) (.cst (.int 2))) (.cons (.cst (.int 300)) .nil))))))
   .nil)
  .nil)
 (.cons (.ite (.cmp .eq (.idx (.var 0) (.cst (.int 0))) (.cst (.str "add")))
  (.cons (.ret (.and (.cmp .eq (.blt false .len (.cons (.var 0) .nil)) (.cst (.int 4))) (.and (.call 3 (.cons (.idx (.var 0) (.cst (.int 1))) .nil)) (.call 4 (.cons (.idx (.var 0) (.cst (.int 2))) (.cons (.idx (.var 0) (.cst (.int 3))) (.cons (.cst (.int 300)) .nil)))))))
   .nil)
  .nil)
 (.cons (.ite (.or (.cmp .ne (.idx (.var 0) (.cst (.int 0))) (.cst (.str "pour"))) (.or (.cmp .ne (.blt false .len (.cons (.var 0) .nil)) (.cst (.int 5))) (.or (.not (.call 3 (.cons (.idx (.var 0) (.cst (.int 1))) .nil))) (.not (.call 0 (.cons (.idx (.var 0) (.cst (.int 2))) (.cons (.cst (.int 1)) (.cons (.cst (.int 200)) .nil))))))))
  (.cons (.ret (.cst (.bl false)))
   .nil)
  .nil)
 (.cons (.ret (.and (.call 4 (.cons (.idx (.var 0) (.cst (.int 3))) (.cons (.idx (.var 0) (.cst (.int 4))) (.cons (.cst (.int 20)) .nil)))) (.cmp .ge (.idx (.var 0) (.cst (.int 4))) (.cst (.int 1)))))
 .nil))))))⟩
-- 6 is_right_recipe(value=0, deed=1)
def c_is_right_recipe : Fn := ⟨1, 2, true,
 (.cons (.ret (.and (.blt false (.isi .tuple) (.cons (.var 0) .nil)) (.and (.chain .le .le (.cst (.int 1)) (.blt false .len (.cons (.var 0) .nil)) (.cst (.int 8))) (.blt false .all (.cons (.comp false true [1] (.val (.var 0)) (.cst (.bl true)) (.call 5 (.cons (.var 1) .nil))) .nil)))))
 .nil)⟩
-- 7 named_h(recipe=0, deed=1) NOT FROZEN
def c_named_h : Fn := ⟨1, 2, false,
 (.cons (.ret (.blt true .sortset (.cons (.comp false true [1] (.val (.var 0)) (.cmp .isin (.idx (.var 1) (.cst (.int 0))) (.tup (.cons (.cst (.str "add")) (.cons (.cst (.str "pour")) .nil)))) (.idx (.var 1) (.cst (.int 1)))) .nil)))
 .nil)⟩
-- 7 named(recipe=0, deed=1)
def c_named : Fn := ⟨1, 2, true,
 (.cons (.ret (.blt false .sortset (.cons (.comp false true [1] (.val (.var 0)) (.cmp .isin (.idx (.var 1) (.cst (.int 0))) (.tup (.cons (.cst (.str "add")) (.cons (.cst (.str "pour")) .nil)))) (.idx (.var 1) (.cst (.int 1)))) .nil)))
 .nil)⟩
-- 8 need_recipe(value=0)
def c_need_recipe : Fn := ⟨1, 1, true,
 (.cons (.ite (.not (.call 6 (.cons (.var 0) .nil)))
  (.cons (.rais 1)
   .nil)
  .nil)
 .nil)⟩
-- 9 is_scale(value=0)
def c_is_scale : Fn := ⟨1, 1, true,
 (.cons (.ret (.call 2 (.cons (.var 0) .nil)))
 .nil)⟩
-- 10 is_deed(value=0)
def c_is_deed : Fn := ⟨1, 1, true,
 (.cons (.ret (.call 5 (.cons (.var 0) .nil)))
 .nil)⟩
-- 11 is_recipe(value=0)
def c_is_recipe : Fn := ⟨1, 1, true,
 (.cons (.ret (.call 6 (.cons (.var 0) .nil)))
 .nil)⟩
-- 12 names_in_h(recipe=0) NOT FROZEN
def c_names_in_h : Fn := ⟨1, 1, false,
 (.cons (.expr (.call 8 (.cons (.var 0) .nil)))
 (.cons (.ret (.call 7 (.cons (.var 0) .nil)))
 .nil))⟩
-- 12 names_in(recipe=0)
def c_names_in : Fn := ⟨1, 1, true,
 (.cons (.expr (.call 8 (.cons (.var 0) .nil)))
 (.cons (.ret (.call 7 (.cons (.var 0) .nil)))
 .nil))⟩
-- 13 law_source(_law_script=0, _law_k=1, _law_number=2, _law_start=3) NOT FROZEN
def c_law_source : Fn := ⟨2, 4, false,
 (.cons (.set (.var 2) (.cst (.int 0)))
 (.cons (.ite (.cmp .gt (.blt false .len (.cons (.var 0) .nil)) (.var 1))
  (.cons (.set (.var 2) (.blt false .int (.cons (.idx (.var 0) (.var 1)) .nil)))
   .nil)
  .nil)
 (.cons (.set (.var 3) (.bin false .mod (.bin false .add (.bin false .add (.bin false .mul (.var 2) (.cst (.int 16807))) (.bin false .mul (.cst (.int 60919)) (.var 1))) (.cst (.int 31))) (.cst (.int 2147481173))))
 (.cons (.set (.var 3) (.bin false .add (.bin false .add (.bin false .mod (.bin false .mul (.var 3) (.var 3)) (.cst (.int 2147481151))) (.bin false .mul (.cst (.int 2)) (.var 1))) (.cst (.int 5))))
 (.cons (.ret (.lst true (.cons (.ite (.cmp .ge (.var 2) (.bin false .pow (.cst (.int 10)) (.cst (.int 18)))) (.var 2) (.cst (.int 0))) (.cons (.var 3) .nil))))
 .nil)))))⟩
-- 14 law_pick(_law_source_here=0, _law_many=1, _law_found=2) NOT FROZEN
def c_law_pick : Fn := ⟨2, 3, false,
 (.cons (.ite (.cmp .gt (.idx (.var 0) (.cst (.int 0))) (.cst (.int 0)))
  (.cons (.set (.var 2) (.bin false .mod (.blt false .int (.cons (.idx (.var 0) (.cst (.int 0))) .nil)) (.var 1)))
   (.cons (.set (.sub (.var 0) (.cst (.int 0))) (.bin false .fdiv (.blt false .int (.cons (.idx (.var 0) (.cst (.int 0))) .nil)) (.var 1)))
   (.cons (.ret (.var 2))
   .nil)))
  .nil)
 (.cons (.set (.sub (.var 0) (.cst (.int 1))) (.bin false .mod (.blt false .int (.cons (.bin false .add (.bin false .mul (.idx (.var 0) (.cst (.int 1))) (.cst (.int 44497))) (.cst (.int 9973))) .nil)) (.cst (.int 2147483647))))
 (.cons (.ret (.bin false .mod (.bin false .fdiv (.bin false .mod (.blt false .int (.cons (.bin false .mul (.idx (.var 0) (.cst (.int 1))) (.idx (.var 0) (.cst (.int 1)))) .nil)) (.cst (.int 2147483399))) (.cst (.int 11))) (.var 1)))
 .nil)))⟩
-- 15 law_chosen(_law_source_here=0, _law_things=1) NOT FROZEN
def c_law_chosen : Fn := ⟨2, 2, false,
 (.cons (.ret (.idx (.var 1) (.call 14 (.cons (.var 0) (.cons (.blt false .len (.cons (.var 1) .nil)) .nil)))))
 .nil)⟩
-- 16 law_is_bool_k01(_law_told=0, _law_due=1)
def c_law_is_bool_k01 : Fn := ⟨2, 2, true,
 (.cons (.ret (.and (.blt false (.isi .bool) (.cons (.var 0) .nil)) (.cmp .eq (.var 0) (.var 1))))
 .nil)⟩
-- 17 law_wide(_law_value=0, _law_low=1, _law_high=2)
def c_law_wide : Fn := ⟨3, 3, true,
 (.cons (.ret (.and (.blt false (.isi .tuple) (.cons (.var 0) .nil)) (.chain .le .le (.var 1) (.blt false .len (.cons (.var 0) .nil)) (.var 2))))
 .nil)⟩
-- 18 law_any_value(_law_source_here=0, _law_deep=1, _law_plain=2, _law_way=3, _law_parts=4, _law_turn=5) NOT FROZEN
def c_law_any_value : Fn := ⟨2, 6, false,
 (.cons (.set (.var 2) (.lst false (.cons (.cst .non) (.cons (.cst (.bl true)) (.cons (.cst (.bl false)) (.cons (.cst (.int 0)) (.cons (.cst (.int 1)) (.cons (.cst (.int 5)) (.cons (.cst (.int 21)) (.cons (.neg (.cst (.int 2))) (.cons (.bin false .pow (.cst (.int 10)) (.cst (.int 12))) (.cons (.cst (.str "")) (.cons (.cst (.str "a")) (.cons (.cst (.str "ab")) (.cons (.cst (.str "down")) (.cons (.cst (.str "exact")) (.cons (.cst (.str "A")) (.cons (.cst (.str "z z")) (.cons (.tup .nil) (.cons (.lst false .nil) (.cons (.tup (.cons (.cst (.str "a")) .nil)) .nil)))))))))))))))))))))
 (.cons (.set (.var 3) (.call 14 (.cons (.var 0) (.cons (.cst (.int 8)) .nil))))
 (.cons (.ite (.or (.cmp .lt (.var 1) (.cst (.int 1))) (.cmp .lt (.var 3) (.cst (.int 5))))
  (.cons (.ret (.call 15 (.cons (.var 0) (.cons (.var 2) .nil))))
   .nil)
  .nil)
 (.cons (.set (.var 4) (.comp false true [5] (.rng (.cst (.int 0)) (.call 14 (.cons (.var 0) (.cons (.cst (.int 5)) .nil)))) (.cst (.bl true)) (.call 18 (.cons (.var 0) (.cons (.bin false .sub (.var 1) (.cst (.int 1))) .nil)))))
 (.cons (.ret (.ite (.cmp .eq (.var 3) (.cst (.int 5))) (.var 4) (.blt false .tuple (.cons (.var 4) .nil))))
 .nil)))))⟩
-- 19 law_variant(_law_source_here=0, _law_value=1, _law_deep=2, _law_parts=3, _law_inner=4, _law_spot=5, _law_way=6, _law_near=7) NOT FROZEN
def c_law_variant : Fn := ⟨3, 8, false,
 (.cons (.set (.var 3) (.blt true .list (.cons (.var 1) .nil)))
 (.cons (.ite (.cmp .eq (.var 3) (.lst false .nil))
  (.cons (.ret (.tup (.cons (.call 18 (.cons (.var 0) (.cons (.cst (.int 1)) .nil))) .nil)))
   .nil)
  .nil)
 (.cons (.set (.tup (.cons (.var 5) (.cons (.var 6) .nil))) (.tup (.cons (.call 14 (.cons (.var 0) (.cons (.blt false .len (.cons (.var 3) .nil)) .nil))) (.cons (.call 14 (.cons (.var 0) (.cons (.cst (.int 9)) .nil))) .nil))))
 (.cons (.set (.var 4) (.idx (.var 3) (.var 5)))
 (.cons (.ite (.and (.blt false (.isi .tuple) (.cons (.var 4) .nil)) (.and (.cmp .gt (.var 2) (.cst (.int 0))) (.cmp .gt (.var 6) (.cst (.int 2)))))
  (.cons (.ret (.bin false .add (.bin false .add (.blt false .tuple (.cons (.slice false (.var 3) false (.cst .non) true (.var 5)) .nil)) (.tup (.cons (.call 19 (.cons (.var 0) (.cons (.var 4) (.cons (.bin false .sub (.var 2) (.cst (.int 1))) .nil)))) .nil))) (.blt false .tuple (.cons (.slice false (.var 3) true (.bin false .add (.var 5) (.cst (.int 1))) false (.cst .non)) .nil))))
   .nil)
  .nil)
 (.cons (.ite (.cmp .eq (.var 6) (.cst (.int 0)))
  (.cons (.ret (.blt false .tuple (.cons (.bin false .add (.slice false (.var 3) false (.cst .non) true (.var 5)) (.slice false (.var 3) true (.bin false .add (.var 5) (.cst (.int 1))) false (.cst .non))) .nil)))
   .nil)
  .nil)
 (.cons (.ite (.cmp .eq (.var 6) (.cst (.int 1)))
  (.cons (.ret (.blt false .tuple (.cons (.bin false .add (.slice false (.var 3) false (.cst .non) true (.bin false .add (.var 5) (.cst (.int 1)))) (.slice false (.var 3) true (.var 5) false (.cst .non))) .nil)))
   .nil)
  .nil)
 (.cons (.ite (.cmp .eq (.var 6) (.cst (.int 2)))
  (.cons (.ret (.blt false .tuple (.cons (.bin false .add (.bin false .add (.slice false (.var 3) false (.cst .non) true (.var 5)) (.rev false (.slice false (.var 3) true (.var 5) true (.bin false .add (.var 5) (.cst (.int 2)))))) (.slice false (.var 3) true (.bin false .add (.var 5) (.cst (.int 2))) false (.cst .non))) .nil)))
   .nil)
  .nil)
 (.cons (.ite (.cmp .eq (.var 6) (.cst (.int 3)))
  (.cons (.ret (.var 3))
   .nil)
  .nil)
 (.cons (.ite (.cmp .lt (.var 6) (.cst (.int 6)))
  (.cons (.set (.sub (.var 3) (.var 5)) (.call 18 (.cons (.var 0) (.cons (.cst (.int 2)) .nil))))
   .nil)
  (.cons (.set (.var 7) (.lst false (.cons (.cst (.str "a")) (.cons (.cst (.str "near")) (.cons (.cst (.str "down")) (.cons (.cst (.str "exact")) (.cons (.cst (.str "shown")) (.cons (.cst (.str "put")) (.cons (.cst (.str "lift")) (.cons (.cst (.str "add")) (.cons (.cst (.str "pour")) (.cons (.cst (.str "tare")) (.cons (.cst (.int 6)) (.cons (.cst (.int 10)) (.cons (.cst (.int 11)) (.cons (.cst (.int 20)) (.cons (.cst (.int 21)) (.cons (.cst (.int 200)) .nil))))))))))))))))))
   (.cons (.set (.sub (.var 3) (.var 5)) (.call 15 (.cons (.var 0) (.cons (.bin false .add (.var 7) (.lst false (.cons (.cst .non) (.cons (.cst (.int 0)) (.cons (.cst (.int 1)) (.cons (.cst (.int 2)) (.cons (.cst (.int 5)) (.cons (.cst (.int 201)) (.cons (.cst (.int 300)) (.cons (.cst (.int 301)) (.cons (.tup .nil) (.cons (.lst false .nil) .nil)))))))))))) .nil))))
   .nil)))
 (.cons (.ret (.blt false .tuple (.cons (.var 3) .nil)))
 .nil)))))))))))⟩
-- 20 law_whole(_law_value=0, _law_low=1, _law_high=2)
def c_law_whole : Fn := ⟨3, 3, true,
 (.cons (.ret (.and (.blt false (.isi .int) (.cons (.var 0) .nil)) (.and (.not (.blt false (.isi .bool) (.cons (.var 0) .nil))) (.chain .le .le (.var 1) (.var 0) (.var 2)))))
 .nil)⟩
-- 21 law_is_name(_law_value=0, _law_sign=1)
def c_law_is_name : Fn := ⟨1, 2, true,
 (.cons (.ite (.or (.not (.blt false (.isi .str) (.cons (.var 0) .nil))) (.not (.chain .le .le (.cst (.int 1)) (.blt false .len (.cons (.var 0) .nil)) (.cst (.int 8)))))
  (.cons (.ret (.cst (.bl false)))
   .nil)
  .nil)
 (.cons (.ret (.cmp .eq (.comp false true [1] (.val (.var 0)) (.cmp .notin (.var 1) (.cst (.str "abcdefghijklmnopqrstuvwxyz"))) (.var 1)) (.lst false .nil)))
 .nil))⟩
-- 22 law_good_scale(_law_value=0)
def c_law_good_scale : Fn := ⟨1, 1, true,
 (.cons (.ite (.or (.not (.call 17 (.cons (.var 0) (.cons (.cst (.int 4)) (.cons (.cst (.int 4)) .nil))))) (.or (.not (.call 20 (.cons (.idx (.var 0) (.cst (.int 0))) (.cons (.cst (.int 1)) (.cons (.cst (.int 10)) .nil))))) (.not (.call 20 (.cons (.idx (.var 0) (.cst (.int 2))) (.cons (.cst (.int 0)) (.cons (.cst (.int 5)) .nil)))))))
  (.cons (.ret (.cst (.bl false)))
   .nil)
  .nil)
 (.cons (.ite (.or (.not (.blt false (.isi .str) (.cons (.idx (.var 0) (.cst (.int 1))) .nil))) (.not (.blt false (.isi .str) (.cons (.idx (.var 0) (.cst (.int 3))) .nil))))
  (.cons (.ret (.cst (.bl false)))
   .nil)
  .nil)
 (.cons (.ret (.and (.cmp .isin (.idx (.var 0) (.cst (.int 1))) (.tup (.cons (.cst (.str "down")) (.cons (.cst (.str "near")) .nil)))) (.cmp .isin (.idx (.var 0) (.cst (.int 3))) (.tup (.cons (.cst (.str "exact")) (.cons (.cst (.str "shown")) .nil))))))
 .nil)))⟩
-- 23 law_good_deed(_law_value=0, _law_size=1, _law_most=2)
def c_law_good_deed : Fn := ⟨1, 3, true,
 (.cons (.ite (.or (.not (.blt false (.isi .tuple) (.cons (.var 0) .nil))) (.or (.cmp .eq (.var 0) (.tup .nil)) (.not (.blt false (.isi .str) (.cons (.idx (.var 0) (.cst (.int 0))) .nil)))))
  (.cons (.ret (.cst (.bl false)))
   .nil)
  .nil)
 (.cons (.set (.var 1) (.mth false .get (.dct false false (.cons (.cst (.str "put")) (.cons (.cst (.str "lift")) (.cons (.cst (.str "add")) (.cons (.cst (.str "pour")) (.cons (.cst (.str "tare")) .nil))))) (.cons (.cst (.int 3)) (.cons (.cst (.int 3)) (.cons (.cst (.int 4)) (.cons (.cst (.int 5)) (.cons (.cst (.int 1)) .nil)))))) (.cons (.idx (.var 0) (.cst (.int 0))) (.cons (.cst (.int 0)) .nil))))
 (.cons (.ite (.cmp .ne (.blt false .len (.cons (.var 0) .nil)) (.var 1))
  (.cons (.ret (.cst (.bl false)))
   .nil)
  .nil)
 (.cons (.ite (.cmp .eq (.var 1) (.cst (.int 1)))
  (.cons (.ret (.cst (.bl true)))
   .nil)
  .nil)
 (.cons (.set (.var 2) (.ite (.cmp .eq (.var 1) (.cst (.int 5))) (.cst (.int 20)) (.cst (.int 300))))
 (.cons (.ite (.or (.not (.call 20 (.cons (.idx (.var 0) (.neg (.cst (.int 2)))) (.cons (.cst (.int 0)) (.cons (.var 2) .nil))))) (.not (.call 20 (.cons (.idx (.var 0) (.neg (.cst (.int 1)))) (.cons (.idx (.var 0) (.neg (.cst (.int 2)))) (.cons (.var 2) .nil))))))
  (.cons (.ret (.cst (.bl false)))
   .nil)
  .nil)
 (.cons (.ite (.cmp .eq (.var 1) (.cst (.int 3)))
  (.cons (.ret (.cst (.bl true)))
   .nil)
  .nil)
 (.cons (.ite (.and (.cmp .eq (.var 1) (.cst (.int 5))) (.or (.not (.call 20 (.cons (.idx (.var 0) (.cst (.int 2))) (.cons (.cst (.int 1)) (.cons (.cst (.int 200)) .nil))))) (.cmp .eq (.idx (.var 0) (.cst (.int 4))) (.cst (.int 0)))))
  (.cons (.ret (.cst (.bl false)))
   .nil)
  .nil)
 (.cons (.ret (.call 21 (.cons (.idx (.var 0) (.cst (.int 1))) .nil)))
 .nil)))))))))⟩
-- 24 law_good_recipe(_law_value=0, _law_one=1)
def c_law_good_recipe : Fn := ⟨1, 2, true,
 (.cons (.ret (.and (.call 17 (.cons (.var 0) (.cons (.cst (.int 1)) (.cons (.cst (.int 8)) .nil)))) (.cmp .eq (.comp false true [1] (.val (.var 0)) (.not (.call 23 (.cons (.var 1) .nil))) (.var 1)) (.lst false .nil))))
 .nil)⟩
-- 25 law_scale(_law_source_here=0, _law_step=1, _law_hold=2) NOT FROZEN
def c_law_scale : Fn := ⟨1, 3, false,
 (.cons (.set (.var 1) (.call 15 (.cons (.var 0) (.cons (.lst false (.cons (.cst (.int 1)) (.cons (.cst (.int 1)) (.cons (.cst (.int 2)) (.cons (.cst (.int 3)) (.cons (.cst (.int 5)) (.cons (.cst (.int 5)) (.cons (.cst (.int 10)) (.cons (.bin false .add (.cst (.int 1)) (.call 14 (.cons (.var 0) (.cons (.cst (.int 10)) .nil)))) .nil))))))))) .nil))))
 (.cons (.set (.var 2) (.call 15 (.cons (.var 0) (.cons (.lst false (.cons (.cst (.int 0)) (.cons (.cst (.int 0)) (.cons (.cst (.int 0)) (.cons (.cst (.int 1)) (.cons (.cst (.int 2)) (.cons (.cst (.int 5)) .nil))))))) .nil))))
 (.cons (.ret (.tup (.cons (.var 1) (.cons (.call 15 (.cons (.var 0) (.cons (.lst false (.cons (.cst (.str "down")) (.cons (.cst (.str "near")) .nil))) .nil))) (.cons (.var 2) (.cons (.call 15 (.cons (.var 0) (.cons (.lst false (.cons (.cst (.str "exact")) (.cons (.cst (.str "shown")) .nil))) .nil))) .nil))))))
 .nil)))⟩
-- 26 law_deed(_law_source_here=0, _law_pours=1, _law_name=2, _law_least=3, _law_most=4, _law_way=5, _law_low=6) NOT FROZEN
def c_law_deed : Fn := ⟨2, 7, false,
 (.cons (.set (.tup (.cons (.var 5) (.cons (.var 6) .nil))) (.tup (.cons (.call 14 (.cons (.var 0) (.cons (.cst (.int 9)) .nil))) (.cons (.call 14 (.cons (.var 0) (.cons (.cst (.int 12)) .nil))) .nil))))
 (.cons (.ite (.cmp .eq (.var 5) (.cst (.int 0)))
  (.cons (.ret (.tup (.cons (.cst (.str "put")) (.cons (.var 6) (.cons (.bin false .add (.var 6) (.call 14 (.cons (.var 0) (.cons (.cst (.int 6)) .nil)))) .nil)))))
   .nil)
  .nil)
 (.cons (.ite (.cmp .eq (.var 5) (.cst (.int 1)))
  (.cons (.ret (.tup (.cons (.cst (.str "lift")) (.cons (.var 6) (.cons (.bin false .add (.var 6) (.call 14 (.cons (.var 0) (.cons (.cst (.int 4)) .nil)))) .nil)))))
   .nil)
  .nil)
 (.cons (.set (.var 2) (.call 15 (.cons (.var 0) (.cons (.lst false (.cons (.cst (.str "a")) (.cons (.cst (.str "a")) (.cons (.cst (.str "b")) (.cons (.cst (.str "salt")) .nil))))) .nil))))
 (.cons (.ite (.cmp .eq (.var 5) (.cst (.int 2)))
  (.cons (.ret (.tup (.cons (.cst (.str "add")) (.cons (.var 2) (.cons (.var 6) (.cons (.bin false .add (.var 6) (.call 14 (.cons (.var 0) (.cons (.cst (.int 4)) .nil)))) .nil))))))
   .nil)
  .nil)
 (.cons (.ite (.cmp .lt (.var 5) (.bin false .sub (.cst (.int 5)) (.bin false .mul (.cst (.int 2)) (.blt false .int (.cons (.var 1) .nil)))))
  (.cons (.ret (.tup (.cons (.cst (.str "tare")) .nil)))
   .nil)
  .nil)
 (.cons (.set (.var 3) (.call 15 (.cons (.var 0) (.cons (.lst false (.cons (.cst (.int 0)) (.cons (.cst (.int 1)) (.cons (.cst (.int 1)) (.cons (.cst (.int 2)) (.cons (.cst (.int 3)) .nil)))))) .nil))))
 (.cons (.set (.var 4) (.blt false .max2 (.cons (.cst (.int 1)) (.cons (.bin false .add (.var 3) (.call 15 (.cons (.var 0) (.cons (.lst false (.cons (.cst (.int 0)) (.cons (.cst (.int 1)) (.cons (.cst (.int 2)) (.cons (.cst (.int 3)) (.cons (.cst (.int 5)) .nil)))))) .nil)))) .nil))))
 (.cons (.ret (.tup (.cons (.cst (.str "pour")) (.cons (.var 2) (.cons (.bin false .add (.cst (.int 1)) (.call 14 (.cons (.var 0) (.cons (.cst (.int 24)) .nil)))) (.cons (.var 3) (.cons (.var 4) .nil)))))))
 .nil)))))))))⟩
-- 27 law_recipe_k01(_law_source_here=0, _law_most=1, _law_first=2, _law_second=3, _law_turn=4) NOT FROZEN
def c_law_recipe_k01 : Fn := ⟨2, 5, false,
 (.cons (.ite (.and (.cmp .eq (.call 14 (.cons (.var 0) (.cons (.cst (.int 3)) .nil))) (.cst (.int 0))) (.cmp .gt (.var 1) (.cst (.int 4))))
  (.cons (.set (.tup (.cons (.var 2) (.cons (.var 3) .nil))) (.tup (.cons (.call 26 (.cons (.var 0) (.cons (.cst (.bl true)) .nil))) (.cons (.call 26 (.cons (.var 0) (.cons (.cst (.bl true)) .nil))) .nil))))
   (.cons (.ret (.tup (.cons (.tup (.cons (.cst (.str "put")) (.cons (.cst (.int 20)) (.cons (.bin false .add (.cst (.int 20)) (.call 14 (.cons (.var 0) (.cons (.cst (.int 6)) .nil)))) .nil)))) (.cons (.tup (.cons (.cst (.str "tare")) .nil)) (.cons (.var 2) (.cons (.tup (.cons (.cst (.str "tare")) .nil)) (.cons (.var 3) .nil)))))))
   .nil))
  .nil)
 (.cons (.ret (.blt false .tuple (.cons (.comp false true [4] (.rng (.cst (.int 0)) (.bin false .add (.cst (.int 1)) (.call 14 (.cons (.var 0) (.cons (.var 1) .nil))))) (.cst (.bl true)) (.call 26 (.cons (.var 0) (.cons (.cst (.bl false)) .nil)))) .nil)))
 .nil))⟩
-- 28 law_named(_law_recipe_here=0, _law_deed_here=1)
def c_law_named : Fn := ⟨1, 2, true,
 (.cons (.ret (.blt false .sortset (.cons (.comp false true [1] (.val (.var 0)) (.cmp .isin (.idx (.var 1) (.cst (.int 0))) (.tup (.cons (.cst (.str "add")) (.cons (.cst (.str "pour")) .nil)))) (.idx (.var 1) (.cst (.int 1)))) .nil)))
 .nil)⟩
-- 29 law_deeds(_law_found=0)
def c_law_deeds : Fn := ⟨0, 1, true,
 (.cons (.set (.var 0) (.lst false (.cons (.tup (.cons (.tup (.cons (.cst (.str "put")) (.cons (.cst (.int 0)) (.cons (.cst (.int 0)) .nil)))) (.cons (.cst (.bl true)) .nil))) (.cons (.tup (.cons (.tup (.cons (.cst (.str "lift")) (.cons (.cst (.int 300)) (.cons (.cst (.int 300)) .nil)))) (.cons (.cst (.bl true)) .nil))) (.cons (.tup (.cons (.tup (.cons (.cst (.str "put")) (.cons (.cst (.int 0)) (.cons (.cst (.int 301)) .nil)))) (.cons (.cst (.bl false)) .nil))) (.cons (.tup (.cons (.tup (.cons (.cst (.str "put")) (.cons (.cst (.int 5)) (.cons (.cst (.int 4)) .nil)))) (.cons (.cst (.bl false)) .nil))) .nil))))))
 (.cons (.set (.var 0) (.bin false .add (.var 0) (.lst false (.cons (.tup (.cons (.tup (.cons (.cst (.str "add")) (.cons (.cst (.str "abcdefgh")) (.cons (.cst (.int 0)) (.cons (.cst (.int 300)) .nil))))) (.cons (.cst (.bl true)) .nil))) (.cons (.tup (.cons (.tup (.cons (.cst (.str "add")) (.cons (.cst (.str "")) (.cons (.cst (.int 0)) (.cons (.cst (.int 1)) .nil))))) (.cons (.cst (.bl false)) .nil))) (.cons (.tup (.cons (.tup (.cons (.cst (.str "add")) (.cons (.cst (.str "a")) (.cons (.neg (.cst (.int 1))) (.cons (.cst (.int 1)) .nil))))) (.cons (.cst (.bl false)) .nil))) .nil))))))
 (.cons (.set (.var 0) (.bin false .add (.var 0) (.lst false (.cons (.tup (.cons (.tup (.cons (.cst (.str "pour")) (.cons (.cst (.str "a")) (.cons (.cst (.int 1)) (.cons (.cst (.int 0)) (.cons (.cst (.int 1)) .nil)))))) (.cons (.cst (.bl true)) .nil))) (.cons (.tup (.cons (.tup (.cons (.cst (.str "pour")) (.cons (.cst (.str "a")) (.cons (.cst (.int 200)) (.cons (.cst (.int 20)) (.cons (.cst (.int 20)) .nil)))))) (.cons (.cst (.bl true)) .nil))) (.cons (.tup (.cons (.tup (.cons (.cst (.str "tare")) .nil)) (.cons (.cst (.bl true)) .nil))) .nil))))))
 (.cons (.set (.var 0) (.bin false .add (.var 0) (.lst false (.cons (.tup (.cons (.tup (.cons (.cst (.str "pour")) (.cons (.cst (.str "a")) (.cons (.cst (.int 0)) (.cons (.cst (.int 1)) (.cons (.cst (.int 1)) .nil)))))) (.cons (.cst (.bl false)) .nil))) (.cons (.tup (.cons (.tup (.cons (.cst (.str "pour")) (.cons (.cst (.str "a")) (.cons (.cst (.int 201)) (.cons (.cst (.int 1)) (.cons (.cst (.int 1)) .nil)))))) (.cons (.cst (.bl false)) .nil))) (.cons (.tup (.cons (.tup (.cons (.cst (.str "tare")) (.cons (.cst (.int 1)) .nil))) (.cons (.cst (.bl false)) .nil))) .nil))))))
 (.cons (.set (.var 0) (.bin false .add (.var 0) (.lst false (.cons (.tup (.cons (.tup (.cons (.cst (.str "pour")) (.cons (.cst (.str "a")) (.cons (.cst (.int 5)) (.cons (.cst (.int 0)) (.cons (.cst (.int 0)) .nil)))))) (.cons (.cst (.bl false)) .nil))) (.cons (.tup (.cons (.tup (.cons (.cst (.str "pour")) (.cons (.cst (.str "a")) (.cons (.cst (.int 5)) (.cons (.cst (.int 2)) (.cons (.cst (.int 21)) .nil)))))) (.cons (.cst (.bl false)) .nil))) (.cons (.tup (.cons (.tup (.cons (.cst (.str "pour")) (.cons (.cst (.str "a")) (.cons (.cst (.int 5)) (.cons (.cst (.int 3)) (.cons (.cst (.int 2)) .nil)))))) (.cons (.cst (.bl false)) .nil))) .nil))))))
 (.cons (.set (.var 0) (.bin false .add (.var 0) (.lst false (.cons (.tup (.cons (.tup (.cons (.cst (.str "put")) (.cons (.cst (.int 1)) .nil))) (.cons (.cst (.bl false)) .nil))) (.cons (.tup (.cons (.tup (.cons (.cst (.str "add")) (.cons (.cst (.str "a")) (.cons (.cst (.int 1)) .nil)))) (.cons (.cst (.bl false)) .nil))) (.cons (.tup (.cons (.tup (.cons (.cst (.str "pour")) (.cons (.cst (.str "a")) (.cons (.cst (.int 5)) (.cons (.cst (.int 1)) .nil))))) (.cons (.cst (.bl false)) .nil))) (.cons (.tup (.cons (.lst false (.cons (.cst (.str "tare")) .nil)) (.cons (.cst (.bl false)) .nil))) .nil)))))))
 (.cons (.ret (.bin false .add (.var 0) (.lst false (.cons (.tup (.cons (.tup (.cons (.cst (.str "put")) (.cons (.cst (.bl true)) (.cons (.cst (.int 1)) .nil)))) (.cons (.cst (.bl false)) .nil))) (.cons (.tup (.cons (.tup (.cons (.cst (.str "wait")) (.cons (.cst (.int 1)) (.cons (.cst (.int 2)) .nil)))) (.cons (.cst (.bl false)) .nil))) (.cons (.tup (.cons (.tup .nil) (.cons (.cst (.bl false)) .nil))) (.cons (.tup (.cons (.tup (.cons (.cst .non) .nil)) (.cons (.cst (.bl false)) .nil))) .nil)))))))
 .nil)))))))⟩
-- 30 law_refused_k01(_law_value=0)
def c_law_refused_k01 : Fn := ⟨1, 1, true,
 (.cons (.tryc (.cons (.expr (.call 12 (.cons (.var 0) .nil)))
   .nil) [(1, .ret (.bl true))])
 (.cons (.ret (.cst (.bl false)))
 .nil))⟩
-- 31 law_k01(_law_script=0, _law_k=1, _law_some=2, _law_value=3, _law_good=4, _law_source_here=5, _law_turn=6, _law_values=7, _law_scale_here=8, _law_recipe_here=9, _law_found=10, _law_odd=11, _law_one=12)
def c_law_k01 : Fn := ⟨1, 13, true,
 (.cons (.loop (.tup (.cons (.var 3) (.cons (.var 4) .nil))) (.val (.call 29 .nil))
  (.cons (.ite (.or (.not (.call 16 (.cons (.call 10 (.cons (.var 3) .nil)) (.cons (.var 4) .nil)))) (.not (.call 16 (.cons (.call 11 (.cons (.tup (.cons (.var 3) .nil)) .nil)) (.cons (.var 4) .nil)))))
    (.cons (.ret (.cst (.bl false)))
     .nil)
    .nil)
   .nil))
 (.cons (.loop (.var 1) (.rng (.cst (.int 0)) (.blt false .max2 (.cons (.cst (.int 6)) (.cons (.blt false .min2 (.cons (.cst (.int 20)) (.cons (.blt false .len (.cons (.var 0) .nil)) .nil))) .nil))))
  (.cons (.set (.var 5) (.call 13 (.cons (.var 0) (.cons (.var 1) .nil))))
   (.cons (.set (.tup (.cons (.var 8) (.cons (.var 9) .nil))) (.tup (.cons (.call 25 (.cons (.var 5) .nil)) (.cons (.call 27 (.cons (.var 5) (.cons (.cst (.int 8)) .nil))) .nil))))
   (.cons (.loop (.var 6) (.rng (.cst (.int 0)) (.cst (.int 2)))
    (.cons (.set (.var 10) (.call 12 (.cons (.var 9) .nil)))
     (.cons (.ite (.or (.not (.blt false (.isi .list) (.cons (.var 10) .nil))) (.cmp .ne (.var 10) (.call 28 (.cons (.var 9) .nil))))
      (.cons (.ret (.cst (.bl false)))
       .nil)
      .nil)
     (.cons (.expr (.mth false .append (.var 10) (.cons (.cst (.str "odd")) .nil)))
     .nil))))
   (.cons (.set (.var 7) (.bin true .add (.lst false (.cons (.var 8) (.cons (.blt false .list (.cons (.var 8) .nil)) (.cons (.var 9) (.cons (.blt false .list (.cons (.var 9) .nil)) (.cons (.bin false .mul (.var 9) (.cst (.int 9))) (.cons (.cst .non) (.cons (.tup .nil) (.cons (.cst (.str "a")) .nil))))))))) (.blt false .list (.cons (.var 9) .nil))))
   (.cons (.expr (.mth false .append (.var 7) (.cons (.call 18 (.cons (.var 5) (.cons (.cst (.int 3)) .nil))) .nil)))
   (.cons (.loop (.var 6) (.rng (.cst (.int 0)) (.cst (.int 14)))
    (.cons (.set (.var 11) (.call 19 (.cons (.var 5) (.cons (.ite (.cmp .lt (.var 6) (.cst (.int 5))) (.var 8) (.var 9)) (.cons (.cst (.int 3)) .nil)))))
     (.cons (.expr (.mth false .append (.var 7) (.cons (.var 11) .nil)))
     (.cons (.ite (.and (.blt false (.isi .tuple) (.cons (.var 11) .nil)) (.cmp .eq (.call 14 (.cons (.var 5) (.cons (.cst (.int 3)) .nil))) (.cst (.int 0))))
      (.cons (.expr (.mth false .append (.var 7) (.cons (.call 19 (.cons (.var 5) (.cons (.var 11) (.cons (.cst (.int 3)) .nil)))) .nil)))
       .nil)
      .nil)
     .nil))))
   (.cons (.loop (.var 3) (.val (.var 7))
    (.cons (.set (.var 4) (.call 24 (.cons (.var 3) .nil)))
     (.cons (.ite (.or (.not (.call 16 (.cons (.call 11 (.cons (.var 3) .nil)) (.cons (.var 4) .nil)))) (.cmp .eq (.call 30 (.cons (.var 3) .nil)) (.var 4)))
      (.cons (.ret (.cst (.bl false)))
       .nil)
      .nil)
     (.cons (.ite (.not (.call 16 (.cons (.call 9 (.cons (.var 3) .nil)) (.cons (.call 22 (.cons (.var 3) .nil)) .nil))))
      (.cons (.ret (.cst (.bl false)))
       .nil)
      .nil)
     (.cons (.ite (.not (.call 16 (.cons (.call 10 (.cons (.var 3) .nil)) (.cons (.call 23 (.cons (.var 3) .nil)) .nil))))
      (.cons (.ret (.cst (.bl false)))
       .nil)
      .nil)
     .nil)))))
   .nil))))))))
 (.cons (.set (.var 2) (.lst false (.cons (.tup (.cons (.cst (.int 1)) (.cons (.cst (.str "down")) (.cons (.cst (.int 5)) (.cons (.cst (.str "exact")) .nil))))) (.cons (.tup (.cons (.cst (.int 10)) (.cons (.cst (.str "near")) (.cons (.cst (.int 0)) (.cons (.cst (.str "shown")) .nil))))) (.cons (.tup (.cons (.cst (.int 0)) (.cons (.cst (.str "down")) (.cons (.cst (.int 0)) (.cons (.cst (.str "exact")) .nil))))) (.cons (.tup (.cons (.cst (.int 11)) (.cons (.cst (.str "down")) (.cons (.cst (.int 0)) (.cons (.cst (.str "exact")) .nil))))) .nil))))))
 (.cons (.set (.var 2) (.bin false .add (.var 2) (.lst false (.cons (.tup (.cons (.cst (.int 1)) (.cons (.cst (.str "down")) (.cons (.cst (.int 6)) (.cons (.cst (.str "exact")) .nil))))) (.cons (.tup (.cons (.cst (.int 1)) (.cons (.cst (.str "up")) (.cons (.cst (.int 0)) (.cons (.cst (.str "exact")) .nil))))) (.cons (.tup (.cons (.cst (.int 1)) (.cons (.cst (.str "down")) (.cons (.cst (.int 0)) (.cons (.cst (.str "none")) .nil))))) (.cons (.tup (.cons (.cst (.int 1)) (.cons (.cst (.str "down")) (.cons (.cst (.bl false)) (.cons (.cst (.str "exact")) .nil))))) .nil)))))))
 (.cons (.ret (.cmp .eq (.comp false true [12] (.val (.var 2)) (.cst (.bl true)) (.call 9 (.cons (.var 12) .nil))) (.bin false .add (.bin false .mul (.lst false (.cons (.cst (.bl true)) .nil)) (.cst (.int 2))) (.bin false .mul (.lst false (.cons (.cst (.bl false)) .nil)) (.cst (.int 6))))))
 .nil)))))⟩
-- 32 shows(scale=0, net=1, step=2)
def c_shows : Fn := ⟨2, 3, true,
 (.cons (.set (.var 2) (.idx (.var 0) (.cst (.int 0))))
 (.cons (.ret (.ite (.cmp .eq (.idx (.var 0) (.cst (.int 1))) (.cst (.str "down"))) (.bin false .mul (.var 2) (.bin false .fdiv (.var 1) (.var 2))) (.bin false .mul (.var 2) (.bin false .fdiv (.bin false .add (.bin false .mul (.cst (.int 2)) (.var 1)) (.var 2)) (.bin false .mul (.cst (.int 2)) (.var 2))))))
 .nil))⟩
-- 33 held(scale=0, net=1)
def c_held : Fn := ⟨2, 2, true,
 (.cons (.ret (.ite (.cmp .le (.blt false .abs (.cons (.var 1) .nil)) (.idx (.var 0) (.cst (.int 2)))) (.cst (.int 0)) (.var 1)))
 .nil)⟩
-- 34 after_act(scale=0, net=1, act=2)
def c_after_act : Fn := ⟨3, 3, true,
 (.cons (.ite (.cmp .eq (.var 2) (.cst (.str "tare")))
  (.cons (.ret (.call 33 (.cons (.var 0) (.cons (.ite (.cmp .eq (.idx (.var 0) (.cst (.int 3))) (.cst (.str "exact"))) (.cst (.int 0)) (.bin false .sub (.var 1) (.call 32 (.cons (.var 0) (.cons (.var 1) .nil))))) .nil))))
   .nil)
  .nil)
 (.cons (.ret (.call 33 (.cons (.var 0) (.cons (.bin false .add (.var 1) (.var 2)) .nil))))
 .nil))⟩
-- 35 need_scale(value=0)
def c_need_scale : Fn := ⟨1, 1, true,
 (.cons (.ite (.not (.call 2 (.cons (.var 0) .nil)))
  (.cons (.rais 2)
   .nil)
  .nil)
 .nil)⟩
-- 36 need_net(value=0)
def c_need_net : Fn := ⟨1, 1, true,
 (.cons (.ite (.not (.call 0 (.cons (.var 0) (.cons (.neg (.cst (.int 3000))) (.cons (.cst (.int 3000)) .nil)))))
  (.cons (.rais 3)
   .nil)
  .nil)
 .nil)⟩
-- 37 is_act(value=0)
def c_is_act : Fn := ⟨1, 1, true,
 (.cons (.ret (.or (.call 0 (.cons (.var 0) (.cons (.neg (.cst (.int 300))) (.cons (.cst (.int 300)) .nil)))) (.call 1 (.cons (.var 0) (.cons (.tup (.cons (.cst (.str "tare")) .nil)) .nil)))))
 .nil)⟩
-- 38 need_act(value=0)
def c_need_act : Fn := ⟨1, 1, true,
 (.cons (.ite (.not (.call 37 (.cons (.var 0) .nil)))
  (.cons (.rais 4)
   .nil)
  .nil)
 .nil)⟩
-- 39 shown(scale=0, net=1)
def c_shown : Fn := ⟨2, 2, true,
 (.cons (.expr (.call 35 (.cons (.var 0) .nil)))
 (.cons (.expr (.call 36 (.cons (.var 1) .nil)))
 (.cons (.ret (.call 32 (.cons (.var 0) (.cons (.var 1) .nil))))
 .nil)))⟩
-- 40 net_behind(scale=0, net=1, act=2)
def c_net_behind : Fn := ⟨3, 3, true,
 (.cons (.expr (.call 35 (.cons (.var 0) .nil)))
 (.cons (.expr (.call 36 (.cons (.var 1) .nil)))
 (.cons (.expr (.call 38 (.cons (.var 2) .nil)))
 (.cons (.ret (.call 34 (.cons (.var 0) (.cons (.var 1) (.cons (.var 2) .nil)))))
 .nil))))⟩
-- 41 row_shown_h(scale=0, acts=1, found=2, net=3, act=4) NOT FROZEN
def c_row_shown_h : Fn := ⟨2, 5, false,
 (.cons (.expr (.call 35 (.cons (.var 0) .nil)))
 (.cons (.ite (.or (.not (.blt false (.isi .tuple) (.cons (.var 1) .nil))) (.or (.cmp .gt (.blt false .len (.cons (.var 1) .nil)) (.cst (.int 100))) (.not (.blt false .all (.cons (.comp false true [4] (.val (.var 1)) (.cst (.bl true)) (.call 37 (.cons (.var 4) .nil))) .nil)))))
  (.cons (.rais 4)
   .nil)
  .nil)
 (.cons (.set (.var 2) (.lst true .nil))
 (.cons (.set (.var 3) (.cst (.int 0)))
 (.cons (.loop (.var 4) (.val (.var 1))
  (.cons (.set (.var 3) (.call 34 (.cons (.var 0) (.cons (.var 3) (.cons (.var 4) .nil)))))
   (.cons (.expr (.mth false .append (.var 2) (.cons (.call 32 (.cons (.var 0) (.cons (.var 3) .nil))) .nil)))
   .nil)))
 (.cons (.ret (.var 2))
 .nil))))))⟩
-- 41 row_shown(scale=0, acts=1, found=2, net=3, act=4)
def c_row_shown : Fn := ⟨2, 5, true,
 (.cons (.expr (.call 35 (.cons (.var 0) .nil)))
 (.cons (.ite (.or (.not (.blt false (.isi .tuple) (.cons (.var 1) .nil))) (.or (.cmp .gt (.blt false .len (.cons (.var 1) .nil)) (.cst (.int 100))) (.not (.blt false .all (.cons (.comp false true [4] (.val (.var 1)) (.cst (.bl true)) (.call 37 (.cons (.var 4) .nil))) .nil)))))
  (.cons (.rais 4)
   .nil)
  .nil)
 (.cons (.set (.var 2) (.lst true .nil))
 (.cons (.set (.var 3) (.cst (.int 0)))
 (.cons (.loop (.var 4) (.val (.var 1))
  (.cons (.set (.var 3) (.call 34 (.cons (.var 0) (.cons (.var 3) (.cons (.var 4) .nil)))))
   (.cons (.expr (.mth false .append (.var 2) (.cons (.call 32 (.cons (.var 0) (.cons (.var 3) .nil))) .nil)))
   .nil)))
 (.cons (.ret (.var 2))
 .nil))))))⟩
-- 42 law_shows_k11(_law_scale_here=0, _law_net_here=1, _law_step=2, _law_low=3)
def c_law_shows_k11 : Fn := ⟨2, 4, true,
 (.cons (.set (.var 2) (.idx (.var 0) (.cst (.int 0))))
 (.cons (.set (.var 3) (.bin false .sub (.var 1) (.bin false .mod (.var 1) (.var 2))))
 (.cons (.ite (.and (.cmp .eq (.idx (.var 0) (.cst (.int 1))) (.cst (.str "near"))) (.cmp .ge (.bin false .mul (.cst (.int 2)) (.bin false .sub (.var 1) (.var 3))) (.var 2)))
  (.cons (.ret (.bin false .add (.var 3) (.var 2)))
   .nil)
  .nil)
 (.cons (.ret (.var 3))
 .nil))))⟩
-- 43 law_net(_law_scale_here=0, _law_net_here=1, _law_act=2)
def c_law_net : Fn := ⟨3, 3, true,
 (.cons (.ite (.cmp .ne (.var 2) (.cst (.str "tare")))
  (.cons (.set (.var 1) (.bin false .add (.var 1) (.var 2)))
   .nil)
  (.cons (.ite (.cmp .eq (.idx (.var 0) (.cst (.int 3))) (.cst (.str "exact")))
    (.cons (.set (.var 1) (.cst (.int 0)))
     .nil)
    (.cons (.set (.var 1) (.bin false .sub (.var 1) (.call 42 (.cons (.var 0) (.cons (.var 1) .nil)))))
     .nil))
   .nil))
 (.cons (.ret (.ite (.or (.cmp .gt (.var 1) (.idx (.var 0) (.cst (.int 2)))) (.cmp .lt (.var 1) (.neg (.idx (.var 0) (.cst (.int 2)))))) (.var 1) (.cst (.int 0))))
 .nil))⟩
-- 44 law_outcome_k11(_law_call=0, _law_scale_here=1, _law_value=2, _law_act=3) NOT FROZEN
def c_law_outcome_k11 : Fn := ⟨4, 4, false,
 (.cons (.tryc (.cons (.ite (.cmp .eq (.var 0) (.cst (.int 0)))
    (.cons (.ret (.call 39 (.cons (.var 1) (.cons (.var 2) .nil))))
     .nil)
    .nil)
   (.cons (.ret (.ite (.cmp .eq (.var 0) (.cst (.int 1))) (.call 40 (.cons (.var 1) (.cons (.var 2) (.cons (.var 3) .nil)))) (.call 41 (.cons (.var 1) (.cons (.var 3) .nil)))))
   .nil)) [(2, .ret (.str "scale!")), (3, .ret (.str "net!")), (4, .ret (.str "act!"))])
 .nil)⟩
-- 45 law_refuses_k11(_law_scale_here=0, _law_odd=1)
def c_law_refuses_k11 : Fn := ⟨1, 2, true,
 (.cons (.loop (.var 1) (.val (.lst false (.cons (.cst .non) (.cons (.cst (.int 3001)) (.cons (.neg (.cst (.int 3001))) (.cons (.cst (.str "5")) (.cons (.cst (.bl true)) (.cons (.tup (.cons (.cst (.int 5)) .nil)) .nil))))))))
  (.cons (.ite (.or (.cmp .ne (.call 44 (.cons (.cst (.int 0)) (.cons (.var 0) (.cons (.var 1) (.cons (.cst .non) .nil))))) (.cst (.str "net!"))) (.cmp .ne (.call 44 (.cons (.cst (.int 1)) (.cons (.var 0) (.cons (.var 1) (.cons (.cst (.str "odd")) .nil))))) (.cst (.str "net!"))))
    (.cons (.ret (.cst (.bl false)))
     .nil)
    .nil)
   .nil))
 (.cons (.loop (.var 1) (.val (.lst false (.cons (.cst .non) (.cons (.cst (.int 301)) (.cons (.neg (.cst (.int 301))) (.cons (.cst (.str "Tare")) (.cons (.cst (.bl true)) (.cons (.tup (.cons (.cst (.int 1)) .nil)) (.cons (.tup (.cons (.cst (.str "tare")) .nil)) .nil)))))))))
  (.cons (.ite (.or (.cmp .ne (.call 44 (.cons (.cst (.int 1)) (.cons (.var 0) (.cons (.cst (.int 0)) (.cons (.var 1) .nil))))) (.cst (.str "act!"))) (.cmp .ne (.call 44 (.cons (.cst (.int 2)) (.cons (.var 0) (.cons (.cst (.int 0)) (.cons (.tup (.cons (.cst (.int 1)) (.cons (.var 1) .nil))) .nil))))) (.cst (.str "act!"))))
    (.cons (.ret (.cst (.bl false)))
     .nil)
    .nil)
   .nil))
 (.cons (.ite (.or (.cmp .ne (.call 44 (.cons (.cst (.int 2)) (.cons (.var 0) (.cons (.cst (.int 0)) (.cons (.lst false (.cons (.cst (.int 1)) .nil)) .nil))))) (.cst (.str "act!"))) (.cmp .ne (.call 44 (.cons (.cst (.int 2)) (.cons (.var 0) (.cons (.cst (.int 0)) (.cons (.bin false .mul (.tup (.cons (.cst (.int 1)) .nil)) (.cst (.int 101))) .nil))))) (.cst (.str "act!"))))
  (.cons (.ret (.cst (.bl false)))
   .nil)
  .nil)
 (.cons (.ret (.cmp .eq (.call 44 (.cons (.cst (.int 0)) (.cons (.blt false .list (.cons (.var 0) .nil)) (.cons (.cst .non) (.cons (.cst .non) .nil))))) (.cst (.str "scale!"))))
 .nil))))⟩
-- 46 law_k11(_law_script=0, _law_k=1, _law_some=2, _law_source_here=3, _law_scale_here=4, _law_turn=5, _law_wide=6, _law_net_here=7, _law_act=8, _law_acts=9, _law_due=10, _law_found=11)
def c_law_k11 : Fn := ⟨1, 12, true,
 (.cons (.loop (.var 1) (.rng (.cst (.int 0)) (.blt false .max2 (.cons (.cst (.int 6)) (.cons (.blt false .min2 (.cons (.cst (.int 24)) (.cons (.blt false .len (.cons (.var 0) .nil)) .nil))) .nil))))
  (.cons (.set (.var 3) (.call 13 (.cons (.var 0) (.cons (.var 1) .nil))))
   (.cons (.set (.var 4) (.call 25 (.cons (.var 3) .nil)))
   (.cons (.loop (.var 5) (.rng (.cst (.int 0)) (.cst (.int 12)))
    (.cons (.set (.var 6) (.call 15 (.cons (.var 3) (.cons (.lst false (.cons (.cst (.int 12)) (.cons (.cst (.int 12)) (.cons (.cst (.int 40)) (.cons (.cst (.int 3000)) .nil))))) .nil))))
     (.cons (.set (.var 7) (.bin false .sub (.call 14 (.cons (.var 3) (.cons (.bin false .add (.bin false .mul (.cst (.int 2)) (.var 6)) (.cst (.int 1))) .nil))) (.var 6)))
     (.cons (.set (.var 2) (.lst false (.cons (.cst (.str "tare")) (.cons (.cst (.str "tare")) (.cons (.bin false .sub (.call 14 (.cons (.var 3) (.cons (.cst (.int 601)) .nil))) (.cst (.int 300))) (.cons (.bin false .sub (.call 14 (.cons (.var 3) (.cons (.cst (.int 13)) .nil))) (.cst (.int 6))) (.cons (.bin false .mod (.neg (.var 7)) (.cst (.int 300))) .nil)))))))
     (.cons (.set (.var 8) (.call 15 (.cons (.var 3) (.cons (.var 2) .nil))))
     (.cons (.ite (.cmp .ne (.call 44 (.cons (.cst (.int 0)) (.cons (.var 4) (.cons (.var 7) (.cons (.cst .non) .nil))))) (.call 42 (.cons (.var 4) (.cons (.var 7) .nil))))
      (.cons (.ret (.cst (.bl false)))
       .nil)
      .nil)
     (.cons (.ite (.cmp .ne (.call 44 (.cons (.cst (.int 1)) (.cons (.var 4) (.cons (.var 7) (.cons (.var 8) .nil))))) (.call 43 (.cons (.var 4) (.cons (.var 7) (.cons (.var 8) .nil)))))
      (.cons (.ret (.cst (.bl false)))
       .nil)
      .nil)
     .nil)))))))
   (.cons (.set (.tup (.cons (.var 9) (.cons (.var 7) (.cons (.var 10) .nil)))) (.tup (.cons (.tup .nil) (.cons (.cst (.int 0)) (.cons (.lst true .nil) .nil)))))
   (.cons (.loop (.var 5) (.rng (.cst (.int 0)) (.call 15 (.cons (.var 3) (.cons (.lst false (.cons (.cst (.int 0)) (.cons (.cst (.int 3)) (.cons (.cst (.int 12)) (.cons (.cst (.int 100)) .nil))))) .nil))))
    (.cons (.set (.var 8) (.call 15 (.cons (.var 3) (.cons (.lst false (.cons (.cst (.str "tare")) (.cons (.bin false .sub (.call 14 (.cons (.var 3) (.cons (.cst (.int 601)) .nil))) (.cst (.int 300))) (.cons (.bin false .sub (.call 14 (.cons (.var 3) (.cons (.cst (.int 13)) .nil))) (.cst (.int 6))) .nil)))) .nil))))
     (.cons (.set (.tup (.cons (.var 9) (.cons (.var 7) .nil))) (.tup (.cons (.bin false .add (.var 9) (.tup (.cons (.var 8) .nil))) (.cons (.call 43 (.cons (.var 4) (.cons (.var 7) (.cons (.var 8) .nil)))) .nil))))
     (.cons (.expr (.mth false .append (.var 10) (.cons (.call 42 (.cons (.var 4) (.cons (.var 7) .nil))) .nil)))
     .nil))))
   (.cons (.loop (.var 5) (.rng (.cst (.int 0)) (.cst (.int 2)))
    (.cons (.set (.var 11) (.call 44 (.cons (.cst (.int 2)) (.cons (.var 4) (.cons (.cst .non) (.cons (.var 9) .nil))))))
     (.cons (.ite (.or (.not (.blt false (.isi .list) (.cons (.var 11) .nil))) (.cmp .ne (.var 11) (.var 10)))
      (.cons (.ret (.cst (.bl false)))
       .nil)
      .nil)
     (.cons (.expr (.mth false .append (.var 11) (.cons (.cst (.str "odd")) .nil)))
     .nil))))
   (.cons (.ite (.not (.call 45 (.cons (.var 4) .nil)))
    (.cons (.ret (.cst (.bl false)))
     .nil)
    .nil)
   .nil))))))))
 (.cons (.set (.var 2) (.lst false (.cons (.call 39 (.cons (.tup (.cons (.cst (.int 10)) (.cons (.cst (.str "near")) (.cons (.cst (.int 0)) (.cons (.cst (.str "exact")) .nil))))) (.cons (.cst (.int 5)) .nil))) (.cons (.call 39 (.cons (.tup (.cons (.cst (.int 10)) (.cons (.cst (.str "near")) (.cons (.cst (.int 0)) (.cons (.cst (.str "exact")) .nil))))) (.cons (.neg (.cst (.int 5))) .nil))) (.cons (.call 39 (.cons (.tup (.cons (.cst (.int 3)) (.cons (.cst (.str "down")) (.cons (.cst (.int 5)) (.cons (.cst (.str "exact")) .nil))))) (.cons (.neg (.cst (.int 1))) .nil))) .nil)))))
 (.cons (.ret (.and (.cmp .eq (.var 2) (.lst false (.cons (.cst (.int 10)) (.cons (.cst (.int 0)) (.cons (.neg (.cst (.int 3))) .nil))))) (.cmp .eq (.call 40 (.cons (.tup (.cons (.cst (.int 4)) (.cons (.cst (.str "near")) (.cons (.cst (.int 1)) (.cons (.cst (.str "shown")) .nil))))) (.cons (.cst (.int 6)) (.cons (.cst (.str "tare")) .nil)))) (.neg (.cst (.int 2))))))
 .nil)))⟩
-- 47 law_k12(_law_script=0, _law_k=1, _law_source_here=2, _law_turn=3, _law_step=4, _law_rounding=5, _law_hold=6, _law_tare=7, _law_scale_here=8, _law_net=9, _law_acts=10, _law_some=11, _law_act=12, _law_later=13, _law_told=14)
def c_law_k12 : Fn := ⟨1, 15, true,
 (.cons (.loop (.var 1) (.rng (.cst (.int 0)) (.blt false .max2 (.cons (.cst (.int 6)) (.cons (.blt false .min2 (.cons (.cst (.int 24)) (.cons (.blt false .len (.cons (.var 0) .nil)) .nil))) .nil))))
  (.cons (.set (.var 2) (.call 13 (.cons (.var 0) (.cons (.var 1) .nil))))
   (.cons (.set (.tup (.cons (.var 4) (.cons (.var 5) (.cons (.var 6) (.cons (.var 7) .nil))))) (.call 25 (.cons (.var 2) .nil)))
   (.cons (.set (.tup (.cons (.var 8) (.cons (.var 9) (.cons (.var 10) .nil)))) (.tup (.cons (.tup (.cons (.var 4) (.cons (.var 5) (.cons (.var 6) (.cons (.var 7) .nil))))) (.cons (.cst (.int 0)) (.cons (.tup .nil) .nil)))))
   (.cons (.loop (.var 3) (.rng (.cst (.int 0)) (.bin false .add (.cst (.int 12)) (.call 14 (.cons (.var 2) (.cons (.cst (.int 20)) .nil)))))
    (.cons (.set (.var 11) (.lst false (.cons (.cst (.str "tare")) (.cons (.call 14 (.cons (.var 2) (.cons (.cst (.int 301)) .nil))) (.cons (.neg (.call 14 (.cons (.var 2) (.cons (.cst (.int 90)) .nil)))) (.cons (.bin false .sub (.call 14 (.cons (.var 2) (.cons (.cst (.int 13)) .nil))) (.cst (.int 6))) .nil))))))
     (.cons (.set (.var 12) (.call 15 (.cons (.var 2) (.cons (.var 11) .nil))))
     (.cons (.ite (.and (.cmp .ne (.var 12) (.cst (.str "tare"))) (.not (.chain .le .le (.neg (.cst (.int 3000))) (.bin false .add (.var 9) (.var 12)) (.cst (.int 3000)))))
      (.cons (.set (.var 12) (.cst (.str "tare")))
       .nil)
      .nil)
     (.cons (.set (.var 13) (.call 40 (.cons (.var 8) (.cons (.var 9) (.cons (.var 12) .nil)))))
     (.cons (.ite (.or (.not (.blt false (.isi .int) (.cons (.var 13) .nil))) (.or (.blt false (.isi .bool) (.cons (.var 13) .nil)) (.chain .lt .le (.cst (.int 0)) (.blt false .max2 (.cons (.var 13) (.cons (.neg (.var 13)) .nil))) (.var 6))))
      (.cons (.ret (.cst (.bl false)))
       .nil)
      .nil)
     (.cons (.ite (.and (.cmp .ne (.var 12) (.cst (.str "tare"))) (.cmp .notin (.var 13) (.tup (.cons (.cst (.int 0)) (.cons (.bin false .add (.var 9) (.var 12)) .nil)))))
      (.cons (.ret (.cst (.bl false)))
       .nil)
      .nil)
     (.cons (.set (.var 14) (.call 39 (.cons (.var 8) (.cons (.var 13) .nil))))
     (.cons (.ite (.or (.cmp .ne (.bin false .mod (.var 14) (.var 4)) (.cst (.int 0))) (.and (.cmp .eq (.var 5) (.cst (.str "down"))) (.not (.chain .le .lt (.cst (.int 0)) (.bin false .sub (.var 13) (.var 14)) (.var 4)))))
      (.cons (.ret (.cst (.bl false)))
       .nil)
      .nil)
     (.cons (.ite (.and (.cmp .eq (.var 5) (.cst (.str "near"))) (.not (.chain .le .lt (.neg (.var 4)) (.bin false .mul (.cst (.int 2)) (.bin false .sub (.var 13) (.var 14))) (.var 4))))
      (.cons (.ret (.cst (.bl false)))
       .nil)
      .nil)
     (.cons (.ite (.and (.cmp .eq (.var 12) (.cst (.str "tare"))) (.or (.and (.cmp .eq (.var 7) (.cst (.str "exact"))) (.cmp .ne (.var 13) (.cst (.int 0)))) (.and (.cmp .ne (.var 14) (.cst (.int 0))) (.cmp .gt (.var 4) (.cst (.int 1))))))
      (.cons (.ret (.cst (.bl false)))
       .nil)
      .nil)
     (.cons (.ite (.and (.cmp .eq (.var 4) (.cst (.int 1))) (.cmp .ne (.var 14) (.var 13)))
      (.cons (.ret (.cst (.bl false)))
       .nil)
      .nil)
     (.cons (.set (.tup (.cons (.var 10) (.cons (.var 9) .nil))) (.tup (.cons (.bin false .add (.var 10) (.tup (.cons (.var 12) .nil))) (.cons (.var 13) .nil))))
     (.cons (.ite (.or (.cmp .ne (.idx (.call 41 (.cons (.var 8) (.cons (.var 10) .nil))) (.neg (.cst (.int 1)))) (.var 14)) (.cmp .ne (.blt false .len (.cons (.call 41 (.cons (.var 8) (.cons (.var 10) .nil))) .nil)) (.blt false .len (.cons (.var 10) .nil))))
      (.cons (.ret (.cst (.bl false)))
       .nil)
      .nil)
     .nil))))))))))))))
   .nil)))))
 (.cons (.ret (.cmp .eq (.call 41 (.cons (.tup (.cons (.cst (.int 7)) (.cons (.cst (.str "near")) (.cons (.cst (.int 3)) (.cons (.cst (.str "exact")) .nil))))) (.cons (.tup (.cons (.cst (.int 3)) (.cons (.cst (.int 4)) (.cons (.neg (.cst (.int 3))) (.cons (.cst (.int 300)) .nil))))) .nil))) (.lst false (.cons (.cst (.int 0)) (.cons (.cst (.int 7)) (.cons (.cst (.int 0)) (.cons (.cst (.int 301)) .nil)))))))
 .nil))⟩
-- 48 ready(scale=0, recipe=1, index=2, net=3, deed=4)
def c_ready : Fn := ⟨4, 5, true,
 (.cons (.whil (.cmp .lt (.var 2) (.blt false .len (.cons (.var 1) .nil)))
  (.cons (.set (.var 4) (.idx (.var 1) (.var 2)))
   (.cons (.ite (.cmp .eq (.idx (.var 4) (.cst (.int 0))) (.cst (.str "tare")))
    (.cons (.set (.var 3) (.call 34 (.cons (.var 0) (.cons (.var 3) (.cons (.cst (.str "tare")) .nil)))))
     .nil)
    (.cons (.ite (.or (.cmp .ne (.idx (.var 4) (.cst (.int 0))) (.cst (.str "pour"))) (.cmp .lt (.call 32 (.cons (.var 0) (.cons (.var 3) .nil))) (.idx (.var 4) (.cst (.int 2)))))
      (.cons (.ret (.tup (.cons (.var 2) (.cons (.var 3) .nil))))
       .nil)
      .nil)
     .nil))
   (.cons (.set (.var 2) (.bin false .add (.var 2) (.cst (.int 1))))
   .nil))))
 (.cons (.ret (.tup (.cons (.var 2) (.cons (.var 3) .nil))))
 .nil))⟩
-- 49 first_stand(scale=0, recipe=1)
def c_first_stand : Fn := ⟨2, 2, true,
 (.cons (.ret (.call 48 (.cons (.var 0) (.cons (.var 1) (.cons (.cst (.int 0)) (.cons (.cst (.int 0)) .nil))))))
 .nil)⟩
-- 50 bounds_at(recipe=0, index=1, deed=2)
def c_bounds_at : Fn := ⟨2, 3, true,
 (.cons (.set (.var 2) (.idx (.var 0) (.var 1)))
 (.cons (.ret (.tup (.cons (.idx (.var 2) (.bin false .sub (.blt false .len (.cons (.var 2) .nil)) (.cst (.int 2)))) (.cons (.idx (.var 2) (.bin false .sub (.blt false .len (.cons (.var 2) .nil)) (.cst (.int 1)))) .nil))))
 .nil))⟩
-- 51 stand_behind(scale=0, recipe=1, stand=2, number=3, deed=4, net=5, index=6)
def c_stand_behind : Fn := ⟨4, 7, true,
 (.cons (.set (.tup (.cons (.var 6) (.cons (.var 5) .nil))) (.var 2))
 (.cons (.set (.var 4) (.idx (.var 1) (.var 6)))
 (.cons (.set (.var 5) (.call 34 (.cons (.var 0) (.cons (.var 5) (.cons (.ite (.cmp .eq (.idx (.var 4) (.cst (.int 0))) (.cst (.str "lift"))) (.bin false .sub (.cst (.int 0)) (.var 3)) (.var 3)) .nil)))))
 (.cons (.ite (.and (.cmp .eq (.idx (.var 4) (.cst (.int 0))) (.cst (.str "pour"))) (.cmp .lt (.call 32 (.cons (.var 0) (.cons (.var 5) .nil))) (.idx (.var 4) (.cst (.int 2)))))
  (.cons (.ret (.tup (.cons (.var 6) (.cons (.var 5) .nil))))
   .nil)
  .nil)
 (.cons (.ret (.call 48 (.cons (.var 0) (.cons (.var 1) (.cons (.bin false .add (.var 6) (.cst (.int 1))) (.cons (.var 5) .nil))))))
 .nil)))))⟩
-- 52 is_let(recipe=0, stand=1, number=2, low=3, high=4)
def c_is_let : Fn := ⟨3, 5, true,
 (.cons (.ite (.cmp .eq (.idx (.var 1) (.cst (.int 0))) (.blt false .len (.cons (.var 0) .nil)))
  (.cons (.ret (.cst (.bl false)))
   .nil)
  .nil)
 (.cons (.set (.tup (.cons (.var 3) (.cons (.var 4) .nil))) (.call 50 (.cons (.var 0) (.cons (.idx (.var 1) (.cst (.int 0))) .nil))))
 (.cons (.ret (.call 0 (.cons (.var 2) (.cons (.var 3) (.cons (.var 4) .nil)))))
 .nil)))⟩
-- 53 stands_of(scale=0, recipe=1, value=2, stand=3, found=4, number=5)
def c_stands_of : Fn := ⟨3, 6, true,
 (.cons (.set (.var 3) (.call 49 (.cons (.var 0) (.cons (.var 1) .nil))))
 (.cons (.set (.var 4) (.lst true (.cons (.var 3) .nil)))
 (.cons (.ite (.not (.blt false (.isi .tuple) (.cons (.var 2) .nil)))
  (.cons (.ret (.cst .non))
   .nil)
  .nil)
 (.cons (.loop (.var 5) (.val (.var 2))
  (.cons (.ite (.not (.call 52 (.cons (.var 1) (.cons (.var 3) (.cons (.var 5) .nil)))))
    (.cons (.ret (.cst .non))
     .nil)
    .nil)
   (.cons (.set (.var 3) (.call 51 (.cons (.var 0) (.cons (.var 1) (.cons (.var 3) (.cons (.var 5) .nil))))))
   (.cons (.expr (.mth false .append (.var 4) (.cons (.var 3) .nil)))
   .nil))))
 (.cons (.ret (.var 4))
 .nil)))))⟩
-- 54 amount_in(recipe=0, name=1, stands=2, run=3, found=4, stand=5, number=6, deed=7)
def c_amount_in : Fn := ⟨4, 8, true,
 (.cons (.set (.var 4) (.cst (.int 0)))
 (.cons (.loop (.tup (.cons (.var 5) (.cons (.var 6) .nil))) (.zip (.var 2) (.var 3))
  (.cons (.set (.var 7) (.idx (.var 0) (.idx (.var 5) (.cst (.int 0)))))
   (.cons (.ite (.and (.cmp .isin (.idx (.var 7) (.cst (.int 0))) (.tup (.cons (.cst (.str "add")) (.cons (.cst (.str "pour")) .nil)))) (.cmp .eq (.idx (.var 7) (.cst (.int 1))) (.var 1)))
    (.cons (.set (.var 4) (.bin false .add (.var 4) (.var 6)))
     .nil)
    .nil)
   .nil)))
 (.cons (.ret (.var 4))
 .nil)))⟩
-- 55 need_run(scale=0, recipe=1, value=2, found=3)
def c_need_run : Fn := ⟨3, 4, true,
 (.cons (.set (.var 3) (.call 53 (.cons (.var 0) (.cons (.var 1) (.cons (.var 2) .nil)))))
 (.cons (.ite (.isN (.var 3))
  (.cons (.rais 5)
   .nil)
  .nil)
 (.cons (.ret (.var 3))
 .nil)))⟩
-- 56 is_run(scale=0, recipe=1, value=2)
def c_is_run : Fn := ⟨3, 3, true,
 (.cons (.expr (.call 35 (.cons (.var 0) .nil)))
 (.cons (.expr (.call 8 (.cons (.var 1) .nil)))
 (.cons (.ret (.and (.notN (.call 53 (.cons (.var 0) (.cons (.var 1) (.cons (.var 2) .nil))))) (.cmp .le (.blt false .len (.cons (.var 2) .nil)) (.cst (.int 600)))))
 .nil)))⟩
-- 57 state(scale=0, recipe=1, run=2, stands=3, pairs=4, name=5)
def c_state : Fn := ⟨3, 6, true,
 (.cons (.expr (.call 35 (.cons (.var 0) .nil)))
 (.cons (.expr (.call 8 (.cons (.var 1) .nil)))
 (.cons (.set (.var 3) (.call 55 (.cons (.var 0) (.cons (.var 1) (.cons (.var 2) .nil)))))
 (.cons (.set (.var 4) (.comp false true [5] (.val (.call 7 (.cons (.var 1) .nil))) (.cst (.bl true)) (.tup (.cons (.var 5) (.cons (.call 54 (.cons (.var 1) (.cons (.var 5) (.cons (.var 3) (.cons (.var 2) .nil))))) .nil)))))
 (.cons (.ret (.bin false .add (.idx (.var 3) (.bin false .sub (.blt false .len (.cons (.var 3) .nil)) (.cst (.int 1)))) (.tup (.cons (.blt false .tuple (.cons (.var 4) .nil)) .nil))))
 .nil)))))⟩
-- 58 law_ready(_law_scale_here=0, _law_recipe_here=1, _law_index=2, _law_net_here=3, _law_deed_here=4)
def c_law_ready : Fn := ⟨4, 5, true,
 (.cons (.ite (.cmp .eq (.var 2) (.blt false .len (.cons (.var 1) .nil)))
  (.cons (.ret (.tup (.cons (.var 2) (.cons (.var 3) .nil))))
   .nil)
  .nil)
 (.cons (.set (.var 4) (.idx (.var 1) (.var 2)))
 (.cons (.ite (.cmp .eq (.idx (.var 4) (.cst (.int 0))) (.cst (.str "tare")))
  (.cons (.ret (.call 58 (.cons (.var 0) (.cons (.var 1) (.cons (.bin false .add (.var 2) (.cst (.int 1))) (.cons (.call 43 (.cons (.var 0) (.cons (.var 3) (.cons (.cst (.str "tare")) .nil)))) .nil))))))
   .nil)
  .nil)
 (.cons (.ite (.and (.cmp .eq (.idx (.var 4) (.cst (.int 0))) (.cst (.str "pour"))) (.cmp .ge (.call 42 (.cons (.var 0) (.cons (.var 3) .nil))) (.idx (.var 4) (.cst (.int 2)))))
  (.cons (.ret (.call 58 (.cons (.var 0) (.cons (.var 1) (.cons (.bin false .add (.var 2) (.cst (.int 1))) (.cons (.var 3) .nil))))))
   .nil)
  .nil)
 (.cons (.ret (.tup (.cons (.var 2) (.cons (.var 3) .nil))))
 .nil)))))⟩
-- 59 law_on(_law_scale_here=0, _law_recipe_here=1, _law_here=2, _law_number=3, _law_deed_here=4, _law_net_here=5, _law_index=6)
def c_law_on : Fn := ⟨4, 7, true,
 (.cons (.set (.tup (.cons (.var 6) (.cons (.var 5) .nil))) (.var 2))
 (.cons (.set (.var 4) (.idx (.var 1) (.var 6)))
 (.cons (.set (.var 5) (.call 43 (.cons (.var 0) (.cons (.var 5) (.cons (.ite (.cmp .eq (.idx (.var 4) (.cst (.int 0))) (.cst (.str "lift"))) (.neg (.var 3)) (.var 3)) .nil)))))
 (.cons (.ite (.cmp .eq (.idx (.var 4) (.cst (.int 0))) (.cst (.str "pour")))
  (.cons (.ret (.call 58 (.cons (.var 0) (.cons (.var 1) (.cons (.var 6) (.cons (.var 5) .nil))))))
   .nil)
  .nil)
 (.cons (.ret (.call 58 (.cons (.var 0) (.cons (.var 1) (.cons (.bin false .add (.var 6) (.cst (.int 1))) (.cons (.var 5) .nil))))))
 .nil)))))⟩
-- 60 law_lets: not in the core
-- 61 law_counted(_law_recipe_here=0, _law_here=1, _law_number=2, _law_what=3, _law_deed_here=4)
def c_law_counted : Fn := ⟨4, 5, true,
 (.cons (.set (.var 4) (.idx (.var 0) (.idx (.var 1) (.cst (.int 0)))))
 (.cons (.ite (.or (.cmp .notin (.idx (.var 4) (.cst (.int 0))) (.tup (.cons (.cst (.str "add")) (.cons (.cst (.str "pour")) .nil)))) (.and (.blt false (.isi .str) (.cons (.var 3) .nil)) (.cmp .ne (.idx (.var 4) (.cst (.int 1))) (.var 3))))
  (.cons (.ret (.cst (.int 0)))
   .nil)
  .nil)
 (.cons (.ret (.ite (.or (.blt false (.isi .str) (.cons (.var 3) .nil)) (.cmp .eq (.var 3) (.idx (.var 1) (.cst (.int 0))))) (.var 2) (.cst (.int 0))))
 .nil)))⟩
-- 62 law_run(_law_source_here=0, _law_scale_here=1, _law_recipe_here=2, _law_most=3, _law_turn=4, _law_here=5, _law_found=6, _law_lets_here=7, _law_number=8) NOT FROZEN
def c_law_run : Fn := ⟨4, 9, false,
 (.cons (.set (.tup (.cons (.var 5) (.cons (.var 6) .nil))) (.tup (.cons (.call 58 (.cons (.var 1) (.cons (.var 2) (.cons (.cst (.int 0)) (.cons (.cst (.int 0)) .nil))))) (.cons (.tup .nil) .nil))))
 (.cons (.loop (.var 4) (.rng (.cst (.int 0)) (.call 14 (.cons (.var 0) (.cons (.bin false .add (.var 3) (.cst (.int 1))) .nil))))
  (.cons (.set (.var 7) (.call 60 (.cons (.var 2) (.cons (.var 5) .nil))))
   (.cons (.ite (.cmp .ne (.var 7) (.lst false .nil))
    (.cons (.set (.var 8) (.call 15 (.cons (.var 0) (.cons (.var 7) .nil))))
     (.cons (.set (.tup (.cons (.var 6) (.cons (.var 5) .nil))) (.tup (.cons (.bin false .add (.var 6) (.tup (.cons (.var 8) .nil))) (.cons (.call 59 (.cons (.var 1) (.cons (.var 2) (.cons (.var 5) (.cons (.var 8) .nil))))) .nil))))
     .nil))
    .nil)
   .nil)))
 (.cons (.ret (.var 6))
 .nil)))⟩
-- 63 law_path_k21(_law_scale_here=0, _law_recipe_here=1, _law_run_here=2, _law_here=3, _law_found=4, _law_number=5)
def c_law_path_k21 : Fn := ⟨3, 6, true,
 (.cons (.set (.var 3) (.call 58 (.cons (.var 0) (.cons (.var 1) (.cons (.cst (.int 0)) (.cons (.cst (.int 0)) .nil))))))
 (.cons (.set (.var 4) (.lst true (.cons (.var 3) .nil)))
 (.cons (.loop (.var 5) (.val (.var 2))
  (.cons (.ite (.or (.blt false (.isi .bool) (.cons (.var 5) .nil)) (.cmp .notin (.var 5) (.call 60 (.cons (.var 1) (.cons (.var 3) .nil)))))
    (.cons (.ret (.cst .non))
     .nil)
    .nil)
   (.cons (.set (.var 3) (.call 59 (.cons (.var 0) (.cons (.var 1) (.cons (.var 3) (.cons (.var 5) .nil))))))
   (.cons (.expr (.mth false .append (.var 4) (.cons (.var 3) .nil)))
   .nil))))
 (.cons (.ret (.var 4))
 .nil))))⟩
-- 64 law_amount_k21(_law_recipe_here=0, _law_path_here=1, _law_run_here=2, _law_what=3, _law_here=4, _law_number=5)
def c_law_amount_k21 : Fn := ⟨4, 6, true,
 (.cons (.ret (.blt false .sum (.cons (.comp false false [4, 5] (.zip (.var 1) (.var 2)) (.cst (.bl true)) (.call 61 (.cons (.var 0) (.cons (.var 4) (.cons (.var 5) (.cons (.var 3) .nil)))))) .nil)))
 .nil)⟩
-- 65 law_outcome_k21(_law_scale_here=0, _law_recipe_here=1, _law_run_here=2)
def c_law_outcome_k21 : Fn := ⟨3, 3, true,
 (.cons (.tryc (.cons (.ret (.call 57 (.cons (.var 0) (.cons (.var 1) (.cons (.var 2) .nil)))))
   .nil) [(2, .ret (.str "scale!")), (1, .ret (.str "recipe!")), (5, .ret (.str "run!"))])
 .nil)⟩
-- 66 law_k21(_law_script=0, _law_k=1, _law_deeds=2, _law_source_here=3, _law_turn=4, _law_slow=5, _law_drip=6, _law_run_here=7, _law_path_here=8, _law_pairs=9, _law_values=10, _law_more=11, _law_value=12, _law_scale_here=13, _law_recipe_here=14, _law_at=15, _law_good=16, _law_name=17)
def c_law_k21 : Fn := ⟨1, 18, true,
 (.cons (.loop (.var 1) (.rng (.cst (.int 0)) (.blt false .max2 (.cons (.cst (.int 6)) (.cons (.blt false .min2 (.cons (.cst (.int 20)) (.cons (.blt false .len (.cons (.var 0) .nil)) .nil))) .nil))))
  (.cons (.set (.var 3) (.call 13 (.cons (.var 0) (.cons (.var 1) .nil))))
   (.cons (.loop (.var 4) (.rng (.cst (.int 0)) (.cst (.int 5)))
    (.cons (.set (.tup (.cons (.var 13) (.cons (.var 14) .nil))) (.tup (.cons (.call 25 (.cons (.var 3) .nil)) (.cons (.call 27 (.cons (.var 3) (.cons (.cst (.int 8)) .nil))) .nil))))
     (.cons (.set (.var 7) (.call 62 (.cons (.var 3) (.cons (.var 13) (.cons (.var 14) (.cons (.idx (.lst false (.cons (.cst (.int 6)) (.cons (.cst (.int 30)) .nil))) (.call 14 (.cons (.var 3) (.cons (.cst (.int 2)) .nil)))) .nil))))))
     (.cons (.set (.var 8) (.call 63 (.cons (.var 13) (.cons (.var 14) (.cons (.var 7) .nil)))))
     (.cons (.set (.var 9) (.comp false true [17] (.val (.call 28 (.cons (.var 14) .nil))) (.cst (.bl true)) (.tup (.cons (.var 17) (.cons (.call 64 (.cons (.var 14) (.cons (.var 8) (.cons (.var 7) (.cons (.var 17) .nil))))) .nil)))))
     (.cons (.ite (.cmp .ne (.call 65 (.cons (.var 13) (.cons (.var 14) (.cons (.var 7) .nil)))) (.bin false .add (.idx (.var 8) (.neg (.cst (.int 1)))) (.tup (.cons (.blt false .tuple (.cons (.var 9) .nil)) .nil))))
      (.cons (.ret (.cst (.bl false)))
       .nil)
      .nil)
     (.cons (.set (.var 10) (.lst true (.cons (.var 7) (.cons (.blt false .list (.cons (.var 7) .nil)) (.cons (.bin false .add (.var 7) (.tup (.cons (.cst (.int 0)) .nil))) (.cons (.bin false .add (.var 7) (.tup (.cons (.cst (.int 1)) .nil))) (.cons (.cst .non) (.cons (.cst (.str "a")) (.cons (.bin false .add (.var 7) (.tup (.cons (.cst (.bl true)) .nil))) (.cons (.bin false .add (.var 7) (.tup (.cons (.cst .non) .nil))) (.cons (.tup (.cons (.cst (.int 301)) .nil)) .nil)))))))))))
     (.cons (.loop (.var 11) (.rng (.cst (.int 0)) (.cst (.int 4)))
      (.cons (.set (.var 15) (.call 14 (.cons (.var 3) (.cons (.bin false .add (.blt false .len (.cons (.var 7) .nil)) (.cst (.int 1))) .nil))))
       (.cons (.expr (.mth false .append (.var 10) (.cons (.bin false .add (.bin false .add (.slice false (.var 7) false (.cst .non) true (.var 15)) (.tup (.cons (.bin false .sub (.call 14 (.cons (.var 3) (.cons (.cst (.int 12)) .nil))) (.cst (.int 1))) .nil))) (.slice false (.var 7) true (.bin false .add (.var 15) (.cst (.int 1))) false (.cst .non))) .nil)))
       .nil)))
     (.cons (.loop (.var 12) (.val (.var 10))
      (.cons (.set (.var 16) (.and (.blt false (.isi .tuple) (.cons (.var 12) .nil)) (.notN (.call 63 (.cons (.var 13) (.cons (.var 14) (.cons (.var 12) .nil)))))))
       (.cons (.ite (.not (.call 16 (.cons (.call 56 (.cons (.var 13) (.cons (.var 14) (.cons (.var 12) .nil)))) (.cons (.var 16) .nil))))
        (.cons (.ret (.cst (.bl false)))
         .nil)
        .nil)
       (.cons (.ite (.cmp .eq (.cmp .eq (.call 65 (.cons (.var 13) (.cons (.var 14) (.cons (.var 12) .nil)))) (.cst (.str "run!"))) (.var 16))
        (.cons (.ret (.cst (.bl false)))
         .nil)
        .nil)
       .nil))))
     .nil)))))))))
   (.cons (.ite (.or (.cmp .ne (.call 65 (.cons (.blt false .list (.cons (.var 13) .nil)) (.cons (.cst .non) (.cons (.cst .non) .nil)))) (.cst (.str "scale!"))) (.cmp .ne (.call 65 (.cons (.var 13) (.cons (.blt false .list (.cons (.var 14) .nil)) (.cons (.cst .non) .nil)))) (.cst (.str "recipe!"))))
    (.cons (.ret (.cst (.bl false)))
     .nil)
    .nil)
   .nil))))
 (.cons (.set (.tup (.cons (.var 5) (.cons (.var 6) .nil))) (.tup (.cons (.tup (.cons (.cst (.int 1)) (.cons (.cst (.str "down")) (.cons (.cst (.int 2)) (.cons (.cst (.str "exact")) .nil))))) (.cons (.tup (.cons (.tup (.cons (.cst (.str "pour")) (.cons (.cst (.str "salt")) (.cons (.cst (.int 5)) (.cons (.cst (.int 0)) (.cons (.cst (.int 3)) .nil)))))) .nil)) .nil))))
 (.cons (.ite (.or (.not (.call 56 (.cons (.var 5) (.cons (.var 6) (.cons (.bin false .mul (.tup (.cons (.cst (.int 2)) .nil)) (.cst (.int 600))) .nil))))) (.call 56 (.cons (.var 5) (.cons (.var 6) (.cons (.bin false .mul (.tup (.cons (.cst (.int 0)) .nil)) (.cst (.int 601))) .nil)))))
  (.cons (.ret (.cst (.bl false)))
   .nil)
  .nil)
 (.cons (.set (.var 2) (.tup (.cons (.tup (.cons (.cst (.str "lift")) (.cons (.cst (.int 5)) (.cons (.cst (.int 9)) .nil)))) (.cons (.tup (.cons (.cst (.str "pour")) (.cons (.cst (.str "a")) (.cons (.cst (.int 3)) (.cons (.cst (.int 1)) (.cons (.cst (.int 4)) .nil)))))) (.cons (.tup (.cons (.cst (.str "pour")) (.cons (.cst (.str "b")) (.cons (.cst (.int 1)) (.cons (.cst (.int 1)) (.cons (.cst (.int 1)) .nil)))))) (.cons (.tup (.cons (.cst (.str "tare")) .nil)) .nil))))))
 (.cons (.ret (.cmp .eq (.call 57 (.cons (.tup (.cons (.cst (.int 5)) (.cons (.cst (.str "near")) (.cons (.cst (.int 0)) (.cons (.cst (.str "shown")) .nil))))) (.cons (.var 2) (.cons (.tup (.cons (.cst (.int 7)) (.cons (.cst (.int 4)) (.cons (.cst (.int 4)) (.cons (.cst (.int 2)) .nil))))) .nil)))) (.tup (.cons (.cst (.int 4)) (.cons (.neg (.cst (.int 2))) (.cons (.tup (.cons (.tup (.cons (.cst (.str "a")) (.cons (.cst (.int 10)) .nil))) (.cons (.tup (.cons (.cst (.str "b")) (.cons (.cst (.int 0)) .nil))) .nil))) .nil))))))
 .nil)))))⟩
-- 67 need_name(recipe=0, value=1)
def c_need_name : Fn := ⟨2, 2, true,
 (.cons (.ite (.not (.call 1 (.cons (.var 1) (.cons (.call 7 (.cons (.var 0) .nil)) .nil))))
  (.cons (.rais 6)
   .nil)
  .nil)
 .nil)⟩
-- 68 need_index(recipe=0, value=1)
def c_need_index : Fn := ⟨2, 2, true,
 (.cons (.ite (.not (.call 0 (.cons (.var 1) (.cons (.cst (.int 0)) (.cons (.bin false .sub (.blt false .len (.cons (.var 0) .nil)) (.cst (.int 1))) .nil)))))
  (.cons (.rais 7)
   .nil)
  .nil)
 .nil)⟩
-- 69 web_of(scale=0, recipe=1, begin=2, known=3, line=4, steps=5, found=6, stand=7, number=8, low=9, high=10, there=11)
def c_web_of : Fn := ⟨2, 12, true,
 (.cons (.set (.var 2) (.call 49 (.cons (.var 0) (.cons (.var 1) .nil))))
 (.cons (.set (.var 3) (.dct true true .nil .nil))
 (.cons (.set (.sub (.var 3) (.var 2)) (.cst (.bl true)))
 (.cons (.set (.var 4) (.lst true (.cons (.var 2) .nil)))
 (.cons (.set (.var 5) (.dct true true .nil .nil))
 (.cons (.whil (.cmp .ne (.var 4) (.lst false .nil))
  (.cons (.set (.var 7) (.mth false .pop (.var 4) .nil))
   (.cons (.set (.sub (.var 5) (.var 7)) (.lst false .nil))
   (.cons (.ite (.cmp .lt (.idx (.var 7) (.cst (.int 0))) (.blt false .len (.cons (.var 1) .nil)))
    (.cons (.set (.tup (.cons (.var 9) (.cons (.var 10) .nil))) (.call 50 (.cons (.var 1) (.cons (.idx (.var 7) (.cst (.int 0))) .nil))))
     (.cons (.loop (.var 8) (.rng (.var 9) (.bin false .add (.var 10) (.cst (.int 1))))
      (.cons (.set (.var 11) (.call 51 (.cons (.var 0) (.cons (.var 1) (.cons (.var 7) (.cons (.var 8) .nil))))))
       (.cons (.expr (.mth false .append (.idx (.var 5) (.var 7)) (.cons (.tup (.cons (.var 8) (.cons (.var 11) .nil))) .nil)))
       (.cons (.ite (.cmp .notin (.var 11) (.var 3))
        (.cons (.set (.sub (.var 3) (.var 11)) (.cst (.bl true)))
         (.cons (.expr (.mth false .append (.var 4) (.cons (.var 11) .nil)))
         .nil))
        .nil)
       .nil))))
     .nil))
    .nil)
   .nil))))
 (.cons (.set (.var 6) (.dct true true .nil .nil))
 (.cons (.loop (.var 7) (.val (.blt false .sorted (.cons (.var 5) .nil)))
  (.cons (.set (.sub (.var 6) (.var 7)) (.idx (.var 5) (.var 7)))
   .nil))
 (.cons (.ret (.var 6))
 .nil)))))))))⟩
-- 70 ending(recipe=0, web=1, found=2, stand=3, number=4, there=5)
def c_ending : Fn := ⟨2, 6, true,
 (.cons (.set (.var 2) (.dct true true .nil .nil))
 (.cons (.loop (.var 3) (.val (.rev false (.blt false .list (.cons (.var 1) .nil))))
  (.cons (.ite (.or (.cmp .eq (.idx (.var 3) (.cst (.int 0))) (.blt false .len (.cons (.var 0) .nil))) (.blt false .any (.cons (.comp false false [4, 5] (.val (.idx (.var 1) (.var 3))) (.cst (.bl true)) (.cmp .isin (.var 5) (.var 2))) .nil)))
    (.cons (.set (.sub (.var 2) (.var 3)) (.cst (.bl true)))
     .nil)
    .nil)
   .nil))
 (.cons (.ret (.var 2))
 .nil)))⟩
-- 71 counts(recipe=0, index=1, name=2, chosen=3)
def c_counts : Fn := ⟨4, 4, true,
 (.cons (.ite (.cmp .notin (.idx (.idx (.var 0) (.var 1)) (.cst (.int 0))) (.tup (.cons (.cst (.str "add")) (.cons (.cst (.str "pour")) .nil))))
  (.cons (.ret (.cst (.bl false)))
   .nil)
  .nil)
 (.cons (.ret (.ite (.isN (.var 3)) (.cmp .eq (.idx (.idx (.var 0) (.var 1)) (.cst (.int 1))) (.var 2)) (.cmp .eq (.var 1) (.var 3))))
 .nil))⟩
-- 72 extremes(scale=0, recipe=1, name=2, chosen=3, web=4, ends=5, stand=6, lasts=7, greatest=8, least=9, most=10, number=11, there=12, more=13)
def c_extremes : Fn := ⟨4, 14, true,
 (.cons (.set (.var 4) (.call 69 (.cons (.var 0) (.cons (.var 1) .nil))))
 (.cons (.set (.var 5) (.call 70 (.cons (.var 1) (.cons (.var 4) .nil))))
 (.cons (.set (.tup (.cons (.var 9) (.cons (.var 10) .nil))) (.tup (.cons (.dct true true .nil .nil) (.cons (.dct true true .nil .nil) .nil))))
 (.cons (.set (.sub (.var 9) (.call 49 (.cons (.var 0) (.cons (.var 1) .nil)))) (.cst (.int 0)))
 (.cons (.set (.sub (.var 10) (.call 49 (.cons (.var 0) (.cons (.var 1) .nil)))) (.cst (.int 0)))
 (.cons (.loop (.var 6) (.val (.var 4))
  (.cons (.ite (.cmp .notin (.var 6) (.var 5))
    (.cons .cont
     .nil)
    .nil)
   (.cons (.loop (.tup (.cons (.var 11) (.cons (.var 12) .nil))) (.val (.idx (.var 4) (.var 6)))
    (.cons (.set (.var 13) (.ite (.call 71 (.cons (.var 1) (.cons (.idx (.var 6) (.cst (.int 0))) (.cons (.var 2) (.cons (.var 3) .nil))))) (.var 11) (.cst (.int 0))))
     (.cons (.ite (.and (.cmp .eq (.var 12) (.var 6)) (.cmp .gt (.var 13) (.cst (.int 0))))
      (.cons (.set (.sub (.var 10) (.var 6)) (.cst .non))
       .nil)
      .nil)
     .nil)))
   (.cons (.loop (.tup (.cons (.var 11) (.cons (.var 12) .nil))) (.val (.idx (.var 4) (.var 6)))
    (.cons (.set (.var 13) (.ite (.call 71 (.cons (.var 1) (.cons (.idx (.var 6) (.cst (.int 0))) (.cons (.var 2) (.cons (.var 3) .nil))))) (.var 11) (.cst (.int 0))))
     (.cons (.ite (.or (.cmp .eq (.var 12) (.var 6)) (.cmp .notin (.var 12) (.var 5)))
      (.cons .cont
       .nil)
      .nil)
     (.cons (.set (.sub (.var 9) (.var 12)) (.blt false .min2 (.cons (.mth false .get (.var 9) (.cons (.var 12) (.cons (.bin false .add (.idx (.var 9) (.var 6)) (.var 13)) .nil))) (.cons (.bin false .add (.idx (.var 9) (.var 6)) (.var 13)) .nil))))
     (.cons (.ite (.or (.isN (.idx (.var 10) (.var 6))) (.isN (.mth false .get (.var 10) (.cons (.var 12) (.cons (.cst (.int 0)) .nil)))))
      (.cons (.set (.sub (.var 10) (.var 12)) (.cst .non))
       .nil)
      (.cons (.set (.sub (.var 10) (.var 12)) (.blt false .max2 (.cons (.mth false .get (.var 10) (.cons (.var 12) (.cons (.cst (.int 0)) .nil))) (.cons (.bin false .add (.idx (.var 10) (.var 6)) (.var 13)) .nil))))
       .nil))
     .nil)))))
   .nil))))
 (.cons (.set (.var 7) (.comp false true [6] (.val (.var 5)) (.cmp .eq (.idx (.var 6) (.cst (.int 0))) (.blt false .len (.cons (.var 1) .nil))) (.var 6)))
 (.cons (.ite (.cmp .notin (.call 49 (.cons (.var 0) (.cons (.var 1) .nil))) (.var 5))
  (.cons (.ret (.cst .non))
   .nil)
  .nil)
 (.cons (.set (.var 8) (.ite (.cmp .isin (.cst .non) (.comp false true [6] (.val (.var 7)) (.cst (.bl true)) (.idx (.var 10) (.var 6)))) (.cst .non) (.blt false .maxL (.cons (.comp false true [6] (.val (.var 7)) (.cst (.bl true)) (.idx (.var 10) (.var 6))) .nil))))
 (.cons (.ret (.tup (.cons (.blt false .minL (.cons (.comp false true [6] (.val (.var 7)) (.cst (.bl true)) (.idx (.var 9) (.var 6))) .nil)) (.cons (.var 8) .nil))))
 .nil))))))))))⟩
-- 73 missed(scale=0, recipe=1, index=2, found=3, target=4)
def c_missed : Fn := ⟨3, 5, true,
 (.cons (.set (.var 3) (.call 72 (.cons (.var 0) (.cons (.var 1) (.cons (.cst (.str "")) (.cons (.var 2) .nil))))))
 (.cons (.ite (.isN (.var 3))
  (.cons (.ret (.cst .non))
   .nil)
  .nil)
 (.cons (.set (.var 4) (.idx (.idx (.var 1) (.var 2)) (.cst (.int 2))))
 (.cons (.ret (.tup (.cons (.bin false .sub (.idx (.var 3) (.cst (.int 0))) (.var 4)) (.cons (.ite (.isN (.idx (.var 3) (.cst (.int 1)))) (.cst .non) (.bin false .sub (.idx (.var 3) (.cst (.int 1))) (.var 4))) .nil))))
 .nil))))⟩
-- 74 need_pour(recipe=0, value=1)
def c_need_pour : Fn := ⟨2, 2, true,
 (.cons (.expr (.call 68 (.cons (.var 0) (.cons (.var 1) .nil))))
 (.cons (.ite (.cmp .ne (.idx (.idx (.var 0) (.var 1)) (.cst (.int 0))) (.cst (.str "pour")))
  (.cons (.rais 7)
   .nil)
  .nil)
 .nil))⟩
-- 75 amounts(scale=0, recipe=1, name=2)
def c_amounts : Fn := ⟨3, 3, true,
 (.cons (.expr (.call 35 (.cons (.var 0) .nil)))
 (.cons (.expr (.call 8 (.cons (.var 1) .nil)))
 (.cons (.expr (.call 67 (.cons (.var 1) (.cons (.var 2) .nil))))
 (.cons (.ret (.call 72 (.cons (.var 0) (.cons (.var 1) (.cons (.var 2) (.cons (.cst .non) .nil))))))
 .nil))))⟩
-- 76 misses(scale=0, recipe=1, index=2)
def c_misses : Fn := ⟨3, 3, true,
 (.cons (.expr (.call 35 (.cons (.var 0) .nil)))
 (.cons (.expr (.call 8 (.cons (.var 1) .nil)))
 (.cons (.expr (.call 74 (.cons (.var 1) (.cons (.var 2) .nil))))
 (.cons (.ret (.call 73 (.cons (.var 0) (.cons (.var 1) (.cons (.var 2) .nil)))))
 .nil))))⟩
-- 77 law_web(_law_scale_here=0, _law_recipe_here=1, _law_line=2, _law_found=3, _law_here=4, _law_rows=5, _law_number=6, _law_row=7)
def c_law_web : Fn := ⟨2, 8, true,
 (.cons (.set (.tup (.cons (.var 2) (.cons (.var 3) .nil))) (.tup (.cons (.lst true (.cons (.call 58 (.cons (.var 0) (.cons (.var 1) (.cons (.cst (.int 0)) (.cons (.cst (.int 0)) .nil))))) .nil)) (.cons (.dct true true .nil .nil) .nil))))
 (.cons (.whil (.cmp .ne (.var 2) (.lst false .nil))
  (.cons (.set (.var 4) (.mth false .pop (.var 2) .nil))
   (.cons (.ite (.cmp .notin (.var 4) (.var 3))
    (.cons (.set (.var 5) (.lst true .nil))
     (.cons (.loop (.var 6) (.val (.call 60 (.cons (.var 1) (.cons (.var 4) .nil))))
      (.cons (.expr (.mth false .append (.var 5) (.cons (.tup (.cons (.var 6) (.cons (.call 59 (.cons (.var 0) (.cons (.var 1) (.cons (.var 4) (.cons (.var 6) .nil))))) .nil))) .nil)))
       .nil))
     (.cons (.set (.sub (.var 3) (.var 4)) (.var 5))
     (.cons (.set (.var 2) (.bin true .add (.var 2) (.comp false true [7] (.val (.var 5)) (.cmp .notin (.idx (.var 7) (.cst (.int 1))) (.var 3)) (.idx (.var 7) (.cst (.int 1))))))
     .nil))))
    .nil)
   .nil)))
 (.cons (.ret (.var 3))
 .nil)))⟩
-- 78 law_enders(_law_recipe_here=0, _law_web_here=1, _law_found=2, _law_grown=3, _law_here=4, _law_good=5, _law_one=6)
def c_law_enders : Fn := ⟨2, 7, true,
 (.cons (.set (.tup (.cons (.var 2) (.cons (.var 3) .nil))) (.tup (.cons (.dct true true .nil .nil) (.cons (.cst (.bl true)) .nil))))
 (.cons (.whil (.var 3)
  (.cons (.set (.var 3) (.cst (.bl false)))
   (.cons (.loop (.var 4) (.val (.var 1))
    (.cons (.set (.var 5) (.or (.cmp .eq (.idx (.var 4) (.cst (.int 0))) (.blt false .len (.cons (.var 0) .nil))) (.cmp .ne (.comp false true [6] (.val (.idx (.var 1) (.var 4))) (.cmp .isin (.idx (.var 6) (.cst (.int 1))) (.var 2)) (.var 6)) (.lst false .nil))))
     (.cons (.ite (.and (.cmp .notin (.var 4) (.var 2)) (.var 5))
      (.cons (.set (.tup (.cons (.sub (.var 2) (.var 4)) (.cons (.var 3) .nil))) (.tup (.cons (.cst (.bl true)) (.cons (.cst (.bl true)) .nil))))
       .nil)
      .nil)
     .nil)))
   .nil)))
 (.cons (.ret (.var 2))
 .nil)))⟩
-- 79 law_bounds(_law_scale_here=0, _law_recipe_here=1, _law_what=2, _law_web_here=3, _law_lasts=4, _law_low=5, _law_enders_here=6, _law_begin=7, _law_least=8, _law_most=9, _law_grown=10, _law_lasting=11, _law_here=12, _law_number=13, _law_there=14, _law_more=15, _law_high=16)
def c_law_bounds : Fn := ⟨3, 17, true,
 (.cons (.set (.var 3) (.call 77 (.cons (.var 0) (.cons (.var 1) .nil))))
 (.cons (.set (.tup (.cons (.var 6) (.cons (.var 7) .nil))) (.tup (.cons (.call 78 (.cons (.var 1) (.cons (.var 3) .nil))) (.cons (.call 58 (.cons (.var 0) (.cons (.var 1) (.cons (.cst (.int 0)) (.cons (.cst (.int 0)) .nil))))) .nil))))
 (.cons (.ite (.cmp .notin (.var 7) (.var 6))
  (.cons (.ret (.cst .non))
   .nil)
  .nil)
 (.cons (.set (.tup (.cons (.var 8) (.cons (.var 9) (.cons (.var 10) (.cons (.var 11) .nil))))) (.tup (.cons (.dct true false (.cons (.var 7) .nil) (.cons (.cst (.int 0)) .nil)) (.cons (.dct true false (.cons (.var 7) .nil) (.cons (.cst (.int 0)) .nil)) (.cons (.cst (.bl true)) (.cons (.cst (.bl false)) .nil))))))
 (.cons (.whil (.var 10)
  (.cons (.set (.var 10) (.cst (.bl false)))
   (.cons (.loop (.var 12) (.val (.blt false .sorted (.cons (.blt false .list (.cons (.var 8) .nil)) .nil)))
    (.cons (.loop (.tup (.cons (.var 13) (.cons (.var 14) .nil))) (.val (.idx (.var 3) (.var 12)))
      (.cons (.set (.var 15) (.call 61 (.cons (.var 1) (.cons (.var 12) (.cons (.var 13) (.cons (.var 2) .nil))))))
       (.cons (.set (.var 11) (.or (.var 11) (.and (.cmp .eq (.var 14) (.var 12)) (.cmp .gt (.var 15) (.cst (.int 0))))))
       (.cons (.ite (.and (.cmp .isin (.var 14) (.var 6)) (.cmp .ne (.var 14) (.var 12)))
        (.cons (.set (.tup (.cons (.var 5) (.cons (.var 16) .nil))) (.tup (.cons (.bin false .add (.idx (.var 8) (.var 12)) (.var 15)) (.cons (.bin false .add (.idx (.var 9) (.var 12)) (.var 15)) .nil))))
         (.cons (.ite (.or (.cmp .lt (.var 5) (.mth false .get (.var 8) (.cons (.var 14) (.cons (.bin false .add (.var 5) (.cst (.int 1))) .nil)))) (.cmp .gt (.var 16) (.mth false .get (.var 9) (.cons (.var 14) (.cons (.bin false .sub (.var 16) (.cst (.int 1))) .nil)))))
          (.cons (.set (.var 10) (.cst (.bl true)))
           .nil)
          .nil)
         (.cons (.set (.sub (.var 8) (.var 14)) (.blt false .min2 (.cons (.var 5) (.cons (.mth false .get (.var 8) (.cons (.var 14) (.cons (.var 5) .nil))) .nil))))
         (.cons (.set (.sub (.var 9) (.var 14)) (.blt false .max2 (.cons (.var 16) (.cons (.mth false .get (.var 9) (.cons (.var 14) (.cons (.var 16) .nil))) .nil))))
         .nil))))
        .nil)
       .nil))))
     .nil))
   .nil)))
 (.cons (.set (.var 4) (.comp false true [12] (.val (.var 8)) (.cmp .eq (.idx (.var 12) (.cst (.int 0))) (.blt false .len (.cons (.var 1) .nil))) (.var 12)))
 (.cons (.set (.var 5) (.blt false .minL (.cons (.comp false true [12] (.val (.var 4)) (.cst (.bl true)) (.idx (.var 8) (.var 12))) .nil)))
 (.cons (.ret (.tup (.cons (.var 5) (.cons (.ite (.var 11) (.cst .non) (.blt false .maxL (.cons (.comp false true [12] (.val (.var 4)) (.cst (.bl true)) (.idx (.var 9) (.var 12))) .nil))) .nil))))
 .nil))))))))⟩
-- 80 law_outcome_k22(_law_scale_here=0, _law_recipe_here=1, _law_what=2)
def c_law_outcome_k22 : Fn := ⟨3, 3, true,
 (.cons (.tryc (.cons (.ret (.ite (.blt false (.isi .int) (.cons (.var 2) .nil)) (.call 76 (.cons (.var 0) (.cons (.var 1) (.cons (.var 2) .nil)))) (.call 75 (.cons (.var 0) (.cons (.var 1) (.cons (.var 2) .nil))))))
   .nil) [(2, .ret (.str "scale!")), (1, .ret (.str "recipe!")), (6, .ret (.str "name!")), (7, .ret (.str "index!"))])
 .nil)⟩
-- 81 law_k22(_law_script=0, _law_k=1, _law_deeds=2, _law_some=3, _law_drops=4, _law_source_here=5, _law_turn=6, _law_odd=7, _law_near=8, _law_wet=9, _law_name=10, _law_scale_here=11, _law_recipe_here=12, _law_at=13, _law_deed_here=14, _law_due=15)
def c_law_k22 : Fn := ⟨1, 16, true,
 (.cons (.loop (.var 1) (.rng (.cst (.int 0)) (.blt false .max2 (.cons (.cst (.int 5)) (.cons (.blt false .min2 (.cons (.cst (.int 14)) (.cons (.blt false .len (.cons (.var 0) .nil)) .nil))) .nil))))
  (.cons (.set (.var 5) (.call 13 (.cons (.var 0) (.cons (.var 1) .nil))))
   (.cons (.loop (.var 6) (.rng (.cst (.int 0)) (.cst (.int 3)))
    (.cons (.set (.tup (.cons (.var 11) (.cons (.var 12) .nil))) (.tup (.cons (.call 25 (.cons (.var 5) .nil)) (.cons (.call 27 (.cons (.var 5) (.cons (.cst (.int 5)) .nil))) .nil))))
     (.cons (.loop (.var 10) (.val (.call 28 (.cons (.var 12) .nil)))
      (.cons (.ite (.cmp .ne (.call 80 (.cons (.var 11) (.cons (.var 12) (.cons (.var 10) .nil)))) (.call 79 (.cons (.var 11) (.cons (.var 12) (.cons (.var 10) .nil)))))
        (.cons (.ret (.cst (.bl false)))
         .nil)
        .nil)
       .nil))
     (.cons (.loop (.tup (.cons (.var 13) (.cons (.var 14) .nil))) (.enm (.var 12))
      (.cons (.set (.var 15) (.cst (.str "index!")))
       (.cons (.ite (.cmp .eq (.idx (.var 14) (.cst (.int 0))) (.cst (.str "pour")))
        (.cons (.set (.var 15) (.call 79 (.cons (.var 11) (.cons (.var 12) (.cons (.var 13) .nil)))))
         (.cons (.ite (.notN (.var 15))
          (.cons (.set (.var 15) (.tup (.cons (.bin false .sub (.idx (.var 15) (.cst (.int 0))) (.idx (.var 14) (.cst (.int 2)))) (.cons (.ite (.notN (.idx (.var 15) (.cst (.int 1)))) (.bin false .sub (.idx (.var 15) (.cst (.int 1))) (.idx (.var 14) (.cst (.int 2)))) (.cst .non)) .nil))))
           .nil)
          .nil)
         .nil))
        .nil)
       (.cons (.ite (.cmp .ne (.call 80 (.cons (.var 11) (.cons (.var 12) (.cons (.var 13) .nil)))) (.var 15))
        (.cons (.ret (.cst (.bl false)))
         .nil)
        .nil)
       .nil))))
     .nil))))
   (.cons (.loop (.var 7) (.val (.lst false (.cons (.cst .non) (.cons (.cst (.str "q")) (.cons (.cst (.str "")) (.cons (.tup (.cons (.cst (.str "a")) .nil)) .nil))))))
    (.cons (.ite (.cmp .ne (.call 80 (.cons (.var 11) (.cons (.var 12) (.cons (.var 7) .nil)))) (.cst (.str "name!")))
      (.cons (.ret (.cst (.bl false)))
       .nil)
      .nil)
     .nil))
   (.cons (.ite (.or (.cmp .ne (.call 80 (.cons (.var 11) (.cons (.var 12) (.cons (.neg (.cst (.int 1))) .nil)))) (.cst (.str "index!"))) (.cmp .ne (.call 80 (.cons (.var 11) (.cons (.var 12) (.cons (.blt false .len (.cons (.var 12) .nil)) .nil)))) (.cst (.str "index!"))))
    (.cons (.ret (.cst (.bl false)))
     .nil)
    .nil)
   (.cons (.ite (.or (.cmp .ne (.call 80 (.cons (.slice false (.var 11) false (.cst .non) true (.cst (.int 3))) (.cons (.tup .nil) (.cons (.cst (.str "q")) .nil)))) (.cst (.str "scale!"))) (.cmp .ne (.call 80 (.cons (.var 11) (.cons (.tup .nil) (.cons (.cst (.str "q")) .nil)))) (.cst (.str "recipe!"))))
    (.cons (.ret (.cst (.bl false)))
     .nil)
    .nil)
   .nil))))))
 (.cons (.set (.tup (.cons (.var 8) (.cons (.var 9) .nil))) (.tup (.cons (.tup (.cons (.cst (.int 5)) (.cons (.cst (.str "near")) (.cons (.cst (.int 0)) (.cons (.cst (.str "shown")) .nil))))) (.cons (.tup (.cons (.cst (.int 1)) (.cons (.cst (.str "down")) (.cons (.cst (.int 3)) (.cons (.cst (.str "exact")) .nil))))) .nil))))
 (.cons (.set (.var 2) (.tup (.cons (.tup (.cons (.cst (.str "put")) (.cons (.cst (.int 100)) (.cons (.cst (.int 120)) .nil)))) (.cons (.tup (.cons (.cst (.str "tare")) .nil)) (.cons (.tup (.cons (.cst (.str "pour")) (.cons (.cst (.str "flour")) (.cons (.cst (.int 50)) (.cons (.cst (.int 1)) (.cons (.cst (.int 4)) .nil)))))) (.cons (.tup (.cons (.cst (.str "tare")) .nil)) (.cons (.tup (.cons (.cst (.str "pour")) (.cons (.cst (.str "sugar")) (.cons (.cst (.int 20)) (.cons (.cst (.int 1)) (.cons (.cst (.int 4)) .nil)))))) .nil)))))))
 (.cons (.set (.var 3) (.lst false (.cons (.call 75 (.cons (.var 8) (.cons (.var 2) (.cons (.cst (.str "flour")) .nil)))) (.cons (.call 75 (.cons (.var 8) (.cons (.var 2) (.cons (.cst (.str "sugar")) .nil)))) (.cons (.call 76 (.cons (.var 8) (.cons (.var 2) (.cons (.cst (.int 2)) .nil)))) .nil)))))
 (.cons (.ite (.cmp .ne (.var 3) (.lst false (.cons (.tup (.cons (.cst (.int 46)) (.cons (.cst (.int 53)) .nil))) (.cons (.tup (.cons (.cst (.int 17)) (.cons (.cst (.int 23)) .nil))) (.cons (.tup (.cons (.neg (.cst (.int 4))) (.cons (.cst (.int 3)) .nil))) .nil)))))
  (.cons (.ret (.cst (.bl false)))
   .nil)
  .nil)
 (.cons (.set (.var 4) (.tup (.cons (.tup (.cons (.cst (.str "add")) (.cons (.cst (.str "salt")) (.cons (.cst (.int 7)) (.cons (.cst (.int 9)) .nil))))) (.cons (.tup (.cons (.cst (.str "tare")) .nil)) (.cons (.tup (.cons (.cst (.str "pour")) (.cons (.cst (.str "salt")) (.cons (.cst (.int 6)) (.cons (.cst (.int 2)) (.cons (.cst (.int 4)) .nil)))))) (.cons (.tup (.cons (.cst (.str "pour")) (.cons (.cst (.str "a")) (.cons (.cst (.int 9)) (.cons (.cst (.int 0)) (.cons (.cst (.int 1)) .nil)))))) .nil))))))
 (.cons (.set (.var 3) (.lst false (.cons (.call 75 (.cons (.var 9) (.cons (.var 4) (.cons (.cst (.str "salt")) .nil)))) (.cons (.call 76 (.cons (.var 9) (.cons (.var 4) (.cons (.cst (.int 2)) .nil)))) (.cons (.call 75 (.cons (.var 9) (.cons (.var 4) (.cons (.cst (.str "a")) .nil)))) .nil)))))
 (.cons (.ite (.cmp .ne (.var 3) (.lst false (.cons (.tup (.cons (.cst (.int 13)) (.cons (.cst .non) .nil))) (.cons (.tup (.cons (.cst (.int 0)) (.cons (.cst .non) .nil))) (.cons (.tup (.cons (.cst (.int 1)) (.cons (.cst (.int 3)) .nil))) .nil)))))
  (.cons (.ret (.cst (.bl false)))
   .nil)
  .nil)
 (.cons (.ret (.cmp .eq (.call 75 (.cons (.var 9) (.cons (.tup (.cons (.tup (.cons (.cst (.str "add")) (.cons (.cst (.str "salt")) (.cons (.cst (.int 7)) (.cons (.cst (.int 9)) .nil))))) (.cons (.tup (.cons (.cst (.str "pour")) (.cons (.cst (.str "b")) (.cons (.cst (.int 9)) (.cons (.cst (.int 0)) (.cons (.cst (.int 3)) .nil)))))) .nil))) (.cons (.cst (.str "salt")) .nil)))) (.tup (.cons (.cst (.int 7)) (.cons (.cst (.int 9)) .nil)))))
 .nil)))))))))⟩
-- 82 some_run(scale=0, recipe=1, stand=2, begin=3, found=4, line=5, here=6, number=7, low=8, high=9, there=10)
def c_some_run : Fn := ⟨3, 11, true,
 (.cons (.set (.var 3) (.call 49 (.cons (.var 0) (.cons (.var 1) .nil))))
 (.cons (.set (.var 4) (.dct true true .nil .nil))
 (.cons (.set (.sub (.var 4) (.var 3)) (.tup .nil))
 (.cons (.set (.var 5) (.lst true (.cons (.var 3) .nil)))
 (.cons (.whil (.cmp .ne (.var 5) (.lst false .nil))
  (.cons (.set (.var 6) (.mth false .popAt (.var 5) (.cons (.cst (.int 0)) .nil)))
   (.cons (.ite (.cmp .eq (.var 6) (.var 2))
    (.cons (.ret (.idx (.var 4) (.var 6)))
     .nil)
    .nil)
   (.cons (.set (.tup (.cons (.var 8) (.cons (.var 9) .nil))) (.ite (.cmp .lt (.idx (.var 6) (.cst (.int 0))) (.blt false .len (.cons (.var 1) .nil))) (.call 50 (.cons (.var 1) (.cons (.idx (.var 6) (.cst (.int 0))) .nil))) (.tup (.cons (.cst (.int 1)) (.cons (.cst (.int 0)) .nil)))))
   (.cons (.loop (.var 7) (.rng (.var 8) (.bin false .add (.var 9) (.cst (.int 1))))
    (.cons (.set (.var 10) (.call 51 (.cons (.var 0) (.cons (.var 1) (.cons (.var 6) (.cons (.var 7) .nil))))))
     (.cons (.ite (.cmp .notin (.var 10) (.var 4))
      (.cons (.set (.sub (.var 4) (.var 10)) (.bin false .add (.idx (.var 4) (.var 6)) (.tup (.cons (.var 7) .nil))))
       (.cons (.expr (.mth false .append (.var 5) (.cons (.var 10) .nil)))
       .nil))
      .nil)
     .nil)))
   .nil)))))
 (.cons (.ret (.cst .non))
 .nil))))))⟩
-- 83 first_ring(scale=0, recipe=1, web=2, stand=3, number=4, there=5)
def c_first_ring : Fn := ⟨2, 6, true,
 (.cons (.set (.var 2) (.call 69 (.cons (.var 0) (.cons (.var 1) .nil))))
 (.cons (.loop (.var 3) (.val (.var 2))
  (.cons (.loop (.tup (.cons (.var 4) (.cons (.var 5) .nil))) (.val (.idx (.var 2) (.var 3)))
    (.cons (.ite (.cmp .eq (.var 5) (.var 3))
      (.cons (.ret (.tup (.cons (.var 3) (.cons (.var 4) .nil))))
       .nil)
      .nil)
     .nil))
   .nil))
 (.cons (.ret (.cst .non))
 .nil)))⟩
-- 84 can_be_done(scale=0, recipe=1, stand=2)
def c_can_be_done : Fn := ⟨2, 3, true,
 (.cons (.ret (.blt false .any (.cons (.comp false true [2] (.val (.call 69 (.cons (.var 0) (.cons (.var 1) .nil)))) (.cst (.bl true)) (.cmp .eq (.idx (.var 2) (.cst (.int 0))) (.blt false .len (.cons (.var 1) .nil)))) .nil)))
 .nil)⟩
-- 85 can_end(scale=0, recipe=1)
def c_can_end : Fn := ⟨2, 2, true,
 (.cons (.expr (.call 35 (.cons (.var 0) .nil)))
 (.cons (.expr (.call 8 (.cons (.var 1) .nil)))
 (.cons (.ret (.call 84 (.cons (.var 0) (.cons (.var 1) .nil))))
 .nil)))⟩
-- 86 surely_ends(scale=0, recipe=1)
def c_surely_ends : Fn := ⟨2, 2, true,
 (.cons (.expr (.call 35 (.cons (.var 0) .nil)))
 (.cons (.expr (.call 8 (.cons (.var 1) .nil)))
 (.cons (.ret (.isN (.call 83 (.cons (.var 0) (.cons (.var 1) .nil)))))
 .nil)))⟩
-- 87 trickle(scale=0, recipe=1, found=2)
def c_trickle : Fn := ⟨2, 3, true,
 (.cons (.expr (.call 35 (.cons (.var 0) .nil)))
 (.cons (.expr (.call 8 (.cons (.var 1) .nil)))
 (.cons (.set (.var 2) (.call 83 (.cons (.var 0) (.cons (.var 1) .nil))))
 (.cons (.ret (.ite (.isN (.var 2)) (.cst .non) (.tup (.cons (.call 82 (.cons (.var 0) (.cons (.var 1) (.cons (.idx (.var 2) (.cst (.int 0))) .nil)))) (.cons (.tup (.cons (.idx (.var 2) (.cst (.int 1))) .nil)) .nil)))))
 .nil))))⟩
-- 88 run_to(scale=0, recipe=1, name=2, amount=3, web=4, begin=5, found=6, line=7, later=8, stand=9, so_far=10, number=11, there=12, more=13)
def c_run_to : Fn := ⟨4, 14, true,
 (.cons (.expr (.call 35 (.cons (.var 0) .nil)))
 (.cons (.expr (.call 8 (.cons (.var 1) .nil)))
 (.cons (.expr (.call 67 (.cons (.var 1) (.cons (.var 2) .nil))))
 (.cons (.ite (.not (.call 0 (.cons (.var 3) (.cons (.cst (.int 0)) (.cons (.cst (.int 600)) .nil)))))
  (.cons (.rais 8)
   .nil)
  .nil)
 (.cons (.set (.var 4) (.call 69 (.cons (.var 0) (.cons (.var 1) .nil))))
 (.cons (.set (.var 5) (.tup (.cons (.call 49 (.cons (.var 0) (.cons (.var 1) .nil))) (.cons (.cst (.int 0)) .nil))))
 (.cons (.set (.var 6) (.dct true true .nil .nil))
 (.cons (.set (.sub (.var 6) (.var 5)) (.tup .nil))
 (.cons (.set (.var 7) (.lst false (.cons (.var 5) .nil)))
 (.cons (.whil (.cmp .ne (.var 7) (.lst false .nil))
  (.cons (.set (.var 8) (.lst true .nil))
   (.cons (.loop (.tup (.cons (.var 9) (.cons (.var 10) .nil))) (.val (.var 7))
    (.cons (.ite (.and (.cmp .eq (.idx (.var 9) (.cst (.int 0))) (.blt false .len (.cons (.var 1) .nil))) (.cmp .eq (.var 10) (.var 3)))
      (.cons (.ret (.idx (.var 6) (.tup (.cons (.var 9) (.cons (.var 10) .nil)))))
       .nil)
      .nil)
     (.cons (.loop (.tup (.cons (.var 11) (.cons (.var 12) .nil))) (.val (.idx (.var 4) (.var 9)))
      (.cons (.set (.var 13) (.ite (.call 71 (.cons (.var 1) (.cons (.idx (.var 9) (.cst (.int 0))) (.cons (.var 2) (.cons (.cst .non) .nil))))) (.bin false .add (.var 10) (.var 11)) (.var 10)))
       (.cons (.ite (.and (.cmp .le (.var 13) (.var 3)) (.cmp .notin (.tup (.cons (.var 12) (.cons (.var 13) .nil))) (.var 6)))
        (.cons (.set (.sub (.var 6) (.tup (.cons (.var 12) (.cons (.var 13) .nil)))) (.bin false .add (.idx (.var 6) (.tup (.cons (.var 9) (.cons (.var 10) .nil)))) (.tup (.cons (.var 11) .nil))))
         (.cons (.expr (.mth false .append (.var 8) (.cons (.tup (.cons (.var 12) (.cons (.var 13) .nil))) .nil)))
         .nil))
        .nil)
       .nil)))
     .nil)))
   (.cons (.set (.var 7) (.var 8))
   .nil))))
 (.cons (.ret (.cst .non))
 .nil)))))))))))⟩
-- 89 law_path_k23(_law_scale_here=0, _law_recipe_here=1, _law_run=2, _law_here=3, _law_found=4, _law_number=5)
def c_law_path_k23 : Fn := ⟨3, 6, true,
 (.cons (.set (.var 3) (.call 58 (.cons (.var 0) (.cons (.var 1) (.cons (.cst (.int 0)) (.cons (.cst (.int 0)) .nil))))))
 (.cons (.set (.var 4) (.lst true (.cons (.var 3) .nil)))
 (.cons (.loop (.var 5) (.val (.var 2))
  (.cons (.ite (.or (.blt false (.isi .bool) (.cons (.var 5) .nil)) (.cmp .notin (.var 5) (.call 60 (.cons (.var 1) (.cons (.var 3) .nil)))))
    (.cons (.ret (.cst .non))
     .nil)
    .nil)
   (.cons (.set (.var 3) (.call 59 (.cons (.var 0) (.cons (.var 1) (.cons (.var 3) (.cons (.var 5) .nil))))))
   (.cons (.expr (.mth false .append (.var 4) (.cons (.var 3) .nil)))
   .nil))))
 (.cons (.ret (.var 4))
 .nil))))⟩
-- 90 law_amount_k23(_law_recipe_here=0, _law_path_here=1, _law_run=2, _law_what=3, _law_here=4, _law_number=5)
def c_law_amount_k23 : Fn := ⟨4, 6, true,
 (.cons (.ret (.blt false .sum (.cons (.comp false false [4, 5] (.zip (.var 1) (.var 2)) (.cst (.bl true)) (.call 61 (.cons (.var 0) (.cons (.var 4) (.cons (.var 5) (.cons (.var 3) .nil)))))) .nil)))
 .nil)⟩
-- 91 law_outcome_k23(_law_call=0, _law_scale_here=1, _law_recipe_here=2, _law_name=3, _law_amount_here=4)
def c_law_outcome_k23 : Fn := ⟨5, 5, true,
 (.cons (.tryc (.cons (.ite (.cmp .eq (.var 0) (.cst (.int 0)))
    (.cons (.ret (.lst false (.cons (.call 85 (.cons (.var 1) (.cons (.var 2) .nil))) (.cons (.call 86 (.cons (.var 1) (.cons (.var 2) .nil))) (.cons (.call 87 (.cons (.var 1) (.cons (.var 2) .nil))) .nil)))))
     .nil)
    .nil)
   (.cons (.ret (.call 88 (.cons (.var 1) (.cons (.var 2) (.cons (.var 3) (.cons (.var 4) .nil))))))
   .nil)) [(2, .ret (.str "scale!")), (1, .ret (.str "recipe!")), (6, .ret (.str "name!")), (8, .ret (.str "amount!"))])
 .nil)⟩
-- 92 law_fewest_k23(_law_scale_here=0, _law_recipe_here=1, _law_name=2, _law_amount_here=3, _law_known=4, _law_web_here=5, _law_line=6, _law_many=7, _law_later=8, _law_here=9, _law_so_far=10, _law_one=11, _law_number=12, _law_there=13, _law_pair=14)
def c_law_fewest_k23 : Fn := ⟨4, 15, true,
 (.cons (.set (.tup (.cons (.var 5) (.cons (.var 6) (.cons (.var 7) .nil)))) (.tup (.cons (.call 77 (.cons (.var 0) (.cons (.var 1) .nil))) (.cons (.lst false (.cons (.tup (.cons (.call 58 (.cons (.var 0) (.cons (.var 1) (.cons (.cst (.int 0)) (.cons (.cst (.int 0)) .nil))))) (.cons (.cst (.int 0)) .nil))) .nil)) (.cons (.cst (.int 0)) .nil)))))
 (.cons (.set (.var 4) (.blt true (.dict true) (.cons (.comp false true [11] (.val (.var 6)) (.cst (.bl true)) (.tup (.cons (.var 11) (.cons (.cst (.bl true)) .nil)))) .nil)))
 (.cons (.whil (.cmp .ne (.var 6) (.lst false .nil))
  (.cons (.set (.var 8) (.lst true .nil))
   (.cons (.loop (.tup (.cons (.var 9) (.cons (.var 10) .nil))) (.val (.var 6))
    (.cons (.ite (.and (.cmp .eq (.idx (.var 9) (.cst (.int 0))) (.blt false .len (.cons (.var 1) .nil))) (.cmp .eq (.var 10) (.var 3)))
      (.cons (.ret (.var 7))
       .nil)
      .nil)
     (.cons (.loop (.tup (.cons (.var 12) (.cons (.var 13) .nil))) (.val (.idx (.var 5) (.var 9)))
      (.cons (.set (.var 14) (.tup (.cons (.var 13) (.cons (.bin false .add (.var 10) (.call 61 (.cons (.var 1) (.cons (.var 9) (.cons (.var 12) (.cons (.var 2) .nil)))))) .nil))))
       (.cons (.ite (.and (.cmp .le (.idx (.var 14) (.cst (.int 1))) (.var 3)) (.cmp .notin (.var 14) (.var 4)))
        (.cons (.set (.sub (.var 4) (.var 14)) (.cst (.bl true)))
         (.cons (.expr (.mth false .append (.var 8) (.cons (.var 14) .nil)))
         .nil))
        .nil)
       .nil)))
     .nil)))
   (.cons (.set (.tup (.cons (.var 6) (.cons (.var 7) .nil))) (.tup (.cons (.var 8) (.cons (.bin false .add (.var 7) (.cst (.int 1))) .nil))))
   .nil))))
 (.cons (.ret (.cst .non))
 .nil))))⟩
-- 93 law_trickle_right(_law_scale_here=0, _law_recipe_here=1, _law_found=2, _law_path_here=3)
def c_law_trickle_right : Fn := ⟨3, 4, true,
 (.cons (.ite (.or (.not (.call 17 (.cons (.var 2) (.cons (.cst (.int 2)) (.cons (.cst (.int 2)) .nil))))) (.or (.not (.call 17 (.cons (.idx (.var 2) (.cst (.int 0))) (.cons (.cst (.int 0)) (.cons (.cst (.int 600)) .nil))))) (.not (.call 17 (.cons (.idx (.var 2) (.cst (.int 1))) (.cons (.cst (.int 1)) (.cons (.cst (.int 600)) .nil)))))))
  (.cons (.ret (.cst (.bl false)))
   .nil)
  .nil)
 (.cons (.set (.var 3) (.call 89 (.cons (.var 0) (.cons (.var 1) (.cons (.bin false .add (.idx (.var 2) (.cst (.int 0))) (.idx (.var 2) (.cst (.int 1)))) .nil)))))
 (.cons (.ite (.or (.isN (.var 3)) (.cmp .ne (.idx (.var 3) (.neg (.cst (.int 1)))) (.idx (.var 3) (.blt false .len (.cons (.idx (.var 2) (.cst (.int 0))) .nil)))))
  (.cons (.ret (.cst (.bl false)))
   .nil)
  .nil)
 (.cons (.ret (.and (.cmp .lt (.idx (.idx (.var 3) (.neg (.cst (.int 1)))) (.cst (.int 0))) (.blt false .len (.cons (.var 1) .nil))) (.cmp .eq (.idx (.idx (.var 1) (.idx (.idx (.var 3) (.neg (.cst (.int 1)))) (.cst (.int 0)))) (.cst (.int 0))) (.cst (.str "pour")))))
 .nil))))⟩
-- 94 law_leads_to(_law_scale_here=0, _law_recipe_here=1, _law_run=2, _law_name=3, _law_amount_here=4, _law_many=5, _law_path_here=6)
def c_law_leads_to : Fn := ⟨6, 7, true,
 (.cons (.set (.var 6) (.call 89 (.cons (.var 0) (.cons (.var 1) (.cons (.var 2) .nil)))))
 (.cons (.ite (.or (.isN (.var 6)) (.or (.cmp .ne (.blt false .len (.cons (.var 2) .nil)) (.var 5)) (.cmp .ne (.idx (.idx (.var 6) (.neg (.cst (.int 1)))) (.cst (.int 0))) (.blt false .len (.cons (.var 1) .nil)))))
  (.cons (.ret (.cst (.bl false)))
   .nil)
  .nil)
 (.cons (.ret (.cmp .eq (.call 90 (.cons (.var 1) (.cons (.var 6) (.cons (.var 2) (.cons (.var 3) .nil))))) (.var 4)))
 .nil)))⟩
-- 95 law_refuses_k23(_law_scale_here=0, _law_recipe_here=1, _law_odd=2)
def c_law_refuses_k23 : Fn := ⟨2, 3, true,
 (.cons (.ite (.cmp .ne (.call 91 (.cons (.cst (.int 0)) (.cons (.slice false (.var 0) false (.cst .non) true (.cst (.int 3))) (.cons (.cst .non) (.cons (.cst .non) (.cons (.cst .non) .nil)))))) (.cst (.str "scale!")))
  (.cons (.ret (.cst (.bl false)))
   .nil)
  .nil)
 (.cons (.ite (.cmp .ne (.call 91 (.cons (.cst (.int 0)) (.cons (.var 0) (.cons (.tup .nil) (.cons (.cst .non) (.cons (.cst .non) .nil)))))) (.cst (.str "recipe!")))
  (.cons (.ret (.cst (.bl false)))
   .nil)
  .nil)
 (.cons (.loop (.var 2) (.val (.lst false (.cons (.cst .non) (.cons (.cst (.str "q")) (.cons (.cst (.int 5)) .nil)))))
  (.cons (.ite (.cmp .ne (.call 91 (.cons (.cst (.int 1)) (.cons (.var 0) (.cons (.var 1) (.cons (.var 2) (.cons (.cst .non) .nil)))))) (.cst (.str "name!")))
    (.cons (.ret (.cst (.bl false)))
     .nil)
    .nil)
   .nil))
 (.cons (.ret (.cst (.bl true)))
 .nil))))⟩
-- 96 law_salt_right(_law_odd=0, _law_lazy=1, _law_salt=2, _law_sticky=3, _law_plain=4)
def c_law_salt_right : Fn := ⟨0, 5, true,
 (.cons (.set (.tup (.cons (.var 2) (.cons (.var 3) (.cons (.var 4) .nil)))) (.tup (.cons (.tup (.cons (.tup (.cons (.cst (.str "pour")) (.cons (.cst (.str "salt")) (.cons (.cst (.int 5)) (.cons (.cst (.int 1)) (.cons (.cst (.int 3)) .nil)))))) .nil)) (.cons (.tup (.cons (.cst (.int 1)) (.cons (.cst (.str "down")) (.cons (.cst (.int 2)) (.cons (.cst (.str "exact")) .nil))))) (.cons (.tup (.cons (.cst (.int 1)) (.cons (.cst (.str "down")) (.cons (.cst (.int 0)) (.cons (.cst (.str "exact")) .nil))))) .nil)))))
 (.cons (.loop (.var 0) (.val (.lst false (.cons (.cst .non) (.cons (.neg (.cst (.int 1))) (.cons (.cst (.int 601)) (.cons (.cst (.bl true)) (.cons (.cst (.str "5")) .nil)))))))
  (.cons (.ite (.cmp .ne (.call 91 (.cons (.cst (.int 1)) (.cons (.var 3) (.cons (.var 2) (.cons (.cst (.str "salt")) (.cons (.var 0) .nil)))))) (.cst (.str "amount!")))
    (.cons (.ret (.cst (.bl false)))
     .nil)
    .nil)
   .nil))
 (.cons (.ite (.or (.cmp .ne (.call 88 (.cons (.var 3) (.cons (.var 2) (.cons (.cst (.str "salt")) (.cons (.cst (.int 5)) .nil))))) (.tup (.cons (.cst (.int 3)) (.cons (.cst (.int 2)) .nil)))) (.cmp .ne (.blt false .len (.cons (.call 88 (.cons (.var 3) (.cons (.var 2) (.cons (.cst (.str "salt")) (.cons (.cst (.int 11)) .nil))))) .nil)) (.cst (.int 5))))
  (.cons (.ret (.cst (.bl false)))
   .nil)
  .nil)
 (.cons (.set (.var 1) (.tup (.cons (.tup (.cons (.cst (.str "pour")) (.cons (.cst (.str "salt")) (.cons (.cst (.int 5)) (.cons (.cst (.int 0)) (.cons (.cst (.int 5)) .nil)))))) (.cons (.tup (.cons (.cst (.str "tare")) .nil)) .nil))))
 (.cons (.ret (.and (.cmp .eq (.call 88 (.cons (.var 4) (.cons (.var 1) (.cons (.cst (.str "salt")) (.cons (.cst (.int 9)) .nil))))) (.tup (.cons (.cst (.int 4)) (.cons (.cst (.int 5)) .nil)))) (.not (.call 86 (.cons (.var 4) (.cons (.var 1) .nil))))))
 .nil)))))⟩
-- 97 law_k23(_law_script=0, _law_k=1, _law_source_here=2, _law_turn=3, _law_web_here=4, _law_ends=5, _law_rings=6, _law_told=7, _law_name=8, _law_scale_here=9, _law_recipe_here=10, _law_amount_here=11, _law_found=12, _law_due=13, _law_here=14, _law_one=15)
def c_law_k23 : Fn := ⟨1, 16, true,
 (.cons (.loop (.var 1) (.rng (.cst (.int 0)) (.blt false .max2 (.cons (.cst (.int 5)) (.cons (.blt false .min2 (.cons (.cst (.int 14)) (.cons (.blt false .len (.cons (.var 0) .nil)) .nil))) .nil))))
  (.cons (.set (.var 2) (.call 13 (.cons (.var 0) (.cons (.var 1) .nil))))
   (.cons (.loop (.var 3) (.rng (.cst (.int 0)) (.cst (.int 3)))
    (.cons (.set (.tup (.cons (.var 9) (.cons (.var 10) .nil))) (.tup (.cons (.call 25 (.cons (.var 2) .nil)) (.cons (.call 27 (.cons (.var 2) (.cons (.cst (.int 5)) .nil))) .nil))))
     (.cons (.set (.var 4) (.call 77 (.cons (.var 9) (.cons (.var 10) .nil))))
     (.cons (.set (.var 5) (.cmp .ne (.comp false true [14] (.val (.var 4)) (.cmp .eq (.idx (.var 14) (.cst (.int 0))) (.blt false .len (.cons (.var 10) .nil))) (.var 14)) (.lst false .nil)))
     (.cons (.set (.var 6) (.comp false true [14] (.val (.var 4)) (.cmp .isin (.var 14) (.comp false true [15] (.val (.idx (.var 4) (.var 14))) (.cst (.bl true)) (.idx (.var 15) (.cst (.int 1))))) (.var 14)))
     (.cons (.set (.var 7) (.call 91 (.cons (.cst (.int 0)) (.cons (.var 9) (.cons (.var 10) (.cons (.cst .non) (.cons (.cst .non) .nil)))))))
     (.cons (.ite (.or (.not (.call 16 (.cons (.idx (.var 7) (.cst (.int 0))) (.cons (.var 5) .nil)))) (.not (.call 16 (.cons (.idx (.var 7) (.cst (.int 1))) (.cons (.cmp .eq (.var 6) (.lst false .nil)) .nil)))))
      (.cons (.ret (.cst (.bl false)))
       .nil)
      .nil)
     (.cons (.ite (.and (.cmp .eq (.var 6) (.lst false .nil)) (.notN (.idx (.var 7) (.cst (.int 2)))))
      (.cons (.ret (.cst (.bl false)))
       .nil)
      .nil)
     (.cons (.ite (.and (.cmp .ne (.var 6) (.lst false .nil)) (.not (.call 93 (.cons (.var 9) (.cons (.var 10) (.cons (.idx (.var 7) (.cst (.int 2))) .nil))))))
      (.cons (.ret (.cst (.bl false)))
       .nil)
      .nil)
     (.cons (.loop (.var 8) (.val (.slice false (.call 28 (.cons (.var 10) .nil)) false (.cst .non) true (.cst (.int 2))))
      (.cons (.set (.var 11) (.call 14 (.cons (.var 2) (.cons (.cst (.int 45)) .nil))))
       (.cons (.set (.var 12) (.call 91 (.cons (.cst (.int 1)) (.cons (.var 9) (.cons (.var 10) (.cons (.var 8) (.cons (.var 11) .nil)))))))
       (.cons (.set (.var 13) (.call 92 (.cons (.var 9) (.cons (.var 10) (.cons (.var 8) (.cons (.var 11) .nil))))))
       (.cons (.ite (.cmp .ne (.isN (.var 12)) (.isN (.var 13)))
        (.cons (.ret (.cst (.bl false)))
         .nil)
        .nil)
       (.cons (.ite (.isN (.var 12))
        (.cons .cont
         .nil)
        .nil)
       (.cons (.ite (.not (.call 94 (.cons (.var 9) (.cons (.var 10) (.cons (.var 12) (.cons (.var 8) (.cons (.var 11) (.cons (.var 13) .nil))))))))
        (.cons (.ret (.cst (.bl false)))
         .nil)
        .nil)
       .nil)))))))
     .nil))))))))))
   (.cons (.ite (.not (.call 95 (.cons (.var 9) (.cons (.var 10) .nil))))
    (.cons (.ret (.cst (.bl false)))
     .nil)
    .nil)
   .nil))))
 (.cons (.ret (.call 96 .nil))
 .nil))⟩
-- 98 law_all_in(_law_scale_here=0, _law_recipe_here=1, _law_run_here=2, _law_told=3, _law_index=4, _law_net_here=5, _law_pairs=6, _law_name=7, _law_amount=8, _law_bounds=9)
def c_law_all_in : Fn := ⟨4, 10, true,
 (.cons (.set (.tup (.cons (.var 4) (.cons (.var 5) (.cons (.var 6) .nil)))) (.call 57 (.cons (.var 0) (.cons (.var 1) (.cons (.var 2) .nil)))))
 (.cons (.ite (.cmp .lt (.var 4) (.blt false .len (.cons (.var 1) .nil)))
  (.cons (.ret (.cst (.bl true)))
   .nil)
  .nil)
 (.cons (.loop (.tup (.cons (.var 7) (.cons (.var 8) .nil))) (.val (.var 6))
  (.cons (.set (.var 9) (.idx (.var 3) (.var 7)))
   (.cons (.ite (.or (.isN (.var 9)) (.or (.cmp .lt (.var 8) (.idx (.var 9) (.cst (.int 0)))) (.and (.notN (.idx (.var 9) (.cst (.int 1)))) (.cmp .gt (.var 8) (.idx (.var 9) (.cst (.int 1)))))))
    (.cons (.ret (.cst (.bl false)))
     .nil)
    .nil)
   .nil)))
 (.cons (.ret (.cst (.bl true)))
 .nil))))⟩
-- 99 law_reached(_law_scale_here=0, _law_recipe_here=1, _law_name=2, _law_bounds=3, _law_ends=4, _law_amount=5, _law_low=6, _law_high=7, _law_run_here=8, _law_one=9)
def c_law_reached : Fn := ⟨4, 10, true,
 (.cons (.set (.tup (.cons (.var 6) (.cons (.var 7) .nil))) (.var 3))
 (.cons (.set (.var 4) (.ite (.notN (.var 7)) (.lst false (.cons (.var 6) (.cons (.var 7) .nil))) (.lst false (.cons (.var 6) .nil))))
 (.cons (.loop (.var 5) (.val (.comp false true [9] (.val (.var 4)) (.cmp .lt (.var 9) (.cst (.int 80))) (.var 9)))
  (.cons (.set (.var 8) (.call 88 (.cons (.var 0) (.cons (.var 1) (.cons (.var 2) (.cons (.var 5) .nil))))))
   (.cons (.ite (.or (.isN (.var 8)) (.cmp .notin (.tup (.cons (.var 2) (.cons (.var 5) .nil))) (.idx (.call 57 (.cons (.var 0) (.cons (.var 1) (.cons (.var 8) .nil)))) (.cst (.int 2)))))
    (.cons (.ret (.cst (.bl false)))
     .nil)
    .nil)
   .nil)))
 (.cons (.ite (.and (.cmp .gt (.var 6) (.cst (.int 0))) (.and (.cmp .lt (.var 6) (.cst (.int 80))) (.notN (.call 88 (.cons (.var 0) (.cons (.var 1) (.cons (.var 2) (.cons (.bin false .sub (.var 6) (.cst (.int 1))) .nil))))))))
  (.cons (.ret (.cst (.bl false)))
   .nil)
  .nil)
 (.cons (.ite (.and (.notN (.var 7)) (.and (.cmp .lt (.var 7) (.cst (.int 80))) (.notN (.call 88 (.cons (.var 0) (.cons (.var 1) (.cons (.var 2) (.cons (.bin false .add (.var 7) (.cst (.int 1))) .nil))))))))
  (.cons (.ret (.cst (.bl false)))
   .nil)
  .nil)
 (.cons (.ite (.or (.notN (.var 7)) (.cmp .gt (.var 6) (.cst (.int 60))))
  (.cons (.ret (.cst (.bl true)))
   .nil)
  .nil)
 (.cons (.ret (.cmp .ne (.comp false true [9] (.rng (.cst (.int 190)) (.cst (.int 196))) (.notN (.call 88 (.cons (.var 0) (.cons (.var 1) (.cons (.var 2) (.cons (.var 9) .nil)))))) (.var 9)) (.lst false .nil)))
 .nil)))))))⟩
-- 100 law_k24(_law_script=0, _law_k=1, _law_source_here=2, _law_names=3, _law_told=4, _law_turn=5, _law_name=6, _law_found=7, _law_deeds=8, _law_scale_here=9, _law_recipe_here=10, _law_run_here=11, _law_again=12, _law_target=13, _law_most=14, _law_low=15, _law_high=16, _law_pair=17)
def c_law_k24 : Fn := ⟨1, 18, true,
 (.cons (.loop (.var 1) (.rng (.cst (.int 0)) (.blt false .max2 (.cons (.cst (.int 4)) (.cons (.blt false .min2 (.cons (.cst (.int 10)) (.cons (.blt false .len (.cons (.var 0) .nil)) .nil))) .nil))))
  (.cons (.set (.var 2) (.call 13 (.cons (.var 0) (.cons (.var 1) .nil))))
   (.cons (.set (.tup (.cons (.var 9) (.cons (.var 10) .nil))) (.tup (.cons (.call 25 (.cons (.var 2) .nil)) (.cons (.call 27 (.cons (.var 2) (.cons (.cst (.int 5)) .nil))) .nil))))
   (.cons (.set (.var 3) (.call 12 (.cons (.var 10) .nil)))
   (.cons (.set (.var 4) (.blt false (.dict true) (.cons (.comp false true [6] (.val (.var 3)) (.cst (.bl true)) (.tup (.cons (.var 6) (.cons (.call 75 (.cons (.var 9) (.cons (.var 10) (.cons (.var 6) .nil)))) .nil)))) .nil)))
   (.cons (.ite (.cmp .ne (.comp false true [6] (.val (.var 3)) (.cmp .eq (.isN (.idx (.var 4) (.var 6))) (.call 85 (.cons (.var 9) (.cons (.var 10) .nil)))) (.var 6)) (.lst false .nil))
    (.cons (.ret (.cst (.bl false)))
     .nil)
    .nil)
   (.cons (.loop (.var 5) (.rng (.cst (.int 0)) (.cst (.int 8)))
    (.cons (.set (.var 11) (.call 62 (.cons (.var 2) (.cons (.var 9) (.cons (.var 10) (.cons (.cst (.int 60)) .nil))))))
     (.cons (.ite (.or (.not (.call 56 (.cons (.var 9) (.cons (.var 10) (.cons (.var 11) .nil))))) (.not (.call 98 (.cons (.var 9) (.cons (.var 10) (.cons (.var 11) (.cons (.var 4) .nil)))))))
      (.cons (.ret (.cst (.bl false)))
       .nil)
      .nil)
     (.cons (.ite (.cmp .ne (.comp false true [17] (.val (.idx (.call 57 (.cons (.var 9) (.cons (.var 10) (.cons (.var 11) .nil)))) (.cst (.int 2)))) (.cst (.bl true)) (.idx (.var 17) (.cst (.int 0)))) (.var 3))
      (.cons (.ret (.cst (.bl false)))
       .nil)
      .nil)
     .nil))))
   (.cons (.loop (.var 6) (.val (.slice false (.var 3) false (.cst .non) true (.cst (.int 2))))
    (.cons (.ite (.and (.notN (.idx (.var 4) (.var 6))) (.not (.call 99 (.cons (.var 9) (.cons (.var 10) (.cons (.var 6) (.cons (.idx (.var 4) (.var 6)) .nil)))))))
      (.cons (.ret (.cst (.bl false)))
       .nil)
      .nil)
     .nil))
   (.cons (.set (.var 7) (.call 87 (.cons (.var 9) (.cons (.var 10) .nil))))
   (.cons (.ite (.cmp .ne (.isN (.var 7)) (.call 86 (.cons (.var 9) (.cons (.var 10) .nil))))
    (.cons (.ret (.cst (.bl false)))
     .nil)
    .nil)
   (.cons (.ite (.notN (.var 7))
    (.cons (.set (.var 12) (.bin false .add (.idx (.var 7) (.cst (.int 0))) (.bin false .mul (.idx (.var 7) (.cst (.int 1))) (.bin false .fdiv (.cst (.int 500)) (.blt false .max2 (.cons (.cst (.int 1)) (.cons (.blt false .len (.cons (.idx (.var 7) (.cst (.int 1))) .nil)) .nil)))))))
     (.cons (.ite (.and (.cmp .le (.blt false .len (.cons (.var 12) .nil)) (.cst (.int 600))) (.not (.call 56 (.cons (.var 9) (.cons (.var 10) (.cons (.var 12) .nil))))))
      (.cons (.ret (.cst (.bl false)))
       .nil)
      .nil)
     .nil))
    (.cons (.ite (.isN (.call 63 (.cons (.var 9) (.cons (.var 10) (.cons (.call 62 (.cons (.var 2) (.cons (.var 9) (.cons (.var 10) (.cons (.cst (.int 590)) .nil))))) .nil)))))
      (.cons (.ret (.cst (.bl false)))
       .nil)
      .nil)
     .nil))
   (.cons (.set (.tup (.cons (.var 13) (.cons (.var 14) .nil))) (.tup (.cons (.bin false .add (.cst (.int 1)) (.call 14 (.cons (.var 2) (.cons (.cst (.int 60)) .nil)))) (.cons (.bin false .add (.cst (.int 1)) (.call 14 (.cons (.var 2) (.cons (.cst (.int 20)) .nil)))) .nil))))
   (.cons (.set (.var 8) (.tup (.cons (.tup (.cons (.cst (.str "put")) (.cons (.cst (.int 3)) (.cons (.cst (.int 9)) .nil)))) (.cons (.tup (.cons (.cst (.str "tare")) .nil)) (.cons (.tup (.cons (.cst (.str "pour")) (.cons (.cst (.str "a")) (.cons (.var 13) (.cons (.call 14 (.cons (.var 2) (.cons (.bin false .add (.cst (.int 1)) (.var 14)) .nil))) (.cons (.var 14) .nil)))))) .nil)))))
   (.cons (.set (.tup (.cons (.var 15) (.cons (.var 16) .nil))) (.call 76 (.cons (.tup (.cons (.cst (.int 1)) (.cons (.call 15 (.cons (.var 2) (.cons (.lst false (.cons (.cst (.str "down")) (.cons (.cst (.str "near")) .nil))) .nil))) (.cons (.cst (.int 0)) (.cons (.cst (.str "exact")) .nil))))) (.cons (.var 8) (.cons (.cst (.int 2)) .nil)))))
   (.cons (.ite (.or (.cmp .lt (.var 15) (.cst (.int 0))) (.cmp .gt (.var 16) (.bin false .sub (.var 14) (.cst (.int 1)))))
    (.cons (.ret (.cst (.bl false)))
     .nil)
    .nil)
   .nil)))))))))))))))
 (.cons (.ret (.cst (.bl true)))
 .nil))⟩
-- 101 all_bounds(scale=0, recipe=1, name=2)
def c_all_bounds : Fn := ⟨2, 3, true,
 (.cons (.ret (.comp false true [2] (.val (.call 7 (.cons (.var 1) .nil))) (.cst (.bl true)) (.tup (.cons (.var 2) (.cons (.call 72 (.cons (.var 0) (.cons (.var 1) (.cons (.var 2) (.cons (.cst .non) .nil))))) .nil)))))
 .nil)⟩
-- 102 same_bounds(scale=0, one=1, other=2)
def c_same_bounds : Fn := ⟨3, 3, true,
 (.cons (.ite (.cmp .ne (.call 84 (.cons (.var 0) (.cons (.var 1) .nil))) (.call 84 (.cons (.var 0) (.cons (.var 2) .nil))))
  (.cons (.ret (.cst (.bl false)))
   .nil)
  .nil)
 (.cons (.ret (.cmp .eq (.call 101 (.cons (.var 0) (.cons (.var 1) .nil))) (.call 101 (.cons (.var 0) (.cons (.var 2) .nil)))))
 .nil))⟩
-- 103 without(recipe=0, index=1)
def c_without : Fn := ⟨2, 2, true,
 (.cons (.ret (.bin false .add (.slice false (.var 0) false (.cst .non) true (.var 1)) (.slice false (.var 0) true (.bin false .add (.var 1) (.cst (.int 1))) false (.cst .non))))
 .nil)⟩
-- 104 needless_h(scale=0, recipe=1, found=2, index=3, deed=4) NOT FROZEN
def c_needless_h : Fn := ⟨2, 5, false,
 (.cons (.expr (.call 35 (.cons (.var 0) .nil)))
 (.cons (.expr (.call 8 (.cons (.var 1) .nil)))
 (.cons (.set (.var 2) (.comp false false [3, 4] (.enm (.var 1)) (.and (.cmp .eq (.idx (.var 4) (.cst (.int 0))) (.cst (.str "tare"))) (.cmp .gt (.blt false .len (.cons (.var 1) .nil)) (.cst (.int 1)))) (.var 3)))
 (.cons (.ret (.comp true true [3] (.val (.var 2)) (.call 102 (.cons (.var 0) (.cons (.call 103 (.cons (.var 1) (.cons (.var 3) .nil))) (.cons (.var 1) .nil)))) (.var 3)))
 .nil))))⟩
-- 104 needless(scale=0, recipe=1, found=2, index=3, deed=4)
def c_needless : Fn := ⟨2, 5, true,
 (.cons (.expr (.call 35 (.cons (.var 0) .nil)))
 (.cons (.expr (.call 8 (.cons (.var 1) .nil)))
 (.cons (.set (.var 2) (.comp false false [3, 4] (.enm (.var 1)) (.and (.cmp .eq (.idx (.var 4) (.cst (.int 0))) (.cst (.str "tare"))) (.cmp .gt (.blt false .len (.cons (.var 1) .nil)) (.cst (.int 1)))) (.var 3)))
 (.cons (.ret (.comp false true [3] (.val (.var 2)) (.call 102 (.cons (.var 0) (.cons (.call 103 (.cons (.var 1) (.cons (.var 3) .nil))) (.cons (.var 1) .nil)))) (.var 3)))
 .nil))))⟩
-- 105 either_way(scale=0, recipe=1, index=2, other=3)
def c_either_way : Fn := ⟨3, 4, true,
 (.cons (.expr (.call 35 (.cons (.var 0) .nil)))
 (.cons (.expr (.call 8 (.cons (.var 1) .nil)))
 (.cons (.expr (.call 68 (.cons (.var 1) (.cons (.var 2) .nil))))
 (.cons (.ite (.cmp .eq (.bin false .add (.var 2) (.cst (.int 1))) (.blt false .len (.cons (.var 1) .nil)))
  (.cons (.rais 7)
   .nil)
  .nil)
 (.cons (.set (.var 3) (.bin false .add (.bin false .add (.slice false (.var 1) false (.cst .non) true (.var 2)) (.tup (.cons (.idx (.var 1) (.bin false .add (.var 2) (.cst (.int 1)))) (.cons (.idx (.var 1) (.var 2)) .nil)))) (.slice false (.var 1) true (.bin false .add (.var 2) (.cst (.int 2))) false (.cst .non))))
 (.cons (.ret (.call 102 (.cons (.var 0) (.cons (.var 3) (.cons (.var 1) .nil)))))
 .nil))))))⟩
-- 106 law_all_bounds(_law_scale_here=0, _law_recipe_here=1, _law_ends=2, _law_here=3, _law_name=4)
def c_law_all_bounds : Fn := ⟨2, 5, true,
 (.cons (.set (.var 2) (.cmp .ne (.comp false true [3] (.val (.call 77 (.cons (.var 0) (.cons (.var 1) .nil)))) (.cmp .eq (.idx (.var 3) (.cst (.int 0))) (.blt false .len (.cons (.var 1) .nil))) (.var 3)) (.lst false .nil)))
 (.cons (.ret (.bin false .add (.lst false (.cons (.var 2) .nil)) (.comp false true [4] (.val (.call 28 (.cons (.var 1) .nil))) (.cst (.bl true)) (.tup (.cons (.var 4) (.cons (.call 79 (.cons (.var 0) (.cons (.var 1) (.cons (.var 4) .nil)))) .nil))))))
 .nil))⟩
-- 107 law_outcome_k31(_law_scale_here=0, _law_recipe_here=1, _law_index=2) NOT FROZEN
def c_law_outcome_k31 : Fn := ⟨3, 3, false,
 (.cons (.tryc (.cons (.ret (.ite (.cmp .eq (.var 2) (.cst (.str "all"))) (.call 104 (.cons (.var 0) (.cons (.var 1) .nil))) (.call 105 (.cons (.var 0) (.cons (.var 1) (.cons (.var 2) .nil))))))
   .nil) [(2, .ret (.str "scale!")), (1, .ret (.str "recipe!")), (7, .ret (.str "index!"))])
 .nil)⟩
-- 108 law_written_right(_law_some=0, _law_drip=1, _law_mixed=2, _law_wet=3, _law_plain=4)
def c_law_written_right : Fn := ⟨0, 5, true,
 (.cons (.set (.tup (.cons (.var 3) (.cons (.var 4) .nil))) (.tup (.cons (.tup (.cons (.cst (.int 1)) (.cons (.cst (.str "down")) (.cons (.cst (.int 4)) (.cons (.cst (.str "exact")) .nil))))) (.cons (.tup (.cons (.cst (.int 1)) (.cons (.cst (.str "down")) (.cons (.cst (.int 0)) (.cons (.cst (.str "exact")) .nil))))) .nil))))
 (.cons (.set (.var 0) (.tup (.cons (.tup (.cons (.cst (.str "put")) (.cons (.cst (.int 3)) (.cons (.cst (.int 4)) .nil)))) (.cons (.tup (.cons (.cst (.str "tare")) .nil)) (.cons (.tup (.cons (.cst (.str "pour")) (.cons (.cst (.str "a")) (.cons (.cst (.int 9)) (.cons (.cst (.int 1)) (.cons (.cst (.int 9)) .nil)))))) .nil)))))
 (.cons (.ite (.or (.cmp .ne (.call 104 (.cons (.var 3) (.cons (.var 0) .nil))) (.lst false (.cons (.cst (.int 1)) .nil))) (.cmp .ne (.call 104 (.cons (.var 4) (.cons (.var 0) .nil))) (.lst false .nil)))
  (.cons (.ret (.cst (.bl false)))
   .nil)
  .nil)
 (.cons (.ite (.cmp .ne (.call 104 (.cons (.var 4) (.cons (.tup (.cons (.tup (.cons (.cst (.str "tare")) .nil)) .nil)) .nil))) (.lst false .nil))
  (.cons (.ret (.cst (.bl false)))
   .nil)
  .nil)
 (.cons (.set (.var 1) (.tup (.cons (.tup (.cons (.cst (.str "tare")) .nil)) (.cons (.tup (.cons (.cst (.str "pour")) (.cons (.cst (.str "a")) (.cons (.cst (.int 9)) (.cons (.cst (.int 1)) (.cons (.cst (.int 3)) .nil)))))) (.cons (.tup (.cons (.cst (.str "add")) (.cons (.cst (.str "b")) (.cons (.cst (.int 1)) (.cons (.cst (.int 1)) .nil))))) .nil)))))
 (.cons (.set (.var 2) (.tup (.cons (.tup (.cons (.cst (.str "pour")) (.cons (.cst (.str "a")) (.cons (.cst (.int 9)) (.cons (.cst (.int 1)) (.cons (.cst (.int 1)) .nil)))))) (.cons (.tup (.cons (.cst (.str "pour")) (.cons (.cst (.str "b")) (.cons (.cst (.int 4)) (.cons (.cst (.int 1)) (.cons (.cst (.int 1)) .nil)))))) .nil))))
 (.cons (.ite (.or (.cmp .ne (.call 104 (.cons (.var 3) (.cons (.var 1) .nil))) (.lst false (.cons (.cst (.int 0)) .nil))) (.not (.call 105 (.cons (.var 3) (.cons (.var 1) (.cons (.cst (.int 1)) .nil))))))
  (.cons (.ret (.cst (.bl false)))
   .nil)
  .nil)
 (.cons (.ret (.not (.call 105 (.cons (.var 4) (.cons (.var 2) (.cons (.cst (.int 0)) .nil))))))
 .nil))))))))⟩
-- 109 law_k31(_law_script=0, _law_k=1, _law_source_here=2, _law_turn=3, _law_odd=4, _law_at=5, _law_again=6, _law_scale_here=7, _law_recipe_here=8, _law_base=9, _law_due=10, _law_less=11, _law_found=12, _law_pair=13, _law_other=14, _law_good=15)
def c_law_k31 : Fn := ⟨1, 16, true,
 (.cons (.loop (.var 1) (.rng (.cst (.int 0)) (.blt false .max2 (.cons (.cst (.int 4)) (.cons (.blt false .min2 (.cons (.cst (.int 10)) (.cons (.blt false .len (.cons (.var 0) .nil)) .nil))) .nil))))
  (.cons (.set (.var 2) (.call 13 (.cons (.var 0) (.cons (.var 1) .nil))))
   (.cons (.loop (.var 3) (.rng (.cst (.int 0)) (.cst (.int 2)))
    (.cons (.set (.tup (.cons (.var 7) (.cons (.var 8) .nil))) (.tup (.cons (.call 25 (.cons (.var 2) .nil)) (.cons (.call 27 (.cons (.var 2) (.cons (.cst (.int 5)) .nil))) .nil))))
     (.cons (.set (.tup (.cons (.var 9) (.cons (.var 10) .nil))) (.tup (.cons (.call 106 (.cons (.var 7) (.cons (.var 8) .nil))) (.cons (.lst false .nil) .nil))))
     (.cons (.loop (.var 5) (.rng (.cst (.int 0)) (.blt false .len (.cons (.var 8) .nil)))
      (.cons (.set (.var 11) (.bin false .add (.slice false (.var 8) false (.cst .non) true (.var 5)) (.slice false (.var 8) true (.bin false .add (.var 5) (.cst (.int 1))) false (.cst .non))))
       (.cons (.ite (.and (.cmp .eq (.idx (.var 8) (.var 5)) (.tup (.cons (.cst (.str "tare")) .nil))) (.cmp .ne (.var 11) (.tup .nil)))
        (.cons (.set (.var 10) (.bin false .add (.var 10) (.bin false .mul (.lst false (.cons (.var 5) .nil)) (.blt false .int (.cons (.cmp .eq (.call 106 (.cons (.var 7) (.cons (.var 11) .nil))) (.var 9)) .nil)))))
         .nil)
        .nil)
       .nil)))
     (.cons (.loop (.var 6) (.rng (.cst (.int 0)) (.cst (.int 2)))
      (.cons (.set (.var 12) (.call 107 (.cons (.var 7) (.cons (.var 8) (.cons (.cst (.str "all")) .nil)))))
       (.cons (.ite (.or (.not (.blt false (.isi .list) (.cons (.var 12) .nil))) (.cmp .ne (.var 12) (.var 10)))
        (.cons (.ret (.cst (.bl false)))
         .nil)
        .nil)
       (.cons (.expr (.mth false .append (.var 12) (.cons (.cst (.str "odd")) .nil)))
       .nil))))
     (.cons (.loop (.var 5) (.rng (.cst (.int 0)) (.bin false .sub (.blt false .len (.cons (.var 8) .nil)) (.cst (.int 1))))
      (.cons (.set (.var 13) (.rev false (.slice false (.var 8) true (.var 5) true (.bin false .add (.var 5) (.cst (.int 2))))))
       (.cons (.set (.var 14) (.bin false .add (.bin false .add (.slice false (.var 8) false (.cst .non) true (.var 5)) (.var 13)) (.slice false (.var 8) true (.bin false .add (.var 5) (.cst (.int 2))) false (.cst .non))))
       (.cons (.set (.var 15) (.cmp .eq (.call 106 (.cons (.var 7) (.cons (.var 14) .nil))) (.var 9)))
       (.cons (.ite (.not (.call 16 (.cons (.call 107 (.cons (.var 7) (.cons (.var 8) (.cons (.var 5) .nil)))) (.cons (.var 15) .nil))))
        (.cons (.ret (.cst (.bl false)))
         .nil)
        .nil)
       .nil)))))
     .nil))))))
   (.cons (.loop (.var 4) (.val (.lst false (.cons (.neg (.cst (.int 1))) (.cons (.bin false .sub (.blt false .len (.cons (.var 8) .nil)) (.cst (.int 1))) (.cons (.blt false .len (.cons (.var 8) .nil)) (.cons (.cst .non) (.cons (.cst (.bl true)) (.cons (.cst (.str "0")) .nil))))))))
    (.cons (.ite (.cmp .ne (.call 107 (.cons (.var 7) (.cons (.var 8) (.cons (.var 4) .nil)))) (.cst (.str "index!")))
      (.cons (.ret (.cst (.bl false)))
       .nil)
      .nil)
     .nil))
   (.cons (.ite (.cmp .ne (.call 107 (.cons (.slice false (.var 7) false (.cst .non) true (.cst (.int 2))) (.cons (.tup .nil) (.cons (.cst (.str "all")) .nil)))) (.cst (.str "scale!")))
    (.cons (.ret (.cst (.bl false)))
     .nil)
    .nil)
   (.cons (.ite (.cmp .ne (.call 107 (.cons (.var 7) (.cons (.tup .nil) (.cons (.cst (.int 0)) .nil)))) (.cst (.str "recipe!")))
    (.cons (.ret (.cst (.bl false)))
     .nil)
    .nil)
   .nil))))))
 (.cons (.ret (.call 108 .nil))
 .nil))⟩
-- 110 with_most(recipe=0, index=1, most=2)
def c_with_most : Fn := ⟨3, 3, true,
 (.cons (.ret (.bin false .add (.bin false .add (.slice false (.var 0) false (.cst .non) true (.var 1)) (.tup (.cons (.bin false .add (.slice false (.idx (.var 0) (.var 1)) false (.cst .non) true (.cst (.int 4))) (.tup (.cons (.var 2) .nil))) .nil))) (.slice false (.var 0) true (.bin false .add (.var 1) (.cst (.int 1))) false (.cst .non))))
 .nil)⟩
-- 111 careful: not in the core
-- 112 law_due_k32(_law_scale_here=0, _law_recipe_here=1, _law_index=2, _law_miss=3, _law_due_here=4, _law_tick=5, _law_word=6, _law_name=7, _law_target=8, _law_least=9, _law_most=10, _law_other=11, _law_bounds_here=12)
def c_law_due_k32 : Fn := ⟨4, 13, true,
 (.cons (.set (.tup (.cons (.var 6) (.cons (.var 7) (.cons (.var 8) (.cons (.var 9) (.cons (.var 10) .nil)))))) (.idx (.var 1) (.var 2)))
 (.cons (.set (.var 4) (.cst .non))
 (.cons (.loop (.var 5) (.rng (.blt false .max2 (.cons (.var 9) (.cons (.cst (.int 1)) .nil))) (.cst (.int 21)))
  (.cons (.set (.var 11) (.bin false .add (.bin false .add (.slice false (.var 1) false (.cst .non) true (.var 2)) (.tup (.cons (.tup (.cons (.var 6) (.cons (.var 7) (.cons (.var 8) (.cons (.var 9) (.cons (.var 5) .nil)))))) .nil))) (.slice false (.var 1) true (.bin false .add (.var 2) (.cst (.int 1))) false (.cst .non))))
   (.cons (.set (.var 12) (.call 79 (.cons (.var 0) (.cons (.var 11) (.cons (.var 2) .nil)))))
   (.cons (.ite (.and (.notN (.var 12)) (.notN (.idx (.var 12) (.cst (.int 1)))))
    (.cons (.ite (.and (.cmp .le (.bin false .sub (.var 8) (.var 3)) (.idx (.var 12) (.cst (.int 0)))) (.cmp .le (.idx (.var 12) (.cst (.int 1))) (.bin false .add (.var 8) (.var 3))))
      (.cons (.set (.var 4) (.var 5))
       .nil)
      .nil)
     .nil)
    .nil)
   .nil))))
 (.cons (.ret (.var 4))
 .nil))))⟩
-- 113 law_outcome_k32(_law_scale_here=0, _law_recipe_here=1, _law_index=2, _law_miss=3)
def c_law_outcome_k32 : Fn := ⟨4, 4, true,
 (.cons (.tryc (.cons (.ret (.call 111 (.cons (.var 0) (.cons (.var 1) (.cons (.var 2) (.cons (.var 3) .nil))))))
   .nil) [(2, .ret (.str "scale!")), (1, .ret (.str "recipe!")), (7, .ret (.str "index!")), (8, .ret (.str "amount!"))])
 .nil)⟩
-- 114 law_k32(_law_script=0, _law_k=1, _law_some=2, _law_source_here=3, _law_least=4, _law_recipe_here=5, _law_pours=6, _law_index=7, _law_odd=8, _law_down=9, _law_flour=10, _law_scale_here=11, _law_miss=12, _law_at=13, _law_deed_here=14)
def c_law_k32 : Fn := ⟨1, 15, true,
 (.cons (.loop (.var 1) (.rng (.cst (.int 0)) (.blt false .max2 (.cons (.cst (.int 4)) (.cons (.blt false .min2 (.cons (.cst (.int 8)) (.cons (.blt false .len (.cons (.var 0) .nil)) .nil))) .nil))))
  (.cons (.set (.var 3) (.call 13 (.cons (.var 0) (.cons (.var 1) .nil))))
   (.cons (.set (.tup (.cons (.var 11) (.cons (.var 5) .nil))) (.tup (.cons (.call 25 (.cons (.var 3) .nil)) (.cons (.call 27 (.cons (.var 3) (.cons (.cst (.int 3)) .nil))) .nil))))
   (.cons (.set (.var 4) (.call 14 (.cons (.var 3) (.cons (.cst (.int 3)) .nil))))
   (.cons (.set (.var 5) (.bin false .add (.var 5) (.tup (.cons (.tup (.cons (.cst (.str "pour")) (.cons (.cst (.str "a")) (.cons (.bin false .add (.cst (.int 1)) (.call 14 (.cons (.var 3) (.cons (.cst (.int 20)) .nil)))) (.cons (.var 4) (.cons (.bin false .add (.cst (.int 2)) (.call 14 (.cons (.var 3) (.cons (.cst (.int 3)) .nil)))) .nil)))))) .nil))))
   (.cons (.set (.var 6) (.comp false false [13, 14] (.enm (.var 5)) (.cmp .eq (.idx (.var 14) (.cst (.int 0))) (.cst (.str "pour"))) (.var 13)))
   (.cons (.loop (.var 7) (.val (.slice false (.var 6) true (.neg (.cst (.int 2))) false (.cst .non)))
    (.cons (.set (.var 12) (.call 14 (.cons (.var 3) (.cons (.cst (.int 8)) .nil))))
     (.cons (.ite (.cmp .ne (.call 113 (.cons (.var 11) (.cons (.var 5) (.cons (.var 7) (.cons (.var 12) .nil))))) (.call 112 (.cons (.var 11) (.cons (.var 5) (.cons (.var 7) (.cons (.var 12) .nil))))))
      (.cons (.ret (.cst (.bl false)))
       .nil)
      .nil)
     .nil)))
   (.cons (.loop (.var 8) (.val (.bin false .add (.lst false (.cons (.neg (.cst (.int 1))) (.cons (.blt false .len (.cons (.var 5) .nil)) (.cons (.cst .non) (.cons (.cst (.bl true)) (.cons (.cst (.str "0")) .nil)))))) (.comp false true [13] (.rng (.cst (.int 0)) (.blt false .len (.cons (.var 5) .nil))) (.cmp .notin (.var 13) (.var 6)) (.var 13))))
    (.cons (.ite (.cmp .ne (.call 113 (.cons (.var 11) (.cons (.var 5) (.cons (.var 8) (.cons (.cst .non) .nil))))) (.cst (.str "index!")))
      (.cons (.ret (.cst (.bl false)))
       .nil)
      .nil)
     .nil))
   (.cons (.loop (.var 8) (.val (.lst false (.cons (.neg (.cst (.int 1))) (.cons (.cst (.int 101)) (.cons (.cst .non) (.cons (.cst (.bl true)) (.cons (.cst (.str "0")) .nil)))))))
    (.cons (.ite (.cmp .ne (.call 113 (.cons (.var 11) (.cons (.var 5) (.cons (.idx (.var 6) (.cst (.int 0))) (.cons (.var 8) .nil))))) (.cst (.str "amount!")))
      (.cons (.ret (.cst (.bl false)))
       .nil)
      .nil)
     .nil))
   (.cons (.ite (.or (.cmp .ne (.call 113 (.cons (.slice false (.var 11) false (.cst .non) true (.cst (.int 2))) (.cons (.tup .nil) (.cons (.cst (.int 0)) (.cons (.cst (.int 0)) .nil))))) (.cst (.str "scale!"))) (.cmp .ne (.call 113 (.cons (.var 11) (.cons (.tup .nil) (.cons (.cst (.int 0)) (.cons (.cst (.int 0)) .nil))))) (.cst (.str "recipe!"))))
    (.cons (.ret (.cst (.bl false)))
     .nil)
    .nil)
   .nil))))))))))
 (.cons (.set (.tup (.cons (.var 9) (.cons (.var 10) .nil))) (.tup (.cons (.tup (.cons (.cst (.int 5)) (.cons (.cst (.str "down")) (.cons (.cst (.int 0)) (.cons (.cst (.str "exact")) .nil))))) (.cons (.tup (.cons (.tup (.cons (.cst (.str "put")) (.cons (.cst (.int 0)) (.cons (.cst (.int 4)) .nil)))) (.cons (.tup (.cons (.cst (.str "pour")) (.cons (.cst (.str "a")) (.cons (.cst (.int 20)) (.cons (.cst (.int 3)) (.cons (.cst (.int 4)) .nil)))))) .nil))) .nil))))
 (.cons (.set (.var 2) (.lst false (.cons (.call 111 (.cons (.var 9) (.cons (.var 10) (.cons (.cst (.int 1)) (.cons (.cst (.int 4)) .nil))))) (.cons (.call 111 (.cons (.var 9) (.cons (.var 10) (.cons (.cst (.int 1)) (.cons (.cst (.int 3)) .nil))))) (.cons (.call 111 (.cons (.var 9) (.cons (.slice false (.var 10) true (.cst (.int 1)) false (.cst .non)) (.cons (.cst (.int 0)) (.cons (.cst (.int 6)) .nil))))) .nil)))))
 (.cons (.ret (.cmp .eq (.var 2) (.lst false (.cons (.cst (.int 5)) (.cons (.cst (.int 3)) (.cons (.cst (.int 7)) .nil))))))
 .nil))))⟩
-- 115 tare_matters(scale=0, step=1, rounding=2, hold=3, tare=4)
def c_tare_matters : Fn := ⟨1, 5, true,
 (.cons (.set (.tup (.cons (.var 1) (.cons (.var 2) (.cons (.var 3) (.cons (.var 4) .nil))))) (.var 0))
 (.cons (.ret (.cmp .gt (.ite (.cmp .eq (.var 2) (.cst (.str "down"))) (.bin false .sub (.var 1) (.cst (.int 1))) (.bin false .fdiv (.var 1) (.cst (.int 2)))) (.var 3)))
 .nil))⟩
-- 116 are_alike(one=0, other=1)
def c_are_alike : Fn := ⟨2, 2, true,
 (.cons (.ite (.or (.cmp .ne (.idx (.var 0) (.cst (.int 0))) (.idx (.var 1) (.cst (.int 0)))) (.cmp .ne (.idx (.var 0) (.cst (.int 2))) (.idx (.var 1) (.cst (.int 2)))))
  (.cons (.ret (.cst (.bl false)))
   .nil)
  .nil)
 (.cons (.ite (.and (.cmp .gt (.idx (.var 0) (.cst (.int 0))) (.cst (.int 1))) (.cmp .ne (.idx (.var 0) (.cst (.int 1))) (.idx (.var 1) (.cst (.int 1)))))
  (.cons (.ret (.cst (.bl false)))
   .nil)
  .nil)
 (.cons (.ret (.or (.cmp .eq (.idx (.var 0) (.cst (.int 3))) (.idx (.var 1) (.cst (.int 3)))) (.not (.call 115 (.cons (.var 0) .nil)))))
 .nil)))⟩
-- 117 first_parting: not in the core
-- 118 alike(one=0, other=1)
def c_alike : Fn := ⟨2, 2, true,
 (.cons (.expr (.call 35 (.cons (.var 0) .nil)))
 (.cons (.expr (.call 35 (.cons (.var 1) .nil)))
 (.cons (.ret (.call 116 (.cons (.var 0) (.cons (.var 1) .nil))))
 .nil)))⟩
-- 119 parting(one=0, other=1)
def c_parting : Fn := ⟨2, 2, true,
 (.cons (.expr (.call 35 (.cons (.var 0) .nil)))
 (.cons (.expr (.call 35 (.cons (.var 1) .nil)))
 (.cons (.ret (.ite (.call 116 (.cons (.var 0) (.cons (.var 1) .nil))) (.cst .non) (.call 117 (.cons (.var 0) (.cons (.var 1) .nil)))))
 .nil)))⟩
-- 120 law_fewest_k41: not in the core
-- 121 law_refused_k41: not in the core
-- 122 law_k41(_law_script=0, _law_k=1, _law_some=2, _law_source_here=3, _law_one=4, _law_turn=5, _law_odd=6, _law_hold=7, _law_other=8, _law_at=9, _law_due=10, _law_found=11)
def c_law_k41 : Fn := ⟨1, 12, true,
 (.cons (.loop (.var 1) (.rng (.cst (.int 0)) (.blt false .max2 (.cons (.cst (.int 5)) (.cons (.blt false .min2 (.cons (.cst (.int 14)) (.cons (.blt false .len (.cons (.var 0) .nil)) .nil))) .nil))))
  (.cons (.set (.var 3) (.call 13 (.cons (.var 0) (.cons (.var 1) .nil))))
   (.cons (.set (.var 4) (.call 25 (.cons (.var 3) .nil)))
   (.cons (.loop (.var 5) (.rng (.cst (.int 0)) (.cst (.int 3)))
    (.cons (.set (.tup (.cons (.var 8) (.cons (.var 9) .nil))) (.tup (.cons (.call 25 (.cons (.var 3) .nil)) (.cons (.call 14 (.cons (.var 3) (.cons (.cst (.int 5)) .nil))) .nil))))
     (.cons (.ite (.cmp .lt (.var 9) (.cst (.int 4)))
      (.cons (.set (.var 8) (.bin false .add (.bin false .add (.slice false (.var 4) false (.cst .non) true (.var 9)) (.tup (.cons (.idx (.var 8) (.var 9)) .nil))) (.slice false (.var 4) true (.bin false .add (.var 9) (.cst (.int 1))) false (.cst .non))))
       .nil)
      .nil)
     (.cons (.set (.tup (.cons (.var 10) (.cons (.var 11) .nil))) (.tup (.cons (.call 120 (.cons (.var 4) (.cons (.var 8) .nil))) (.cons (.call 119 (.cons (.var 4) (.cons (.var 8) .nil))) .nil))))
     (.cons (.ite (.or (.not (.call 16 (.cons (.call 118 (.cons (.var 4) (.cons (.var 8) .nil))) (.cons (.isN (.var 10)) .nil)))) (.cmp .ne (.isN (.var 11)) (.isN (.var 10))))
      (.cons (.ret (.cst (.bl false)))
       .nil)
      .nil)
     (.cons (.ite (.notN (.var 11))
      (.cons (.ite (.or (.not (.call 17 (.cons (.var 11) (.cons (.var 10) (.cons (.var 10) .nil))))) (.cmp .ne (.slice false (.call 41 (.cons (.var 4) (.cons (.var 11) .nil))) false (.cst .non) true (.neg (.cst (.int 1)))) (.slice false (.call 41 (.cons (.var 8) (.cons (.var 11) .nil))) false (.cst .non) true (.neg (.cst (.int 1))))))
        (.cons (.ret (.cst (.bl false)))
         .nil)
        .nil)
       (.cons (.ite (.cmp .eq (.idx (.call 41 (.cons (.var 4) (.cons (.var 11) .nil))) (.neg (.cst (.int 1)))) (.idx (.call 41 (.cons (.var 8) (.cons (.var 11) .nil))) (.neg (.cst (.int 1)))))
        (.cons (.ret (.cst (.bl false)))
         .nil)
        .nil)
       .nil))
      .nil)
     .nil))))))
   (.cons (.loop (.var 6) (.val (.lst false (.cons (.cst .non) (.cons (.blt false .list (.cons (.var 4) .nil)) (.cons (.slice false (.var 4) false (.cst .non) true (.cst (.int 3))) (.cons (.cst (.str "a")) (.cons (.bin false .add (.tup (.cons (.cst (.int 0)) .nil)) (.slice false (.var 4) true (.cst (.int 1)) false (.cst .non))) .nil)))))))
    (.cons (.ite (.or (.not (.call 121 (.cons (.var 4) (.cons (.var 6) .nil)))) (.not (.call 121 (.cons (.var 6) (.cons (.var 4) .nil)))))
      (.cons (.ret (.cst (.bl false)))
       .nil)
      .nil)
     .nil))
   .nil)))))
 (.cons (.set (.var 2) (.comp false true [7] (.val (.tup (.cons (.cst (.int 1)) (.cons (.cst (.int 2)) .nil)))) (.cst (.bl true)) (.call 118 (.cons (.tup (.cons (.cst (.int 4)) (.cons (.cst (.str "near")) (.cons (.var 7) (.cons (.cst (.str "exact")) .nil))))) (.cons (.tup (.cons (.cst (.int 4)) (.cons (.cst (.str "near")) (.cons (.var 7) (.cons (.cst (.str "shown")) .nil))))) .nil)))))
 (.cons (.ite (.cmp .ne (.var 2) (.lst false (.cons (.cst (.bl false)) (.cons (.cst (.bl true)) .nil))))
  (.cons (.ret (.cst (.bl false)))
   .nil)
  .nil)
 (.cons (.ret (.cmp .eq (.blt false .len (.cons (.call 119 (.cons (.tup (.cons (.cst (.int 10)) (.cons (.cst (.str "near")) (.cons (.cst (.int 1)) (.cons (.cst (.str "exact")) .nil))))) (.cons (.tup (.cons (.cst (.int 10)) (.cons (.cst (.str "near")) (.cons (.cst (.int 2)) (.cons (.cst (.str "exact")) .nil))))) .nil))) .nil)) (.cst (.int 2))))
 .nil))))⟩
-- 123 law_like(_law_one=0, _law_other=1, _law_recipe_here=2, _law_name=3)
def c_law_like : Fn := ⟨3, 4, true,
 (.cons (.loop (.var 3) (.val (.call 12 (.cons (.var 2) .nil)))
  (.cons (.ite (.cmp .ne (.call 75 (.cons (.var 0) (.cons (.var 2) (.cons (.var 3) .nil)))) (.call 75 (.cons (.var 1) (.cons (.var 2) (.cons (.var 3) .nil)))))
    (.cons (.ret (.cst (.bl false)))
     .nil)
    .nil)
   .nil))
 (.cons (.ret (.cmp .eq (.call 86 (.cons (.var 0) (.cons (.var 2) .nil))) (.call 86 (.cons (.var 1) (.cons (.var 2) .nil)))))
 .nil))⟩
-- 124 law_k42(_law_script=0, _law_k=1, _law_source_here=2, _law_one=3, _law_turned=4, _law_same=5, _law_acts=6, _law_turn=7, _law_recipe_here=8, _law_step=9, _law_rounding=10, _law_hold=11, _law_tare=12, _law_way=13, _law_other=14, _law_some=15, _law_found=16, _law_plain=17, _law_near=18)
def c_law_k42 : Fn := ⟨1, 19, true,
 (.cons (.loop (.var 1) (.rng (.cst (.int 0)) (.blt false .max2 (.cons (.cst (.int 5)) (.cons (.blt false .min2 (.cons (.cst (.int 14)) (.cons (.blt false .len (.cons (.var 0) .nil)) .nil))) .nil))))
  (.cons (.set (.var 2) (.call 13 (.cons (.var 0) (.cons (.var 1) .nil))))
   (.cons (.set (.var 3) (.call 25 (.cons (.var 2) .nil)))
   (.cons (.set (.tup (.cons (.var 9) (.cons (.var 10) (.cons (.var 11) (.cons (.var 12) .nil))))) (.var 3))
   (.cons (.set (.var 4) (.dct false false (.cons (.cst (.str "down")) (.cons (.cst (.str "near")) (.cons (.cst (.str "exact")) (.cons (.cst (.str "shown")) .nil)))) (.cons (.cst (.str "near")) (.cons (.cst (.str "down")) (.cons (.cst (.str "shown")) (.cons (.cst (.str "exact")) .nil))))))
   (.cons (.set (.tup (.cons (.var 13) (.cons (.var 14) .nil))) (.tup (.cons (.call 14 (.cons (.var 2) (.cons (.cst (.int 3)) .nil))) (.cons (.tup (.cons (.var 9) (.cons (.var 10) (.cons (.call 14 (.cons (.var 2) (.cons (.cst (.int 6)) .nil))) (.cons (.var 12) .nil))))) .nil))))
   (.cons (.ite (.cmp .eq (.var 13) (.cst (.int 0)))
    (.cons (.set (.var 14) (.tup (.cons (.var 9) (.cons (.idx (.var 4) (.var 10)) (.cons (.var 11) (.cons (.var 12) .nil))))))
     .nil)
    .nil)
   (.cons (.ite (.cmp .eq (.var 13) (.cst (.int 1)))
    (.cons (.set (.var 14) (.tup (.cons (.var 9) (.cons (.var 10) (.cons (.var 11) (.cons (.idx (.var 4) (.var 12)) .nil))))))
     .nil)
    .nil)
   (.cons (.set (.var 5) (.call 118 (.cons (.var 3) (.cons (.var 14) .nil))))
   (.cons (.ite (.not (.call 16 (.cons (.var 5) (.cons (.call 118 (.cons (.var 14) (.cons (.var 3) .nil))) .nil))))
    (.cons (.ret (.cst (.bl false)))
     .nil)
    .nil)
   (.cons (.ite (.cmp .ne (.isN (.call 119 (.cons (.var 3) (.cons (.var 14) .nil)))) (.var 5))
    (.cons (.ret (.cst (.bl false)))
     .nil)
    .nil)
   (.cons (.set (.var 6) (.tup .nil))
   (.cons (.loop (.var 7) (.rng (.cst (.int 0)) (.cst (.int 40)))
    (.cons (.set (.var 15) (.lst false (.cons (.cst (.str "tare")) (.cons (.bin false .sub (.call 14 (.cons (.var 2) (.cons (.cst (.int 41)) .nil))) (.cst (.int 20))) (.cons (.bin false .sub (.call 14 (.cons (.var 2) (.cons (.cst (.int 9)) .nil))) (.cst (.int 4))) .nil)))))
     (.cons (.set (.var 6) (.bin false .add (.var 6) (.tup (.cons (.call 15 (.cons (.var 2) (.cons (.var 15) .nil))) .nil))))
     .nil)))
   (.cons (.ite (.and (.var 5) (.cmp .ne (.call 41 (.cons (.var 3) (.cons (.var 6) .nil))) (.call 41 (.cons (.var 14) (.cons (.var 6) .nil)))))
    (.cons (.ret (.cst (.bl false)))
     .nil)
    .nil)
   (.cons (.ite (.not (.var 5))
    (.cons (.set (.var 16) (.call 119 (.cons (.var 3) (.cons (.var 14) .nil))))
     (.cons (.ite (.cmp .eq (.idx (.call 41 (.cons (.var 3) (.cons (.var 16) .nil))) (.neg (.cst (.int 1)))) (.idx (.call 41 (.cons (.var 14) (.cons (.var 16) .nil))) (.neg (.cst (.int 1)))))
      (.cons (.ret (.cst (.bl false)))
       .nil)
      .nil)
     .nil))
    .nil)
   (.cons (.set (.var 8) (.call 27 (.cons (.var 2) (.cons (.cst (.int 5)) .nil))))
   (.cons (.ite (.and (.var 5) (.not (.call 123 (.cons (.var 3) (.cons (.var 14) (.cons (.var 8) .nil))))))
    (.cons (.ret (.cst (.bl false)))
     .nil)
    .nil)
   (.cons (.set (.tup (.cons (.var 17) (.cons (.var 18) .nil))) (.tup (.cons (.tup (.cons (.cst (.int 1)) (.cons (.cst (.str "down")) (.cons (.var 11) (.cons (.var 12) .nil))))) (.cons (.tup (.cons (.cst (.int 1)) (.cons (.cst (.str "near")) (.cons (.var 11) (.cons (.idx (.var 4) (.var 12)) .nil))))) .nil))))
   (.cons (.ite (.or (.not (.call 118 (.cons (.var 17) (.cons (.var 18) .nil)))) (.not (.call 123 (.cons (.var 17) (.cons (.var 18) (.cons (.var 8) .nil))))))
    (.cons (.ret (.cst (.bl false)))
     .nil)
    .nil)
   (.cons (.ite (.cmp .ne (.call 41 (.cons (.var 17) (.cons (.var 6) .nil))) (.call 41 (.cons (.var 18) (.cons (.var 6) .nil))))
    (.cons (.ret (.cst (.bl false)))
     .nil)
    .nil)
   .nil))))))))))))))))))))
 (.cons (.ret (.cst (.bl true)))
 .nil))⟩
-- 125 law_shows_k51(_law_scale_here=0, _law_net=1, _law_step=2, _law_low=3)
def c_law_shows_k51 : Fn := ⟨2, 4, true,
 (.cons (.set (.var 2) (.idx (.var 0) (.cst (.int 0))))
 (.cons (.set (.var 3) (.bin false .sub (.var 1) (.bin false .mod (.var 1) (.var 2))))
 (.cons (.ite (.and (.cmp .eq (.idx (.var 0) (.cst (.int 1))) (.cst (.str "near"))) (.cmp .ge (.bin false .mul (.cst (.int 2)) (.bin false .sub (.var 1) (.var 3))) (.var 2)))
  (.cons (.ret (.bin false .add (.var 3) (.var 2)))
   .nil)
  .nil)
 (.cons (.ret (.var 3))
 .nil))))⟩
-- 126 law_made_scale: not in the core
-- 127 law_outcome_k51: not in the core
-- 128 law_k51: not in the core
-- 129 number_in(word=0, number=1)
def c_number_in : Fn := ⟨1, 2, true,
 (.cons (.loop (.var 1) (.rng (.cst (.int 0)) (.bin false .add (.cst (.int 300)) (.cst (.int 1))))
  (.cons (.ite (.cmp .eq (.var 0) (.blt false .str (.cons (.var 1) .nil)))
    (.cons (.ret (.var 1))
     .nil)
    .nil)
   .nil))
 (.cons (.ret (.cst .non))
 .nil))⟩
-- 130 deed_in(line=0, items=1, word=2, number=3)
def c_deed_in : Fn := ⟨1, 4, true,
 (.cons (.set (.var 1) (.tup .nil))
 (.cons (.loop (.var 2) (.val (.mth false .split (.var 0) (.cons (.cst (.str " ")) .nil)))
  (.cons (.set (.var 3) (.call 129 (.cons (.var 2) .nil)))
   (.cons (.set (.var 1) (.bin false .add (.var 1) (.tup (.cons (.ite (.isN (.var 3)) (.var 2) (.var 3)) .nil))))
   .nil)))
 (.cons (.ret (.ite (.call 5 (.cons (.var 1) .nil)) (.var 1) (.cst .non)))
 .nil)))⟩
-- 131 recipe_in(value=0, deeds=1, at=2, deed=3, line=4)
def c_recipe_in : Fn := ⟨1, 5, true,
 (.cons (.ite (.not (.blt false (.isi .str) (.cons (.var 0) .nil)))
  (.cons (.rais 11)
   .nil)
  .nil)
 (.cons (.set (.var 1) (.comp false true [4] (.val (.mth false .split (.var 0) (.cons (.cst (.str "\n")) .nil))) (.cst (.bl true)) (.call 130 (.cons (.var 4) .nil))))
 (.cons (.loop (.tup (.cons (.var 2) (.cons (.var 3) .nil))) (.enm (.var 1))
  (.cons (.ite (.isN (.var 3))
    (.cons (.rais 11)
     .nil)
    .nil)
   .nil))
 (.cons (.ite (.cmp .gt (.blt false .len (.cons (.var 1) .nil)) (.cst (.int 8)))
  (.cons (.rais 11)
   .nil)
  .nil)
 (.cons (.ret (.blt false .tuple (.cons (.var 1) .nil)))
 .nil)))))⟩
-- 132 law_made: not in the core
-- 133 law_outcome_k52: not in the core
-- 134 law_k52: not in the core
-- 135 wall(k=0)
def c_wall : Fn := ⟨1, 1, true,
 (.cons (.whil (.cst (.bl true))
  (.cons .pass
   .nil))
 .nil)⟩
-- 136 law_is_bool_k61(_law_told=0, _law_due_here=1)
def c_law_is_bool_k61 : Fn := ⟨2, 2, true,
 (.cons (.ret (.and (.blt false (.isi .bool) (.cons (.var 0) .nil)) (.cmp .eq (.var 0) (.var 1))))
 .nil)⟩
-- 137 law_recipe_k61(_law_source_here=0, _law_most=1, _law_first=2, _law_second=3, _law_turn_here=4) NOT FROZEN
def c_law_recipe_k61 : Fn := ⟨2, 5, false,
 (.cons (.ite (.and (.cmp .eq (.call 14 (.cons (.var 0) (.cons (.cst (.int 3)) .nil))) (.cst (.int 0))) (.cmp .gt (.var 1) (.cst (.int 4))))
  (.cons (.set (.tup (.cons (.var 2) (.cons (.var 3) .nil))) (.tup (.cons (.call 26 (.cons (.var 0) (.cons (.cst (.bl true)) .nil))) (.cons (.call 26 (.cons (.var 0) (.cons (.cst (.bl true)) .nil))) .nil))))
   (.cons (.ret (.tup (.cons (.tup (.cons (.cst (.str "put")) (.cons (.cst (.int 20)) (.cons (.bin false .add (.cst (.int 20)) (.call 14 (.cons (.var 0) (.cons (.cst (.int 6)) .nil)))) .nil)))) (.cons (.tup (.cons (.cst (.str "tare")) .nil)) (.cons (.var 2) (.cons (.tup (.cons (.cst (.str "tare")) .nil)) (.cons (.var 3) .nil)))))))
   .nil))
  .nil)
 (.cons (.ret (.blt false .tuple (.cons (.comp false true [4] (.rng (.cst (.int 0)) (.bin false .add (.cst (.int 1)) (.call 14 (.cons (.var 0) (.cons (.var 1) .nil))))) (.cst (.bl true)) (.call 26 (.cons (.var 0) (.cons (.cst (.bl false)) .nil)))) .nil)))
 .nil))⟩
-- 138 law_call: not in the core
-- 139 law_turn: not in the core
-- 140 law_drawn(_law_source_here=0, _law_scale_here=1, _law_recipe_here=2, _law_run=3, _law_turn_here=4, _law_kind=5, _law_here=6, _law_numbers=7, _law_lets_here=8, _law_number=9) NOT FROZEN
def c_law_drawn : Fn := ⟨4, 10, false,
 (.cons (.set (.tup (.cons (.var 5) (.cons (.var 6) (.cons (.var 7) .nil)))) (.tup (.cons (.call 14 (.cons (.var 0) (.cons (.cst (.int 8)) .nil))) (.cons (.idx (.call 89 (.cons (.var 1) (.cons (.var 2) (.cons (.var 3) .nil)))) (.neg (.cst (.int 1)))) (.cons (.tup .nil) .nil)))))
 (.cons (.ite (.cmp .eq (.var 5) (.cst (.int 0)))
  (.cons (.ret (.tup (.cons (.cst (.str "undo")) .nil)))
   .nil)
  .nil)
 (.cons (.loop (.var 4) (.rng (.cst (.int 0)) (.idx (.lst false (.cons (.cst (.int 2)) (.cons (.cst (.int 5)) .nil))) (.blt false .int (.cons (.cmp .gt (.var 5) (.cst (.int 5))) .nil))))
  (.cons (.set (.var 8) (.call 60 (.cons (.var 2) (.cons (.var 6) .nil))))
   (.cons (.ite (.and (.cmp .ne (.var 8) (.lst false .nil)) (.cmp .gt (.call 14 (.cons (.var 0) (.cons (.cst (.int 4)) .nil))) (.cst (.int 0))))
    (.cons (.set (.var 9) (.call 15 (.cons (.var 0) (.cons (.var 8) .nil))))
     (.cons (.set (.tup (.cons (.var 7) (.cons (.var 6) .nil))) (.tup (.cons (.bin false .add (.var 7) (.tup (.cons (.var 9) .nil))) (.cons (.call 59 (.cons (.var 1) (.cons (.var 2) (.cons (.var 6) (.cons (.var 9) .nil))))) .nil))))
     .nil))
    .nil)
   .nil)))
 (.cons (.ite (.cmp .eq (.call 14 (.cons (.var 0) (.cons (.cst (.int 5)) .nil))) (.cst (.int 0)))
  (.cons (.set (.var 7) (.bin false .add (.slice false (.var 7) false (.cst .non) true (.cst (.int 1))) (.tup (.cons (.call 15 (.cons (.var 0) (.cons (.lst false (.cons (.cst .non) (.cons (.neg (.cst (.int 1))) (.cons (.cst (.int 301)) (.cons (.cst (.str "1")) (.cons (.cst (.bl true)) .nil)))))) .nil))) .nil))))
   .nil)
  .nil)
 (.cons (.ite (.cmp .gt (.var 5) (.cst (.int 5)))
  (.cons (.ret (.tup (.cons (.cst (.str "add")) (.cons (.call 15 (.cons (.var 0) (.cons (.lst false (.cons (.var 7) (.cons (.var 7) (.cons (.blt false .list (.cons (.var 7) .nil)) (.cons (.cst .non) .nil))))) .nil))) .nil))))
   .nil)
  .nil)
 (.cons (.ret (.tup (.cons (.cst (.str "give")) (.cons (.var 7) .nil))))
 .nil))))))⟩
-- 141 law_stands: not in the core
-- 142 law_due_k61(_law_scale_here=0, _law_recipe_here=1, _law_past=2, _law_numbers=3, _law_path_here=4)
def c_law_due_k61 : Fn := ⟨4, 5, true,
 (.cons (.ite (.not (.blt false (.isi .tuple) (.cons (.var 3) .nil)))
  (.cons (.ret (.tup (.cons (.cst (.str "number!")) (.cons (.var 2) .nil))))
   .nil)
  .nil)
 (.cons (.set (.var 4) (.call 89 (.cons (.var 0) (.cons (.var 1) (.cons (.bin false .add (.idx (.var 2) (.neg (.cst (.int 1)))) (.var 3)) .nil)))))
 (.cons (.ite (.isN (.var 4))
  (.cons (.ret (.tup (.cons (.cst (.str "number!")) (.cons (.var 2) .nil))))
   .nil)
  .nil)
 (.cons (.ret (.tup (.cons (.call 42 (.cons (.var 0) (.cons (.idx (.idx (.var 4) (.neg (.cst (.int 1)))) (.cst (.int 1))) .nil))) (.cons (.bin false .add (.var 2) (.lst false (.cons (.bin false .add (.idx (.var 2) (.neg (.cst (.int 1)))) (.var 3)) .nil))) .nil))))
 .nil))))⟩
-- 143 law_k61: not in the core
-- 144 law_given: not in the core
-- 145 law_tried: not in the core
-- 146 law_undone: not in the core
-- 147 law_k62: not in the core
-- 148 recipe_text(recipe=0, deed=1, item=2)
def c_recipe_text : Fn := ⟨1, 3, true,
 (.cons (.expr (.call 8 (.cons (.var 0) .nil)))
 (.cons (.ret (.mth false .join (.cst (.str "\n")) (.cons (.comp false true [1] (.val (.var 0)) (.cst (.bl true)) (.mth false .join (.cst (.str " ")) (.cons (.comp false true [2] (.val (.var 1)) (.cst (.bl true)) (.blt false .str (.cons (.var 2) .nil))) .nil))) .nil)))
 .nil))⟩
-- 149 read_recipe(value=0)
def c_read_recipe : Fn := ⟨1, 1, true,
 (.cons (.ret (.call 131 (.cons (.var 0) .nil)))
 .nil)⟩
-- 150 law_reading(_law_value=0, _law_deeds=1, _law_line=2, _law_deed_here=3, _law_word=4, _law_numbers=5, _law_number=6)
def c_law_reading : Fn := ⟨1, 7, true,
 (.cons (.ite (.not (.blt false (.isi .str) (.cons (.var 0) .nil)))
  (.cons (.ret (.cst (.int 0)))
   .nil)
  .nil)
 (.cons (.set (.var 1) (.tup .nil))
 (.cons (.loop (.var 2) (.val (.mth false .split (.var 0) (.cons (.cst (.str "\n")) .nil)))
  (.cons (.set (.var 3) (.tup .nil))
   (.cons (.loop (.var 4) (.val (.mth false .split (.var 2) (.cons (.cst (.str " ")) .nil)))
    (.cons (.set (.var 5) (.comp false true [6] (.rng (.cst (.int 0)) (.cst (.int 301))) (.cmp .eq (.blt false .str (.cons (.var 6) .nil)) (.var 4)) (.var 6)))
     (.cons (.set (.var 3) (.bin false .add (.var 3) (.tup (.cons (.ite (.cmp .ne (.var 5) (.lst false .nil)) (.idx (.var 5) (.cst (.int 0))) (.var 4)) .nil))))
     .nil)))
   (.cons (.set (.var 1) (.bin false .add (.var 1) (.tup (.cons (.var 3) .nil))))
   (.cons (.ite (.not (.call 23 (.cons (.var 3) .nil)))
    (.cons (.ret (.blt false .len (.cons (.var 1) .nil)))
     .nil)
    .nil)
   .nil)))))
 (.cons (.ret (.ite (.cmp .lt (.blt false .len (.cons (.var 1) .nil)) (.cst (.int 9))) (.var 1) (.cst (.int 9))))
 .nil))))⟩
-- 151 law_told: not in the core
-- 152 law_read: not in the core
-- 153 law_bent: not in the core
-- 154 law_k71(_law_script=0, _law_k=1, _law_source_here=2, _law_recipe_here=3, _law_text=4, _law_odds=5, _law_turn=6, _law_odd=7, _law_bent_here=8, _law_found=9, _law_due=10, _law_deed_here=11, _law_item=12)
def c_law_k71 : Fn := ⟨1, 13, true,
 (.cons (.loop (.var 1) (.rng (.cst (.int 0)) (.blt false .max2 (.cons (.cst (.int 6)) (.cons (.blt false .min2 (.cons (.cst (.int 18)) (.cons (.blt false .len (.cons (.var 0) .nil)) .nil))) .nil))))
  (.cons (.set (.var 2) (.call 13 (.cons (.var 0) (.cons (.var 1) .nil))))
   (.cons (.set (.var 3) (.call 27 (.cons (.var 2) (.cons (.cst (.int 8)) .nil))))
   (.cons (.set (.var 4) (.mth false .join (.cst (.str "\n")) (.cons (.comp false true [11] (.val (.var 3)) (.cst (.bl true)) (.mth false .join (.cst (.str " ")) (.cons (.comp false true [12] (.val (.var 11)) (.cst (.bl true)) (.blt false .str (.cons (.var 12) .nil))) .nil))) .nil)))
   (.cons (.ite (.or (.cmp .ne (.call 148 (.cons (.var 3) .nil)) (.var 4)) (.or (.cmp .ne (.call 151 (.cons (.var 4) .nil)) (.var 3)) (.cmp .ne (.call 152 (.cons (.var 4) .nil)) (.var 3))))
    (.cons (.ret (.cst (.bl false)))
     .nil)
    .nil)
   (.cons (.set (.var 5) (.lst true (.cons (.cst .non) (.cons (.cst (.int 7)) (.cons (.cst (.str "")) (.cons (.cst (.str "\n")) (.cons (.cst (.str " ")) (.cons (.bin false .add (.var 4) (.cst (.str "\n"))) (.cons (.bin false .add (.cst (.str "\n")) (.var 4)) (.cons (.bin false .add (.var 4) (.cst (.str " "))) (.cons (.tup (.cons (.var 4) .nil)) (.cons (.var 3) (.cons (.cst (.str "put 01 2")) .nil)))))))))))))
   (.cons (.expr (.mth false .append (.var 5) (.cons (.mth false .join (.cst (.str "\n")) (.cons (.bin false .mul (.lst false (.cons (.cst (.str "tare")) .nil)) (.cst (.int 12))) .nil)) .nil)))
   (.cons (.loop (.var 6) (.rng (.cst (.int 0)) (.cst (.int 12)))
    (.cons (.set (.var 8) (.call 153 (.cons (.var 2) (.cons (.var 4) .nil))))
     (.cons (.set (.var 5) (.bin true .add (.var 5) (.lst false (.cons (.var 8) (.cons (.call 153 (.cons (.var 2) (.cons (.var 8) .nil))) .nil)))))
     .nil)))
   (.cons (.loop (.var 7) (.val (.var 5))
    (.cons (.set (.tup (.cons (.var 9) (.cons (.var 10) .nil))) (.tup (.cons (.call 151 (.cons (.var 7) .nil)) (.cons (.call 150 (.cons (.var 7) .nil)) .nil))))
     (.cons (.ite (.or (.cmp .ne (.var 9) (.var 10)) (.or (.blt false (.isi .bool) (.cons (.var 9) .nil)) (.cmp .ne (.call 152 (.cons (.var 7) .nil)) (.var 10))))
      (.cons (.ret (.cst (.bl false)))
       .nil)
      .nil)
     .nil)))
   .nil)))))))))
 (.cons (.ret (.cmp .eq (.call 151 (.cons (.cst (.str "pour pour 200 0 20\nlift 0 300")) .nil)) (.tup (.cons (.tup (.cons (.cst (.str "pour")) (.cons (.cst (.str "pour")) (.cons (.cst (.int 200)) (.cons (.cst (.int 0)) (.cons (.cst (.int 20)) .nil)))))) (.cons (.tup (.cons (.cst (.str "lift")) (.cons (.cst (.int 0)) (.cons (.cst (.int 300)) .nil)))) .nil)))))
 .nil))⟩
-- 155 law_turned(_law_recipe_here=0, _law_names=1, _law_found=2, _law_deed_here=3)
def c_law_turned : Fn := ⟨2, 4, true,
 (.cons (.set (.var 2) (.tup .nil))
 (.cons (.loop (.var 3) (.val (.var 0))
  (.cons (.ite (.cmp .isin (.idx (.var 3) (.cst (.int 0))) (.tup (.cons (.cst (.str "add")) (.cons (.cst (.str "pour")) .nil))))
    (.cons (.set (.var 3) (.bin false .add (.bin false .add (.slice false (.var 3) false (.cst .non) true (.cst (.int 1))) (.tup (.cons (.idx (.var 1) (.idx (.var 3) (.cst (.int 1)))) .nil))) (.slice false (.var 3) true (.cst (.int 2)) false (.cst .non))))
     .nil)
    .nil)
   (.cons (.set (.var 2) (.bin false .add (.var 2) (.tup (.cons (.var 3) .nil))))
   .nil)))
 (.cons (.ret (.var 2))
 .nil)))⟩
-- 156 law_outcomes(_law_scale_here=0, _law_recipe_here=1, _law_run_here=2, _law_found=3, _law_at=4, _law_index=5, _law_net_here=6, _law_pairs=7)
def c_law_outcomes : Fn := ⟨3, 8, true,
 (.cons (.set (.tup (.cons (.var 5) (.cons (.var 6) (.cons (.var 7) .nil)))) (.call 57 (.cons (.var 0) (.cons (.var 1) (.cons (.var 2) .nil)))))
 (.cons (.set (.var 3) (.lst true (.cons (.var 5) (.cons (.var 6) (.cons (.call 85 (.cons (.var 0) (.cons (.var 1) .nil))) (.cons (.call 86 (.cons (.var 0) (.cons (.var 1) .nil))) (.cons (.call 104 (.cons (.var 0) (.cons (.var 1) .nil))) .nil)))))))
 (.cons (.loop (.var 4) (.rng (.cst (.int 0)) (.blt false .len (.cons (.var 1) .nil)))
  (.cons (.ite (.and (.cmp .lt (.bin false .add (.var 4) (.cst (.int 1))) (.blt false .len (.cons (.var 1) .nil))) (.cmp .lt (.var 4) (.cst (.int 2))))
    (.cons (.expr (.mth false .append (.var 3) (.cons (.call 105 (.cons (.var 0) (.cons (.var 1) (.cons (.var 4) .nil)))) .nil)))
     .nil)
    .nil)
   (.cons (.ite (.cmp .eq (.idx (.idx (.var 1) (.var 4)) (.cst (.int 0))) (.cst (.str "pour")))
    (.cons (.expr (.mth false .append (.var 3) (.cons (.call 76 (.cons (.var 0) (.cons (.var 1) (.cons (.var 4) .nil)))) .nil)))
     .nil)
    .nil)
   .nil)))
 (.cons (.ret (.var 3))
 .nil))))⟩
-- 157 law_k95: not in the core
-- 158 law_asked: not in the core
-- 159 law_kinds: not in the core
-- 160 law_told_kinds: not in the core
-- 161 law_k96: not in the core
end WG

set_option Elab.async false
set_option linter.all false
set_option maxRecDepth 100000
set_option maxHeartbeats 4000000
set_option autoImplicit false
/-! Ops: the core's operations, one by one. -/
namespace WG
open PySem
/-- a comprehension over plain values -/
theorem compL_map {f : D → Hs → Res (Option D)} {φ : D → D} {hs : Hs} : ∀ {ds : List D}, (∀ d ∈ ds, f d hs = .ok (some (φ d)) hs) → compL f ds hs = .ok (ds.map φ) hs
  | [], _ => rfl
  | d :: ds, h => by
    rw [compL, h d List.mem_cons_self, Res.bind_ok, compL_map (ds := ds) fun x hx => h x (List.mem_cons_of_mem _ hx)]
    rfl
theorem compL_fil {f : D → Hs → Res (Option D)} {φ : D → D} {p : D → Bool} {hs : Hs} : ∀ {ds : List D}, (∀ d ∈ ds, f d hs = .ok (if p d then some (φ d) else none) hs) → compL f ds hs = .ok ((ds.filter p).map φ) hs
  | [], _ => rfl
  | d :: ds, h => by
    rw [compL, h d List.mem_cons_self, Res.bind_ok, compL_fil (ds := ds) fun x hx => h x (List.mem_cons_of_mem _ hx)]
    cases hp : p d <;> simp [hp]
section
variable {cl : Nat → List D → Hs → Res D} {hs : Hs} {fr : Fr} {h : Bool}
theorem v_var (i : Nat) : evE cl (.var i) fr hs = (match fr[i]? with | some (some d) => .ok d hs | _ => .bad) := by rw [evE.eq_def] <;> rfl
theorem v_cst (d : D) : evE cl (.cst d) fr hs = .ok d hs := by rw [evE.eq_def] <;> rfl
theorem v_bin (op : BOp) (a b : CE) : evE cl (.bin h op a b) fr hs = (evE cl a fr hs).bind fun x hs => (evE cl b fr hs).bind fun y hs => binD h op x y hs := by rw [evE.eq_def] <;> rfl
theorem v_neg (a : CE) : evE cl (.neg a) fr hs = (evE cl a fr hs).bind fun x hs => match x with | .int i => .ok (.int (-i)) hs | _ => .bad := by rw [evE.eq_def] <;> rfl
theorem v_not (a : CE) : evE cl (.not a) fr hs = (evE cl a fr hs).bind fun x hs => match x with | .bl b => .ok (.bl (!b)) hs | _ => .bad := by rw [evE.eq_def] <;> rfl
theorem v_and (a b : CE) : evE cl (.and a b) fr hs = (evE cl a fr hs).bind fun x hs => match x with | .bl true => evE cl b fr hs | .bl false => .ok (.bl false) hs | _ => .bad := by rw [evE.eq_def] <;> rfl
theorem v_or (a b : CE) : evE cl (.or a b) fr hs = (evE cl a fr hs).bind fun x hs => match x with | .bl true => .ok (.bl true) hs | .bl false => evE cl b fr hs | _ => .bad := by rw [evE.eq_def] <;> rfl
theorem v_cmp (op : COp) (a b : CE) : evE cl (.cmp op a b) fr hs = (evE cl a fr hs).bind fun x hs => (evE cl b fr hs).bind fun y hs => match cmpB op x y hs with | some r => .ok (.bl r) hs | none => .bad := by rw [evE.eq_def] <;> rfl
theorem v_chain (op op' : COp) (a b c : CE) : evE cl (.chain op op' a b c) fr hs = (evE cl a fr hs).bind fun x hs => (evE cl b fr hs).bind fun y hs => match cmpB op x y hs with
    | some true => (evE cl c fr hs).bind fun z hs => match cmpB op' y z hs with | some r => .ok (.bl r) hs | none => .bad
    | some false => .ok (.bl false) hs
    | none => .bad := by rw [evE.eq_def] <;> rfl
theorem v_isN (a : CE) : evE cl (.isN a) fr hs = (evE cl a fr hs).bind fun x hs => .ok (.bl (decide (x = .non))) hs := by rw [evE.eq_def] <;> rfl
theorem v_notN (a : CE) : evE cl (.notN a) fr hs = (evE cl a fr hs).bind fun x hs => .ok (.bl (!decide (x = .non))) hs := by rw [evE.eq_def] <;> rfl
theorem v_ite (c a b : CE) : evE cl (.ite c a b) fr hs = (evE cl c fr hs).bind fun x hs => match x with | .bl true => evE cl a fr hs | .bl false => evE cl b fr hs | _ => .bad := by rw [evE.eq_def] <;> rfl
theorem v_tup (es : CEs) : evE cl (.tup es) fr hs = (evEs cl es fr hs).bind fun ds hs => .ok (.tup ds) hs := by rw [evE.eq_def] <;> rfl
theorem v_lst (es : CEs) : evE cl (.lst h es) fr hs = (evEs cl es fr hs).bind fun ds hs => fin h ds hs := by rw [evE.eq_def] <;> rfl
theorem v_idx (a i : CE) : evE cl (.idx a i) fr hs = (evE cl a fr hs).bind fun x hs => (evE cl i fr hs).bind fun y hs => match idxD x y hs with | some d => .ok d hs | none => .bad := by rw [evE.eq_def] <;> rfl
theorem v_slice (a : CE) (pl : Bool) (lo : CE) (pu : Bool) (hi : CE) : evE cl (.slice h a pl lo pu hi) fr hs = (evE cl a fr hs).bind fun x hs => (evE cl lo fr hs).bind fun l hs => if partB pl l then (evE cl hi fr hs).bind fun u hs => if partB pu u then sliceD h x l u hs else .bad else .bad := by rw [evE.eq_def] <;> rfl
theorem v_call (f : Nat) (es : CEs) : evE cl (.call f es) fr hs = (evEs cl es fr hs).bind fun ds hs => cl f ds hs := by rw [evE.eq_def] <;> rfl
theorem v_blt (b : Blt) (es : CEs) : evE cl (.blt h b es) fr hs = (evEs cl es fr hs).bind fun ds hs => bltD h b ds hs := by rw [evE.eq_def] <;> rfl
theorem v_mth (m : Mth) (o : CE) (es : CEs) : evE cl (.mth h m o es) fr hs = (evE cl o fr hs).bind fun x hs => if mthOk m x hs then (evEs cl es fr hs).bind fun ds hs => mthD h m x ds hs else .bad := by rw [evE.eq_def] <;> rfl
theorem s_set (t : Tg) (e : CE) : evS cl (.set t e) fr hs = (evE cl e fr hs).then fr fun d hs => (asg cl t d fr hs).then fr fun fr hs => .nx fr hs := by rw [evS.eq_def] <;> rfl
theorem s_expr (e : CE) : evS cl (.expr e) fr hs = (evE cl e fr hs).then fr fun _ hs => .nx fr hs := by rw [evS.eq_def] <;> rfl
theorem s_ret (e : CE) : evS cl (.ret e) fr hs = (evE cl e fr hs).then fr fun d hs => .rt d hs := by rw [evS.eq_def] <;> rfl
theorem s_ite (c : CE) (a b : CSs) : evS cl (.ite c a b) fr hs = (evE cl c fr hs).then fr fun x hs => match x with | .bl true => evSs cl a fr hs | .bl false => evSs cl b fr hs | _ => .bad := by rw [evS.eq_def] <;> rfl
theorem s_pass : evS cl .pass fr hs = .nx fr hs := by rw [evS.eq_def] <;> rfl
theorem s_cont : evS cl .cont fr hs = .ct fr hs := by rw [evS.eq_def] <;> rfl
theorem s_rais (c : Nat) : evS cl (.rais c) fr hs = .exn c .non fr hs := by rw [evS.eq_def] <;> rfl
theorem s_loop (t : Tg) (it : It) (b : CSs) : evS cl (.loop t it b) fr hs = (evIt cl it fr hs).then fr fun w hs =>
      (loopL (fun d fr hs => if held hs w.1 w.2 then (asg cl t d fr hs).then fr fun fr hs => evSs cl b fr hs else .bad) w.1 fr (lockO hs w.2)).seq fun fr hs => if held hs w.1 w.2 then .nx fr (freeO hs w.2) else .bad := by rw [evS.eq_def] <;> rfl
theorem s_whil (c : CE) (b : CSs) : evS cl (.whil c b) fr hs = whilN (fun fr hs => evE cl c fr hs) (fun fr hs => evSs cl b fr hs) turns fr hs := by rw [evS.eq_def] <;> rfl
theorem ss_nil : evSs cl .nil fr hs = .nx fr hs := by rw [evSs.eq_def] <;> rfl
theorem ss_cons (s : CS) (r : CSs) : evSs cl (.cons s r) fr hs = (evS cl s fr hs).seq fun fr hs => evSs cl r fr hs := by rw [evSs.eq_def] <;> rfl
theorem seq1 {s : CS} {r : CSs} {fr' : Fr} {hs' : Hs} (e : evS cl s fr hs = .nx fr' hs') : evSs cl (.cons s r) fr hs = evSs cl r fr' hs' := by rw [ss_cons, e]; rfl
theorem seqR {s : CS} {r : CSs} {d : D} {hs' : Hs} (e : evS cl s fr hs = .rt d hs') : evSs cl (.cons s r) fr hs = .rt d hs' := by rw [ss_cons, e]; rfl
theorem cseq {b : Bool} {hs0 : Hs} {s : CS} {r : CSs} {fr' : Fr} {hs' : Hs} (e : evS cl s fr hs = .nx fr' hs') : close b hs0 (evSs cl (.cons s r) fr hs) = close b hs0 (evSs cl r fr' hs') := by rw [seq1 e]
theorem cseqR {b : Bool} {hs0 : Hs} {s : CS} {r : CSs} {d : D} {hs' : Hs} (e : evS cl s fr hs = .rt d hs') : close b hs0 (evSs cl (.cons s r) fr hs) = close b hs0 (.rt d hs') := by rw [seqR e]
/-- a loop over what stays as it is -/
theorem s_for {t : Tg} {it : It} {b : CSs} {ds : List D} {hs1 hs2 : Hs} {fr' : Fr} (e : evIt cl it fr hs = .ok (ds, .no) hs1) (l : loopL (fun d fr hs => (asg cl t d fr hs).then fr fun fr hs => evSs cl b fr hs) ds fr hs1 = .nx fr' hs2) : evS cl (.loop t it b) fr hs = .nx fr' hs2 := by
  rw [s_loop, e]
  simp only [Res.then_ok, held, if_true, lockO, freeO, l, RS.seq_nx]
/-- one that ends by a return -/
theorem s_forR {t : Tg} {it : It} {b : CSs} {ds : List D} {hs1 hs2 : Hs} {d : D} (e : evIt cl it fr hs = .ok (ds, .no) hs1) (l : loopL (fun d fr hs => (asg cl t d fr hs).then fr fun fr hs => evSs cl b fr hs) ds fr hs1 = .rt d hs2) : evS cl (.loop t it b) fr hs = .rt d hs2 := by
  rw [s_loop, e]
  simp only [Res.then_ok, held, if_true, lockO, freeO, l, RS.seq_rt]
/-- a comprehension of plain values over what stays as it is -/
theorem v_comp {one : Bool} {own : List Nat} {it : It} {el : CE} {ds : List D} {φ : D → D} {hs1 : Hs} (e : evIt cl it fr hs = .ok (ds, .no) hs1) (hl : ds.length ≤ line)
    (f : ∀ d ∈ ds, ∃ fr', bindC one own d (wipes fr own) = some fr' ∧ evE cl el fr' hs1 = .ok (φ d) hs1) : evE cl (.comp h one own it (.cst (.bl true)) el) fr hs = fin h (ds.map φ) hs1 := by
  rw [evE.eq_def]
  simp only [e, Res.bind_ok, hl, if_true, lockO, v_cst, Res.calm_ok]
  rw [compL_map (φ := φ)]
  · rfl
  · intro d hd
    obtain ⟨fr', e1, e2⟩ := f d hd
    simp only [held, if_true, e1, e2, Res.calm_ok, Res.bind_ok]
/-- one with a test -/
theorem v_compIf {one : Bool} {own : List Nat} {it : It} {c el : CE} {ds : List D} {φ : D → D} {p : D → Bool} {hs1 : Hs} (e : evIt cl it fr hs = .ok (ds, .no) hs1) (hl : ds.length ≤ line)
    (f : ∀ d ∈ ds, ∃ fr', bindC one own d (wipes fr own) = some fr' ∧ evE cl c fr' hs1 = .ok (.bl (p d)) hs1 ∧ (p d = true → evE cl el fr' hs1 = .ok (φ d) hs1)) : evE cl (.comp h one own it c el) fr hs = fin h ((ds.filter p).map φ) hs1 := by
  rw [evE.eq_def]
  simp only [e, Res.bind_ok, hl, if_true, lockO]
  rw [compL_fil (φ := φ) (p := p)]
  · rfl
  · intro d hd
    obtain ⟨fr', e1, e2, e3⟩ := f d hd
    simp only [held, if_true, e1, e2, Res.calm_ok, Res.bind_ok]
    cases hp : p d with
    | true => simp only [e3 hp, Res.calm_ok, Res.bind_ok, if_true]
    | false => rfl
theorem b_add (i j : Int) : binD h .add (.int i) (.int j) hs = .ok (.int (i + j)) hs := rfl
theorem b_sub (i j : Int) : binD h .sub (.int i) (.int j) hs = .ok (.int (i - j)) hs := rfl
theorem b_mul {i j : Int} (c : (small i || small j) = true) : binD h .mul (.int i) (.int j) hs = .ok (.int (i * j)) hs := if_pos c
theorem b_mulL {i j : Int} (c : small i = true) : binD h .mul (.int i) (.int j) hs = .ok (.int (i * j)) hs := b_mul (by rw [c]; rfl)
theorem b_mulR {i j : Int} (c : small j = true) : binD h .mul (.int i) (.int j) hs = .ok (.int (i * j)) hs := b_mul (by rw [c, Bool.or_true])
theorem b_fdiv {i j : Int} (c : 0 < j) (c2 : j < 1073741824) : binD h .fdiv (.int i) (.int j) hs = .ok (.int (i / j)) hs := if_pos ⟨c, c2⟩
theorem b_mod {i j : Int} (c : 0 < j) : binD h .mod (.int i) (.int j) hs = .ok (.int (i % j)) hs := if_pos c
theorem b_tup {a b : List D} (c : a.length + b.length ≤ line) : binD h .add (.tup a) (.tup b) hs = .ok (.tup (a ++ b)) hs := if_pos c
theorem c_lt (i j : Int) : cmpB .lt (.int i) (.int j) hs = some (decide (i < j)) := rfl
theorem c_le (i j : Int) : cmpB .le (.int i) (.int j) hs = some (decide (i ≤ j)) := rfl
theorem c_gt (i j : Int) : cmpB .gt (.int i) (.int j) hs = some (decide (j < i)) := rfl
theorem c_ge (i j : Int) : cmpB .ge (.int i) (.int j) hs = some (decide (j ≤ i)) := rfl
theorem c_eqi (i j : Int) : cmpB .eq (.int i) (.int j) hs = some (decide (i = j)) := rfl
theorem c_nei (i j : Int) : cmpB .ne (.int i) (.int j) hs = some (!decide (i = j)) := rfl
theorem c_eqs (i j : Str) : cmpB .eq (.str i) (.str j) hs = some (decide (i = j)) := rfl
theorem c_nes (i j : Str) : cmpB .ne (.str i) (.str j) hs = some (!decide (i = j)) := rfl
theorem c_eqis (i : Int) (j : Str) : cmpB .eq (.int i) (.str j) hs = some false := rfl
theorem c_neis (i : Int) (j : Str) : cmpB .ne (.int i) (.str j) hs = some true := rfl
theorem c_eqsi (i : Int) (j : Str) : cmpB .eq (.str j) (.int i) hs = some false := rfl
theorem c_nesi (i : Int) (j : Str) : cmpB .ne (.str j) (.int i) hs = some true := rfl
theorem c_isin (x y : D) : cmpB .isin x y hs = isinD hs x y := rfl
theorem c_notin (x y : D) : cmpB .notin x y hs = (isinD hs x y).map (!·) := rfl
theorem l_int (i : Int) : bltD h .int [.int i] hs = .ok (.int i) hs := rfl
theorem l_abs (i : Int) : bltD h .abs [.int i] hs = .ok (.int (if i < 0 then -i else i)) hs := rfl
theorem l_min (i j : Int) : bltD h .min2 [.int i, .int j] hs = .ok (.int (if j < i then j else i)) hs := rfl
theorem l_max (i j : Int) : bltD h .max2 [.int i, .int j] hs = .ok (.int (if j > i then j else i)) hs := rfl
theorem l_lenS (is : List Int) : bltD h .len [.scr is] hs = .ok (.int is.length) hs := rfl
theorem l_lenT (xs : List D) : bltD h .len [.tup xs] hs = .ok (.int xs.length) hs := rfl
theorem l_lenL (xs : List D) : bltD h .len [.lst xs] hs = .ok (.int xs.length) hs := rfl
theorem l_isi_int (t : Ty) (i : Int) : bltD h (.isi t) [.int i] hs = .ok (.bl (t == .int)) hs := rfl
theorem l_isi_str (t : Ty) (i : Str) : bltD h (.isi t) [.str i] hs = .ok (.bl (t == .str)) hs := rfl
theorem l_isi_tup (t : Ty) (i : List D) : bltD h (.isi t) [.tup i] hs = .ok (.bl (t == .tuple)) hs := rfl
theorem l_isi_lst (t : Ty) (i : List D) : bltD h (.isi t) [.lst i] hs = .ok (.bl (t == .list)) hs := rfl
theorem l_isi_bl (t : Ty) (i : Bool) : bltD h (.isi t) [.bl i] hs = .ok (.bl (t == .int || t == .bool)) hs := rfl
theorem l_isi_non (t : Ty) : bltD h (.isi t) [.non] hs = .ok (.bl false) hs := rfl
theorem i_scr (is : List Int) (k : Int) : idxD (.scr is) (.int k) hs = (L2.atI is k).map .int := rfl
theorem i_tup (is : List D) (k : Int) : idxD (.tup is) (.int k) hs = L2.atI is k := rfl
theorem i_lst (is : List D) (k : Int) : idxD (.lst is) (.int k) hs = L2.atI is k := rfl
theorem i_ref {n : Nat} {xs : List D} (e : hs[n]? = some (.lst xs)) (k : Int) : idxD (.ref n) (.int k) hs = L2.atI xs k := by simp only [idxD, itemsT, items, e]
theorem s_ref {n : Nat} {xs : List D} (e : hs[n]? = some (.lst xs)) {k : Int} {j : Nat} (p : L2.ixN xs.length k = some j) (v : D) : setItem (.ref n) (.int k) v hs = .ok () (hs.set n (.lst (xs.set j v))) := by simp only [setItem, e, place, p]
theorem m_app {n : Nat} {xs : List D} (e : hs[n]? = some (.lst xs)) (l : xs.length < line) (d : D) : mthD h .append (.ref n) [d] hs = .ok .non (hs.set n (.lst (xs ++ [d]))) := by simp only [mthD, e, l, if_true]
theorem mo_app {n : Nat} {xs : List D} (e : hs[n]? = some (.lst xs)) : mthOk .append (.ref n) hs = true := by simp only [mthOk, items, e]; rfl
theorem f_t (xs : List D) : fin true xs hs = .ok (.ref hs.length) (hs ++ [.lst xs]) := rfl
theorem f_f (xs : List D) : fin false xs hs = .ok (.lst xs) hs := rfl
theorem tyq (a b : Ty) : (a == b) = decide (a = b) := by cases a <;> cases b <;> rfl
end
theorem small_of {i : Int} (h1 : -18446744073709551616 < i) (h2 : i < 18446744073709551616) : small i = true := by simp [small, h1, h2]
theorem atI_ofNat {α : Type} {xs : List α} {i : Nat} (h : i < xs.length) : L2.atI xs (i : Int) = some xs[i] := by
  have e : L2.ixN xs.length (i : Int) = some i := by unfold L2.ixN; rw [if_pos (by omega)]; simp; omega
  unfold L2.atI
  rw [e]
  simp [h]
/-- a loop that keeps Inv -/
theorem loopL_inv {f : D → Fr → Hs → RS} {Inv : Nat → Fr → Hs → Prop} : ∀ {ds : List D} {i : Nat}, (∀ j d fr hs, ds[j]? = some d → Inv (i + j) fr hs → ∃ fr' hs', (f d fr hs = .nx fr' hs' ∨ f d fr hs = .ct fr' hs') ∧ Inv (i + j + 1) fr' hs') →
    ∀ {fr : Fr} {hs : Hs}, Inv i fr hs → ∃ fr' hs', loopL f ds fr hs = .nx fr' hs' ∧ Inv (i + ds.length) fr' hs'
  | [], i, _, fr, hs, h => ⟨fr, hs, rfl, h⟩
  | d :: ds, i, step, fr, hs, h => by
    obtain ⟨fr1, hs1, e, h1⟩ := step 0 d fr hs rfl h
    obtain ⟨fr2, hs2, e2, h2⟩ := loopL_inv (f := f) (Inv := Inv) (ds := ds) (i := i + 1) (fun j x fr hs hx hi => by
      obtain ⟨a, b, c, d⟩ := step (j + 1) x fr hs (by simpa using hx) (by rw [show i + (j + 1) = i + 1 + j by omega]; exact hi)
      exact ⟨a, b, c, by rw [show i + 1 + j + 1 = i + (j + 1) + 1 by omega]; exact d⟩) (by simpa using h1)
    refine ⟨fr2, hs2, ?_, by rw [List.length_cons, show i + (ds.length + 1) = i + 1 + ds.length by omega]; exact h2⟩
    rw [loopL]
    rcases e with e | e <;> rw [e] <;> exact e2
end WG
namespace WG
def CSs.nth : CSs → Nat → CS
  | .cons s _, 0 => s
  | .cons _ r, n + 1 => r.nth n
  | .nil, _ => .pass
def CS.sub : CS → CSs
  | .loop _ _ b => b
  | .whil _ b => b
  | _ => .nil
def CS.yes : CS → CSs
  | .ite _ a _ => a
  | _ => .nil
end WG
namespace WG
theorem rng_items {lo hi : Int} (h1 : lo.natAbs ≤ line) (h2 : hi.natAbs ≤ line) : rngItems lo hi = some ((List.range (hi - lo).toNat).map fun k => .int (lo + (k : Nat))) := if_pos ⟨h1, h2⟩
theorem rng_it {cl : Nat → List D → Hs → Res D} {a b : CE} {fr : Fr} {hs hs1 hs2 : Hs} {lo hi : Int} (e1 : evE cl a fr hs = .ok (.int lo) hs1) (e2 : evE cl b fr hs1 = .ok (.int hi) hs2) (h1 : lo.natAbs ≤ 100000) (h2 : hi.natAbs ≤ 100000) :
    evIt cl (.rng a b) fr hs = .ok ((List.range (hi - lo).toNat).map fun k => .int (lo + (k : Nat)), .no) hs2 := by
  have l : line = 16777216 := rfl
  rw [evIt]
  simp only [e1, e2, Res.bind_ok, rng_items (lo := lo) (hi := hi) (by omega) (by omega)]
theorem rng_at {n : Nat} {lo : Int} {j : Nat} {d : D} (h : ((List.range n).map fun k : Nat => D.int (lo + (k : Nat)))[j]? = some d) : d = .int (lo + (j : Nat)) ∧ j < n := by
  rw [List.getElem?_map] at h
  by_cases hj : j < n
  · rw [List.getElem?_range hj] at h
    exact ⟨(Option.some.inj h).symm, hj⟩
  · rw [List.getElem?_eq_none (by simpa using hj)] at h; cases h
end WG
namespace WG
section
variable {cl : Nat → List D → Hs → Res D} {hs : Hs} {fr : Fr}
theorem s_try_rt {b : CSs} {hd : List (Nat × Su)} {d : D} {hs' : Hs} (e : evSs cl b fr hs = .rt d hs') : evS cl (.tryc b hd) fr hs = .rt d hs' := by
  rw [evS.eq_def]
  simp only [e]
theorem s_try_nx {b : CSs} {hd : List (Nat × Su)} {fr' : Fr} {hs' : Hs} (e : evSs cl b fr hs = .nx fr' hs') : evS cl (.tryc b hd) fr hs = .nx fr' hs' := by
  rw [evS.eq_def]
  simp only [e]
theorem s_try_ret {b : CSs} {hd : List (Nat × Su)} {c n : Nat} {p d : D} {fr' : Fr} {hs' : Hs} (e : evSs cl b fr hs = .exn c p fr' hs') (f : (hd.find? fun x => catches c x.1) = some (n, .ret d)) : evS cl (.tryc b hd) fr hs = .rt d hs' := by
  rw [evS.eq_def]
  simp only [e, f]
end
open PySem in
/-- a value whose type is known -/
def typD (hs : Hs) (d : D) : Bool := (isTy hs d .int).isSome
def wholeD (d : D) (lo hi : Int) : Bool := match d with | .int i => decide (lo ≤ i) && decide (i ≤ hi) | _ => false
def wordD (d : D) (ws : List PySem.Str) : Bool := match d with | .str x => ws.any fun w => decide (w = x) | _ => false
theorem typ_ref {hs : Hs} {n : Nat} (h : typD hs (.ref n) = true) (t : Ty) : isTy hs (.ref n) t = some (t == .list) := by
  unfold typD at h
  simp only [isTy] at h ⊢
  split at h <;> first | rfl | cases h
theorem all_bools {hs : Hs} {h : Bool} (p : D → Bool) (ds : List D) : bltD h .all [.lst (ds.map fun d => .bl (p d))] hs = .ok (.bl (ds.all p)) hs := by
  have e : boolL (ds.map fun d => D.bl (p d)) = some (ds.map p) := by
    induction ds with
    | nil => rfl
    | cons d ds ih => rw [List.map_cons, boolL, ih]; rfl
  simp only [bltD, items, Option.bind_some, e]
  congr 2
  rw [List.all_map]; rfl
end WG

set_option Elab.async false
set_option linter.all false
set_option maxRecDepth 100000
set_option maxHeartbeats 4000000
set_option autoImplicit false
/-! Ev: how the core is evaluated. -/
namespace WG
open PySem
theorem callF_eq {F : Nat → Option Fn} {f k : Nat} {fd : Fn} {ds : List D} {hs : Hs} (h : F f = some fd) (hl : ds.length = fd.np) : callF F (k+1) f ds hs = close fd.frz hs (evSs (callF F k) fd.body (ds.map some ++ List.replicate (fd.nv - fd.np) none) hs) := by
  rw [callF.eq_def]
  simp only [h, hl, if_true]
theorem close_rt {hs : Hs} {d : D} (h : d.nr = true) : close true hs (.rt d hs) = .ok d hs := by
  have : freeze hs hs.length 3 d = some d := by rw [freeze.eq_def]; simp only [h, if_true]
  simp only [close, if_true, List.take_length, this]
theorem close_nx {hs : Hs} {fr : Fr} : close true hs (.nx fr hs) = .ok .non hs := by
  simp only [close, if_true, List.take_length]
theorem close_exn {hs : Hs} {fr : Fr} {c : Nat} {p : D} (h : p.nr = true) : close true hs (.exn c p fr hs) = .exn c p hs := by
  simp only [close, if_true, List.take_length, h]
theorem close_f {hs hs' : Hs} {d : D} : close false hs (.rt d hs') = .ok d hs' := rfl
theorem s_near_down : (("near" : Str) = "down") = False := by simp only [eq_iff_iff, iff_false]; decide +kernel
theorem s_down_near : (("down" : Str) = "near") = False := by simp only [eq_iff_iff, iff_false]; decide +kernel
theorem s_shown_exact : (("shown" : Str) = "exact") = False := by simp only [eq_iff_iff, iff_false]; decide +kernel
theorem s_exact_shown : (("exact" : Str) = "shown") = False := by simp only [eq_iff_iff, iff_false]; decide +kernel


/-- a scale -/
structure Sc where
  step : Int
  near : Bool
  hold : Int
  shw : Bool
def Sc.d (s : Sc) : D := .tup [.int s.step, .str (if s.near then "near" else "down"), .int s.hold, .str (if s.shw then "shown" else "exact")]
structure Sc.Good (s : Sc) : Prop where
  s1 : 1 ≤ s.step
  s2 : s.step ≤ 10
  h1 : 0 ≤ s.hold
  h2 : s.hold ≤ 5
def Sc.shows (s : Sc) (n : Int) : Int := if s.near then s.step * ((2 * n + s.step) / (2 * s.step)) else s.step * (n / s.step)
def Sc.held (s : Sc) (n : Int) : Int := if (if n < 0 then -n else n) ≤ s.hold then 0 else n
/-- an act: a number, or tare -/
def actD : Option Int → D
  | some i => .int i
  | none => .str "tare"
def Sc.after (s : Sc) (n : Int) : Option Int → Int
  | none => s.held (if s.shw then n - s.shows n else 0)
  | some i => s.held (n + i)

section
variable {F : Nat → Option Fn} {k : Nat} {hs : Hs}
theorem is_whole_int (h0 : F 0 = some c_is_whole) (i lo hi : Int) : callF F (k+1) 0 [.int i, .int lo, .int hi] hs = .ok (.bl (decide (lo ≤ i) && decide (i ≤ hi))) hs := by
  rw [callF_eq h0 rfl]
  show close true hs (evSs (callF F k) c_is_whole.body [some (.int i), some (.int lo), some (.int hi)] hs) = _
  simp [c_is_whole, evSs, evS, evE, evEs, bltD, isTy, tyq, cmpB]
  cases h : decide (lo ≤ i) <;> exact close_rt rfl
theorem is_whole_str (h0 : F 0 = some c_is_whole) (x : Str) (lo hi : Int) : callF F (k+1) 0 [.str x, .int lo, .int hi] hs = .ok (.bl false) hs := by
  rw [callF_eq h0 rfl]
  show close true hs (evSs (callF F k) c_is_whole.body [some (.str x), some (.int lo), some (.int hi)] hs) = _
  simp [c_is_whole, evSs, evS, evE, evEs, bltD, isTy, tyq, cmpB]
  exact close_rt rfl
theorem is_word_str (h1 : F 1 = some c_is_word) (x : Str) (ws : List Str) : callF F (k+1) 1 [.str x, .tup (ws.map .str)] hs = .ok (.bl (ws.any fun w => decide (w = x))) hs := by
  rw [callF_eq h1 rfl]
  show close true hs (evSs (callF F k) c_is_word.body [some (.str x), some (.tup (ws.map .str))] hs) = _
  have e : (ws.map D.str).all (D.ok 12) = true := by
    rw [List.all_map, List.all_eq_true]; intro x _; rfl
  have e2 : ((ws.map D.str).any fun z => D.eqv z (.str x)) = ws.any fun w => decide (w = x) := by
    rw [List.any_map]; rfl
  have e3 : D.ok 12 (.str x) = true := rfl
  simp only [c_is_word, evSs, evS, evE, evEs, bltD, isTy, tyq, cmpB, isinD, itemsT, List.getElem?_cons_zero, List.getElem?_cons_succ, Res.bind_ok, Res.then_ok, beq_self_eq_true, e, e2, e3, Bool.and_self, if_true, Bool.true_and, RS.seq_rt, decide_true]
  exact close_rt rfl

theorem Sc.near_eq (s : Sc) : decide ((if s.near = true then ("near" : Str) else "down") = "down") = !s.near := by cases s.near <;> simp [s_near_down]
theorem Sc.shw_eq (s : Sc) : decide ((if s.shw = true then ("shown" : Str) else "exact") = "exact") = !s.shw := by cases s.shw <;> simp [s_shown_exact]
theorem right_scale (h0 : F 0 = some c_is_whole) (h1 : F 1 = some c_is_word) (h2 : F 2 = some c_is_right_scale) (s : Sc) (g : s.Good) : callF F (k+2) 2 [s.d] hs = .ok (.bl true) hs := by
  rw [callF_eq h2 rfl]
  show close true hs (evSs (callF F (k+1)) c_is_right_scale.body [some s.d] hs) = _
  have e1 : ∀ x : Str, callF F (k+1) 1 [.str x, .tup [.str "down", .str "near"]] hs = .ok (.bl (["down", "near"].any fun w => decide (w = x))) hs := fun x => is_word_str h1 x ["down", "near"]
  have e2 : ∀ x : Str, callF F (k+1) 1 [.str x, .tup [.str "exact", .str "shown"]] hs = .ok (.bl (["exact", "shown"].any fun w => decide (w = x))) hs := fun x => is_word_str h1 x ["exact", "shown"]
  have a1 := g.s1
  have a2 := g.s2
  have a3 := g.h1
  have a4 := g.h2
  have i0 : L2.ixN 4 0 = some 0 := by decide
  have i1 : L2.ixN 4 1 = some 1 := by decide
  have i2 : L2.ixN 4 2 = some 2 := by decide
  have i3 : L2.ixN 4 3 = some 3 := by decide
  obtain ⟨st, nr, hd, sw⟩ := s
  dsimp only at a1 a2 a3 a4
  cases nr <;> cases sw <;> simp [Sc.d, c_is_right_scale, evSs, evS, evE, evEs, bltD, isTy, tyq, cmpB, data, D.ok, D.eqv, lens, itemsT, idxD, L2.atI, i0, i1, i2, i3, is_whole_int h0, e1, e2, a1, a2, a3, a4, s_near_down, s_down_near, s_shown_exact, s_exact_shown]
  all_goals exact close_rt rfl

theorem ix4_0 : L2.ixN 4 0 = some 0 := by decide
theorem ix4_1 : L2.ixN 4 1 = some 1 := by decide
theorem ix4_2 : L2.ixN 4 2 = some 2 := by decide
theorem ix4_3 : L2.ixN 4 3 = some 3 := by decide
theorem at4_0 {α : Type} (a b c d : α) : L2.atI [a, b, c, d] 0 = some a := by simp [L2.atI, ix4_0]
theorem at4_1 {α : Type} (a b c d : α) : L2.atI [a, b, c, d] 1 = some b := by simp [L2.atI, ix4_1]
theorem at4_2 {α : Type} (a b c d : α) : L2.atI [a, b, c, d] 2 = some c := by simp [L2.atI, ix4_2]
theorem at4_3 {α : Type} (a b c d : α) : L2.atI [a, b, c, d] 3 = some d := by simp [L2.atI, ix4_3]
theorem shows_ok (h : F 32 = some c_shows) (s : Sc) (g : s.Good) (n : Int) : callF F (k+1) 32 [s.d, .int n] hs = .ok (.int (s.shows n)) hs := by
  rw [callF_eq h rfl]
  show close true hs (evSs (callF F k) c_shows.body [some s.d, some (.int n), none] hs) = _
  have a1 := g.s1
  have a2 := g.s2
  obtain ⟨st, nr, hd, sw⟩ := s
  dsimp only at a1 a2
  have b1 : 0 < st := by omega
  have b2 : st < 1073741824 := by omega
  have b3 : small st = true := small_of (by omega) (by omega)
  have b4 : small 2 = true := small_of (by omega) (by omega)
  have b5 : 0 < 2 * st := by omega
  have b6 : 2 * st < 1073741824 := by omega
  cases nr <;> simp [Sc.d, c_shows, evSs, evS, evE, evEs, asg, cmpB, data, D.ok, D.eqv, itemsT, idxD, at4_0, at4_1, binD, b1, b2, b3, b4, b5, b6, s_near_down] <;> exact close_rt rfl
theorem held_ok (h : F 33 = some c_held) (s : Sc) (n : Int) : callF F (k+1) 33 [s.d, .int n] hs = .ok (.int (s.held n)) hs := by
  rw [callF_eq h rfl]
  show close true hs (evSs (callF F k) c_held.body [some s.d, some (.int n)] hs) = _
  obtain ⟨st, nr, hd, sw⟩ := s
  by_cases c : (if n < 0 then -n else n) ≤ hd <;> simp [Sc.d, Sc.held, c_held, evSs, evS, evE, evEs, cmpB, itemsT, idxD, at4_2, bltD, c] <;> exact close_rt rfl
theorem Sc.idx3 (s : Sc) : idxD s.d (.int 3) hs = some (.str (if s.shw then "shown" else "exact")) := by unfold Sc.d; simp [idxD, itemsT, at4_3]
theorem after_ok (h3 : F 32 = some c_shows) (h4 : F 33 = some c_held) (h5 : F 34 = some c_after_act) (s : Sc) (g : s.Good) (n : Int) (a : Option Int) : callF F (k+2) 34 [s.d, .int n, actD a] hs = .ok (.int (s.after n a)) hs := by
  rw [callF_eq h5 rfl]
  show close true hs (evSs (callF F (k+1)) c_after_act.body [some s.d, some (.int n), some (actD a)] hs) = _
  cases a with
  | some i =>
    simp [actD, c_after_act, evSs, evS, evE, evEs, cmpB, data, D.ok, D.eqv, binD, held_ok h4, Sc.after]
    exact close_rt rfl
  | none =>
    cases hw : s.shw with
    | true =>
      simp [actD, c_after_act, evSs, evS, evE, evEs, cmpB, data, D.ok, D.eqv, binD, held_ok h4, shows_ok h3 s g, Sc.after, Sc.idx3, hw, s_shown_exact]
      exact close_rt rfl
    | false =>
      simp [actD, c_after_act, evSs, evS, evE, evEs, cmpB, data, D.ok, D.eqv, binD, held_ok h4, shows_ok h3 s g, Sc.after, Sc.idx3, hw, s_shown_exact]
      exact close_rt rfl
theorem need_scale_ok (h0 : F 0 = some c_is_whole) (h1 : F 1 = some c_is_word) (h2 : F 2 = some c_is_right_scale) (h6 : F 35 = some c_need_scale) (s : Sc) (g : s.Good) : callF F (k+3) 35 [s.d] hs = .ok .non hs := by
  rw [callF_eq h6 rfl]
  show close true hs (evSs (callF F (k+2)) c_need_scale.body [some s.d] hs) = _
  simp [c_need_scale, evSs, evS, evE, evEs, right_scale h0 h1 h2 s g]
  exact close_nx
theorem need_net_ok (h0 : F 0 = some c_is_whole) (h6 : F 36 = some c_need_net) (n : Int) (n1 : -3000 ≤ n) (n2 : n ≤ 3000) : callF F (k+2) 36 [.int n] hs = .ok .non hs := by
  rw [callF_eq h6 rfl]
  show close true hs (evSs (callF F (k+1)) c_need_net.body [some (.int n)] hs) = _
  simp [c_need_net, evSs, evS, evE, evEs, is_whole_int h0, n1, n2]
  exact close_nx
/-- an act as the law draws it -/
def actG : Option Int → Prop
  | some i => -300 ≤ i ∧ i ≤ 300
  | none => True
theorem is_act_ok (h0 : F 0 = some c_is_whole) (h1 : F 1 = some c_is_word) (h8 : F 37 = some c_is_act) (a : Option Int) (g : actG a) : callF F (k+2) 37 [actD a] hs = .ok (.bl true) hs := by
  rw [callF_eq h8 rfl]
  show close true hs (evSs (callF F (k+1)) c_is_act.body [some (actD a)] hs) = _
  have e1 : ∀ x : Str, callF F (k+1) 1 [.str x, .tup [.str "tare"]] hs = .ok (.bl (["tare"].any fun w => decide (w = x))) hs := fun x => is_word_str h1 x ["tare"]
  cases a with
  | some i =>
    have g1 : -300 ≤ i := g.1
    have g2 : i ≤ 300 := g.2
    simp [actD, c_is_act, evSs, evS, evE, evEs, is_whole_int h0, g1, g2]
    exact close_rt rfl
  | none =>
    simp [actD, c_is_act, evSs, evS, evE, evEs, is_whole_str h0, e1]
    exact close_rt rfl
theorem need_act_ok (h0 : F 0 = some c_is_whole) (h1 : F 1 = some c_is_word) (h8 : F 37 = some c_is_act) (h9 : F 38 = some c_need_act) (a : Option Int) (g : actG a) : callF F (k+3) 38 [actD a] hs = .ok .non hs := by
  rw [callF_eq h9 rfl]
  show close true hs (evSs (callF F (k+2)) c_need_act.body [some (actD a)] hs) = _
  simp [c_need_act, evSs, evS, evE, evEs, is_act_ok h0 h1 h8 a g]
  exact close_nx
structure LibScale (F : Nat → Option Fn) : Prop where
  h0 : F 0 = some c_is_whole := by rfl
  h1 : F 1 = some c_is_word := by rfl
  h2 : F 2 = some c_is_right_scale := by rfl
  h3 : F 32 = some c_shows := by rfl
  h4 : F 35 = some c_need_scale := by rfl
structure LibAct (F : Nat → Option Fn) : Prop extends LibScale F where
  h5 : F 33 = some c_held := by rfl
  h6 : F 34 = some c_after_act := by rfl
  h7 : F 37 = some c_is_act := by rfl
structure LibNet (F : Nat → Option Fn) : Prop extends LibAct F where
  h8 : F 36 = some c_need_net := by rfl
  h9 : F 38 = some c_need_act := by rfl
  h10 : F 39 = some c_shown := by rfl
  h11 : F 40 = some c_net_behind := by rfl
theorem shown_ok (L : LibNet F) (s : Sc) (g : s.Good) (n : Int) (n1 : -3000 ≤ n) (n2 : n ≤ 3000) : callF F (k+4) 39 [s.d, .int n] hs = .ok (.int (s.shows n)) hs := by
  rw [callF_eq L.h10 rfl]
  show close true hs (evSs (callF F (k+3)) c_shown.body [some s.d, some (.int n)] hs) = _
  simp [c_shown, evSs, evS, evE, evEs, need_scale_ok L.h0 L.h1 L.h2 L.h4 s g, need_net_ok L.h0 L.h8 n n1 n2, shows_ok L.h3 s g]
  exact close_rt rfl
theorem net_behind_ok (L : LibNet F) (s : Sc) (g : s.Good) (n : Int) (n1 : -3000 ≤ n) (n2 : n ≤ 3000) (a : Option Int) (ga : actG a) : callF F (k+4) 40 [s.d, .int n, actD a] hs = .ok (.int (s.after n a)) hs := by
  rw [callF_eq L.h11 rfl]
  show close true hs (evSs (callF F (k+3)) c_net_behind.body [some s.d, some (.int n), some (actD a)] hs) = _
  simp [c_net_behind, evSs, evS, evE, evEs, need_scale_ok L.h0 L.h1 L.h2 L.h4 s g, need_net_ok L.h0 L.h8 n n1 n2, need_act_ok L.h0 L.h1 L.h7 L.h9 a ga, after_ok L.h3 L.h5 L.h6 s g]
  exact close_rt rfl
end
end WG

set_option Elab.async false
set_option linter.all false
set_option maxRecDepth 100000
set_option maxHeartbeats 4000000
set_option autoImplicit false
/-! Ev2: the drawn source. -/
namespace WG
open PySem
/-- a source stands at n -/
def SrcG (a b : Int) : Prop := 0 ≤ a ∧ 0 ≤ b ∧ b < 2147483648
def Sr (n : Nat) (hs : Hs) : Prop := ∃ a b, hs[n]? = some (.lst [.int a, .int b]) ∧ SrcG a b
/-- the source at n moves on, all else stays -/
def Mv (n : Nat) (hs hs' : Hs) : Prop := Sr n hs' ∧ ∀ o : OD, hs.set n o = hs'.set n o
theorem Mv.refl {n : Nat} {hs : Hs} (h : Sr n hs) : Mv n hs hs := ⟨h, fun _ => rfl⟩
theorem Mv.trans {n : Nat} {a b c : Hs} (h : Mv n a b) (k : Mv n b c) : Mv n a c := ⟨k.1, fun o => (h.2 o).trans (k.2 o)⟩
theorem Mv.len {n : Nat} {a b : Hs} (h : Mv n a b) : a.length = b.length := by
  have := congrArg List.length (h.2 (.lst []))
  simpa using this
theorem Mv.other {n m : Nat} {a b : Hs} (h : Mv n a b) (hm : m ≠ n) : a[m]? = b[m]? := by
  have := congrArg (·[m]?) (h.2 (.lst []))
  simpa [List.getElem?_set_ne (Ne.symm hm)] using this
theorem Mv.take {n m : Nat} {a b : Hs} (h : Mv n a b) (hm : m ≤ n) : a.take m = b.take m := by
  apply List.ext_getElem?
  intro i
  by_cases hi : i < m
  · rw [List.getElem?_take_of_lt hi, List.getElem?_take_of_lt hi]
    exact h.other (by omega)
  · rw [List.getElem?_eq_none (by rw [List.length_take]; omega), List.getElem?_eq_none (by rw [List.length_take]; omega)]
theorem Mv.set {n : Nat} {hs : Hs} {x y : Int} (h : Sr n hs) (g : SrcG x y) : Mv n hs (hs.set n (.lst [.int x, .int y])) := by
  obtain ⟨a, b, e, _⟩ := h
  have hl : n < hs.length := by
    rcases Nat.lt_or_ge n hs.length with z | z
    · exact z
    · rw [List.getElem?_eq_none z] at e; cases e
  exact ⟨⟨x, y, by rw [List.getElem?_set_self hl], g⟩, fun o => by rw [List.set_set]⟩
theorem ix2_0 : L2.ixN 2 0 = some 0 := by decide
theorem ix2_1 : L2.ixN 2 1 = some 1 := by decide
theorem at2_0 {α : Type} (a b : α) : L2.atI [a, b] 0 = some a := by simp [L2.atI, ix2_0]
theorem at2_1 {α : Type} (a b : α) : L2.atI [a, b] 1 = some b := by simp [L2.atI, ix2_1]
section
variable {F : Nat → Option Fn} {k : Nat} {hs : Hs}
theorem pick_ok (h : F 14 = some c_law_pick) {n : Nat} (S : Sr n hs) (m : Int) (m1 : 1 ≤ m) (m2 : m < 1073741824) :
    ∃ r hs', callF F (k+1) 14 [.ref n, .int m] hs = .ok (.int r) hs' ∧ Mv n hs hs' ∧ 0 ≤ r ∧ r < m := by
  obtain ⟨a, b, e, g⟩ := S
  have g1 := g.1
  have g2 := g.2.1
  have g3 := g.2.2
  have m3 : 0 < m := by omega
  have q1 : ∀ j : Int, idxD (.ref n) (.int j) hs = L2.atI [.int a, .int b] j := i_ref e
  by_cases c : 0 < a
  · refine ⟨a % m, hs.set n (.lst [.int (a / m), .int b]), ?_, Mv.set ⟨a, b, e, g⟩ ⟨Int.ediv_nonneg g1 (by omega), g2, g3⟩, Int.emod_nonneg _ (by omega), Int.emod_lt_of_pos _ m3⟩
    rw [callF_eq h rfl]
    show close false hs (evSs (callF F k) c_law_pick.body [some (.ref n), some (.int m), none] hs) = _
    have q2 : ∀ v, WG.setItem (.ref n) (.int 0) v hs = .ok () (hs.set n (.lst [v, .int b])) := fun v => s_ref e (j := 0) ix2_0 v
    simp only [c_law_pick, ss_nil, ss_cons, s_set, s_expr, s_ret, s_ite, s_pass, s_cont, s_rais, v_var, v_cst, v_bin, v_neg, v_not, v_and, v_or, v_cmp, v_chain, v_isN, v_notN, v_ite, v_tup, v_lst, v_idx, v_slice, v_call, v_blt, v_mth, evEs, evIt, asg, asgs, wipes, bindC, setAll, Res.bind_ok, Res.bind_exn, Res.then_ok, Res.then_exn, Res.calm_ok, RS.seq_nx, RS.seq_rt, RS.seq_ct, RS.seq_exn, List.getElem?_cons_zero, List.getElem?_cons_succ, List.set_cons_zero, List.set_cons_succ, if_true, if_false, eq_self, Bool.false_eq_true, decide_true, decide_false, Bool.not_true, Bool.not_false, Bool.and_true, Bool.true_and, Bool.and_false, Bool.false_and, Bool.or_true, Bool.true_or, Bool.or_false, Bool.false_or, b_add, b_sub, c_lt, c_le, c_gt, c_ge, c_eqi, c_nei, c_eqs, c_nes, c_eqis, c_neis, c_eqsi, c_nesi, l_int, l_abs, l_min, l_max, l_lenS, l_lenT, l_lenL, l_isi_int, l_isi_str, l_isi_tup, l_isi_lst, l_isi_bl, l_isi_non, i_scr, i_tup, i_lst, tyq, reduceCtorEq, f_t, f_f, Option.map_some, List.length_cons, List.length_nil, q1, at2_0, c, b_mod m3, b_fdiv m3 m2, q2]
    exact close_f
  · have s1 : small 44497 = true := by decide
    have t1 : 0 ≤ (b * 44497 + 9973) % 2147483647 := Int.emod_nonneg _ (by decide)
    have t2 : (b * 44497 + 9973) % 2147483647 < 2147483647 := Int.emod_lt_of_pos _ (by decide)
    have s2 : small ((b * 44497 + 9973) % 2147483647) = true := small_of (by omega) (by omega)
    refine ⟨((b * 44497 + 9973) % 2147483647 * ((b * 44497 + 9973) % 2147483647)) % 2147483399 / 11 % m, hs.set n (.lst [.int a, .int ((b * 44497 + 9973) % 2147483647)]), ?_, Mv.set ⟨a, b, e, g⟩ ⟨g1, t1, by omega⟩, Int.emod_nonneg _ (by omega), Int.emod_lt_of_pos _ m3⟩
    rw [callF_eq h rfl]
    show close false hs (evSs (callF F k) c_law_pick.body [some (.ref n), some (.int m), none] hs) = _
    have hl : n < hs.length := by
      rcases Nat.lt_or_ge n hs.length with z | z
      · exact z
      · rw [List.getElem?_eq_none z] at e; cases e
    have q2 : ∀ v, WG.setItem (.ref n) (.int 1) v hs = .ok () (hs.set n (.lst [.int a, v])) := fun v => s_ref e (j := 1) ix2_1 v
    have q3 : ∀ (v : D) (j : Int), idxD (.ref n) (.int j) (hs.set n (.lst [.int a, v])) = L2.atI [.int a, v] j := fun v j => i_ref (by rw [List.getElem?_set_self hl]) j
    have d1 : (0 : Int) < 2147483647 := by decide
    have d2 : (0 : Int) < 2147483399 := by decide
    have d3 : (0 : Int) < 11 := by decide
    have d4 : (11 : Int) < 1073741824 := by decide
    simp only [c_law_pick, ss_nil, ss_cons, s_set, s_expr, s_ret, s_ite, s_pass, s_cont, s_rais, v_var, v_cst, v_bin, v_neg, v_not, v_and, v_or, v_cmp, v_chain, v_isN, v_notN, v_ite, v_tup, v_lst, v_idx, v_slice, v_call, v_blt, v_mth, evEs, evIt, asg, asgs, wipes, bindC, setAll, Res.bind_ok, Res.bind_exn, Res.then_ok, Res.then_exn, Res.calm_ok, RS.seq_nx, RS.seq_rt, RS.seq_ct, RS.seq_exn, List.getElem?_cons_zero, List.getElem?_cons_succ, List.set_cons_zero, List.set_cons_succ, if_true, if_false, eq_self, Bool.false_eq_true, decide_true, decide_false, Bool.not_true, Bool.not_false, Bool.and_true, Bool.true_and, Bool.and_false, Bool.false_and, Bool.or_true, Bool.true_or, Bool.or_false, Bool.false_or, b_add, b_sub, c_lt, c_le, c_gt, c_ge, c_eqi, c_nei, c_eqs, c_nes, c_eqis, c_neis, c_eqsi, c_nesi, l_int, l_abs, l_min, l_max, l_lenS, l_lenT, l_lenL, l_isi_int, l_isi_str, l_isi_tup, l_isi_lst, l_isi_bl, l_isi_non, i_scr, i_tup, i_lst, tyq, reduceCtorEq, f_t, f_f, Option.map_some, List.length_cons, List.length_nil, q1, at2_0, at2_1, c, b_mulR s1, b_mulR s2, b_mod m3, b_mod d1, b_mod d2, b_fdiv d3 d4, q2, q3]
    exact close_f
theorem pow18 : ∃ P : Int, 0 ≤ P ∧ ∀ hs, binD false .pow (.int 10) (.int 18) hs = .ok (.int P) hs :=
  ⟨10 ^ 18, by decide, fun hs => by
    have c : (small 10 && decide ((0 : Int) ≤ 18) && decide ((18 : Int) ≤ 1000)) = true := by decide
    simp only [binD, c, if_true]
    rfl⟩
theorem source_ok (h : F 13 = some c_law_source) (ns : List Int) (i : Int) (i0 : 0 ≤ i) (hi : i < 100) :
    ∃ a b, callF F (k+1) 13 [.scr ns, .int i] hs = .ok (.ref hs.length) (hs ++ [.lst [.int a, .int b]]) ∧ SrcG a b := by
  have go : ∀ x : Int, ∃ a b, SrcG a b ∧ (x = (if i < ns.length then (L2.atI ns i).getD 0 else 0) → callF F (k+1) 13 [.scr ns, .int i] hs = .ok (.ref hs.length) (hs ++ [.lst [.int a, .int b]])) := fun x => by
    have s0 : small 16807 = true := by decide
    have s1 : small 60919 = true := by decide
    have s2 : small 2 = true := by decide
    have t1 : 0 ≤ (x * 16807 + 60919 * i + 31) % 2147481173 := Int.emod_nonneg _ (by decide)
    have t2 : (x * 16807 + 60919 * i + 31) % 2147481173 < 2147481173 := Int.emod_lt_of_pos _ (by decide)
    generalize hst : (x * 16807 + 60919 * i + 31) % 2147481173 = st at t1 t2
    have s3 : small st = true := small_of (by omega) (by omega)
    have u1 : 0 ≤ (st * st) % 2147481151 := Int.emod_nonneg _ (by decide)
    have u2 : (st * st) % 2147481151 < 2147481151 := Int.emod_lt_of_pos _ (by decide)
    obtain ⟨P, hP0, p1⟩ := pow18
    refine ⟨if P ≤ x then x else 0, (st * st) % 2147481151 + 2 * i + 5, ⟨by split <;> omega, by omega, by omega⟩, fun hx => ?_⟩
    have d1 : (0 : Int) < 2147481173 := by decide
    have d2 : (0 : Int) < 2147481151 := by decide
    rw [callF_eq h rfl]
    show close false hs (evSs (callF F k) c_law_source.body [some (.scr ns), some (.int i), none, none] hs) = _
    by_cases c : i < ns.length
    · have hat : L2.atI ns i = some x := by
        obtain ⟨j, rfl⟩ := Int.eq_ofNat_of_zero_le i0
        rw [if_pos c, atI_ofNat (by omega)] at hx
        rw [atI_ofNat (by omega), hx]; rfl
      by_cases c2 : P ≤ x <;> simp only [c_law_source, ss_nil, ss_cons, s_set, s_expr, s_ret, s_ite, s_pass, s_cont, s_rais, v_var, v_cst, v_bin, v_neg, v_not, v_and, v_or, v_cmp, v_chain, v_isN, v_notN, v_ite, v_tup, v_lst, v_idx, v_slice, v_call, v_blt, v_mth, evEs, evIt, asg, asgs, wipes, bindC, setAll, Res.bind_ok, Res.bind_exn, Res.then_ok, Res.then_exn, Res.calm_ok, RS.seq_nx, RS.seq_rt, RS.seq_ct, RS.seq_exn, List.getElem?_cons_zero, List.getElem?_cons_succ, List.set_cons_zero, List.set_cons_succ, if_true, if_false, eq_self, Bool.false_eq_true, decide_true, decide_false, Bool.not_true, Bool.not_false, Bool.and_true, Bool.true_and, Bool.and_false, Bool.false_and, Bool.or_true, Bool.true_or, Bool.or_false, Bool.false_or, b_add, b_sub, c_lt, c_le, c_gt, c_ge, c_eqi, c_nei, c_eqs, c_nes, c_eqis, c_neis, c_eqsi, c_nesi, l_int, l_abs, l_min, l_max, l_lenS, l_lenT, l_lenL, l_isi_int, l_isi_str, l_isi_tup, l_isi_lst, l_isi_bl, l_isi_non, i_scr, i_tup, i_lst, tyq, reduceCtorEq, f_t, f_f, Option.map_some, List.length_cons, List.length_nil, c, hat, b_mulR s0, b_mulL s1, b_mulL s2, b_mulL s3, b_mod d1, b_mod d2, p1, hst, c2] <;> exact close_f
    · rw [if_neg c] at hx
      subst hx
      by_cases c2 : P ≤ 0 <;> simp only [c_law_source, ss_nil, ss_cons, s_set, s_expr, s_ret, s_ite, s_pass, s_cont, s_rais, v_var, v_cst, v_bin, v_neg, v_not, v_and, v_or, v_cmp, v_chain, v_isN, v_notN, v_ite, v_tup, v_lst, v_idx, v_slice, v_call, v_blt, v_mth, evEs, evIt, asg, asgs, wipes, bindC, setAll, Res.bind_ok, Res.bind_exn, Res.then_ok, Res.then_exn, Res.calm_ok, RS.seq_nx, RS.seq_rt, RS.seq_ct, RS.seq_exn, List.getElem?_cons_zero, List.getElem?_cons_succ, List.set_cons_zero, List.set_cons_succ, if_true, if_false, eq_self, Bool.false_eq_true, decide_true, decide_false, Bool.not_true, Bool.not_false, Bool.and_true, Bool.true_and, Bool.and_false, Bool.false_and, Bool.or_true, Bool.true_or, Bool.or_false, Bool.false_or, b_add, b_sub, c_lt, c_le, c_gt, c_ge, c_eqi, c_nei, c_eqs, c_nes, c_eqis, c_neis, c_eqsi, c_nesi, l_int, l_abs, l_min, l_max, l_lenS, l_lenT, l_lenL, l_isi_int, l_isi_str, l_isi_tup, l_isi_lst, l_isi_bl, l_isi_non, i_scr, i_tup, i_lst, tyq, reduceCtorEq, f_t, f_f, Option.map_some, List.length_cons, List.length_nil, c, b_mulR s0, b_mulL s1, b_mulL s2, b_mulL s3, b_mod d1, b_mod d2, p1, hst, c2] <;> exact close_f
  obtain ⟨a, b, g, e⟩ := go (if i < ns.length then (L2.atI ns i).getD 0 else 0)
  exact ⟨a, b, e rfl, g⟩

theorem chosen_ok (h : F 14 = some c_law_pick) (h2 : F 15 = some c_law_chosen) {n : Nat} (S : Sr n hs) (ds : List D) (d1 : 1 ≤ ds.length) (d2 : ds.length < 1073741824) :
    ∃ d hs', callF F (k+2) 15 [.ref n, .lst ds] hs = .ok d hs' ∧ Mv n hs hs' ∧ d ∈ ds := by
  obtain ⟨r, hs', e, m, r0, r1⟩ := pick_ok (k := k) h S (ds.length : Int) (by omega) (by omega)
  obtain ⟨j, rfl⟩ := Int.eq_ofNat_of_zero_le r0
  have hj : j < ds.length := by omega
  refine ⟨ds[j], hs', ?_, m, List.getElem_mem hj⟩
  rw [callF_eq h2 rfl]
  show close false hs (evSs (callF F (k+1)) c_law_chosen.body [some (.ref n), some (.lst ds)] hs) = _
  simp only [c_law_chosen, ss_nil, ss_cons, s_set, s_expr, s_ret, s_ite, s_pass, s_cont, s_rais, v_var, v_cst, v_bin, v_neg, v_not, v_and, v_or, v_cmp, v_chain, v_isN, v_notN, v_ite, v_tup, v_lst, v_idx, v_slice, v_call, v_blt, v_mth, evEs, evIt, asg, asgs, wipes, bindC, setAll, Res.bind_ok, Res.bind_exn, Res.then_ok, Res.then_exn, Res.calm_ok, RS.seq_nx, RS.seq_rt, RS.seq_ct, RS.seq_exn, List.getElem?_cons_zero, List.getElem?_cons_succ, List.set_cons_zero, List.set_cons_succ, if_true, if_false, eq_self, Bool.false_eq_true, decide_true, decide_false, Bool.not_true, Bool.not_false, Bool.and_true, Bool.true_and, Bool.and_false, Bool.false_and, Bool.or_true, Bool.true_or, Bool.or_false, Bool.false_or, b_add, b_sub, c_lt, c_le, c_gt, c_ge, c_eqi, c_nei, c_eqs, c_nes, c_eqis, c_neis, c_eqsi, c_nesi, l_int, l_abs, l_min, l_max, l_lenS, l_lenT, l_lenL, l_isi_int, l_isi_str, l_isi_tup, l_isi_lst, l_isi_bl, l_isi_non, i_scr, i_tup, i_lst, tyq, reduceCtorEq, f_t, f_f, Option.map_some, List.length_cons, List.length_nil, e, atI_ofNat hj]
  exact close_f
structure LibSrc (F : Nat → Option Fn) : Prop where
  p1 : F 14 = some c_law_pick := by rfl
  p2 : F 15 = some c_law_chosen := by rfl
  p3 : F 13 = some c_law_source := by rfl
  p4 : F 25 = some c_law_scale := by rfl
theorem law_scale_ok (L : LibSrc F) {n : Nat} (S : Sr n hs) : ∃ (s : Sc) (hs' : Hs), callF F (k+3) 25 [.ref n] hs = .ok s.d hs' ∧ Mv n hs hs' ∧ s.Good := by
  obtain ⟨r, hs1, e1, m1, r0, r1⟩ := pick_ok (k := k+1) L.p1 S 10 (by decide) (by decide)
  obtain ⟨st, hs2, e2, m2, c2⟩ := chosen_ok (k := k) L.p1 L.p2 m1.1 [.int 1, .int 1, .int 2, .int 3, .int 5, .int 5, .int 10, .int (1 + r)] (by simp) (by simp)
  obtain ⟨hd, hs3, e3, m3, c3⟩ := chosen_ok (k := k) L.p1 L.p2 m2.1 [.int 0, .int 0, .int 0, .int 1, .int 2, .int 5] (by decide) (by decide)
  obtain ⟨nr, hs4, e4, m4, c4⟩ := chosen_ok (k := k) L.p1 L.p2 m3.1 [.str "down", .str "near"] (by decide) (by decide)
  obtain ⟨sw, hs5, e5, m5, c5⟩ := chosen_ok (k := k) L.p1 L.p2 m4.1 [.str "exact", .str "shown"] (by decide) (by decide)
  have st' : ∃ i : Int, st = .int i ∧ 1 ≤ i ∧ i ≤ 10 := by
    simp only [List.mem_cons, List.not_mem_nil, or_false] at c2
    rcases c2 with rfl | rfl | rfl | rfl | rfl | rfl | rfl | rfl <;> exact ⟨_, rfl, by omega, by omega⟩
  have hd' : ∃ i : Int, hd = .int i ∧ 0 ≤ i ∧ i ≤ 5 := by
    simp only [List.mem_cons, List.not_mem_nil, or_false] at c3
    rcases c3 with rfl | rfl | rfl | rfl | rfl | rfl <;> exact ⟨_, rfl, by omega, by omega⟩
  have nr' : ∃ b : Bool, nr = .str (if b then "near" else "down") := by
    simp only [List.mem_cons, List.not_mem_nil, or_false] at c4
    rcases c4 with rfl | rfl
    · exact ⟨false, rfl⟩
    · exact ⟨true, rfl⟩
  have sw' : ∃ b : Bool, sw = .str (if b then "shown" else "exact") := by
    simp only [List.mem_cons, List.not_mem_nil, or_false] at c5
    rcases c5 with rfl | rfl
    · exact ⟨false, rfl⟩
    · exact ⟨true, rfl⟩
  obtain ⟨i1, rfl, s1, s2⟩ := st'
  obtain ⟨i2, rfl, h1, h2⟩ := hd'
  obtain ⟨b1, rfl⟩ := nr'
  obtain ⟨b2, rfl⟩ := sw'
  refine ⟨⟨i1, b1, i2, b2⟩, hs5, ?_, (((m1.trans m2).trans m3).trans m4).trans m5, ⟨s1, s2, h1, h2⟩⟩
  rw [callF_eq L.p4 rfl]
  show close false hs (evSs (callF F (k+2)) c_law_scale.body [some (.ref n), none, none] hs) = _
  simp only [c_law_scale, ss_nil, ss_cons, s_set, s_expr, s_ret, s_ite, s_pass, s_cont, s_rais, v_var, v_cst, v_bin, v_neg, v_not, v_and, v_or, v_cmp, v_chain, v_isN, v_notN, v_ite, v_tup, v_lst, v_idx, v_slice, v_call, v_blt, v_mth, evEs, evIt, asg, asgs, wipes, bindC, setAll, Res.bind_ok, Res.bind_exn, Res.then_ok, Res.then_exn, Res.calm_ok, RS.seq_nx, RS.seq_rt, RS.seq_ct, RS.seq_exn, List.getElem?_cons_zero, List.getElem?_cons_succ, List.set_cons_zero, List.set_cons_succ, if_true, if_false, eq_self, Bool.false_eq_true, decide_true, decide_false, Bool.not_true, Bool.not_false, Bool.and_true, Bool.true_and, Bool.and_false, Bool.false_and, Bool.or_true, Bool.true_or, Bool.or_false, Bool.false_or, b_add, b_sub, c_lt, c_le, c_gt, c_ge, c_eqi, c_nei, c_eqs, c_nes, c_eqis, c_neis, c_eqsi, c_nesi, l_int, l_abs, l_min, l_max, l_lenS, l_lenT, l_lenL, l_isi_int, l_isi_str, l_isi_tup, l_isi_lst, l_isi_bl, l_isi_non, i_scr, i_tup, i_lst, tyq, reduceCtorEq, f_t, f_f, Option.map_some, List.length_cons, List.length_nil, e1, e2, e3, e4, e5]
  exact close_f
end
end WG

set_option Elab.async false
set_option linter.all false
set_option maxRecDepth 100000
set_option maxHeartbeats 4000000
set_option autoImplicit false
/-! Ev3: rows of acts; the arithmetic of shows. -/
namespace WG
open PySem
/-- the net behind acts -/
def Sc.nets (s : Sc) (n : Int) (as : List (Option Int)) : Int := as.foldl s.after n
def Sc.rows (s : Sc) : Int → List (Option Int) → List Int
  | _, [] => []
  | n, a :: r => s.shows (s.after n a) :: s.rows (s.after n a) r
theorem Sc.rows_app (s : Sc) : ∀ (as : List (Option Int)) (n : Int) (a : Option Int), s.rows n (as ++ [a]) = s.rows n as ++ [s.shows (s.after (s.nets n as) a)]
  | [], n, a => rfl
  | b :: r, n, a => by
    simp only [List.cons_append, Sc.rows, Sc.rows_app s r]
    rfl
theorem Sc.nets_app (s : Sc) (as : List (Option Int)) (n : Int) (a : Option Int) : s.nets n (as ++ [a]) = s.after (s.nets n as) a := by
  unfold Sc.nets; rw [List.foldl_append]; rfl
theorem Sc.rows_len (s : Sc) : ∀ (as : List (Option Int)) (n : Int), (s.rows n as).length = as.length
  | [], _ => rfl
  | a :: r, n => by rw [Sc.rows, List.length_cons, Sc.rows_len s r]; rfl
theorem boolL_map (bs : List Bool) : boolL (bs.map D.bl) = some bs := by
  induction bs with
  | nil => rfl
  | cons b bs ih => rw [List.map_cons, boolL, ih]; rfl
theorem mapO_ints {hs : Hs} {n0 k : Nat} (is : List Int) : mapO (freeze hs n0 k) (is.map D.int) = some (is.map D.int) := by
  induction is with
  | nil => rfl
  | cons i is ih =>
    have e : freeze hs n0 k (.int i) = some (.int i) := by cases k <;> rfl
    rw [List.map_cons, mapO, e, ih]; rfl
theorem close_list {hs : Hs} {is : List Int} : close true hs (.rt (.ref hs.length) (hs ++ [.lst (is.map .int)])) = .ok (.lst (is.map .int)) hs := by
  have e : freeze (hs ++ [OD.lst (is.map D.int)]) hs.length 3 (.ref hs.length) = some (.lst (is.map .int)) := by
    rw [freeze.eq_def]
    have e1 : (D.ref hs.length).nr = false := rfl
    simp only [e1, Bool.false_eq_true, if_false, Nat.lt_irrefl, List.getElem?_concat_length, mapO_ints, Option.map_some]
  have e2 : (hs ++ [OD.lst (is.map D.int)]).take hs.length = hs := by simp
  simp only [close, if_true, e2, e]
structure LibRow (F : Nat → Option Fn) : Prop extends LibAct F where
  r1 : F 41 = some c_row_shown := by rfl
section
variable {F : Nat → Option Fn} {k : Nat} {hs : Hs}
theorem all_true {hs : Hs} {h : Bool} (ds : List D) : bltD h .all [.lst (ds.map fun _ => .bl true)] hs = .ok (.bl true) hs := by
  have e : (ds.map fun _ => D.bl true) = (ds.map fun _ => true).map D.bl := by rw [List.map_map]; rfl
  simp only [bltD, items, Option.bind_some, e, boolL_map]
  congr 2
  rw [List.all_eq_true]
  intro x hx
  obtain ⟨_, _, rfl⟩ := List.mem_map.mp hx
  rfl
theorem row_body (L : LibAct F) (s : Sc) (g : s.Good) (as : List (Option Int)) (ga : ∀ a ∈ as, actG a) (hl : as.length ≤ 100) : evSs (callF F (k+3)) c_row_shown.body [some s.d, some (.tup (as.map actD)), none, none, none] hs = .rt (.ref hs.length) (hs ++ [.lst ((s.rows 0 as).map .int)]) := by
  have c1 : ¬ (100 : Int) < ((as.map actD).length : Int) := by rw [List.length_map]; omega
  have cl : (as.map actD).length ≤ line := by rw [List.length_map]; have : line = 16777216 := rfl; omega
  have sc := need_scale_ok (F := F) (k := k) (hs := hs) L.h0 L.h1 L.h2 L.h4 s g
  have comp : evE (callF F (k+3)) (.comp false true [4] (.val (.var 1)) (.cst (.bl true)) (.call 37 (.cons (.var 4) .nil))) [some s.d, some (.tup (as.map actD)), none, none, none] hs = fin false ((as.map actD).map fun _ => .bl true) hs := by
    refine v_comp (ds := as.map actD) (hs1 := hs) (by simp only [ss_nil, ss_cons, s_set, s_expr, s_ret, s_ite, s_pass, s_cont, s_rais, v_var, v_cst, v_bin, v_neg, v_not, v_and, v_or, v_cmp, v_chain, v_isN, v_notN, v_ite, v_tup, v_lst, v_idx, v_slice, v_call, v_blt, v_mth, evEs, evIt, asg, asgs, wipes, bindC, setAll, Res.bind_ok, Res.bind_exn, Res.then_ok, Res.then_exn, Res.calm_ok, RS.seq_nx, RS.seq_rt, RS.seq_ct, RS.seq_exn, List.getElem?_cons_zero, List.getElem?_cons_succ, List.set_cons_zero, List.set_cons_succ, if_true, if_false, eq_self, Bool.false_eq_true, decide_true, decide_false, Bool.not_true, Bool.not_false, Bool.and_true, Bool.true_and, Bool.and_false, Bool.false_and, Bool.or_true, Bool.true_or, Bool.or_false, Bool.false_or, walkOf]) cl fun d hd => ⟨_, rfl, ?_⟩
    obtain ⟨a, ha, rfl⟩ := List.mem_map.mp hd
    simp only [ss_nil, ss_cons, s_set, s_expr, s_ret, s_ite, s_pass, s_cont, s_rais, v_var, v_cst, v_bin, v_neg, v_not, v_and, v_or, v_cmp, v_chain, v_isN, v_notN, v_ite, v_tup, v_lst, v_idx, v_slice, v_call, v_blt, v_mth, evEs, evIt, asg, asgs, wipes, bindC, setAll, Res.bind_ok, Res.bind_exn, Res.then_ok, Res.then_exn, Res.calm_ok, RS.seq_nx, RS.seq_rt, RS.seq_ct, RS.seq_exn, List.getElem?_cons_zero, List.getElem?_cons_succ, List.set_cons_zero, List.set_cons_succ, if_true, if_false, eq_self, Bool.false_eq_true, decide_true, decide_false, Bool.not_true, Bool.not_false, Bool.and_true, Bool.true_and, Bool.and_false, Bool.false_and, Bool.or_true, Bool.true_or, Bool.or_false, Bool.false_or, is_act_ok L.h0 L.h1 L.h7 a (ga a ha)]
  refine (seq1 (fr' := [some s.d, some (.tup (as.map actD)), none, none, none]) (hs' := hs) ?_).trans ?_
  · simp only [ss_nil, ss_cons, s_set, s_expr, s_ret, s_ite, s_pass, s_cont, s_rais, v_var, v_cst, v_bin, v_neg, v_not, v_and, v_or, v_cmp, v_chain, v_isN, v_notN, v_ite, v_tup, v_lst, v_idx, v_slice, v_call, v_blt, v_mth, evEs, evIt, asg, asgs, wipes, bindC, setAll, Res.bind_ok, Res.bind_exn, Res.then_ok, Res.then_exn, Res.calm_ok, RS.seq_nx, RS.seq_rt, RS.seq_ct, RS.seq_exn, List.getElem?_cons_zero, List.getElem?_cons_succ, List.set_cons_zero, List.set_cons_succ, if_true, if_false, eq_self, Bool.false_eq_true, decide_true, decide_false, Bool.not_true, Bool.not_false, Bool.and_true, Bool.true_and, Bool.and_false, Bool.false_and, Bool.or_true, Bool.true_or, Bool.or_false, Bool.false_or, sc]
  refine (seq1 (fr' := [some s.d, some (.tup (as.map actD)), none, none, none]) (hs' := hs) ?_).trans ?_
  · simp only [ss_nil, ss_cons, s_set, s_expr, s_ret, s_ite, s_pass, s_cont, s_rais, v_var, v_cst, v_bin, v_neg, v_not, v_and, v_or, v_cmp, v_chain, v_isN, v_notN, v_ite, v_tup, v_lst, v_idx, v_slice, v_call, v_blt, v_mth, evEs, evIt, asg, asgs, wipes, bindC, setAll, Res.bind_ok, Res.bind_exn, Res.then_ok, Res.then_exn, Res.calm_ok, RS.seq_nx, RS.seq_rt, RS.seq_ct, RS.seq_exn, List.getElem?_cons_zero, List.getElem?_cons_succ, List.set_cons_zero, List.set_cons_succ, if_true, if_false, eq_self, Bool.false_eq_true, decide_true, decide_false, Bool.not_true, Bool.not_false, Bool.and_true, Bool.true_and, Bool.and_false, Bool.false_and, Bool.or_true, Bool.true_or, Bool.or_false, Bool.false_or, b_add, b_sub, c_lt, c_le, c_gt, c_ge, c_eqi, c_nei, c_eqs, c_nes, c_eqis, c_neis, c_eqsi, c_nesi, l_int, l_abs, l_min, l_max, l_lenS, l_lenT, l_lenL, l_isi_int, l_isi_str, l_isi_tup, l_isi_lst, l_isi_bl, l_isi_non, i_scr, i_tup, i_lst, tyq, reduceCtorEq, f_t, f_f, Option.map_some, List.length_cons, List.length_nil, comp, all_true, c1]
  refine (seq1 (fr' := [some s.d, some (.tup (as.map actD)), some (.ref hs.length), none, none]) (hs' := hs ++ [.lst []]) ?_).trans ?_
  · simp only [ss_nil, ss_cons, s_set, s_expr, s_ret, s_ite, s_pass, s_cont, s_rais, v_var, v_cst, v_bin, v_neg, v_not, v_and, v_or, v_cmp, v_chain, v_isN, v_notN, v_ite, v_tup, v_lst, v_idx, v_slice, v_call, v_blt, v_mth, evEs, evIt, asg, asgs, wipes, bindC, setAll, Res.bind_ok, Res.bind_exn, Res.then_ok, Res.then_exn, Res.calm_ok, RS.seq_nx, RS.seq_rt, RS.seq_ct, RS.seq_exn, List.getElem?_cons_zero, List.getElem?_cons_succ, List.set_cons_zero, List.set_cons_succ, if_true, if_false, eq_self, Bool.false_eq_true, decide_true, decide_false, Bool.not_true, Bool.not_false, Bool.and_true, Bool.true_and, Bool.and_false, Bool.false_and, Bool.or_true, Bool.true_or, Bool.or_false, Bool.false_or, b_add, b_sub, c_lt, c_le, c_gt, c_ge, c_eqi, c_nei, c_eqs, c_nes, c_eqis, c_neis, c_eqsi, c_nesi, l_int, l_abs, l_min, l_max, l_lenS, l_lenT, l_lenL, l_isi_int, l_isi_str, l_isi_tup, l_isi_lst, l_isi_bl, l_isi_non, i_scr, i_tup, i_lst, tyq, reduceCtorEq, f_t, f_f, Option.map_some, List.length_cons, List.length_nil]
  refine (seq1 (fr' := [some s.d, some (.tup (as.map actD)), some (.ref hs.length), some (.int 0), none]) (hs' := hs ++ [.lst []]) ?_).trans ?_
  · simp only [ss_nil, ss_cons, s_set, s_expr, s_ret, s_ite, s_pass, s_cont, s_rais, v_var, v_cst, v_bin, v_neg, v_not, v_and, v_or, v_cmp, v_chain, v_isN, v_notN, v_ite, v_tup, v_lst, v_idx, v_slice, v_call, v_blt, v_mth, evEs, evIt, asg, asgs, wipes, bindC, setAll, Res.bind_ok, Res.bind_exn, Res.then_ok, Res.then_exn, Res.calm_ok, RS.seq_nx, RS.seq_rt, RS.seq_ct, RS.seq_exn, List.getElem?_cons_zero, List.getElem?_cons_succ, List.set_cons_zero, List.set_cons_succ, if_true, if_false, eq_self, Bool.false_eq_true, decide_true, decide_false, Bool.not_true, Bool.not_false, Bool.and_true, Bool.true_and, Bool.and_false, Bool.false_and, Bool.or_true, Bool.true_or, Bool.or_false, Bool.false_or, b_add, b_sub, c_lt, c_le, c_gt, c_ge, c_eqi, c_nei, c_eqs, c_nes, c_eqis, c_neis, c_eqsi, c_nesi, l_int, l_abs, l_min, l_max, l_lenS, l_lenT, l_lenL, l_isi_int, l_isi_str, l_isi_tup, l_isi_lst, l_isi_bl, l_isi_non, i_scr, i_tup, i_lst, tyq, reduceCtorEq, f_t, f_f, Option.map_some, List.length_cons, List.length_nil]
  obtain ⟨fr', hs2, e, v, e1, e2⟩ := loopL_inv (ds := as.map actD) (i := 0) (f := fun d fr hs => (asg (callF F (k+3)) (.var 4) d fr hs).then fr fun fr hs => evSs (callF F (k+3))
      (.cons (.set (.var 3) (.call 34 (.cons (.var 0) (.cons (.var 3) (.cons (.var 4) .nil))))) (.cons (.expr (.mth false .append (.var 2) (.cons (.call 32 (.cons (.var 0) (.cons (.var 3) .nil))) .nil))) .nil)) fr hs)
    (Inv := fun i fr hs' => ∃ v, fr = [some s.d, some (.tup (as.map actD)), some (.ref hs.length), some (.int (s.nets 0 (as.take i))), v] ∧ hs' = hs ++ [.lst ((s.rows 0 (as.take i)).map .int)]) (fun j d fr hs1 hd ⟨v, e1, e2⟩ => by
      subst e1 e2
      rw [Nat.zero_add] at *
      rw [List.getElem?_map] at hd
      cases hj : as[j]? with
      | none => rw [hj] at hd; cases hd
      | some a =>
        rw [hj] at hd
        injection hd with hd
        subst hd
        have ht : as.take (j + 1) = as.take j ++ [a] := by rw [List.take_succ, hj]; rfl
        have hn : (hs ++ [OD.lst ((s.rows 0 (as.take j)).map D.int)])[hs.length]? = some (.lst ((s.rows 0 (as.take j)).map D.int)) := List.getElem?_concat_length
        have hlt : ((s.rows 0 (as.take j)).map D.int).length < line := by
          rw [List.length_map, Sc.rows_len, List.length_take]
          have : line = 16777216 := rfl
          omega
        refine ⟨[some s.d, some (.tup (as.map actD)), some (.ref hs.length), some (.int (s.nets 0 (as.take (j+1)))), some (actD a)], hs ++ [.lst ((s.rows 0 (as.take (j+1))).map .int)], .inl ?_, some (actD a), rfl, rfl⟩
        rw [ht, Sc.nets_app, Sc.rows_app]
        simp only [ss_nil, ss_cons, s_set, s_expr, s_ret, s_ite, s_pass, s_cont, s_rais, v_var, v_cst, v_bin, v_neg, v_not, v_and, v_or, v_cmp, v_chain, v_isN, v_notN, v_ite, v_tup, v_lst, v_idx, v_slice, v_call, v_blt, v_mth, evEs, evIt, asg, asgs, wipes, bindC, setAll, Res.bind_ok, Res.bind_exn, Res.then_ok, Res.then_exn, Res.calm_ok, RS.seq_nx, RS.seq_rt, RS.seq_ct, RS.seq_exn, List.getElem?_cons_zero, List.getElem?_cons_succ, List.set_cons_zero, List.set_cons_succ, if_true, if_false, eq_self, Bool.false_eq_true, decide_true, decide_false, Bool.not_true, Bool.not_false, Bool.and_true, Bool.true_and, Bool.and_false, Bool.false_and, Bool.or_true, Bool.true_or, Bool.or_false, Bool.false_or, after_ok L.h3 L.h5 L.h6 s g, mo_app hn, shows_ok L.h3 s g, m_app hn hlt]
        simp) (fr := [some s.d, some (.tup (as.map actD)), some (.ref hs.length), some (.int 0), none]) (hs := hs ++ [.lst []]) ⟨none, by simp [Sc.nets], by simp [Sc.rows]⟩
  subst e1 e2
  rw [List.length_map, Nat.zero_add, List.take_length] at e
  refine (seq1 (s_for (ds := as.map actD) (hs1 := hs ++ [.lst []]) (by simp only [ss_nil, ss_cons, s_set, s_expr, s_ret, s_ite, s_pass, s_cont, s_rais, v_var, v_cst, v_bin, v_neg, v_not, v_and, v_or, v_cmp, v_chain, v_isN, v_notN, v_ite, v_tup, v_lst, v_idx, v_slice, v_call, v_blt, v_mth, evEs, evIt, asg, asgs, wipes, bindC, setAll, Res.bind_ok, Res.bind_exn, Res.then_ok, Res.then_exn, Res.calm_ok, RS.seq_nx, RS.seq_rt, RS.seq_ct, RS.seq_exn, List.getElem?_cons_zero, List.getElem?_cons_succ, List.set_cons_zero, List.set_cons_succ, if_true, if_false, eq_self, Bool.false_eq_true, decide_true, decide_false, Bool.not_true, Bool.not_false, Bool.and_true, Bool.true_and, Bool.and_false, Bool.false_and, Bool.or_true, Bool.true_or, Bool.or_false, Bool.false_or, walkOf]) e)).trans ?_
  refine seqR (d := .ref hs.length) (hs' := hs ++ [.lst ((s.rows 0 as).map .int)]) ?_
  simp only [ss_nil, ss_cons, s_set, s_expr, s_ret, s_ite, s_pass, s_cont, s_rais, v_var, v_cst, v_bin, v_neg, v_not, v_and, v_or, v_cmp, v_chain, v_isN, v_notN, v_ite, v_tup, v_lst, v_idx, v_slice, v_call, v_blt, v_mth, evEs, evIt, asg, asgs, wipes, bindC, setAll, Res.bind_ok, Res.bind_exn, Res.then_ok, Res.then_exn, Res.calm_ok, RS.seq_nx, RS.seq_rt, RS.seq_ct, RS.seq_exn, List.getElem?_cons_zero, List.getElem?_cons_succ, List.set_cons_zero, List.set_cons_succ, if_true, if_false, eq_self, Bool.false_eq_true, decide_true, decide_false, Bool.not_true, Bool.not_false, Bool.and_true, Bool.true_and, Bool.and_false, Bool.false_and, Bool.or_true, Bool.true_or, Bool.or_false, Bool.false_or]
theorem row_shown_ok (L : LibRow F) (s : Sc) (g : s.Good) (as : List (Option Int)) (ga : ∀ a ∈ as, actG a) (hl : as.length ≤ 100) : callF F (k+4) 41 [s.d, .tup (as.map actD)] hs = .ok (.lst ((s.rows 0 as).map .int)) hs := by
  rw [callF_eq L.r1 rfl]
  show close true hs (evSs (callF F (k+3)) c_row_shown.body [some s.d, some (.tup (as.map actD)), none, none, none] hs) = _
  rw [row_body L.toLibAct s g as ga hl]
  exact close_list
end
end WG

set_option Elab.async false
set_option linter.all false
set_option maxRecDepth 100000
set_option maxHeartbeats 4000000
set_option autoImplicit false
/-! Ev4: the checks of values at any value. -/
namespace WG
open PySem
section
variable {F : Nat → Option Fn} {k : Nat} {hs : Hs}
theorem is_whole_gen (h0 : F 0 = some c_is_whole) (d : D) (lo hi : Int) (t : typD hs d = true) : callF F (k+1) 0 [d, .int lo, .int hi] hs = .ok (.bl (wholeD d lo hi)) hs := by
  cases d with
  | int i => exact is_whole_int h0 i lo hi
  | ref n =>
    rw [callF_eq h0 rfl]
    show close true hs (evSs (callF F k) c_is_whole.body [some (.ref n), some (.int lo), some (.int hi)] hs) = _
    have e : bltD false (.isi .int) [.ref n] hs = .ok (.bl false) hs := by simp only [bltD, typ_ref t]; rfl
    simp only [c_is_whole, ss_nil, ss_cons, s_set, s_expr, s_ret, s_ite, s_pass, s_cont, s_rais, v_var, v_cst, v_bin, v_neg, v_not, v_and, v_or, v_cmp, v_chain, v_isN, v_notN, v_ite, v_tup, v_lst, v_idx, v_slice, v_call, v_blt, v_mth, evEs, evIt, asg, asgs, wipes, bindC, setAll, Res.bind_ok, Res.bind_exn, Res.then_ok, Res.then_exn, Res.calm_ok, RS.seq_nx, RS.seq_rt, RS.seq_ct, RS.seq_exn, List.getElem?_cons_zero, List.getElem?_cons_succ, List.set_cons_zero, List.set_cons_succ, if_true, if_false, eq_self, Bool.false_eq_true, decide_true, decide_false, Bool.not_true, Bool.not_false, Bool.and_true, Bool.true_and, Bool.and_false, Bool.false_and, Bool.or_true, Bool.true_or, Bool.or_false, Bool.false_or, e]
    exact close_rt rfl
  | fn _ => cases t
  | scr _ => cases t
  | dct _ _ _ => cases t
  | _ =>
    rw [callF_eq h0 rfl]
    show close true hs (evSs (callF F k) c_is_whole.body [some _, some (.int lo), some (.int hi)] hs) = _
    simp only [c_is_whole, ss_nil, ss_cons, s_set, s_expr, s_ret, s_ite, s_pass, s_cont, s_rais, v_var, v_cst, v_bin, v_neg, v_not, v_and, v_or, v_cmp, v_chain, v_isN, v_notN, v_ite, v_tup, v_lst, v_idx, v_slice, v_call, v_blt, v_mth, evEs, evIt, asg, asgs, wipes, bindC, setAll, Res.bind_ok, Res.bind_exn, Res.then_ok, Res.then_exn, Res.calm_ok, RS.seq_nx, RS.seq_rt, RS.seq_ct, RS.seq_exn, List.getElem?_cons_zero, List.getElem?_cons_succ, List.set_cons_zero, List.set_cons_succ, if_true, if_false, eq_self, Bool.false_eq_true, decide_true, decide_false, Bool.not_true, Bool.not_false, Bool.and_true, Bool.true_and, Bool.and_false, Bool.false_and, Bool.or_true, Bool.true_or, Bool.or_false, Bool.false_or, b_add, b_sub, c_lt, c_le, c_gt, c_ge, c_eqi, c_nei, c_eqs, c_nes, c_eqis, c_neis, c_eqsi, c_nesi, l_int, l_abs, l_min, l_max, l_lenS, l_lenT, l_lenL, l_isi_int, l_isi_str, l_isi_tup, l_isi_lst, l_isi_bl, l_isi_non, i_scr, i_tup, i_lst, tyq, reduceCtorEq, f_t, f_f, Option.map_some, List.length_cons, List.length_nil]
    exact close_rt rfl
theorem is_word_gen (h1 : F 1 = some c_is_word) (d : D) (ws : List Str) (t : typD hs d = true) : callF F (k+1) 1 [d, .tup (ws.map .str)] hs = .ok (.bl (wordD d ws)) hs := by
  cases d with
  | str x => exact is_word_str h1 x ws
  | ref n =>
    rw [callF_eq h1 rfl]
    show close true hs (evSs (callF F k) c_is_word.body [some (.ref n), some (.tup (ws.map .str))] hs) = _
    have e : bltD false (.isi .str) [.ref n] hs = .ok (.bl false) hs := by simp only [bltD, typ_ref t]; rfl
    simp only [c_is_word, ss_nil, ss_cons, s_set, s_expr, s_ret, s_ite, s_pass, s_cont, s_rais, v_var, v_cst, v_bin, v_neg, v_not, v_and, v_or, v_cmp, v_chain, v_isN, v_notN, v_ite, v_tup, v_lst, v_idx, v_slice, v_call, v_blt, v_mth, evEs, evIt, asg, asgs, wipes, bindC, setAll, Res.bind_ok, Res.bind_exn, Res.then_ok, Res.then_exn, Res.calm_ok, RS.seq_nx, RS.seq_rt, RS.seq_ct, RS.seq_exn, List.getElem?_cons_zero, List.getElem?_cons_succ, List.set_cons_zero, List.set_cons_succ, if_true, if_false, eq_self, Bool.false_eq_true, decide_true, decide_false, Bool.not_true, Bool.not_false, Bool.and_true, Bool.true_and, Bool.and_false, Bool.false_and, Bool.or_true, Bool.true_or, Bool.or_false, Bool.false_or, e]
    exact close_rt rfl
  | fn _ => cases t
  | scr _ => cases t
  | dct _ _ _ => cases t
  | _ =>
    rw [callF_eq h1 rfl]
    show close true hs (evSs (callF F k) c_is_word.body [some _, some (.tup (ws.map .str))] hs) = _
    simp only [c_is_word, ss_nil, ss_cons, s_set, s_expr, s_ret, s_ite, s_pass, s_cont, s_rais, v_var, v_cst, v_bin, v_neg, v_not, v_and, v_or, v_cmp, v_chain, v_isN, v_notN, v_ite, v_tup, v_lst, v_idx, v_slice, v_call, v_blt, v_mth, evEs, evIt, asg, asgs, wipes, bindC, setAll, Res.bind_ok, Res.bind_exn, Res.then_ok, Res.then_exn, Res.calm_ok, RS.seq_nx, RS.seq_rt, RS.seq_ct, RS.seq_exn, List.getElem?_cons_zero, List.getElem?_cons_succ, List.set_cons_zero, List.set_cons_succ, if_true, if_false, eq_self, Bool.false_eq_true, decide_true, decide_false, Bool.not_true, Bool.not_false, Bool.and_true, Bool.true_and, Bool.and_false, Bool.false_and, Bool.or_true, Bool.true_or, Bool.or_false, Bool.false_or, b_add, b_sub, c_lt, c_le, c_gt, c_ge, c_eqi, c_nei, c_eqs, c_nes, c_eqis, c_neis, c_eqsi, c_nesi, l_int, l_abs, l_min, l_max, l_lenS, l_lenT, l_lenL, l_isi_int, l_isi_str, l_isi_tup, l_isi_lst, l_isi_bl, l_isi_non, i_scr, i_tup, i_lst, tyq, reduceCtorEq, f_t, f_f, Option.map_some, List.length_cons, List.length_nil]
    exact close_rt rfl
theorem need_net_gen (h0 : F 0 = some c_is_whole) (h6 : F 36 = some c_need_net) (d : D) (t : typD hs d = true) : callF F (k+2) 36 [d] hs = if wholeD d (-3000) 3000 then .ok .non hs else .exn 3 .non hs := by
  rw [callF_eq h6 rfl]
  show close true hs (evSs (callF F (k+1)) c_need_net.body [some d] hs) = _
  cases c : wholeD d (-3000) 3000 <;> simp only [c_need_net, ss_nil, ss_cons, s_set, s_expr, s_ret, s_ite, s_pass, s_cont, s_rais, v_var, v_cst, v_bin, v_neg, v_not, v_and, v_or, v_cmp, v_chain, v_isN, v_notN, v_ite, v_tup, v_lst, v_idx, v_slice, v_call, v_blt, v_mth, evEs, evIt, asg, asgs, wipes, bindC, setAll, Res.bind_ok, Res.bind_exn, Res.then_ok, Res.then_exn, Res.calm_ok, RS.seq_nx, RS.seq_rt, RS.seq_ct, RS.seq_exn, List.getElem?_cons_zero, List.getElem?_cons_succ, List.set_cons_zero, List.set_cons_succ, if_true, if_false, eq_self, Bool.false_eq_true, decide_true, decide_false, Bool.not_true, Bool.not_false, Bool.and_true, Bool.true_and, Bool.and_false, Bool.false_and, Bool.or_true, Bool.true_or, Bool.or_false, Bool.false_or, is_whole_gen h0 d _ _ t, c]
  · exact close_exn rfl
  · exact close_nx
def actB (d : D) : Bool := wholeD d (-300) 300 || wordD d ["tare"]
theorem is_act_gen (h0 : F 0 = some c_is_whole) (h1 : F 1 = some c_is_word) (h8 : F 37 = some c_is_act) (d : D) (t : typD hs d = true) : callF F (k+2) 37 [d] hs = .ok (.bl (actB d)) hs := by
  rw [callF_eq h8 rfl]
  show close true hs (evSs (callF F (k+1)) c_is_act.body [some d] hs) = _
  have e1 : callF F (k+1) 1 [d, .tup [.str "tare"]] hs = .ok (.bl (wordD d ["tare"])) hs := is_word_gen h1 d ["tare"] t
  unfold actB
  cases c : wholeD d (-300) 300 <;> simp only [c_is_act, ss_nil, ss_cons, s_set, s_expr, s_ret, s_ite, s_pass, s_cont, s_rais, v_var, v_cst, v_bin, v_neg, v_not, v_and, v_or, v_cmp, v_chain, v_isN, v_notN, v_ite, v_tup, v_lst, v_idx, v_slice, v_call, v_blt, v_mth, evEs, evIt, asg, asgs, wipes, bindC, setAll, Res.bind_ok, Res.bind_exn, Res.then_ok, Res.then_exn, Res.calm_ok, RS.seq_nx, RS.seq_rt, RS.seq_ct, RS.seq_exn, List.getElem?_cons_zero, List.getElem?_cons_succ, List.set_cons_zero, List.set_cons_succ, if_true, if_false, eq_self, Bool.false_eq_true, decide_true, decide_false, Bool.not_true, Bool.not_false, Bool.and_true, Bool.true_and, Bool.and_false, Bool.false_and, Bool.or_true, Bool.true_or, Bool.or_false, Bool.false_or, is_whole_gen h0 d _ _ t, c, e1] <;> exact close_rt rfl
theorem need_act_gen (h0 : F 0 = some c_is_whole) (h1 : F 1 = some c_is_word) (h8 : F 37 = some c_is_act) (h9 : F 38 = some c_need_act) (d : D) (t : typD hs d = true) : callF F (k+3) 38 [d] hs = if actB d then .ok .non hs else .exn 4 .non hs := by
  rw [callF_eq h9 rfl]
  show close true hs (evSs (callF F (k+2)) c_need_act.body [some d] hs) = _
  cases c : actB d <;> simp only [c_need_act, ss_nil, ss_cons, s_set, s_expr, s_ret, s_ite, s_pass, s_cont, s_rais, v_var, v_cst, v_bin, v_neg, v_not, v_and, v_or, v_cmp, v_chain, v_isN, v_notN, v_ite, v_tup, v_lst, v_idx, v_slice, v_call, v_blt, v_mth, evEs, evIt, asg, asgs, wipes, bindC, setAll, Res.bind_ok, Res.bind_exn, Res.then_ok, Res.then_exn, Res.calm_ok, RS.seq_nx, RS.seq_rt, RS.seq_ct, RS.seq_exn, List.getElem?_cons_zero, List.getElem?_cons_succ, List.set_cons_zero, List.set_cons_succ, if_true, if_false, eq_self, Bool.false_eq_true, decide_true, decide_false, Bool.not_true, Bool.not_false, Bool.and_true, Bool.true_and, Bool.and_false, Bool.false_and, Bool.or_true, Bool.true_or, Bool.or_false, Bool.false_or, is_act_gen h0 h1 h8 d t, c]
  · exact close_exn rfl
  · exact close_nx
/-- no scale: a list -/
theorem need_scale_lst (h2 : F 2 = some c_is_right_scale) (h6 : F 35 = some c_need_scale) (xs : List D) : callF F (k+2) 35 [.lst xs] hs = .exn 2 .non hs := by
  have e : callF F (k+1) 2 [.lst xs] hs = .ok (.bl false) hs := by
    rw [callF_eq h2 rfl]
    show close true hs (evSs (callF F k) c_is_right_scale.body [some (.lst xs)] hs) = _
    simp only [c_is_right_scale, ss_nil, ss_cons, s_set, s_expr, s_ret, s_ite, s_pass, s_cont, s_rais, v_var, v_cst, v_bin, v_neg, v_not, v_and, v_or, v_cmp, v_chain, v_isN, v_notN, v_ite, v_tup, v_lst, v_idx, v_slice, v_call, v_blt, v_mth, evEs, evIt, asg, asgs, wipes, bindC, setAll, Res.bind_ok, Res.bind_exn, Res.then_ok, Res.then_exn, Res.calm_ok, RS.seq_nx, RS.seq_rt, RS.seq_ct, RS.seq_exn, List.getElem?_cons_zero, List.getElem?_cons_succ, List.set_cons_zero, List.set_cons_succ, if_true, if_false, eq_self, Bool.false_eq_true, decide_true, decide_false, Bool.not_true, Bool.not_false, Bool.and_true, Bool.true_and, Bool.and_false, Bool.false_and, Bool.or_true, Bool.true_or, Bool.or_false, Bool.false_or, b_add, b_sub, c_lt, c_le, c_gt, c_ge, c_eqi, c_nei, c_eqs, c_nes, c_eqis, c_neis, c_eqsi, c_nesi, l_int, l_abs, l_min, l_max, l_lenS, l_lenT, l_lenL, l_isi_int, l_isi_str, l_isi_tup, l_isi_lst, l_isi_bl, l_isi_non, i_scr, i_tup, i_lst, tyq, reduceCtorEq, f_t, f_f, Option.map_some, List.length_cons, List.length_nil]
    exact close_rt rfl
  rw [callF_eq h6 rfl]
  show close true hs (evSs (callF F (k+1)) c_need_scale.body [some (.lst xs)] hs) = _
  simp only [c_need_scale, ss_nil, ss_cons, s_set, s_expr, s_ret, s_ite, s_pass, s_cont, s_rais, v_var, v_cst, v_bin, v_neg, v_not, v_and, v_or, v_cmp, v_chain, v_isN, v_notN, v_ite, v_tup, v_lst, v_idx, v_slice, v_call, v_blt, v_mth, evEs, evIt, asg, asgs, wipes, bindC, setAll, Res.bind_ok, Res.bind_exn, Res.then_ok, Res.then_exn, Res.calm_ok, RS.seq_nx, RS.seq_rt, RS.seq_ct, RS.seq_exn, List.getElem?_cons_zero, List.getElem?_cons_succ, List.set_cons_zero, List.set_cons_succ, if_true, if_false, eq_self, Bool.false_eq_true, decide_true, decide_false, Bool.not_true, Bool.not_false, Bool.and_true, Bool.true_and, Bool.and_false, Bool.false_and, Bool.or_true, Bool.true_or, Bool.or_false, Bool.false_or, e]
  exact close_exn rfl
theorem shown_bad (L : LibNet F) (s : Sc) (g : s.Good) (d : D) (t : typD hs d = true) (c : wholeD d (-3000) 3000 = false) : callF F (k+4) 39 [s.d, d] hs = .exn 3 .non hs := by
  rw [callF_eq L.h10 rfl]
  show close true hs (evSs (callF F (k+3)) c_shown.body [some s.d, some d] hs) = _
  have e := need_net_gen (k := k+1) (hs := hs) L.h0 L.h8 d t
  rw [c, if_neg Bool.false_ne_true] at e
  simp only [c_shown, ss_nil, ss_cons, s_set, s_expr, s_ret, s_ite, s_pass, s_cont, s_rais, v_var, v_cst, v_bin, v_neg, v_not, v_and, v_or, v_cmp, v_chain, v_isN, v_notN, v_ite, v_tup, v_lst, v_idx, v_slice, v_call, v_blt, v_mth, evEs, evIt, asg, asgs, wipes, bindC, setAll, Res.bind_ok, Res.bind_exn, Res.then_ok, Res.then_exn, Res.calm_ok, RS.seq_nx, RS.seq_rt, RS.seq_ct, RS.seq_exn, List.getElem?_cons_zero, List.getElem?_cons_succ, List.set_cons_zero, List.set_cons_succ, if_true, if_false, eq_self, Bool.false_eq_true, decide_true, decide_false, Bool.not_true, Bool.not_false, Bool.and_true, Bool.true_and, Bool.and_false, Bool.false_and, Bool.or_true, Bool.true_or, Bool.or_false, Bool.false_or, need_scale_ok L.h0 L.h1 L.h2 L.h4 s g, e]
  exact close_exn rfl
theorem shown_badS (L : LibNet F) (xs : List D) (d : D) : callF F (k+4) 39 [.lst xs, d] hs = .exn 2 .non hs := by
  rw [callF_eq L.h10 rfl]
  show close true hs (evSs (callF F (k+3)) c_shown.body [some (.lst xs), some d] hs) = _
  simp only [c_shown, ss_nil, ss_cons, s_set, s_expr, s_ret, s_ite, s_pass, s_cont, s_rais, v_var, v_cst, v_bin, v_neg, v_not, v_and, v_or, v_cmp, v_chain, v_isN, v_notN, v_ite, v_tup, v_lst, v_idx, v_slice, v_call, v_blt, v_mth, evEs, evIt, asg, asgs, wipes, bindC, setAll, Res.bind_ok, Res.bind_exn, Res.then_ok, Res.then_exn, Res.calm_ok, RS.seq_nx, RS.seq_rt, RS.seq_ct, RS.seq_exn, List.getElem?_cons_zero, List.getElem?_cons_succ, List.set_cons_zero, List.set_cons_succ, if_true, if_false, eq_self, Bool.false_eq_true, decide_true, decide_false, Bool.not_true, Bool.not_false, Bool.and_true, Bool.true_and, Bool.and_false, Bool.false_and, Bool.or_true, Bool.true_or, Bool.or_false, Bool.false_or, need_scale_lst L.h2 L.h4 xs]
  exact close_exn rfl
theorem net_behind_bad (L : LibNet F) (s : Sc) (g : s.Good) (d a : D) (t : typD hs d = true) (c : wholeD d (-3000) 3000 = false) : callF F (k+4) 40 [s.d, d, a] hs = .exn 3 .non hs := by
  rw [callF_eq L.h11 rfl]
  show close true hs (evSs (callF F (k+3)) c_net_behind.body [some s.d, some d, some a] hs) = _
  have e := need_net_gen (k := k+1) (hs := hs) L.h0 L.h8 d t
  rw [c, if_neg Bool.false_ne_true] at e
  simp only [c_net_behind, ss_nil, ss_cons, s_set, s_expr, s_ret, s_ite, s_pass, s_cont, s_rais, v_var, v_cst, v_bin, v_neg, v_not, v_and, v_or, v_cmp, v_chain, v_isN, v_notN, v_ite, v_tup, v_lst, v_idx, v_slice, v_call, v_blt, v_mth, evEs, evIt, asg, asgs, wipes, bindC, setAll, Res.bind_ok, Res.bind_exn, Res.then_ok, Res.then_exn, Res.calm_ok, RS.seq_nx, RS.seq_rt, RS.seq_ct, RS.seq_exn, List.getElem?_cons_zero, List.getElem?_cons_succ, List.set_cons_zero, List.set_cons_succ, if_true, if_false, eq_self, Bool.false_eq_true, decide_true, decide_false, Bool.not_true, Bool.not_false, Bool.and_true, Bool.true_and, Bool.and_false, Bool.false_and, Bool.or_true, Bool.true_or, Bool.or_false, Bool.false_or, need_scale_ok L.h0 L.h1 L.h2 L.h4 s g, e]
  exact close_exn rfl
theorem net_behind_badA (L : LibNet F) (s : Sc) (g : s.Good) (d a : D) (t : typD hs d = true) (c : wholeD d (-3000) 3000 = true) (t2 : typD hs a = true) (c2 : actB a = false) : callF F (k+4) 40 [s.d, d, a] hs = .exn 4 .non hs := by
  rw [callF_eq L.h11 rfl]
  show close true hs (evSs (callF F (k+3)) c_net_behind.body [some s.d, some d, some a] hs) = _
  have e := need_net_gen (k := k+1) (hs := hs) L.h0 L.h8 d t
  rw [c, if_pos rfl] at e
  have e2 := need_act_gen (k := k) (hs := hs) L.h0 L.h1 L.h7 L.h9 a t2
  rw [c2, if_neg Bool.false_ne_true] at e2
  simp only [c_net_behind, ss_nil, ss_cons, s_set, s_expr, s_ret, s_ite, s_pass, s_cont, s_rais, v_var, v_cst, v_bin, v_neg, v_not, v_and, v_or, v_cmp, v_chain, v_isN, v_notN, v_ite, v_tup, v_lst, v_idx, v_slice, v_call, v_blt, v_mth, evEs, evIt, asg, asgs, wipes, bindC, setAll, Res.bind_ok, Res.bind_exn, Res.then_ok, Res.then_exn, Res.calm_ok, RS.seq_nx, RS.seq_rt, RS.seq_ct, RS.seq_exn, List.getElem?_cons_zero, List.getElem?_cons_succ, List.set_cons_zero, List.set_cons_succ, if_true, if_false, eq_self, Bool.false_eq_true, decide_true, decide_false, Bool.not_true, Bool.not_false, Bool.and_true, Bool.true_and, Bool.and_false, Bool.false_and, Bool.or_true, Bool.true_or, Bool.or_false, Bool.false_or, need_scale_ok L.h0 L.h1 L.h2 L.h4 s g, e, e2]
  exact close_exn rfl
/-- rows that are none -/
theorem row_bad (L : LibAct F) (s : Sc) (g : s.Good) (ds : List D) (t : ∀ d ∈ ds, typD hs d = true) (c : (decide (ds.length ≤ 100) && ds.all actB) = false) : evSs (callF F (k+3)) c_row_shown.body [some s.d, some (.tup ds), none, none, none] hs = .exn 4 .non [some s.d, some (.tup ds), none, none, none] hs := by
  have sc := need_scale_ok (F := F) (k := k) (hs := hs) L.h0 L.h1 L.h2 L.h4 s g
  by_cases c1 : (100 : Int) < (ds.length : Int)
  · simp only [c_row_shown, ss_nil, ss_cons, s_set, s_expr, s_ret, s_ite, s_pass, s_cont, s_rais, v_var, v_cst, v_bin, v_neg, v_not, v_and, v_or, v_cmp, v_chain, v_isN, v_notN, v_ite, v_tup, v_lst, v_idx, v_slice, v_call, v_blt, v_mth, evEs, evIt, asg, asgs, wipes, bindC, setAll, Res.bind_ok, Res.bind_exn, Res.then_ok, Res.then_exn, Res.calm_ok, RS.seq_nx, RS.seq_rt, RS.seq_ct, RS.seq_exn, List.getElem?_cons_zero, List.getElem?_cons_succ, List.set_cons_zero, List.set_cons_succ, if_true, if_false, eq_self, Bool.false_eq_true, decide_true, decide_false, Bool.not_true, Bool.not_false, Bool.and_true, Bool.true_and, Bool.and_false, Bool.false_and, Bool.or_true, Bool.true_or, Bool.or_false, Bool.false_or, b_add, b_sub, c_lt, c_le, c_gt, c_ge, c_eqi, c_nei, c_eqs, c_nes, c_eqis, c_neis, c_eqsi, c_nesi, l_int, l_abs, l_min, l_max, l_lenS, l_lenT, l_lenL, l_isi_int, l_isi_str, l_isi_tup, l_isi_lst, l_isi_bl, l_isi_non, i_scr, i_tup, i_lst, tyq, reduceCtorEq, f_t, f_f, Option.map_some, List.length_cons, List.length_nil, sc, c1]
  · have cl : ds.length ≤ line := by have : line = 16777216 := rfl; omega
    have comp : evE (callF F (k+3)) (.comp false true [4] (.val (.var 1)) (.cst (.bl true)) (.call 37 (.cons (.var 4) .nil))) [some s.d, some (.tup ds), none, none, none] hs = fin false (ds.map fun d => .bl (actB d)) hs := by
      refine v_comp (ds := ds) (hs1 := hs) (by simp only [ss_nil, ss_cons, s_set, s_expr, s_ret, s_ite, s_pass, s_cont, s_rais, v_var, v_cst, v_bin, v_neg, v_not, v_and, v_or, v_cmp, v_chain, v_isN, v_notN, v_ite, v_tup, v_lst, v_idx, v_slice, v_call, v_blt, v_mth, evEs, evIt, asg, asgs, wipes, bindC, setAll, Res.bind_ok, Res.bind_exn, Res.then_ok, Res.then_exn, Res.calm_ok, RS.seq_nx, RS.seq_rt, RS.seq_ct, RS.seq_exn, List.getElem?_cons_zero, List.getElem?_cons_succ, List.set_cons_zero, List.set_cons_succ, if_true, if_false, eq_self, Bool.false_eq_true, decide_true, decide_false, Bool.not_true, Bool.not_false, Bool.and_true, Bool.true_and, Bool.and_false, Bool.false_and, Bool.or_true, Bool.true_or, Bool.or_false, Bool.false_or, walkOf]) cl fun d hd => ⟨_, rfl, ?_⟩
      simp only [ss_nil, ss_cons, s_set, s_expr, s_ret, s_ite, s_pass, s_cont, s_rais, v_var, v_cst, v_bin, v_neg, v_not, v_and, v_or, v_cmp, v_chain, v_isN, v_notN, v_ite, v_tup, v_lst, v_idx, v_slice, v_call, v_blt, v_mth, evEs, evIt, asg, asgs, wipes, bindC, setAll, Res.bind_ok, Res.bind_exn, Res.then_ok, Res.then_exn, Res.calm_ok, RS.seq_nx, RS.seq_rt, RS.seq_ct, RS.seq_exn, List.getElem?_cons_zero, List.getElem?_cons_succ, List.set_cons_zero, List.set_cons_succ, if_true, if_false, eq_self, Bool.false_eq_true, decide_true, decide_false, Bool.not_true, Bool.not_false, Bool.and_true, Bool.true_and, Bool.and_false, Bool.false_and, Bool.or_true, Bool.true_or, Bool.or_false, Bool.false_or, is_act_gen L.h0 L.h1 L.h7 d (t d hd)]
    have c2 : ds.all actB = false := by
      have : decide (ds.length ≤ 100) = true := decide_eq_true (by omega)
      rw [this, Bool.true_and] at c; exact c
    simp only [c_row_shown, ss_nil, ss_cons, s_set, s_expr, s_ret, s_ite, s_pass, s_cont, s_rais, v_var, v_cst, v_bin, v_neg, v_not, v_and, v_or, v_cmp, v_chain, v_isN, v_notN, v_ite, v_tup, v_lst, v_idx, v_slice, v_call, v_blt, v_mth, evEs, evIt, asg, asgs, wipes, bindC, setAll, Res.bind_ok, Res.bind_exn, Res.then_ok, Res.then_exn, Res.calm_ok, RS.seq_nx, RS.seq_rt, RS.seq_ct, RS.seq_exn, List.getElem?_cons_zero, List.getElem?_cons_succ, List.set_cons_zero, List.set_cons_succ, if_true, if_false, eq_self, Bool.false_eq_true, decide_true, decide_false, Bool.not_true, Bool.not_false, Bool.and_true, Bool.true_and, Bool.and_false, Bool.false_and, Bool.or_true, Bool.true_or, Bool.or_false, Bool.false_or, b_add, b_sub, c_lt, c_le, c_gt, c_ge, c_eqi, c_nei, c_eqs, c_nes, c_eqis, c_neis, c_eqsi, c_nesi, l_int, l_abs, l_min, l_max, l_lenS, l_lenT, l_lenL, l_isi_int, l_isi_str, l_isi_tup, l_isi_lst, l_isi_bl, l_isi_non, i_scr, i_tup, i_lst, tyq, reduceCtorEq, f_t, f_f, Option.map_some, List.length_cons, List.length_nil, sc, c1, comp, all_bools actB, c2]
theorem row_badL (L : LibAct F) (s : Sc) (g : s.Good) (ds : List D) : evSs (callF F (k+3)) c_row_shown.body [some s.d, some (.lst ds), none, none, none] hs = .exn 4 .non [some s.d, some (.lst ds), none, none, none] hs := by
  have sc := need_scale_ok (F := F) (k := k) (hs := hs) L.h0 L.h1 L.h2 L.h4 s g
  simp only [c_row_shown, ss_nil, ss_cons, s_set, s_expr, s_ret, s_ite, s_pass, s_cont, s_rais, v_var, v_cst, v_bin, v_neg, v_not, v_and, v_or, v_cmp, v_chain, v_isN, v_notN, v_ite, v_tup, v_lst, v_idx, v_slice, v_call, v_blt, v_mth, evEs, evIt, asg, asgs, wipes, bindC, setAll, Res.bind_ok, Res.bind_exn, Res.then_ok, Res.then_exn, Res.calm_ok, RS.seq_nx, RS.seq_rt, RS.seq_ct, RS.seq_exn, List.getElem?_cons_zero, List.getElem?_cons_succ, List.set_cons_zero, List.set_cons_succ, if_true, if_false, eq_self, Bool.false_eq_true, decide_true, decide_false, Bool.not_true, Bool.not_false, Bool.and_true, Bool.true_and, Bool.and_false, Bool.false_and, Bool.or_true, Bool.true_or, Bool.or_false, Bool.false_or, b_add, b_sub, c_lt, c_le, c_gt, c_ge, c_eqi, c_nei, c_eqs, c_nes, c_eqis, c_neis, c_eqsi, c_nesi, l_int, l_abs, l_min, l_max, l_lenS, l_lenT, l_lenL, l_isi_int, l_isi_str, l_isi_tup, l_isi_lst, l_isi_bl, l_isi_non, i_scr, i_tup, i_lst, tyq, reduceCtorEq, f_t, f_f, Option.map_some, List.length_cons, List.length_nil, sc]
end
end WG

set_option Elab.async false
set_option linter.all false
set_option maxRecDepth 100000
set_option maxHeartbeats 4000000
set_option autoImplicit false
/-! K11p: the law k11 over the core. -/
namespace WG
open PySem
def Sc.lawShows (s : Sc) (n : Int) : Int := if s.near = true ∧ s.step ≤ 2 * (n - (n - n % s.step)) then n - n % s.step + s.step else n - n % s.step
theorem Sc.lawShows_eq {s : Sc} (g : s.Good) (n : Int) : s.lawShows n = s.shows n := by
  have a1 := g.s1
  have a2 := g.s2
  obtain ⟨st, nr, hd, sw⟩ := s
  dsimp only at a1 a2
  have : st = 1 ∨ st = 2 ∨ st = 3 ∨ st = 4 ∨ st = 5 ∨ st = 6 ∨ st = 7 ∨ st = 8 ∨ st = 9 ∨ st = 10 := by omega
  cases nr <;> simp only [Sc.lawShows, Sc.shows, Bool.false_eq_true, false_and, if_false, true_and, if_true] <;> rcases this with rfl | rfl | rfl | rfl | rfl | rfl | rfl | rfl | rfl | rfl <;> (try split) <;> omega
def Sc.lawNet (s : Sc) (n : Int) (a : Option Int) : Int :=
  let m := match a with | some i => n + i | none => if s.shw then n - s.lawShows n else 0
  if s.hold < m ∨ m < -s.hold then m else 0
theorem Sc.lawNet_eq {s : Sc} (g : s.Good) (n : Int) (a : Option Int) : s.lawNet n a = s.after n a := by
  have h1 := g.h1
  have aux : ∀ m : Int, (if s.hold < m ∨ m < -s.hold then m else 0) = s.held m := fun m => by
    unfold Sc.held
    by_cases c : (if m < 0 then -m else m) ≤ s.hold
    · rw [if_pos c, if_neg]
      split at c <;> omega
    · rw [if_neg c, if_pos]
      split at c <;> omega
  cases a with
  | some i => exact aux _
  | none =>
    show (if s.hold < (if s.shw then n - s.lawShows n else 0) ∨ (if s.shw then n - s.lawShows n else 0) < -s.hold then (if s.shw then n - s.lawShows n else 0) else 0) = _
    rw [aux, Sc.lawShows_eq g]; rfl
structure LibLawNet (F : Nat → Option Fn) : Prop where
  n1 : F 42 = some c_law_shows_k11 := by rfl
  n2 : F 43 = some c_law_net := by rfl
structure LibK11 (F : Nat → Option Fn) : Prop extends LibNet F, LibSrc F, LibLawNet F where
  l1 : F 41 = some c_row_shown_h := by rfl
  l2 : F 44 = some c_law_outcome_k11 := by rfl
  l3 : F 45 = some c_law_refuses_k11 := by rfl
  l4 : F 46 = some c_law_k11 := by rfl
section
variable {F : Nat → Option Fn} {k : Nat} {hs : Hs}
theorem Sc.idx0 (s : Sc) : idxD s.d (.int 0) hs = some (.int s.step) := by unfold Sc.d; rw [i_tup]; exact at4_0 ..
theorem Sc.idx1 (s : Sc) : idxD s.d (.int 1) hs = some (.str (if s.near then "near" else "down")) := by unfold Sc.d; rw [i_tup]; exact at4_1 ..
theorem Sc.idx2 (s : Sc) : idxD s.d (.int 2) hs = some (.int s.hold) := by unfold Sc.d; rw [i_tup]; exact at4_2 ..
theorem law_shows_ok (L : LibLawNet F) (s : Sc) (g : s.Good) (n : Int) : callF F (k+1) 42 [s.d, .int n] hs = .ok (.int (s.shows n)) hs := by
  rw [← Sc.lawShows_eq g]
  rw [callF_eq L.n1 rfl]
  show close true hs (evSs (callF F k) c_law_shows_k11.body [some s.d, some (.int n), none, none] hs) = _
  have b1 : 0 < s.step := by have := g.s1; omega
  have s2 : small 2 = true := by decide
  cases hn : s.near with
  | true =>
    by_cases c : s.step ≤ 2 * (n - (n - n % s.step)) <;> simp only [c_law_shows_k11, ss_nil, ss_cons, s_set, s_expr, s_ret, s_ite, s_pass, s_cont, s_rais, v_var, v_cst, v_bin, v_neg, v_not, v_and, v_or, v_cmp, v_chain, v_isN, v_notN, v_ite, v_tup, v_lst, v_idx, v_slice, v_call, v_blt, v_mth, evEs, evIt, asg, asgs, wipes, bindC, setAll, Res.bind_ok, Res.bind_exn, Res.then_ok, Res.then_exn, Res.calm_ok, RS.seq_nx, RS.seq_rt, RS.seq_ct, RS.seq_exn, List.getElem?_cons_zero, List.getElem?_cons_succ, List.set_cons_zero, List.set_cons_succ, if_true, if_false, eq_self, Bool.false_eq_true, decide_true, decide_false, Bool.not_true, Bool.not_false, Bool.and_true, Bool.true_and, Bool.and_false, Bool.false_and, Bool.or_true, Bool.true_or, Bool.or_false, Bool.false_or, b_add, b_sub, c_lt, c_le, c_gt, c_ge, c_eqi, c_nei, c_eqs, c_nes, c_eqis, c_neis, c_eqsi, c_nesi, l_int, l_abs, l_min, l_max, l_lenS, l_lenT, l_lenL, l_isi_int, l_isi_str, l_isi_tup, l_isi_lst, l_isi_bl, l_isi_non, i_scr, i_tup, i_lst, tyq, reduceCtorEq, f_t, f_f, Option.map_some, List.length_cons, List.length_nil, Sc.idx0, Sc.idx1, b_mod b1, b_mulL s2, hn, c, Sc.lawShows, and_true, and_false] <;> exact close_rt rfl
  | false =>
    simp only [c_law_shows_k11, ss_nil, ss_cons, s_set, s_expr, s_ret, s_ite, s_pass, s_cont, s_rais, v_var, v_cst, v_bin, v_neg, v_not, v_and, v_or, v_cmp, v_chain, v_isN, v_notN, v_ite, v_tup, v_lst, v_idx, v_slice, v_call, v_blt, v_mth, evEs, evIt, asg, asgs, wipes, bindC, setAll, Res.bind_ok, Res.bind_exn, Res.then_ok, Res.then_exn, Res.calm_ok, RS.seq_nx, RS.seq_rt, RS.seq_ct, RS.seq_exn, List.getElem?_cons_zero, List.getElem?_cons_succ, List.set_cons_zero, List.set_cons_succ, if_true, if_false, eq_self, Bool.false_eq_true, decide_true, decide_false, Bool.not_true, Bool.not_false, Bool.and_true, Bool.true_and, Bool.and_false, Bool.false_and, Bool.or_true, Bool.true_or, Bool.or_false, Bool.false_or, b_add, b_sub, c_lt, c_le, c_gt, c_ge, c_eqi, c_nei, c_eqs, c_nes, c_eqis, c_neis, c_eqsi, c_nesi, l_int, l_abs, l_min, l_max, l_lenS, l_lenT, l_lenL, l_isi_int, l_isi_str, l_isi_tup, l_isi_lst, l_isi_bl, l_isi_non, i_scr, i_tup, i_lst, tyq, reduceCtorEq, f_t, f_f, Option.map_some, List.length_cons, List.length_nil, Sc.idx0, Sc.idx1, b_mod b1, hn, s_down_near, Sc.lawShows, false_and]
    exact close_rt rfl
theorem law_net_ok (L : LibLawNet F) (s : Sc) (g : s.Good) (n : Int) (a : Option Int) : callF F (k+2) 43 [s.d, .int n, actD a] hs = .ok (.int (s.after n a)) hs := by
  rw [callF_eq L.n2 rfl]
  show close true hs (evSs (callF F (k+1)) c_law_net.body [some s.d, some (.int n), some (actD a)] hs) = _
  rw [← Sc.lawNet_eq g]
  have e : ∀ m : Int, ∀ fr : Fr, fr = [some s.d, some (.int m), some (actD a)] → evSs (callF F (k+1)) (.cons (.ret (.ite (.or (.cmp .gt (.var 1) (.idx (.var 0) (.cst (.int 2)))) (.cmp .lt (.var 1) (.neg (.idx (.var 0) (.cst (.int 2)))))) (.var 1) (.cst (.int 0)))) .nil) fr hs = .rt (.int (if s.hold < m ∨ m < -s.hold then m else 0)) hs := fun m fr hf => by
    subst hf
    by_cases c1 : s.hold < m
    · simp only [ss_nil, ss_cons, s_set, s_expr, s_ret, s_ite, s_pass, s_cont, s_rais, v_var, v_cst, v_bin, v_neg, v_not, v_and, v_or, v_cmp, v_chain, v_isN, v_notN, v_ite, v_tup, v_lst, v_idx, v_slice, v_call, v_blt, v_mth, evEs, evIt, asg, asgs, wipes, bindC, setAll, Res.bind_ok, Res.bind_exn, Res.then_ok, Res.then_exn, Res.calm_ok, RS.seq_nx, RS.seq_rt, RS.seq_ct, RS.seq_exn, List.getElem?_cons_zero, List.getElem?_cons_succ, List.set_cons_zero, List.set_cons_succ, if_true, if_false, eq_self, Bool.false_eq_true, decide_true, decide_false, Bool.not_true, Bool.not_false, Bool.and_true, Bool.true_and, Bool.and_false, Bool.false_and, Bool.or_true, Bool.true_or, Bool.or_false, Bool.false_or, b_add, b_sub, c_lt, c_le, c_gt, c_ge, c_eqi, c_nei, c_eqs, c_nes, c_eqis, c_neis, c_eqsi, c_nesi, l_int, l_abs, l_min, l_max, l_lenS, l_lenT, l_lenL, l_isi_int, l_isi_str, l_isi_tup, l_isi_lst, l_isi_bl, l_isi_non, i_scr, i_tup, i_lst, tyq, reduceCtorEq, f_t, f_f, Option.map_some, List.length_cons, List.length_nil, Sc.idx2, c1, true_or]
    · by_cases c2 : m < -s.hold <;> simp only [ss_nil, ss_cons, s_set, s_expr, s_ret, s_ite, s_pass, s_cont, s_rais, v_var, v_cst, v_bin, v_neg, v_not, v_and, v_or, v_cmp, v_chain, v_isN, v_notN, v_ite, v_tup, v_lst, v_idx, v_slice, v_call, v_blt, v_mth, evEs, evIt, asg, asgs, wipes, bindC, setAll, Res.bind_ok, Res.bind_exn, Res.then_ok, Res.then_exn, Res.calm_ok, RS.seq_nx, RS.seq_rt, RS.seq_ct, RS.seq_exn, List.getElem?_cons_zero, List.getElem?_cons_succ, List.set_cons_zero, List.set_cons_succ, if_true, if_false, eq_self, Bool.false_eq_true, decide_true, decide_false, Bool.not_true, Bool.not_false, Bool.and_true, Bool.true_and, Bool.and_false, Bool.false_and, Bool.or_true, Bool.true_or, Bool.or_false, Bool.false_or, b_add, b_sub, c_lt, c_le, c_gt, c_ge, c_eqi, c_nei, c_eqs, c_nes, c_eqis, c_neis, c_eqsi, c_nesi, l_int, l_abs, l_min, l_max, l_lenS, l_lenT, l_lenL, l_isi_int, l_isi_str, l_isi_tup, l_isi_lst, l_isi_bl, l_isi_non, i_scr, i_tup, i_lst, tyq, reduceCtorEq, f_t, f_f, Option.map_some, List.length_cons, List.length_nil, Sc.idx2, c1, c2, or_true, or_self]
  cases a with
  | some i =>
    refine (cseq (fr' := [some s.d, some (.int (n + i)), some (actD (some i))]) (hs' := hs) ?_).trans ?_
    · simp only [actD, ss_nil, ss_cons, s_set, s_expr, s_ret, s_ite, s_pass, s_cont, s_rais, v_var, v_cst, v_bin, v_neg, v_not, v_and, v_or, v_cmp, v_chain, v_isN, v_notN, v_ite, v_tup, v_lst, v_idx, v_slice, v_call, v_blt, v_mth, evEs, evIt, asg, asgs, wipes, bindC, setAll, Res.bind_ok, Res.bind_exn, Res.then_ok, Res.then_exn, Res.calm_ok, RS.seq_nx, RS.seq_rt, RS.seq_ct, RS.seq_exn, List.getElem?_cons_zero, List.getElem?_cons_succ, List.set_cons_zero, List.set_cons_succ, if_true, if_false, eq_self, Bool.false_eq_true, decide_true, decide_false, Bool.not_true, Bool.not_false, Bool.and_true, Bool.true_and, Bool.and_false, Bool.false_and, Bool.or_true, Bool.true_or, Bool.or_false, Bool.false_or, b_add, b_sub, c_lt, c_le, c_gt, c_ge, c_eqi, c_nei, c_eqs, c_nes, c_eqis, c_neis, c_eqsi, c_nesi, l_int, l_abs, l_min, l_max, l_lenS, l_lenT, l_lenL, l_isi_int, l_isi_str, l_isi_tup, l_isi_lst, l_isi_bl, l_isi_non, i_scr, i_tup, i_lst, tyq, reduceCtorEq, f_t, f_f, Option.map_some, List.length_cons, List.length_nil]
    · rw [e _ _ rfl]; exact close_rt rfl
  | none =>
    cases hw : s.shw with
    | true =>
      refine (cseq (fr' := [some s.d, some (.int (n - s.lawShows n)), some (actD none)]) (hs' := hs) ?_).trans ?_
      · simp only [actD, ss_nil, ss_cons, s_set, s_expr, s_ret, s_ite, s_pass, s_cont, s_rais, v_var, v_cst, v_bin, v_neg, v_not, v_and, v_or, v_cmp, v_chain, v_isN, v_notN, v_ite, v_tup, v_lst, v_idx, v_slice, v_call, v_blt, v_mth, evEs, evIt, asg, asgs, wipes, bindC, setAll, Res.bind_ok, Res.bind_exn, Res.then_ok, Res.then_exn, Res.calm_ok, RS.seq_nx, RS.seq_rt, RS.seq_ct, RS.seq_exn, List.getElem?_cons_zero, List.getElem?_cons_succ, List.set_cons_zero, List.set_cons_succ, if_true, if_false, eq_self, Bool.false_eq_true, decide_true, decide_false, Bool.not_true, Bool.not_false, Bool.and_true, Bool.true_and, Bool.and_false, Bool.false_and, Bool.or_true, Bool.true_or, Bool.or_false, Bool.false_or, b_add, b_sub, c_lt, c_le, c_gt, c_ge, c_eqi, c_nei, c_eqs, c_nes, c_eqis, c_neis, c_eqsi, c_nesi, l_int, l_abs, l_min, l_max, l_lenS, l_lenT, l_lenL, l_isi_int, l_isi_str, l_isi_tup, l_isi_lst, l_isi_bl, l_isi_non, i_scr, i_tup, i_lst, tyq, reduceCtorEq, f_t, f_f, Option.map_some, List.length_cons, List.length_nil, Sc.idx3, hw, s_shown_exact, law_shows_ok L s g, Sc.lawShows_eq g]
      · rw [e _ _ rfl]
        simp only [Sc.lawNet, hw, if_true]; exact close_rt rfl
    | false =>
      refine (cseq (fr' := [some s.d, some (.int 0), some (actD none)]) (hs' := hs) ?_).trans ?_
      · simp only [actD, ss_nil, ss_cons, s_set, s_expr, s_ret, s_ite, s_pass, s_cont, s_rais, v_var, v_cst, v_bin, v_neg, v_not, v_and, v_or, v_cmp, v_chain, v_isN, v_notN, v_ite, v_tup, v_lst, v_idx, v_slice, v_call, v_blt, v_mth, evEs, evIt, asg, asgs, wipes, bindC, setAll, Res.bind_ok, Res.bind_exn, Res.then_ok, Res.then_exn, Res.calm_ok, RS.seq_nx, RS.seq_rt, RS.seq_ct, RS.seq_exn, List.getElem?_cons_zero, List.getElem?_cons_succ, List.set_cons_zero, List.set_cons_succ, if_true, if_false, eq_self, Bool.false_eq_true, decide_true, decide_false, Bool.not_true, Bool.not_false, Bool.and_true, Bool.true_and, Bool.and_false, Bool.false_and, Bool.or_true, Bool.true_or, Bool.or_false, Bool.false_or, b_add, b_sub, c_lt, c_le, c_gt, c_ge, c_eqi, c_nei, c_eqs, c_nes, c_eqis, c_neis, c_eqsi, c_nesi, l_int, l_abs, l_min, l_max, l_lenS, l_lenT, l_lenL, l_isi_int, l_isi_str, l_isi_tup, l_isi_lst, l_isi_bl, l_isi_non, i_scr, i_tup, i_lst, tyq, reduceCtorEq, f_t, f_f, Option.map_some, List.length_cons, List.length_nil, Sc.idx3, hw]
      · rw [e _ _ rfl]
        simp only [Sc.lawNet, hw, Bool.false_eq_true, if_false]; exact close_rt rfl
/-- what the rows' def gives, open -/
theorem row_h (L : LibK11 F) (s : Sc) (g : s.Good) (as : List (Option Int)) (ga : ∀ a ∈ as, actG a) (hl : as.length ≤ 100) : callF F (k+4) 41 [s.d, .tup (as.map actD)] hs = .ok (.ref hs.length) (hs ++ [.lst ((s.rows 0 as).map .int)]) := by
  rw [callF_eq L.l1 rfl]
  show close false hs (evSs (callF F (k+3)) c_row_shown.body [some s.d, some (.tup (as.map actD)), none, none, none] hs) = _
  rw [row_body L.toLibAct s g as ga hl]
  exact close_f
theorem row_h_bad (L : LibK11 F) (s : Sc) (g : s.Good) (ds : List D) (t : ∀ d ∈ ds, typD hs d = true) (c : (decide (ds.length ≤ 100) && ds.all actB) = false) : callF F (k+4) 41 [s.d, .tup ds] hs = .exn 4 .non hs := by
  rw [callF_eq L.l1 rfl]
  show close false hs (evSs (callF F (k+3)) c_row_shown.body [some s.d, some (.tup ds), none, none, none] hs) = _
  rw [row_bad L.toLibAct s g ds t c]
  rfl
theorem row_h_badL (L : LibK11 F) (s : Sc) (g : s.Good) (ds : List D) : callF F (k+4) 41 [s.d, .lst ds] hs = .exn 4 .non hs := by
  rw [callF_eq L.l1 rfl]
  show close false hs (evSs (callF F (k+3)) c_row_shown.body [some s.d, some (.lst ds), none, none, none] hs) = _
  rw [row_badL L.toLibAct s g ds]
  rfl
/-! outcomes -/
theorem out_eq (L : LibK11 F) (a b c d : D) : callF F (k+5) 44 [a, b, c, d] hs = close false hs (evSs (callF F (k+4)) c_law_outcome_k11.body [some a, some b, some c, some d] hs) := callF_eq L.l2 rfl
theorem find2 : ([(2, Su.ret (.str "scale!")), (3, Su.ret (.str "net!")), (4, Su.ret (.str "act!"))].find? fun x => catches 2 x.1) = some (2, .ret (.str "scale!")) := rfl
theorem find3 : ([(2, Su.ret (.str "scale!")), (3, Su.ret (.str "net!")), (4, Su.ret (.str "act!"))].find? fun x => catches 3 x.1) = some (3, .ret (.str "net!")) := rfl
theorem find4 : ([(2, Su.ret (.str "scale!")), (3, Su.ret (.str "net!")), (4, Su.ret (.str "act!"))].find? fun x => catches 4 x.1) = some (4, .ret (.str "act!")) := rfl
theorem out0 (L : LibK11 F) (s : Sc) (g : s.Good) (n : Int) (n1 : -3000 ≤ n) (n2 : n ≤ 3000) (x : D) : callF F (k+5) 44 [.int 0, s.d, .int n, x] hs = .ok (.int (s.shows n)) hs := by
  rw [out_eq L]
  refine (cseqR (s_try_rt ?_)).trans close_f
  simp only [ss_nil, ss_cons, s_set, s_expr, s_ret, s_ite, s_pass, s_cont, s_rais, v_var, v_cst, v_bin, v_neg, v_not, v_and, v_or, v_cmp, v_chain, v_isN, v_notN, v_ite, v_tup, v_lst, v_idx, v_slice, v_call, v_blt, v_mth, evEs, evIt, asg, asgs, wipes, bindC, setAll, Res.bind_ok, Res.bind_exn, Res.then_ok, Res.then_exn, Res.calm_ok, RS.seq_nx, RS.seq_rt, RS.seq_ct, RS.seq_exn, List.getElem?_cons_zero, List.getElem?_cons_succ, List.set_cons_zero, List.set_cons_succ, if_true, if_false, eq_self, Bool.false_eq_true, decide_true, decide_false, Bool.not_true, Bool.not_false, Bool.and_true, Bool.true_and, Bool.and_false, Bool.false_and, Bool.or_true, Bool.true_or, Bool.or_false, Bool.false_or, b_add, b_sub, c_lt, c_le, c_gt, c_ge, c_eqi, c_nei, c_eqs, c_nes, c_eqis, c_neis, c_eqsi, c_nesi, l_int, l_abs, l_min, l_max, l_lenS, l_lenT, l_lenL, l_isi_int, l_isi_str, l_isi_tup, l_isi_lst, l_isi_bl, l_isi_non, i_scr, i_tup, i_lst, tyq, reduceCtorEq, f_t, f_f, Option.map_some, List.length_cons, List.length_nil, shown_ok L.toLibNet s g n n1 n2]
theorem out0b (L : LibK11 F) (s : Sc) (g : s.Good) (d x : D) (t : typD hs d = true) (c : wholeD d (-3000) 3000 = false) : callF F (k+5) 44 [.int 0, s.d, d, x] hs = .ok (.str "net!") hs := by
  rw [out_eq L]
  refine (cseqR (s_try_ret (c := 3) (n := 3) (p := .non) (fr' := [some (.int 0), some s.d, some d, some x]) (hs' := hs) ?_ find3)).trans close_f
  simp only [ss_nil, ss_cons, s_set, s_expr, s_ret, s_ite, s_pass, s_cont, s_rais, v_var, v_cst, v_bin, v_neg, v_not, v_and, v_or, v_cmp, v_chain, v_isN, v_notN, v_ite, v_tup, v_lst, v_idx, v_slice, v_call, v_blt, v_mth, evEs, evIt, asg, asgs, wipes, bindC, setAll, Res.bind_ok, Res.bind_exn, Res.then_ok, Res.then_exn, Res.calm_ok, RS.seq_nx, RS.seq_rt, RS.seq_ct, RS.seq_exn, List.getElem?_cons_zero, List.getElem?_cons_succ, List.set_cons_zero, List.set_cons_succ, if_true, if_false, eq_self, Bool.false_eq_true, decide_true, decide_false, Bool.not_true, Bool.not_false, Bool.and_true, Bool.true_and, Bool.and_false, Bool.false_and, Bool.or_true, Bool.true_or, Bool.or_false, Bool.false_or, b_add, b_sub, c_lt, c_le, c_gt, c_ge, c_eqi, c_nei, c_eqs, c_nes, c_eqis, c_neis, c_eqsi, c_nesi, l_int, l_abs, l_min, l_max, l_lenS, l_lenT, l_lenL, l_isi_int, l_isi_str, l_isi_tup, l_isi_lst, l_isi_bl, l_isi_non, i_scr, i_tup, i_lst, tyq, reduceCtorEq, f_t, f_f, Option.map_some, List.length_cons, List.length_nil, shown_bad L.toLibNet s g d t c]
theorem out0s (L : LibK11 F) (xs : List D) (d x : D) : callF F (k+5) 44 [.int 0, .lst xs, d, x] hs = .ok (.str "scale!") hs := by
  rw [out_eq L]
  refine (cseqR (s_try_ret (c := 2) (n := 2) (p := .non) (fr' := [some (.int 0), some (.lst xs), some d, some x]) (hs' := hs) ?_ find2)).trans close_f
  simp only [ss_nil, ss_cons, s_set, s_expr, s_ret, s_ite, s_pass, s_cont, s_rais, v_var, v_cst, v_bin, v_neg, v_not, v_and, v_or, v_cmp, v_chain, v_isN, v_notN, v_ite, v_tup, v_lst, v_idx, v_slice, v_call, v_blt, v_mth, evEs, evIt, asg, asgs, wipes, bindC, setAll, Res.bind_ok, Res.bind_exn, Res.then_ok, Res.then_exn, Res.calm_ok, RS.seq_nx, RS.seq_rt, RS.seq_ct, RS.seq_exn, List.getElem?_cons_zero, List.getElem?_cons_succ, List.set_cons_zero, List.set_cons_succ, if_true, if_false, eq_self, Bool.false_eq_true, decide_true, decide_false, Bool.not_true, Bool.not_false, Bool.and_true, Bool.true_and, Bool.and_false, Bool.false_and, Bool.or_true, Bool.true_or, Bool.or_false, Bool.false_or, b_add, b_sub, c_lt, c_le, c_gt, c_ge, c_eqi, c_nei, c_eqs, c_nes, c_eqis, c_neis, c_eqsi, c_nesi, l_int, l_abs, l_min, l_max, l_lenS, l_lenT, l_lenL, l_isi_int, l_isi_str, l_isi_tup, l_isi_lst, l_isi_bl, l_isi_non, i_scr, i_tup, i_lst, tyq, reduceCtorEq, f_t, f_f, Option.map_some, List.length_cons, List.length_nil, shown_badS L.toLibNet xs d]
theorem out1 (L : LibK11 F) (s : Sc) (g : s.Good) (n : Int) (n1 : -3000 ≤ n) (n2 : n ≤ 3000) (a : Option Int) (ga : actG a) : callF F (k+5) 44 [.int 1, s.d, .int n, actD a] hs = .ok (.int (s.after n a)) hs := by
  rw [out_eq L]
  have i : ((1 : Int) = 0) = False := by simp
  refine (cseqR (s_try_rt ?_)).trans close_f
  simp only [ss_nil, ss_cons, s_set, s_expr, s_ret, s_ite, s_pass, s_cont, s_rais, v_var, v_cst, v_bin, v_neg, v_not, v_and, v_or, v_cmp, v_chain, v_isN, v_notN, v_ite, v_tup, v_lst, v_idx, v_slice, v_call, v_blt, v_mth, evEs, evIt, asg, asgs, wipes, bindC, setAll, Res.bind_ok, Res.bind_exn, Res.then_ok, Res.then_exn, Res.calm_ok, RS.seq_nx, RS.seq_rt, RS.seq_ct, RS.seq_exn, List.getElem?_cons_zero, List.getElem?_cons_succ, List.set_cons_zero, List.set_cons_succ, if_true, if_false, eq_self, Bool.false_eq_true, decide_true, decide_false, Bool.not_true, Bool.not_false, Bool.and_true, Bool.true_and, Bool.and_false, Bool.false_and, Bool.or_true, Bool.true_or, Bool.or_false, Bool.false_or, b_add, b_sub, c_lt, c_le, c_gt, c_ge, c_eqi, c_nei, c_eqs, c_nes, c_eqis, c_neis, c_eqsi, c_nesi, l_int, l_abs, l_min, l_max, l_lenS, l_lenT, l_lenL, l_isi_int, l_isi_str, l_isi_tup, l_isi_lst, l_isi_bl, l_isi_non, i_scr, i_tup, i_lst, tyq, reduceCtorEq, f_t, f_f, Option.map_some, List.length_cons, List.length_nil, i, net_behind_ok L.toLibNet s g n n1 n2 a ga]
theorem out1b (L : LibK11 F) (s : Sc) (g : s.Good) (d a : D) (t : typD hs d = true) (c : wholeD d (-3000) 3000 = false) : callF F (k+5) 44 [.int 1, s.d, d, a] hs = .ok (.str "net!") hs := by
  rw [out_eq L]
  have i : ((1 : Int) = 0) = False := by simp
  refine (cseqR (s_try_ret (c := 3) (n := 3) (p := .non) (fr' := [some (.int 1), some s.d, some d, some a]) (hs' := hs) ?_ find3)).trans close_f
  simp only [ss_nil, ss_cons, s_set, s_expr, s_ret, s_ite, s_pass, s_cont, s_rais, v_var, v_cst, v_bin, v_neg, v_not, v_and, v_or, v_cmp, v_chain, v_isN, v_notN, v_ite, v_tup, v_lst, v_idx, v_slice, v_call, v_blt, v_mth, evEs, evIt, asg, asgs, wipes, bindC, setAll, Res.bind_ok, Res.bind_exn, Res.then_ok, Res.then_exn, Res.calm_ok, RS.seq_nx, RS.seq_rt, RS.seq_ct, RS.seq_exn, List.getElem?_cons_zero, List.getElem?_cons_succ, List.set_cons_zero, List.set_cons_succ, if_true, if_false, eq_self, Bool.false_eq_true, decide_true, decide_false, Bool.not_true, Bool.not_false, Bool.and_true, Bool.true_and, Bool.and_false, Bool.false_and, Bool.or_true, Bool.true_or, Bool.or_false, Bool.false_or, b_add, b_sub, c_lt, c_le, c_gt, c_ge, c_eqi, c_nei, c_eqs, c_nes, c_eqis, c_neis, c_eqsi, c_nesi, l_int, l_abs, l_min, l_max, l_lenS, l_lenT, l_lenL, l_isi_int, l_isi_str, l_isi_tup, l_isi_lst, l_isi_bl, l_isi_non, i_scr, i_tup, i_lst, tyq, reduceCtorEq, f_t, f_f, Option.map_some, List.length_cons, List.length_nil, i, net_behind_bad L.toLibNet s g d a t c]
theorem out1a (L : LibK11 F) (s : Sc) (g : s.Good) (d a : D) (t : typD hs d = true) (c : wholeD d (-3000) 3000 = true) (t2 : typD hs a = true) (c2 : actB a = false) : callF F (k+5) 44 [.int 1, s.d, d, a] hs = .ok (.str "act!") hs := by
  rw [out_eq L]
  have i : ((1 : Int) = 0) = False := by simp
  refine (cseqR (s_try_ret (c := 4) (n := 4) (p := .non) (fr' := [some (.int 1), some s.d, some d, some a]) (hs' := hs) ?_ find4)).trans close_f
  simp only [ss_nil, ss_cons, s_set, s_expr, s_ret, s_ite, s_pass, s_cont, s_rais, v_var, v_cst, v_bin, v_neg, v_not, v_and, v_or, v_cmp, v_chain, v_isN, v_notN, v_ite, v_tup, v_lst, v_idx, v_slice, v_call, v_blt, v_mth, evEs, evIt, asg, asgs, wipes, bindC, setAll, Res.bind_ok, Res.bind_exn, Res.then_ok, Res.then_exn, Res.calm_ok, RS.seq_nx, RS.seq_rt, RS.seq_ct, RS.seq_exn, List.getElem?_cons_zero, List.getElem?_cons_succ, List.set_cons_zero, List.set_cons_succ, if_true, if_false, eq_self, Bool.false_eq_true, decide_true, decide_false, Bool.not_true, Bool.not_false, Bool.and_true, Bool.true_and, Bool.and_false, Bool.false_and, Bool.or_true, Bool.true_or, Bool.or_false, Bool.false_or, b_add, b_sub, c_lt, c_le, c_gt, c_ge, c_eqi, c_nei, c_eqs, c_nes, c_eqis, c_neis, c_eqsi, c_nesi, l_int, l_abs, l_min, l_max, l_lenS, l_lenT, l_lenL, l_isi_int, l_isi_str, l_isi_tup, l_isi_lst, l_isi_bl, l_isi_non, i_scr, i_tup, i_lst, tyq, reduceCtorEq, f_t, f_f, Option.map_some, List.length_cons, List.length_nil, i, net_behind_badA L.toLibNet s g d a t c t2 c2]
theorem out2 (L : LibK11 F) (s : Sc) (g : s.Good) (x : D) (as : List (Option Int)) (ga : ∀ a ∈ as, actG a) (hl : as.length ≤ 100) : callF F (k+5) 44 [.int 2, s.d, x, .tup (as.map actD)] hs = .ok (.ref hs.length) (hs ++ [.lst ((s.rows 0 as).map .int)]) := by
  rw [out_eq L]
  have i : ((2 : Int) = 0) = False := by simp
  have j : ((2 : Int) = 1) = False := by simp
  refine (cseqR (s_try_rt ?_)).trans close_f
  simp only [ss_nil, ss_cons, s_set, s_expr, s_ret, s_ite, s_pass, s_cont, s_rais, v_var, v_cst, v_bin, v_neg, v_not, v_and, v_or, v_cmp, v_chain, v_isN, v_notN, v_ite, v_tup, v_lst, v_idx, v_slice, v_call, v_blt, v_mth, evEs, evIt, asg, asgs, wipes, bindC, setAll, Res.bind_ok, Res.bind_exn, Res.then_ok, Res.then_exn, Res.calm_ok, RS.seq_nx, RS.seq_rt, RS.seq_ct, RS.seq_exn, List.getElem?_cons_zero, List.getElem?_cons_succ, List.set_cons_zero, List.set_cons_succ, if_true, if_false, eq_self, Bool.false_eq_true, decide_true, decide_false, Bool.not_true, Bool.not_false, Bool.and_true, Bool.true_and, Bool.and_false, Bool.false_and, Bool.or_true, Bool.true_or, Bool.or_false, Bool.false_or, b_add, b_sub, c_lt, c_le, c_gt, c_ge, c_eqi, c_nei, c_eqs, c_nes, c_eqis, c_neis, c_eqsi, c_nesi, l_int, l_abs, l_min, l_max, l_lenS, l_lenT, l_lenL, l_isi_int, l_isi_str, l_isi_tup, l_isi_lst, l_isi_bl, l_isi_non, i_scr, i_tup, i_lst, tyq, reduceCtorEq, f_t, f_f, Option.map_some, List.length_cons, List.length_nil, i, j, row_h L s g as ga hl]
theorem out2b (L : LibK11 F) (s : Sc) (g : s.Good) (x : D) (ds : List D) (t : ∀ d ∈ ds, typD hs d = true) (c : (decide (ds.length ≤ 100) && ds.all actB) = false) : callF F (k+5) 44 [.int 2, s.d, x, .tup ds] hs = .ok (.str "act!") hs := by
  rw [out_eq L]
  have i : ((2 : Int) = 0) = False := by simp
  have j : ((2 : Int) = 1) = False := by simp
  refine (cseqR (s_try_ret (c := 4) (n := 4) (p := .non) (fr' := [some (.int 2), some s.d, some x, some (.tup ds)]) (hs' := hs) ?_ find4)).trans close_f
  simp only [ss_nil, ss_cons, s_set, s_expr, s_ret, s_ite, s_pass, s_cont, s_rais, v_var, v_cst, v_bin, v_neg, v_not, v_and, v_or, v_cmp, v_chain, v_isN, v_notN, v_ite, v_tup, v_lst, v_idx, v_slice, v_call, v_blt, v_mth, evEs, evIt, asg, asgs, wipes, bindC, setAll, Res.bind_ok, Res.bind_exn, Res.then_ok, Res.then_exn, Res.calm_ok, RS.seq_nx, RS.seq_rt, RS.seq_ct, RS.seq_exn, List.getElem?_cons_zero, List.getElem?_cons_succ, List.set_cons_zero, List.set_cons_succ, if_true, if_false, eq_self, Bool.false_eq_true, decide_true, decide_false, Bool.not_true, Bool.not_false, Bool.and_true, Bool.true_and, Bool.and_false, Bool.false_and, Bool.or_true, Bool.true_or, Bool.or_false, Bool.false_or, b_add, b_sub, c_lt, c_le, c_gt, c_ge, c_eqi, c_nei, c_eqs, c_nes, c_eqis, c_neis, c_eqsi, c_nesi, l_int, l_abs, l_min, l_max, l_lenS, l_lenT, l_lenL, l_isi_int, l_isi_str, l_isi_tup, l_isi_lst, l_isi_bl, l_isi_non, i_scr, i_tup, i_lst, tyq, reduceCtorEq, f_t, f_f, Option.map_some, List.length_cons, List.length_nil, i, j, row_h_bad L s g ds t c]
theorem out2l (L : LibK11 F) (s : Sc) (g : s.Good) (x : D) (ds : List D) : callF F (k+5) 44 [.int 2, s.d, x, .lst ds] hs = .ok (.str "act!") hs := by
  rw [out_eq L]
  have i : ((2 : Int) = 0) = False := by simp
  have j : ((2 : Int) = 1) = False := by simp
  refine (cseqR (s_try_ret (c := 4) (n := 4) (p := .non) (fr' := [some (.int 2), some s.d, some x, some (.lst ds)]) (hs' := hs) ?_ find4)).trans close_f
  simp only [ss_nil, ss_cons, s_set, s_expr, s_ret, s_ite, s_pass, s_cont, s_rais, v_var, v_cst, v_bin, v_neg, v_not, v_and, v_or, v_cmp, v_chain, v_isN, v_notN, v_ite, v_tup, v_lst, v_idx, v_slice, v_call, v_blt, v_mth, evEs, evIt, asg, asgs, wipes, bindC, setAll, Res.bind_ok, Res.bind_exn, Res.then_ok, Res.then_exn, Res.calm_ok, RS.seq_nx, RS.seq_rt, RS.seq_ct, RS.seq_exn, List.getElem?_cons_zero, List.getElem?_cons_succ, List.set_cons_zero, List.set_cons_succ, if_true, if_false, eq_self, Bool.false_eq_true, decide_true, decide_false, Bool.not_true, Bool.not_false, Bool.and_true, Bool.true_and, Bool.and_false, Bool.false_and, Bool.or_true, Bool.true_or, Bool.or_false, Bool.false_or, b_add, b_sub, c_lt, c_le, c_gt, c_ge, c_eqi, c_nei, c_eqs, c_nes, c_eqis, c_neis, c_eqsi, c_nesi, l_int, l_abs, l_min, l_max, l_lenS, l_lenT, l_lenL, l_isi_int, l_isi_str, l_isi_tup, l_isi_lst, l_isi_bl, l_isi_non, i_scr, i_tup, i_lst, tyq, reduceCtorEq, f_t, f_f, Option.map_some, List.length_cons, List.length_nil, i, j, row_h_badL L s g ds]

theorem odd_step (L : LibK11 F) (s : Sc) (g : s.Good) (d : D) (t : typD hs d = true) (c : wholeD d (-3000) 3000 = false) (v : Option D) :
    ((asg (callF F (k+5)) (.var 1) d [some s.d, v] hs).then [some s.d, v] fun fr hs => evSs (callF F (k+5)) ((c_law_refuses_k11.body.nth 0).sub) fr hs) = .nx [some s.d, some d] hs := by
  simp only [c_law_refuses_k11, CSs.nth, CS.sub, ss_nil, ss_cons, s_set, s_expr, s_ret, s_ite, s_pass, s_cont, s_rais, v_var, v_cst, v_bin, v_neg, v_not, v_and, v_or, v_cmp, v_chain, v_isN, v_notN, v_ite, v_tup, v_lst, v_idx, v_slice, v_call, v_blt, v_mth, evEs, evIt, asg, asgs, wipes, bindC, setAll, Res.bind_ok, Res.bind_exn, Res.then_ok, Res.then_exn, Res.calm_ok, RS.seq_nx, RS.seq_rt, RS.seq_ct, RS.seq_exn, List.getElem?_cons_zero, List.getElem?_cons_succ, List.set_cons_zero, List.set_cons_succ, if_true, if_false, eq_self, Bool.false_eq_true, decide_true, decide_false, Bool.not_true, Bool.not_false, Bool.and_true, Bool.true_and, Bool.and_false, Bool.false_and, Bool.or_true, Bool.true_or, Bool.or_false, Bool.false_or, b_add, b_sub, c_lt, c_le, c_gt, c_ge, c_eqi, c_nei, c_eqs, c_nes, c_eqis, c_neis, c_eqsi, c_nesi, l_int, l_abs, l_min, l_max, l_lenS, l_lenT, l_lenL, l_isi_int, l_isi_str, l_isi_tup, l_isi_lst, l_isi_bl, l_isi_non, i_scr, i_tup, i_lst, tyq, reduceCtorEq, f_t, f_f, Option.map_some, List.length_cons, List.length_nil, out0b L s g d .non t c, out1b L s g d (.str "odd") t c]
theorem odd_step2 (L : LibK11 F) (s : Sc) (g : s.Good) (d : D) (t : typD hs d = true) (c : actB d = false) (v : Option D) :
    ((asg (callF F (k+5)) (.var 1) d [some s.d, v] hs).then [some s.d, v] fun fr hs => evSs (callF F (k+5)) ((c_law_refuses_k11.body.nth 1).sub) fr hs) = .nx [some s.d, some d] hs := by
  have t1 : ∀ x ∈ [D.int 1, d], typD hs x = true := fun x hx => by
    simp only [List.mem_cons, List.not_mem_nil, or_false] at hx
    rcases hx with rfl | rfl
    · rfl
    · exact t
  have c1 : (decide ([D.int 1, d].length ≤ 100) && [D.int 1, d].all actB) = false := by
    simp only [List.all_cons, c, Bool.false_and, Bool.and_false]
  simp only [c_law_refuses_k11, CSs.nth, CS.sub, ss_nil, ss_cons, s_set, s_expr, s_ret, s_ite, s_pass, s_cont, s_rais, v_var, v_cst, v_bin, v_neg, v_not, v_and, v_or, v_cmp, v_chain, v_isN, v_notN, v_ite, v_tup, v_lst, v_idx, v_slice, v_call, v_blt, v_mth, evEs, evIt, asg, asgs, wipes, bindC, setAll, Res.bind_ok, Res.bind_exn, Res.then_ok, Res.then_exn, Res.calm_ok, RS.seq_nx, RS.seq_rt, RS.seq_ct, RS.seq_exn, List.getElem?_cons_zero, List.getElem?_cons_succ, List.set_cons_zero, List.set_cons_succ, if_true, if_false, eq_self, Bool.false_eq_true, decide_true, decide_false, Bool.not_true, Bool.not_false, Bool.and_true, Bool.true_and, Bool.and_false, Bool.false_and, Bool.or_true, Bool.true_or, Bool.or_false, Bool.false_or, b_add, b_sub, c_lt, c_le, c_gt, c_ge, c_eqi, c_nei, c_eqs, c_nes, c_eqis, c_neis, c_eqsi, c_nesi, l_int, l_abs, l_min, l_max, l_lenS, l_lenT, l_lenL, l_isi_int, l_isi_str, l_isi_tup, l_isi_lst, l_isi_bl, l_isi_non, i_scr, i_tup, i_lst, tyq, reduceCtorEq, f_t, f_f, Option.map_some, List.length_cons, List.length_nil, out1a L s g (.int 0) d rfl rfl t c, out2b L s g (.int 0) [.int 1, d] t1 c1]
theorem refuses_ok (L : LibK11 F) (s : Sc) (g : s.Good) : callF F (k+6) 45 [s.d] hs = .ok (.bl true) hs := by
  rw [callF_eq L.l3 rfl]
  show close true hs (evSs (callF F (k+5)) c_law_refuses_k11.body [some s.d, none] hs) = _
  obtain ⟨fr1, hs1, e1, v1, f1, f2⟩ := loopL_inv (ds := [.non, .int 3001, .int (-3001), .str "5", .bl true, .tup [.int 5]]) (i := 0) (f := fun d fr hs => (asg (callF F (k+5)) (.var 1) d fr hs).then fr fun fr hs => evSs (callF F (k+5)) ((c_law_refuses_k11.body.nth 0).sub) fr hs)
    (Inv := fun i fr hs' => ∃ v, fr = [some s.d, v] ∧ hs' = hs) (fun j d fr hs' hd ⟨v, e1, e2⟩ => by
      subst e1 e2
      have m := List.mem_of_getElem? hd
      have h : typD hs' d = true ∧ wholeD d (-3000) 3000 = false := by
        simp only [List.mem_cons, List.not_mem_nil, or_false] at m
        rcases m with rfl | rfl | rfl | rfl | rfl | rfl <;> exact ⟨rfl, rfl⟩
      exact ⟨_, _, .inl (odd_step L s g d h.1 h.2 v), _, rfl, rfl⟩) (fr := [some s.d, none]) (hs := hs) ⟨none, rfl, rfl⟩
  subst f1 f2
  refine (cseq (s_for (ds := [.non, .int 3001, .int (-3001), .str "5", .bl true, .tup [.int 5]]) (hs1 := hs1) (by simp only [ss_nil, ss_cons, s_set, s_expr, s_ret, s_ite, s_pass, s_cont, s_rais, v_var, v_cst, v_bin, v_neg, v_not, v_and, v_or, v_cmp, v_chain, v_isN, v_notN, v_ite, v_tup, v_lst, v_idx, v_slice, v_call, v_blt, v_mth, evEs, evIt, asg, asgs, wipes, bindC, setAll, Res.bind_ok, Res.bind_exn, Res.then_ok, Res.then_exn, Res.calm_ok, RS.seq_nx, RS.seq_rt, RS.seq_ct, RS.seq_exn, List.getElem?_cons_zero, List.getElem?_cons_succ, List.set_cons_zero, List.set_cons_succ, if_true, if_false, eq_self, Bool.false_eq_true, decide_true, decide_false, Bool.not_true, Bool.not_false, Bool.and_true, Bool.true_and, Bool.and_false, Bool.false_and, Bool.or_true, Bool.true_or, Bool.or_false, Bool.false_or, f_f, walkOf]) e1)).trans ?_
  obtain ⟨fr2, hs2, e2, v2, f1, f2⟩ := loopL_inv (ds := [.non, .int 301, .int (-301), .str "Tare", .bl true, .tup [.int 1], .tup [.str "tare"]]) (i := 0) (f := fun d fr hs => (asg (callF F (k+5)) (.var 1) d fr hs).then fr fun fr hs => evSs (callF F (k+5)) ((c_law_refuses_k11.body.nth 1).sub) fr hs)
    (Inv := fun i fr hs' => ∃ v, fr = [some s.d, v] ∧ hs' = hs1) (fun j d fr hs' hd ⟨v, e1, e2⟩ => by
      subst e1 e2
      have m := List.mem_of_getElem? hd
      have h : typD hs' d = true ∧ actB d = false := by
        simp only [List.mem_cons, List.not_mem_nil, or_false] at m
        rcases m with rfl | rfl | rfl | rfl | rfl | rfl | rfl <;> exact ⟨rfl, by first | rfl | decide +kernel⟩
      exact ⟨_, _, .inl (odd_step2 L s g d h.1 h.2 v), _, rfl, rfl⟩) (fr := [some s.d, v1]) (hs := hs1) ⟨v1, rfl, rfl⟩
  subst f1 f2
  refine (cseq (s_for (ds := [.non, .int 301, .int (-301), .str "Tare", .bl true, .tup [.int 1], .tup [.str "tare"]]) (hs1 := hs2) (by simp only [ss_nil, ss_cons, s_set, s_expr, s_ret, s_ite, s_pass, s_cont, s_rais, v_var, v_cst, v_bin, v_neg, v_not, v_and, v_or, v_cmp, v_chain, v_isN, v_notN, v_ite, v_tup, v_lst, v_idx, v_slice, v_call, v_blt, v_mth, evEs, evIt, asg, asgs, wipes, bindC, setAll, Res.bind_ok, Res.bind_exn, Res.then_ok, Res.then_exn, Res.calm_ok, RS.seq_nx, RS.seq_rt, RS.seq_ct, RS.seq_exn, List.getElem?_cons_zero, List.getElem?_cons_succ, List.set_cons_zero, List.set_cons_succ, if_true, if_false, eq_self, Bool.false_eq_true, decide_true, decide_false, Bool.not_true, Bool.not_false, Bool.and_true, Bool.true_and, Bool.and_false, Bool.false_and, Bool.or_true, Bool.true_or, Bool.or_false, Bool.false_or, f_f, walkOf]) e2)).trans ?_
  have mu : ∀ hs, binD false .mul (.tup [.int 1]) (.int 101) hs = .ok (.tup (rep [.int 1] 101)) hs := fun hs => rfl
  have tm : ∀ x ∈ rep [D.int 1] 101, typD hs2 x = true := fun x hx => by
    have : x = .int 1 := by
      unfold rep at hx
      obtain ⟨l, h1, h2⟩ := List.mem_flatten.mp hx
      rw [(List.mem_replicate.mp h1).2] at h2
      exact List.mem_singleton.mp h2
    rw [this]; rfl
  have cm : (decide ((rep [D.int 1] 101).length ≤ 100) && (rep [D.int 1] 101).all actB) = false := by
    have : (rep [D.int 1] 101).length = 101 := rfl
    rw [this]; rfl
  refine (cseq (fr' := [some s.d, v2]) (hs' := hs2) ?_).trans ?_
  · simp only [ss_nil, ss_cons, s_set, s_expr, s_ret, s_ite, s_pass, s_cont, s_rais, v_var, v_cst, v_bin, v_neg, v_not, v_and, v_or, v_cmp, v_chain, v_isN, v_notN, v_ite, v_tup, v_lst, v_idx, v_slice, v_call, v_blt, v_mth, evEs, evIt, asg, asgs, wipes, bindC, setAll, Res.bind_ok, Res.bind_exn, Res.then_ok, Res.then_exn, Res.calm_ok, RS.seq_nx, RS.seq_rt, RS.seq_ct, RS.seq_exn, List.getElem?_cons_zero, List.getElem?_cons_succ, List.set_cons_zero, List.set_cons_succ, if_true, if_false, eq_self, Bool.false_eq_true, decide_true, decide_false, Bool.not_true, Bool.not_false, Bool.and_true, Bool.true_and, Bool.and_false, Bool.false_and, Bool.or_true, Bool.true_or, Bool.or_false, Bool.false_or, b_add, b_sub, c_lt, c_le, c_gt, c_ge, c_eqi, c_nei, c_eqs, c_nes, c_eqis, c_neis, c_eqsi, c_nesi, l_int, l_abs, l_min, l_max, l_lenS, l_lenT, l_lenL, l_isi_int, l_isi_str, l_isi_tup, l_isi_lst, l_isi_bl, l_isi_non, i_scr, i_tup, i_lst, tyq, reduceCtorEq, f_t, f_f, Option.map_some, List.length_cons, List.length_nil, out2l L s g, mu, out2b L s g _ _ tm cm]
  have ls : ∀ hs, bltD false .list [s.d] hs = .ok (.lst [.int s.step, .str (if s.near then "near" else "down"), .int s.hold, .str (if s.shw then "shown" else "exact")]) hs := fun hs => rfl
  refine (cseqR (d := .bl true) (hs' := hs2) ?_).trans ?_
  · simp only [ss_nil, ss_cons, s_set, s_expr, s_ret, s_ite, s_pass, s_cont, s_rais, v_var, v_cst, v_bin, v_neg, v_not, v_and, v_or, v_cmp, v_chain, v_isN, v_notN, v_ite, v_tup, v_lst, v_idx, v_slice, v_call, v_blt, v_mth, evEs, evIt, asg, asgs, wipes, bindC, setAll, Res.bind_ok, Res.bind_exn, Res.then_ok, Res.then_exn, Res.calm_ok, RS.seq_nx, RS.seq_rt, RS.seq_ct, RS.seq_exn, List.getElem?_cons_zero, List.getElem?_cons_succ, List.set_cons_zero, List.set_cons_succ, if_true, if_false, eq_self, Bool.false_eq_true, decide_true, decide_false, Bool.not_true, Bool.not_false, Bool.and_true, Bool.true_and, Bool.and_false, Bool.false_and, Bool.or_true, Bool.true_or, Bool.or_false, Bool.false_or, b_add, b_sub, c_lt, c_le, c_gt, c_ge, c_eqi, c_nei, c_eqs, c_nes, c_eqis, c_neis, c_eqsi, c_nesi, l_int, l_abs, l_min, l_max, l_lenS, l_lenT, l_lenL, l_isi_int, l_isi_str, l_isi_tup, l_isi_lst, l_isi_bl, l_isi_non, i_scr, i_tup, i_lst, tyq, reduceCtorEq, f_t, f_f, Option.map_some, List.length_cons, List.length_nil, ls, out0s L]
  · exact close_rt rfl
theorem c_eql (xs : List D) (n m : Nat) (h : xs.all (D.ok 12) = true) (e1 : hs[n]? = some (.lst xs)) (e2 : hs[m]? = some (.lst xs)) (q : D.eqvL xs xs = true) : cmpB .ne (.ref n) (.ref m) hs = some false := by
  simp only [cmpB, data, items, e1, e2, h, if_true, D.eqv, q]
  rfl
theorem ints_ok12 (is : List Int) : (is.map D.int).all (D.ok 12) = true := by
  rw [List.all_map, List.all_eq_true]; intro x _; rfl
theorem ints_eqv (is : List Int) : D.eqvL (is.map D.int) (is.map D.int) = true := by
  induction is with
  | nil => rfl
  | cons i is ih => rw [List.map_cons, D.eqvL, ih]; simp [D.eqv]

/-- one drawn net and act -/
theorem k11_turnA (L : LibK11 F) {n : Nat} (S : Sr n hs) (s : Sc) (g : s.Good) (f0 f1 v2 v5 v6 v7 v8 v9 v10 v11 : Option D) :
    ∃ hs' w2 w6 w7 w8, evSs (callF F (k+5)) ((((c_law_k11.body.nth 0).sub).nth 2).sub) [f0, f1, v2, some (.ref n), some s.d, v5, v6, v7, v8, v9, v10, v11] hs = .nx [f0, f1, w2, some (.ref n), some s.d, v5, w6, w7, w8, v9, v10, v11] hs' ∧ Mv n hs hs' := by
  obtain ⟨w, hs1, e1, m1, c1⟩ := chosen_ok (k := k+3) L.p1 L.p2 S [.int 12, .int 12, .int 40, .int 3000] (by simp) (by simp)
  have w' : ∃ i : Int, w = .int i ∧ 1 ≤ i ∧ i ≤ 3000 := by
    simp only [List.mem_cons, List.not_mem_nil, or_false] at c1
    rcases c1 with rfl | rfl | rfl | rfl <;> exact ⟨_, rfl, by decide, by decide⟩
  obtain ⟨w, rfl, w1, w2⟩ := w'
  obtain ⟨p, hs2, e2, m2, p0, p1⟩ := pick_ok (k := k+4) L.p1 m1.1 (2 * w + 1) (by omega) (by omega)
  obtain ⟨q, hs3, e3, m3, q0, q1⟩ := pick_ok (k := k+4) L.p1 m2.1 601 (by decide) (by decide)
  obtain ⟨r, hs4, e4, m4, r0, r1⟩ := pick_ok (k := k+4) L.p1 m3.1 13 (by decide) (by decide)
  generalize hN : p - w = N
  generalize hT : (-N) % 300 = T
  have t0 : 0 ≤ T := by rw [← hT]; exact Int.emod_nonneg _ (by decide)
  have t1 : T < 300 := by rw [← hT]; exact Int.emod_lt_of_pos _ (by decide)
  obtain ⟨d, hs5, e5, m5, c5⟩ := chosen_ok (k := k+3) L.p1 L.p2 m4.1 [.str "tare", .str "tare", .int (q - 300), .int (r - 6), .int T] (by simp) (by simp)
  have ha : ∃ a : Option Int, d = actD a ∧ actG a := by
    simp only [List.mem_cons, List.not_mem_nil, or_false] at c5
    rcases c5 with rfl | rfl | rfl | rfl | rfl
    · exact ⟨none, rfl, trivial⟩
    · exact ⟨none, rfl, trivial⟩
    · exact ⟨some (q - 300), rfl, by unfold actG; dsimp only; omega⟩
    · exact ⟨some (r - 6), rfl, by unfold actG; dsimp only; omega⟩
    · exact ⟨some T, rfl, by unfold actG; dsimp only; omega⟩
  obtain ⟨a, rfl, ga⟩ := ha
  have n1 : -3000 ≤ N := by omega
  have n2 : N ≤ 3000 := by omega
  have s2 : small 2 = true := by decide
  have d3 : (0 : Int) < 300 := by decide
  refine ⟨hs5, some (.lst [.str "tare", .str "tare", .int (q - 300), .int (r - 6), .int T]), some (.int w), some (.int N), some (actD a), ?_, (((m1.trans m2).trans m3).trans m4).trans m5⟩
  refine (seq1 (fr' := [f0, f1, v2, some (.ref n), some s.d, v5, some (.int w), v7, v8, v9, v10, v11]) (hs' := hs1) ?_).trans ?_
  · simp only [ss_nil, ss_cons, s_set, s_expr, s_ret, s_ite, s_pass, s_cont, s_rais, v_var, v_cst, v_bin, v_neg, v_not, v_and, v_or, v_cmp, v_chain, v_isN, v_notN, v_ite, v_tup, v_lst, v_idx, v_slice, v_call, v_blt, v_mth, evEs, evIt, asg, asgs, wipes, bindC, setAll, Res.bind_ok, Res.bind_exn, Res.then_ok, Res.then_exn, Res.calm_ok, RS.seq_nx, RS.seq_rt, RS.seq_ct, RS.seq_exn, List.getElem?_cons_zero, List.getElem?_cons_succ, List.set_cons_zero, List.set_cons_succ, if_true, if_false, eq_self, Bool.false_eq_true, decide_true, decide_false, Bool.not_true, Bool.not_false, Bool.and_true, Bool.true_and, Bool.and_false, Bool.false_and, Bool.or_true, Bool.true_or, Bool.or_false, Bool.false_or, f_f, e1]
  refine (seq1 (fr' := [f0, f1, v2, some (.ref n), some s.d, v5, some (.int w), some (.int N), v8, v9, v10, v11]) (hs' := hs2) ?_).trans ?_
  · simp only [ss_nil, ss_cons, s_set, s_expr, s_ret, s_ite, s_pass, s_cont, s_rais, v_var, v_cst, v_bin, v_neg, v_not, v_and, v_or, v_cmp, v_chain, v_isN, v_notN, v_ite, v_tup, v_lst, v_idx, v_slice, v_call, v_blt, v_mth, evEs, evIt, asg, asgs, wipes, bindC, setAll, Res.bind_ok, Res.bind_exn, Res.then_ok, Res.then_exn, Res.calm_ok, RS.seq_nx, RS.seq_rt, RS.seq_ct, RS.seq_exn, List.getElem?_cons_zero, List.getElem?_cons_succ, List.set_cons_zero, List.set_cons_succ, if_true, if_false, eq_self, Bool.false_eq_true, decide_true, decide_false, Bool.not_true, Bool.not_false, Bool.and_true, Bool.true_and, Bool.and_false, Bool.false_and, Bool.or_true, Bool.true_or, Bool.or_false, Bool.false_or, b_add, b_sub, c_lt, c_le, c_gt, c_ge, c_eqi, c_nei, c_eqs, c_nes, c_eqis, c_neis, c_eqsi, c_nesi, l_int, l_abs, l_min, l_max, l_lenS, l_lenT, l_lenL, l_isi_int, l_isi_str, l_isi_tup, l_isi_lst, l_isi_bl, l_isi_non, i_scr, i_tup, i_lst, tyq, reduceCtorEq, f_t, f_f, Option.map_some, List.length_cons, List.length_nil, b_mulL s2, e2, hN]
  refine (seq1 (fr' := [f0, f1, some (.lst [.str "tare", .str "tare", .int (q - 300), .int (r - 6), .int T]), some (.ref n), some s.d, v5, some (.int w), some (.int N), v8, v9, v10, v11]) (hs' := hs4) ?_).trans ?_
  · simp only [ss_nil, ss_cons, s_set, s_expr, s_ret, s_ite, s_pass, s_cont, s_rais, v_var, v_cst, v_bin, v_neg, v_not, v_and, v_or, v_cmp, v_chain, v_isN, v_notN, v_ite, v_tup, v_lst, v_idx, v_slice, v_call, v_blt, v_mth, evEs, evIt, asg, asgs, wipes, bindC, setAll, Res.bind_ok, Res.bind_exn, Res.then_ok, Res.then_exn, Res.calm_ok, RS.seq_nx, RS.seq_rt, RS.seq_ct, RS.seq_exn, List.getElem?_cons_zero, List.getElem?_cons_succ, List.set_cons_zero, List.set_cons_succ, if_true, if_false, eq_self, Bool.false_eq_true, decide_true, decide_false, Bool.not_true, Bool.not_false, Bool.and_true, Bool.true_and, Bool.and_false, Bool.false_and, Bool.or_true, Bool.true_or, Bool.or_false, Bool.false_or, b_add, b_sub, c_lt, c_le, c_gt, c_ge, c_eqi, c_nei, c_eqs, c_nes, c_eqis, c_neis, c_eqsi, c_nesi, l_int, l_abs, l_min, l_max, l_lenS, l_lenT, l_lenL, l_isi_int, l_isi_str, l_isi_tup, l_isi_lst, l_isi_bl, l_isi_non, i_scr, i_tup, i_lst, tyq, reduceCtorEq, f_t, f_f, Option.map_some, List.length_cons, List.length_nil, b_mod d3, e3, e4, hT]
  refine (seq1 (fr' := [f0, f1, some (.lst [.str "tare", .str "tare", .int (q - 300), .int (r - 6), .int T]), some (.ref n), some s.d, v5, some (.int w), some (.int N), some (actD a), v9, v10, v11]) (hs' := hs5) ?_).trans ?_
  · simp only [ss_nil, ss_cons, s_set, s_expr, s_ret, s_ite, s_pass, s_cont, s_rais, v_var, v_cst, v_bin, v_neg, v_not, v_and, v_or, v_cmp, v_chain, v_isN, v_notN, v_ite, v_tup, v_lst, v_idx, v_slice, v_call, v_blt, v_mth, evEs, evIt, asg, asgs, wipes, bindC, setAll, Res.bind_ok, Res.bind_exn, Res.then_ok, Res.then_exn, Res.calm_ok, RS.seq_nx, RS.seq_rt, RS.seq_ct, RS.seq_exn, List.getElem?_cons_zero, List.getElem?_cons_succ, List.set_cons_zero, List.set_cons_succ, if_true, if_false, eq_self, Bool.false_eq_true, decide_true, decide_false, Bool.not_true, Bool.not_false, Bool.and_true, Bool.true_and, Bool.and_false, Bool.false_and, Bool.or_true, Bool.true_or, Bool.or_false, Bool.false_or, e5]
  refine (seq1 (fr' := [f0, f1, some (.lst [.str "tare", .str "tare", .int (q - 300), .int (r - 6), .int T]), some (.ref n), some s.d, v5, some (.int w), some (.int N), some (actD a), v9, v10, v11]) (hs' := hs5) ?_).trans ?_
  · simp only [ss_nil, ss_cons, s_set, s_expr, s_ret, s_ite, s_pass, s_cont, s_rais, v_var, v_cst, v_bin, v_neg, v_not, v_and, v_or, v_cmp, v_chain, v_isN, v_notN, v_ite, v_tup, v_lst, v_idx, v_slice, v_call, v_blt, v_mth, evEs, evIt, asg, asgs, wipes, bindC, setAll, Res.bind_ok, Res.bind_exn, Res.then_ok, Res.then_exn, Res.calm_ok, RS.seq_nx, RS.seq_rt, RS.seq_ct, RS.seq_exn, List.getElem?_cons_zero, List.getElem?_cons_succ, List.set_cons_zero, List.set_cons_succ, if_true, if_false, eq_self, Bool.false_eq_true, decide_true, decide_false, Bool.not_true, Bool.not_false, Bool.and_true, Bool.true_and, Bool.and_false, Bool.false_and, Bool.or_true, Bool.true_or, Bool.or_false, Bool.false_or, b_add, b_sub, c_lt, c_le, c_gt, c_ge, c_eqi, c_nei, c_eqs, c_nes, c_eqis, c_neis, c_eqsi, c_nesi, l_int, l_abs, l_min, l_max, l_lenS, l_lenT, l_lenL, l_isi_int, l_isi_str, l_isi_tup, l_isi_lst, l_isi_bl, l_isi_non, i_scr, i_tup, i_lst, tyq, reduceCtorEq, f_t, f_f, Option.map_some, List.length_cons, List.length_nil, out0 L s g N n1 n2 .non, law_shows_ok L.toLibLawNet s g]
  refine (seq1 (fr' := [f0, f1, some (.lst [.str "tare", .str "tare", .int (q - 300), .int (r - 6), .int T]), some (.ref n), some s.d, v5, some (.int w), some (.int N), some (actD a), v9, v10, v11]) (hs' := hs5) ?_).trans ?_
  · simp only [ss_nil, ss_cons, s_set, s_expr, s_ret, s_ite, s_pass, s_cont, s_rais, v_var, v_cst, v_bin, v_neg, v_not, v_and, v_or, v_cmp, v_chain, v_isN, v_notN, v_ite, v_tup, v_lst, v_idx, v_slice, v_call, v_blt, v_mth, evEs, evIt, asg, asgs, wipes, bindC, setAll, Res.bind_ok, Res.bind_exn, Res.then_ok, Res.then_exn, Res.calm_ok, RS.seq_nx, RS.seq_rt, RS.seq_ct, RS.seq_exn, List.getElem?_cons_zero, List.getElem?_cons_succ, List.set_cons_zero, List.set_cons_succ, if_true, if_false, eq_self, Bool.false_eq_true, decide_true, decide_false, Bool.not_true, Bool.not_false, Bool.and_true, Bool.true_and, Bool.and_false, Bool.false_and, Bool.or_true, Bool.true_or, Bool.or_false, Bool.false_or, b_add, b_sub, c_lt, c_le, c_gt, c_ge, c_eqi, c_nei, c_eqs, c_nes, c_eqis, c_neis, c_eqsi, c_nesi, l_int, l_abs, l_min, l_max, l_lenS, l_lenT, l_lenL, l_isi_int, l_isi_str, l_isi_tup, l_isi_lst, l_isi_bl, l_isi_non, i_scr, i_tup, i_lst, tyq, reduceCtorEq, f_t, f_f, Option.map_some, List.length_cons, List.length_nil, out1 L s g N n1 n2 a ga, law_net_ok L.toLibLawNet s g]
  simp only [ss_nil, ss_cons, s_set, s_expr, s_ret, s_ite, s_pass, s_cont, s_rais, v_var, v_cst, v_bin, v_neg, v_not, v_and, v_or, v_cmp, v_chain, v_isN, v_notN, v_ite, v_tup, v_lst, v_idx, v_slice, v_call, v_blt, v_mth, evEs, evIt, asg, asgs, wipes, bindC, setAll, Res.bind_ok, Res.bind_exn, Res.then_ok, Res.then_exn, Res.calm_ok, RS.seq_nx, RS.seq_rt, RS.seq_ct, RS.seq_exn, List.getElem?_cons_zero, List.getElem?_cons_succ, List.set_cons_zero, List.set_cons_succ, if_true, if_false, eq_self, Bool.false_eq_true, decide_true, decide_false, Bool.not_true, Bool.not_false, Bool.and_true, Bool.true_and, Bool.and_false, Bool.false_and, Bool.or_true, Bool.true_or, Bool.or_false, Bool.false_or]
/-- one act of a row -/
theorem k11_turnB (L : LibK11 F) {n m : Nat} (hmn : m ≠ n) (S : Sr n hs) (s : Sc) (g : s.Good) (as : List (Option Int)) (hl : as.length < 100) (hm : hs[m]? = some (.lst ((s.rows 0 as).map .int))) (f0 f1 v2 v5 v6 v8 v11 : Option D) :
    ∃ hs' a, evSs (callF F (k+5)) ((((c_law_k11.body.nth 0).sub).nth 4).sub) [f0, f1, v2, some (.ref n), some s.d, v5, v6, some (.int (s.nets 0 as)), v8, some (.tup (as.map actD)), some (.ref m), v11] hs =
      .nx [f0, f1, v2, some (.ref n), some s.d, v5, v6, some (.int (s.nets 0 (as ++ [a]))), some (actD a), some (.tup ((as ++ [a]).map actD)), some (.ref m), v11] hs' ∧ Sr n hs' ∧ hs'[m]? = some (.lst ((s.rows 0 (as ++ [a])).map .int)) ∧ actG a := by
  obtain ⟨q, hs3, e3, m3, q0, q1⟩ := pick_ok (k := k+4) L.p1 S 601 (by decide) (by decide)
  obtain ⟨r, hs4, e4, m4, r0, r1⟩ := pick_ok (k := k+4) L.p1 m3.1 13 (by decide) (by decide)
  obtain ⟨d, hs5, e5, m5, c5⟩ := chosen_ok (k := k+3) L.p1 L.p2 m4.1 [.str "tare", .int (q - 300), .int (r - 6)] (by simp) (by simp)
  have ha : ∃ a : Option Int, d = actD a ∧ actG a := by
    simp only [List.mem_cons, List.not_mem_nil, or_false] at c5
    rcases c5 with rfl | rfl | rfl
    · exact ⟨none, rfl, trivial⟩
    · exact ⟨some (q - 300), rfl, by unfold actG; dsimp only; omega⟩
    · exact ⟨some (r - 6), rfl, by unfold actG; dsimp only; omega⟩
  obtain ⟨a, rfl, ga⟩ := ha
  have mv := (m3.trans m4).trans m5
  have hm5 : hs5[m]? = some (.lst ((s.rows 0 as).map .int)) := by rw [← mv.other hmn]; exact hm
  have hml : m < hs5.length := by
    rcases Nat.lt_or_ge m hs5.length with z | z
    · exact z
    · rw [List.getElem?_eq_none z] at hm5; cases hm5
  have hlt : ((s.rows 0 as).map D.int).length < line := by
    rw [List.length_map, Sc.rows_len]
    have : line = 16777216 := rfl
    omega
  have hb : ∀ hs, binD false .add (.tup (as.map actD)) (.tup [actD a]) hs = .ok (.tup (as.map actD ++ [actD a])) hs := fun hs => b_tup (by
      rw [List.length_map, List.length_singleton]
      have : line = 16777216 := rfl
      omega)
  refine ⟨hs5.set m (.lst ((s.rows 0 (as ++ [a])).map .int)), a, ?_, ?_, List.getElem?_set_self hml, ga⟩
  · refine (seq1 (fr' := [f0, f1, v2, some (.ref n), some s.d, v5, v6, some (.int (s.nets 0 as)), some (actD a), some (.tup (as.map actD)), some (.ref m), v11]) (hs' := hs5) ?_).trans ?_
    · simp only [ss_nil, ss_cons, s_set, s_expr, s_ret, s_ite, s_pass, s_cont, s_rais, v_var, v_cst, v_bin, v_neg, v_not, v_and, v_or, v_cmp, v_chain, v_isN, v_notN, v_ite, v_tup, v_lst, v_idx, v_slice, v_call, v_blt, v_mth, evEs, evIt, asg, asgs, wipes, bindC, setAll, Res.bind_ok, Res.bind_exn, Res.then_ok, Res.then_exn, Res.calm_ok, RS.seq_nx, RS.seq_rt, RS.seq_ct, RS.seq_exn, List.getElem?_cons_zero, List.getElem?_cons_succ, List.set_cons_zero, List.set_cons_succ, if_true, if_false, eq_self, Bool.false_eq_true, decide_true, decide_false, Bool.not_true, Bool.not_false, Bool.and_true, Bool.true_and, Bool.and_false, Bool.false_and, Bool.or_true, Bool.true_or, Bool.or_false, Bool.false_or, b_add, b_sub, c_lt, c_le, c_gt, c_ge, c_eqi, c_nei, c_eqs, c_nes, c_eqis, c_neis, c_eqsi, c_nesi, l_int, l_abs, l_min, l_max, l_lenS, l_lenT, l_lenL, l_isi_int, l_isi_str, l_isi_tup, l_isi_lst, l_isi_bl, l_isi_non, i_scr, i_tup, i_lst, tyq, reduceCtorEq, f_t, f_f, Option.map_some, List.length_cons, List.length_nil, e3, e4, e5]
    refine (seq1 (fr' := [f0, f1, v2, some (.ref n), some s.d, v5, v6, some (.int (s.nets 0 (as ++ [a]))), some (actD a), some (.tup ((as ++ [a]).map actD)), some (.ref m), v11]) (hs' := hs5) ?_).trans ?_
    · simp only [ss_nil, ss_cons, s_set, s_expr, s_ret, s_ite, s_pass, s_cont, s_rais, v_var, v_cst, v_bin, v_neg, v_not, v_and, v_or, v_cmp, v_chain, v_isN, v_notN, v_ite, v_tup, v_lst, v_idx, v_slice, v_call, v_blt, v_mth, evEs, evIt, asg, asgs, wipes, bindC, setAll, Res.bind_ok, Res.bind_exn, Res.then_ok, Res.then_exn, Res.calm_ok, RS.seq_nx, RS.seq_rt, RS.seq_ct, RS.seq_exn, List.getElem?_cons_zero, List.getElem?_cons_succ, List.set_cons_zero, List.set_cons_succ, if_true, if_false, eq_self, Bool.false_eq_true, decide_true, decide_false, Bool.not_true, Bool.not_false, Bool.and_true, Bool.true_and, Bool.and_false, Bool.false_and, Bool.or_true, Bool.true_or, Bool.or_false, Bool.false_or, hb, law_net_ok L.toLibLawNet s g, Sc.nets_app, List.map_append, List.map_cons, List.map_nil]
    refine (seq1 (fr' := [f0, f1, v2, some (.ref n), some s.d, v5, v6, some (.int (s.nets 0 (as ++ [a]))), some (actD a), some (.tup ((as ++ [a]).map actD)), some (.ref m), v11]) (hs' := hs5.set m (.lst ((s.rows 0 (as ++ [a])).map .int))) ?_).trans ?_
    · rw [Sc.rows_app, Sc.nets_app]
      simp only [ss_nil, ss_cons, s_set, s_expr, s_ret, s_ite, s_pass, s_cont, s_rais, v_var, v_cst, v_bin, v_neg, v_not, v_and, v_or, v_cmp, v_chain, v_isN, v_notN, v_ite, v_tup, v_lst, v_idx, v_slice, v_call, v_blt, v_mth, evEs, evIt, asg, asgs, wipes, bindC, setAll, Res.bind_ok, Res.bind_exn, Res.then_ok, Res.then_exn, Res.calm_ok, RS.seq_nx, RS.seq_rt, RS.seq_ct, RS.seq_exn, List.getElem?_cons_zero, List.getElem?_cons_succ, List.set_cons_zero, List.set_cons_succ, if_true, if_false, eq_self, Bool.false_eq_true, decide_true, decide_false, Bool.not_true, Bool.not_false, Bool.and_true, Bool.true_and, Bool.and_false, Bool.false_and, Bool.or_true, Bool.true_or, Bool.or_false, Bool.false_or, law_shows_ok L.toLibLawNet s g, mo_app hm5, m_app hm5 hlt, List.map_append, List.map_cons, List.map_nil]
    simp only [ss_nil, ss_cons, s_set, s_expr, s_ret, s_ite, s_pass, s_cont, s_rais, v_var, v_cst, v_bin, v_neg, v_not, v_and, v_or, v_cmp, v_chain, v_isN, v_notN, v_ite, v_tup, v_lst, v_idx, v_slice, v_call, v_blt, v_mth, evEs, evIt, asg, asgs, wipes, bindC, setAll, Res.bind_ok, Res.bind_exn, Res.then_ok, Res.then_exn, Res.calm_ok, RS.seq_nx, RS.seq_rt, RS.seq_ct, RS.seq_exn, List.getElem?_cons_zero, List.getElem?_cons_succ, List.set_cons_zero, List.set_cons_succ, if_true, if_false, eq_self, Bool.false_eq_true, decide_true, decide_false, Bool.not_true, Bool.not_false, Bool.and_true, Bool.true_and, Bool.and_false, Bool.false_and, Bool.or_true, Bool.true_or, Bool.or_false, Bool.false_or]
  · obtain ⟨x, y, h1, h2⟩ := mv.1
    exact ⟨x, y, by rw [List.getElem?_set_ne hmn]; exact h1, h2⟩
/-- the row asked twice -/
theorem k11_turnC (L : LibK11 F) {m : Nat} (s : Sc) (g : s.Good) (as : List (Option Int)) (ga : ∀ a ∈ as, actG a) (hl : as.length ≤ 100) (hm : hs[m]? = some (.lst ((s.rows 0 as).map .int))) (f0 f1 v2 v3 v5 v6 v7 v8 v11 : Option D) :
    ∃ hs' w11, evSs (callF F (k+5)) ((((c_law_k11.body.nth 0).sub).nth 5).sub) [f0, f1, v2, v3, some s.d, v5, v6, v7, v8, some (.tup (as.map actD)), some (.ref m), v11] hs =
      .nx [f0, f1, v2, v3, some s.d, v5, v6, v7, v8, some (.tup (as.map actD)), some (.ref m), w11] hs' ∧ hs'[m]? = some (.lst ((s.rows 0 as).map .int)) := by
  have hml : m < hs.length := by
    rcases Nat.lt_or_ge m hs.length with z | z
    · exact z
    · rw [List.getElem?_eq_none z] at hm; cases hm
  have e1 : (hs ++ [OD.lst ((s.rows 0 as).map D.int)])[hs.length]? = some (.lst ((s.rows 0 as).map .int)) := List.getElem?_concat_length
  have e2 : (hs ++ [OD.lst ((s.rows 0 as).map D.int)])[m]? = some (.lst ((s.rows 0 as).map .int)) := by rw [List.getElem?_append_left hml]; exact hm
  have hlt : ((s.rows 0 as).map D.int).length < line := by
    rw [List.length_map, Sc.rows_len]
    have : line = 16777216 := rfl
    omega
  have isl : bltD false (.isi .list) [.ref hs.length] (hs ++ [OD.lst ((s.rows 0 as).map D.int)]) = .ok (.bl true) (hs ++ [OD.lst ((s.rows 0 as).map D.int)]) := by
    simp only [bltD, isTy, e1]; rfl
  refine ⟨(hs ++ [OD.lst ((s.rows 0 as).map D.int)]).set hs.length (.lst ((s.rows 0 as).map .int ++ [.str "odd"])), some (.ref hs.length), ?_, ?_⟩
  · refine (seq1 (fr' := [f0, f1, v2, v3, some s.d, v5, v6, v7, v8, some (.tup (as.map actD)), some (.ref m), some (.ref hs.length)]) (hs' := hs ++ [.lst ((s.rows 0 as).map .int)]) ?_).trans ?_
    · simp only [ss_nil, ss_cons, s_set, s_expr, s_ret, s_ite, s_pass, s_cont, s_rais, v_var, v_cst, v_bin, v_neg, v_not, v_and, v_or, v_cmp, v_chain, v_isN, v_notN, v_ite, v_tup, v_lst, v_idx, v_slice, v_call, v_blt, v_mth, evEs, evIt, asg, asgs, wipes, bindC, setAll, Res.bind_ok, Res.bind_exn, Res.then_ok, Res.then_exn, Res.calm_ok, RS.seq_nx, RS.seq_rt, RS.seq_ct, RS.seq_exn, List.getElem?_cons_zero, List.getElem?_cons_succ, List.set_cons_zero, List.set_cons_succ, if_true, if_false, eq_self, Bool.false_eq_true, decide_true, decide_false, Bool.not_true, Bool.not_false, Bool.and_true, Bool.true_and, Bool.and_false, Bool.false_and, Bool.or_true, Bool.true_or, Bool.or_false, Bool.false_or, out2 L s g .non as ga hl]
    refine (seq1 (fr' := [f0, f1, v2, v3, some s.d, v5, v6, v7, v8, some (.tup (as.map actD)), some (.ref m), some (.ref hs.length)]) (hs' := hs ++ [.lst ((s.rows 0 as).map .int)]) ?_).trans ?_
    · simp only [ss_nil, ss_cons, s_set, s_expr, s_ret, s_ite, s_pass, s_cont, s_rais, v_var, v_cst, v_bin, v_neg, v_not, v_and, v_or, v_cmp, v_chain, v_isN, v_notN, v_ite, v_tup, v_lst, v_idx, v_slice, v_call, v_blt, v_mth, evEs, evIt, asg, asgs, wipes, bindC, setAll, Res.bind_ok, Res.bind_exn, Res.then_ok, Res.then_exn, Res.calm_ok, RS.seq_nx, RS.seq_rt, RS.seq_ct, RS.seq_exn, List.getElem?_cons_zero, List.getElem?_cons_succ, List.set_cons_zero, List.set_cons_succ, if_true, if_false, eq_self, Bool.false_eq_true, decide_true, decide_false, Bool.not_true, Bool.not_false, Bool.and_true, Bool.true_and, Bool.and_false, Bool.false_and, Bool.or_true, Bool.true_or, Bool.or_false, Bool.false_or, isl, c_eql _ _ _ (ints_ok12 _) e1 e2 (ints_eqv _)]
    refine (seq1 (fr' := [f0, f1, v2, v3, some s.d, v5, v6, v7, v8, some (.tup (as.map actD)), some (.ref m), some (.ref hs.length)]) (hs' := (hs ++ [OD.lst ((s.rows 0 as).map D.int)]).set hs.length (.lst ((s.rows 0 as).map .int ++ [.str "odd"]))) ?_).trans ?_
    · simp only [ss_nil, ss_cons, s_set, s_expr, s_ret, s_ite, s_pass, s_cont, s_rais, v_var, v_cst, v_bin, v_neg, v_not, v_and, v_or, v_cmp, v_chain, v_isN, v_notN, v_ite, v_tup, v_lst, v_idx, v_slice, v_call, v_blt, v_mth, evEs, evIt, asg, asgs, wipes, bindC, setAll, Res.bind_ok, Res.bind_exn, Res.then_ok, Res.then_exn, Res.calm_ok, RS.seq_nx, RS.seq_rt, RS.seq_ct, RS.seq_exn, List.getElem?_cons_zero, List.getElem?_cons_succ, List.set_cons_zero, List.set_cons_succ, if_true, if_false, eq_self, Bool.false_eq_true, decide_true, decide_false, Bool.not_true, Bool.not_false, Bool.and_true, Bool.true_and, Bool.and_false, Bool.false_and, Bool.or_true, Bool.true_or, Bool.or_false, Bool.false_or, mo_app e1, m_app e1 hlt]
    simp only [ss_nil, ss_cons, s_set, s_expr, s_ret, s_ite, s_pass, s_cont, s_rais, v_var, v_cst, v_bin, v_neg, v_not, v_and, v_or, v_cmp, v_chain, v_isN, v_notN, v_ite, v_tup, v_lst, v_idx, v_slice, v_call, v_blt, v_mth, evEs, evIt, asg, asgs, wipes, bindC, setAll, Res.bind_ok, Res.bind_exn, Res.then_ok, Res.then_exn, Res.calm_ok, RS.seq_nx, RS.seq_rt, RS.seq_ct, RS.seq_exn, List.getElem?_cons_zero, List.getElem?_cons_succ, List.set_cons_zero, List.set_cons_succ, if_true, if_false, eq_self, Bool.false_eq_true, decide_true, decide_false, Bool.not_true, Bool.not_false, Bool.and_true, Bool.true_and, Bool.and_false, Bool.false_and, Bool.or_true, Bool.true_or, Bool.or_false, Bool.false_or]
  · rw [List.getElem?_set_ne (by omega)]; exact e2

theorem k11_round (L : LibK11 F) (ns : List Int) (kk : Int) (k0 : 0 ≤ kk) (k1 : kk < 100) (v2 v3 v4 v5 v6 v7 v8 v9 v10 v11 : Option D) :
    ∃ hs' w2 w3 w4 w5 w6 w7 w8 w9 w10 w11, evSs (callF F (k+6)) (c_law_k11.body.nth 0).sub [some (.scr ns), some (.int kk), v2, v3, v4, v5, v6, v7, v8, v9, v10, v11] hs = .nx [some (.scr ns), some (.int kk), w2, w3, w4, w5, w6, w7, w8, w9, w10, w11] hs' := by
  obtain ⟨a, b, q1, q2⟩ := source_ok (k := k+5) (hs := hs) L.p3 ns kk k0 k1
  have S0 : Sr hs.length (hs ++ [.lst [.int a, .int b]]) := ⟨a, b, List.getElem?_concat_length, q2⟩
  obtain ⟨s, hs3, q3, m3, g⟩ := law_scale_ok (k := k+3) L.toLibSrc S0
  generalize hn : hs.length = n at *
  -- the nets
  obtain ⟨fr4, hs4, l4, x2, x5, x6, x7, x8, x9, x10, x11, f4, S4⟩ := loopL_inv (ds := (List.range (12 - 0 : Int).toNat).map fun k : Nat => D.int (0 + (k : Nat))) (i := 0)
    (f := fun d fr hs => (asg (callF F (k+6)) (.var 5) d fr hs).then fr fun fr hs => evSs (callF F (k+6)) ((((c_law_k11.body.nth 0).sub).nth 2).sub) fr hs)
    (Inv := fun i fr hs' => ∃ v2 v5 v6 v7 v8 v9 v10 v11, fr = [some (.scr ns), some (.int kk), v2, some (.ref n), some s.d, v5, v6, v7, v8, v9, v10, v11] ∧ Sr n hs') (fun j d fr hs' hd ⟨v2, v5, v6, v7, v8, v9, v10, v11, e1, S⟩ => by
      subst e1
      obtain ⟨hs6, w2, w6, w7, w8, t1, t2⟩ := k11_turnA (k := k+1) L S s g (some (.scr ns)) (some (.int kk)) v2 (some d) v6 v7 v8 v9 v10 v11
      refine ⟨_, hs6, .inl ?_, w2, some d, w6, w7, w8, v9, v10, v11, rfl, t2.1⟩
      simp only [asg, Res.then_ok, List.set_cons_zero, List.set_cons_succ]
      exact t1) (fr := [some (.scr ns), some (.int kk), v2, some (.ref n), some s.d, v5, v6, v7, v8, v9, v10, v11]) (hs := hs3) ⟨_, _, _, _, _, _, _, _, rfl, m3.1⟩
  subst f4
  -- the row
  have S5 : Sr n (hs4 ++ [.lst []]) := by
    obtain ⟨x, y, h1, h2⟩ := S4
    have hl : n < hs4.length := by
      rcases Nat.lt_or_ge n hs4.length with z | z
      · exact z
      · rw [List.getElem?_eq_none z] at h1; cases h1
    exact ⟨x, y, by rw [List.getElem?_append_left hl]; exact h1, h2⟩
  have hmn : hs4.length ≠ n := by
    obtain ⟨x, y, h1, h2⟩ := S4
    intro z
    rw [List.getElem?_eq_none (by omega)] at h1; cases h1
  obtain ⟨w, hs5, q5, m5, c5⟩ := chosen_ok (k := k+4) L.p1 L.p2 S5 [.int 0, .int 3, .int 12, .int 100] (by simp) (by simp)
  have w' : ∃ i : Int, w = .int i ∧ 0 ≤ i ∧ i ≤ 100 := by
    simp only [List.mem_cons, List.not_mem_nil, or_false] at c5
    rcases c5 with rfl | rfl | rfl | rfl <;> exact ⟨_, rfl, by decide, by decide⟩
  obtain ⟨w, rfl, w1, w2⟩ := w'
  have hm5 : hs5[hs4.length]? = some (.lst ((s.rows 0 []).map .int)) := by
    rw [← m5.other hmn]
    exact List.getElem?_concat_length
  generalize hm : hs4.length = m at *
  obtain ⟨fr6, hs6, l6, as, y5, y8, y11, f6, a1, a2, a3, a4⟩ := loopL_inv (ds := (List.range (w - 0 : Int).toNat).map fun k : Nat => D.int (0 + (k : Nat))) (i := 0)
    (f := fun d fr hs => (asg (callF F (k+6)) (.var 5) d fr hs).then fr fun fr hs => evSs (callF F (k+6)) ((((c_law_k11.body.nth 0).sub).nth 4).sub) fr hs)
    (Inv := fun i fr hs' => ∃ as v5 v8 v11, fr = [some (.scr ns), some (.int kk), x2, some (.ref n), some s.d, v5, x6, some (.int (s.nets 0 as)), v8, some (.tup (as.map actD)), some (.ref m), v11] ∧ as.length = i ∧ (∀ a ∈ as, actG a) ∧ Sr n hs' ∧ hs'[m]? = some (.lst ((s.rows 0 as).map .int))) (fun j d fr hs' hd ⟨as, v5, v8, v11, e1, a1, a2, a3, a4⟩ => by
      subst e1
      obtain ⟨rfl, hj⟩ := rng_at hd
      obtain ⟨hs7, a, t1, t2, t3, t4⟩ := k11_turnB (k := k+1) L hmn a3 s g as (by omega) a4 (some (.scr ns)) (some (.int kk)) x2 (some (.int (0 + (j : Nat)))) x6 v8 v11
      refine ⟨_, hs7, .inl ?_, as ++ [a], some (.int (0 + (j : Nat))), some (actD a), v11, rfl, by rw [List.length_append, List.length_singleton, a1], fun x hx => (List.mem_append.mp hx).elim (a2 x) fun z => by rw [List.mem_singleton.mp z]; exact t4, t2, t3⟩
      simp only [asg, Res.then_ok, List.set_cons_zero, List.set_cons_succ]
      exact t1) (fr := [some (.scr ns), some (.int kk), x2, some (.ref n), some s.d, x5, x6, some (.int 0), x8, some (.tup []), some (.ref m), x11]) (hs := hs5) ⟨[], _, _, _, rfl, rfl, fun _ z => (by cases z), m5.1, hm5⟩
  subst f6
  have al : as.length ≤ 100 := by
    rw [a1, List.length_map, List.length_range]; omega
  obtain ⟨fr7, hs7, l7, z5, z11, f7, b1⟩ := loopL_inv (ds := (List.range (2 - 0 : Int).toNat).map fun k : Nat => D.int (0 + (k : Nat))) (i := 0)
    (f := fun d fr hs => (asg (callF F (k+6)) (.var 5) d fr hs).then fr fun fr hs => evSs (callF F (k+6)) ((((c_law_k11.body.nth 0).sub).nth 5).sub) fr hs)
    (Inv := fun i fr hs' => ∃ v5 v11, fr = [some (.scr ns), some (.int kk), x2, some (.ref n), some s.d, v5, x6, some (.int (s.nets 0 as)), y8, some (.tup (as.map actD)), some (.ref m), v11] ∧ hs'[m]? = some (.lst ((s.rows 0 as).map .int))) (fun j d fr hs' hd ⟨v5, v11, e1, a4⟩ => by
      subst e1
      obtain ⟨hs8, w11, t1, t2⟩ := k11_turnC (k := k+1) L s g as a2 al a4 (some (.scr ns)) (some (.int kk)) x2 (some (.ref n)) (some d) x6 (some (.int (s.nets 0 as))) y8 v11
      refine ⟨_, hs8, .inl ?_, some d, w11, rfl, t2⟩
      simp only [asg, Res.then_ok, List.set_cons_zero, List.set_cons_succ]
      exact t1) (fr := [some (.scr ns), some (.int kk), x2, some (.ref n), some s.d, y5, x6, some (.int (s.nets 0 as)), y8, some (.tup (as.map actD)), some (.ref m), y11]) (hs := hs6) ⟨_, _, rfl, a4⟩
  subst f7
  refine ⟨hs7, x2, some (.ref n), some s.d, z5, x6, some (.int (s.nets 0 as)), y8, some (.tup (as.map actD)), some (.ref m), z11, ?_⟩
  refine (seq1 (fr' := [some (.scr ns), some (.int kk), v2, some (.ref n), v4, v5, v6, v7, v8, v9, v10, v11]) (hs' := hs ++ [.lst [.int a, .int b]]) ?_).trans ?_
  · simp only [ss_nil, ss_cons, s_set, s_expr, s_ret, s_ite, s_pass, s_cont, s_rais, v_var, v_cst, v_bin, v_neg, v_not, v_and, v_or, v_cmp, v_chain, v_isN, v_notN, v_ite, v_tup, v_lst, v_idx, v_slice, v_call, v_blt, v_mth, evEs, evIt, asg, asgs, wipes, bindC, setAll, Res.bind_ok, Res.bind_exn, Res.then_ok, Res.then_exn, Res.calm_ok, RS.seq_nx, RS.seq_rt, RS.seq_ct, RS.seq_exn, List.getElem?_cons_zero, List.getElem?_cons_succ, List.set_cons_zero, List.set_cons_succ, if_true, if_false, eq_self, Bool.false_eq_true, decide_true, decide_false, Bool.not_true, Bool.not_false, Bool.and_true, Bool.true_and, Bool.and_false, Bool.false_and, Bool.or_true, Bool.true_or, Bool.or_false, Bool.false_or, q1]
  refine (seq1 (fr' := [some (.scr ns), some (.int kk), v2, some (.ref n), some s.d, v5, v6, v7, v8, v9, v10, v11]) (hs' := hs3) ?_).trans ?_
  · simp only [ss_nil, ss_cons, s_set, s_expr, s_ret, s_ite, s_pass, s_cont, s_rais, v_var, v_cst, v_bin, v_neg, v_not, v_and, v_or, v_cmp, v_chain, v_isN, v_notN, v_ite, v_tup, v_lst, v_idx, v_slice, v_call, v_blt, v_mth, evEs, evIt, asg, asgs, wipes, bindC, setAll, Res.bind_ok, Res.bind_exn, Res.then_ok, Res.then_exn, Res.calm_ok, RS.seq_nx, RS.seq_rt, RS.seq_ct, RS.seq_exn, List.getElem?_cons_zero, List.getElem?_cons_succ, List.set_cons_zero, List.set_cons_succ, if_true, if_false, eq_self, Bool.false_eq_true, decide_true, decide_false, Bool.not_true, Bool.not_false, Bool.and_true, Bool.true_and, Bool.and_false, Bool.false_and, Bool.or_true, Bool.true_or, Bool.or_false, Bool.false_or, q3]
  refine (seq1 (s_for (rng_it (lo := 0) (hi := 12) (hs1 := hs3) (hs2 := hs3) ?_ ?_ (by decide) (by decide)) l4)).trans ?_
  · simp only [ss_nil, ss_cons, s_set, s_expr, s_ret, s_ite, s_pass, s_cont, s_rais, v_var, v_cst, v_bin, v_neg, v_not, v_and, v_or, v_cmp, v_chain, v_isN, v_notN, v_ite, v_tup, v_lst, v_idx, v_slice, v_call, v_blt, v_mth, evEs, evIt, asg, asgs, wipes, bindC, setAll, Res.bind_ok, Res.bind_exn, Res.then_ok, Res.then_exn, Res.calm_ok, RS.seq_nx, RS.seq_rt, RS.seq_ct, RS.seq_exn, List.getElem?_cons_zero, List.getElem?_cons_succ, List.set_cons_zero, List.set_cons_succ, if_true, if_false, eq_self, Bool.false_eq_true, decide_true, decide_false, Bool.not_true, Bool.not_false, Bool.and_true, Bool.true_and, Bool.and_false, Bool.false_and, Bool.or_true, Bool.true_or, Bool.or_false, Bool.false_or]
  · simp only [ss_nil, ss_cons, s_set, s_expr, s_ret, s_ite, s_pass, s_cont, s_rais, v_var, v_cst, v_bin, v_neg, v_not, v_and, v_or, v_cmp, v_chain, v_isN, v_notN, v_ite, v_tup, v_lst, v_idx, v_slice, v_call, v_blt, v_mth, evEs, evIt, asg, asgs, wipes, bindC, setAll, Res.bind_ok, Res.bind_exn, Res.then_ok, Res.then_exn, Res.calm_ok, RS.seq_nx, RS.seq_rt, RS.seq_ct, RS.seq_exn, List.getElem?_cons_zero, List.getElem?_cons_succ, List.set_cons_zero, List.set_cons_succ, if_true, if_false, eq_self, Bool.false_eq_true, decide_true, decide_false, Bool.not_true, Bool.not_false, Bool.and_true, Bool.true_and, Bool.and_false, Bool.false_and, Bool.or_true, Bool.true_or, Bool.or_false, Bool.false_or]
  refine (seq1 (fr' := [some (.scr ns), some (.int kk), x2, some (.ref n), some s.d, x5, x6, some (.int 0), x8, some (.tup []), some (.ref m), x11]) (hs' := hs4 ++ [.lst []]) ?_).trans ?_
  · simp only [ss_nil, ss_cons, s_set, s_expr, s_ret, s_ite, s_pass, s_cont, s_rais, v_var, v_cst, v_bin, v_neg, v_not, v_and, v_or, v_cmp, v_chain, v_isN, v_notN, v_ite, v_tup, v_lst, v_idx, v_slice, v_call, v_blt, v_mth, evEs, evIt, asg, asgs, wipes, bindC, setAll, Res.bind_ok, Res.bind_exn, Res.then_ok, Res.then_exn, Res.calm_ok, RS.seq_nx, RS.seq_rt, RS.seq_ct, RS.seq_exn, List.getElem?_cons_zero, List.getElem?_cons_succ, List.set_cons_zero, List.set_cons_succ, if_true, if_false, eq_self, Bool.false_eq_true, decide_true, decide_false, Bool.not_true, Bool.not_false, Bool.and_true, Bool.true_and, Bool.and_false, Bool.false_and, Bool.or_true, Bool.true_or, Bool.or_false, Bool.false_or, f_t, hm]
  refine (seq1 (s_for (rng_it (lo := 0) (hi := w) (hs1 := hs4 ++ [.lst []]) (hs2 := hs5) ?_ ?_ (by decide) (by omega)) l6)).trans ?_
  · simp only [ss_nil, ss_cons, s_set, s_expr, s_ret, s_ite, s_pass, s_cont, s_rais, v_var, v_cst, v_bin, v_neg, v_not, v_and, v_or, v_cmp, v_chain, v_isN, v_notN, v_ite, v_tup, v_lst, v_idx, v_slice, v_call, v_blt, v_mth, evEs, evIt, asg, asgs, wipes, bindC, setAll, Res.bind_ok, Res.bind_exn, Res.then_ok, Res.then_exn, Res.calm_ok, RS.seq_nx, RS.seq_rt, RS.seq_ct, RS.seq_exn, List.getElem?_cons_zero, List.getElem?_cons_succ, List.set_cons_zero, List.set_cons_succ, if_true, if_false, eq_self, Bool.false_eq_true, decide_true, decide_false, Bool.not_true, Bool.not_false, Bool.and_true, Bool.true_and, Bool.and_false, Bool.false_and, Bool.or_true, Bool.true_or, Bool.or_false, Bool.false_or]
  · simp only [ss_nil, ss_cons, s_set, s_expr, s_ret, s_ite, s_pass, s_cont, s_rais, v_var, v_cst, v_bin, v_neg, v_not, v_and, v_or, v_cmp, v_chain, v_isN, v_notN, v_ite, v_tup, v_lst, v_idx, v_slice, v_call, v_blt, v_mth, evEs, evIt, asg, asgs, wipes, bindC, setAll, Res.bind_ok, Res.bind_exn, Res.then_ok, Res.then_exn, Res.calm_ok, RS.seq_nx, RS.seq_rt, RS.seq_ct, RS.seq_exn, List.getElem?_cons_zero, List.getElem?_cons_succ, List.set_cons_zero, List.set_cons_succ, if_true, if_false, eq_self, Bool.false_eq_true, decide_true, decide_false, Bool.not_true, Bool.not_false, Bool.and_true, Bool.true_and, Bool.and_false, Bool.false_and, Bool.or_true, Bool.true_or, Bool.or_false, Bool.false_or, f_f, q5]
  refine (seq1 (s_for (rng_it (lo := 0) (hi := 2) (hs1 := hs6) (hs2 := hs6) ?_ ?_ (by decide) (by decide)) l7)).trans ?_
  · simp only [ss_nil, ss_cons, s_set, s_expr, s_ret, s_ite, s_pass, s_cont, s_rais, v_var, v_cst, v_bin, v_neg, v_not, v_and, v_or, v_cmp, v_chain, v_isN, v_notN, v_ite, v_tup, v_lst, v_idx, v_slice, v_call, v_blt, v_mth, evEs, evIt, asg, asgs, wipes, bindC, setAll, Res.bind_ok, Res.bind_exn, Res.then_ok, Res.then_exn, Res.calm_ok, RS.seq_nx, RS.seq_rt, RS.seq_ct, RS.seq_exn, List.getElem?_cons_zero, List.getElem?_cons_succ, List.set_cons_zero, List.set_cons_succ, if_true, if_false, eq_self, Bool.false_eq_true, decide_true, decide_false, Bool.not_true, Bool.not_false, Bool.and_true, Bool.true_and, Bool.and_false, Bool.false_and, Bool.or_true, Bool.true_or, Bool.or_false, Bool.false_or]
  · simp only [ss_nil, ss_cons, s_set, s_expr, s_ret, s_ite, s_pass, s_cont, s_rais, v_var, v_cst, v_bin, v_neg, v_not, v_and, v_or, v_cmp, v_chain, v_isN, v_notN, v_ite, v_tup, v_lst, v_idx, v_slice, v_call, v_blt, v_mth, evEs, evIt, asg, asgs, wipes, bindC, setAll, Res.bind_ok, Res.bind_exn, Res.then_ok, Res.then_exn, Res.calm_ok, RS.seq_nx, RS.seq_rt, RS.seq_ct, RS.seq_exn, List.getElem?_cons_zero, List.getElem?_cons_succ, List.set_cons_zero, List.set_cons_succ, if_true, if_false, eq_self, Bool.false_eq_true, decide_true, decide_false, Bool.not_true, Bool.not_false, Bool.and_true, Bool.true_and, Bool.and_false, Bool.false_and, Bool.or_true, Bool.true_or, Bool.or_false, Bool.false_or]
  refine (seq1 (fr' := [some (.scr ns), some (.int kk), x2, some (.ref n), some s.d, z5, x6, some (.int (s.nets 0 as)), y8, some (.tup (as.map actD)), some (.ref m), z11]) (hs' := hs7) ?_).trans ?_
  · simp only [ss_nil, ss_cons, s_set, s_expr, s_ret, s_ite, s_pass, s_cont, s_rais, v_var, v_cst, v_bin, v_neg, v_not, v_and, v_or, v_cmp, v_chain, v_isN, v_notN, v_ite, v_tup, v_lst, v_idx, v_slice, v_call, v_blt, v_mth, evEs, evIt, asg, asgs, wipes, bindC, setAll, Res.bind_ok, Res.bind_exn, Res.then_ok, Res.then_exn, Res.calm_ok, RS.seq_nx, RS.seq_rt, RS.seq_ct, RS.seq_exn, List.getElem?_cons_zero, List.getElem?_cons_succ, List.set_cons_zero, List.set_cons_succ, if_true, if_false, eq_self, Bool.false_eq_true, decide_true, decide_false, Bool.not_true, Bool.not_false, Bool.and_true, Bool.true_and, Bool.and_false, Bool.false_and, Bool.or_true, Bool.true_or, Bool.or_false, Bool.false_or, refuses_ok (k := k) L s g]
  simp only [ss_nil, ss_cons, s_set, s_expr, s_ret, s_ite, s_pass, s_cont, s_rais, v_var, v_cst, v_bin, v_neg, v_not, v_and, v_or, v_cmp, v_chain, v_isN, v_notN, v_ite, v_tup, v_lst, v_idx, v_slice, v_call, v_blt, v_mth, evEs, evIt, asg, asgs, wipes, bindC, setAll, Res.bind_ok, Res.bind_exn, Res.then_ok, Res.then_exn, Res.calm_ok, RS.seq_nx, RS.seq_rt, RS.seq_ct, RS.seq_exn, List.getElem?_cons_zero, List.getElem?_cons_succ, List.set_cons_zero, List.set_cons_succ, if_true, if_false, eq_self, Bool.false_eq_true, decide_true, decide_false, Bool.not_true, Bool.not_false, Bool.and_true, Bool.true_and, Bool.and_false, Bool.false_and, Bool.or_true, Bool.true_or, Bool.or_false, Bool.false_or]
theorem law_k11 (L : LibK11 F) (ns : List Int) : callF F (k+7) 46 [.scr ns] [] = .ok (.bl true) [] := by
  rw [callF_eq L.l4 rfl]
  show close true [] (evSs (callF F (k+6)) c_law_k11.body [some (.scr ns), none, none, none, none, none, none, none, none, none, none, none] []) = _
  generalize hA : (if (if (ns.length : Int) < 24 then (ns.length : Int) else 24) > 6 then (if (ns.length : Int) < 24 then (ns.length : Int) else 24) else 6) = A
  have A1 : 6 ≤ A ∧ A ≤ 24 := by
    rw [← hA]
    split <;> split <;> omega
  obtain ⟨fr', hs2, e, v1, v2, v3, v4, v5, v6, v7, v8, v9, v10, v11, e1⟩ := loopL_inv (ds := (List.range (A - 0).toNat).map fun k : Nat => D.int (0 + (k : Nat))) (i := 0)
    (f := fun d fr hs => (asg (callF F (k+6)) (.var 1) d fr hs).then fr fun fr hs => evSs (callF F (k+6)) (c_law_k11.body.nth 0).sub fr hs)
    (Inv := fun i fr hs' => ∃ v1 v2 v3 v4 v5 v6 v7 v8 v9 v10 v11, fr = [some (.scr ns), v1, v2, v3, v4, v5, v6, v7, v8, v9, v10, v11]) (fun j d fr hs hd ⟨v1, v2, v3, v4, v5, v6, v7, v8, v9, v10, v11, e1⟩ => by
      subst e1
      obtain ⟨rfl, hj⟩ := rng_at hd
      obtain ⟨hs', w2, w3, w4, w5, w6, w7, w8, w9, w10, w11, t⟩ := k11_round (k := k) (hs := hs) L ns (0 + (j : Int)) (by omega) (by omega) v2 v3 v4 v5 v6 v7 v8 v9 v10 v11
      refine ⟨_, hs', .inl ?_, some (.int (0 + (j : Nat))), w2, w3, w4, w5, w6, w7, w8, w9, w10, w11, rfl⟩
      simp only [asg, Res.then_ok, List.set_cons_zero, List.set_cons_succ]
      exact t) (fr := [some (.scr ns), none, none, none, none, none, none, none, none, none, none, none]) (hs := []) ⟨_, _, _, _, _, _, _, _, _, _, _, rfl⟩
  subst e1
  refine (cseq (s_for (rng_it (lo := 0) (hi := A) (hs1 := []) (hs2 := []) ?_ ?_ (by decide) (by omega)) e)).trans ?_
  · simp only [ss_nil, ss_cons, s_set, s_expr, s_ret, s_ite, s_pass, s_cont, s_rais, v_var, v_cst, v_bin, v_neg, v_not, v_and, v_or, v_cmp, v_chain, v_isN, v_notN, v_ite, v_tup, v_lst, v_idx, v_slice, v_call, v_blt, v_mth, evEs, evIt, asg, asgs, wipes, bindC, setAll, Res.bind_ok, Res.bind_exn, Res.then_ok, Res.then_exn, Res.calm_ok, RS.seq_nx, RS.seq_rt, RS.seq_ct, RS.seq_exn, List.getElem?_cons_zero, List.getElem?_cons_succ, List.set_cons_zero, List.set_cons_succ, if_true, if_false, eq_self, Bool.false_eq_true, decide_true, decide_false, Bool.not_true, Bool.not_false, Bool.and_true, Bool.true_and, Bool.and_false, Bool.false_and, Bool.or_true, Bool.true_or, Bool.or_false, Bool.false_or]
  · simp only [ss_nil, ss_cons, s_set, s_expr, s_ret, s_ite, s_pass, s_cont, s_rais, v_var, v_cst, v_bin, v_neg, v_not, v_and, v_or, v_cmp, v_chain, v_isN, v_notN, v_ite, v_tup, v_lst, v_idx, v_slice, v_call, v_blt, v_mth, evEs, evIt, asg, asgs, wipes, bindC, setAll, Res.bind_ok, Res.bind_exn, Res.then_ok, Res.then_exn, Res.calm_ok, RS.seq_nx, RS.seq_rt, RS.seq_ct, RS.seq_exn, List.getElem?_cons_zero, List.getElem?_cons_succ, List.set_cons_zero, List.set_cons_succ, if_true, if_false, eq_self, Bool.false_eq_true, decide_true, decide_false, Bool.not_true, Bool.not_false, Bool.and_true, Bool.true_and, Bool.and_false, Bool.false_and, Bool.or_true, Bool.true_or, Bool.or_false, Bool.false_or, b_add, b_sub, c_lt, c_le, c_gt, c_ge, c_eqi, c_nei, c_eqs, c_nes, c_eqis, c_neis, c_eqsi, c_nesi, l_int, l_abs, l_min, l_max, l_lenS, l_lenT, l_lenL, l_isi_int, l_isi_str, l_isi_tup, l_isi_lst, l_isi_bl, l_isi_non, i_scr, i_tup, i_lst, tyq, reduceCtorEq, f_t, f_f, Option.map_some, List.length_cons, List.length_nil, hA]
  have r1 : callF F (k+6) 39 [.tup [.int 10, .str "near", .int 0, .str "exact"], .int 5] hs2 = .ok (.int 10) hs2 := shown_ok (k := k+2) L.toLibNet ⟨10, true, 0, false⟩ ⟨by decide, by decide, by decide, by decide⟩ 5 (by decide) (by decide)
  have r2 : callF F (k+6) 39 [.tup [.int 10, .str "near", .int 0, .str "exact"], .int (-5)] hs2 = .ok (.int 0) hs2 := shown_ok (k := k+2) L.toLibNet ⟨10, true, 0, false⟩ ⟨by decide, by decide, by decide, by decide⟩ (-5) (by decide) (by decide)
  have r3 : callF F (k+6) 39 [.tup [.int 3, .str "down", .int 5, .str "exact"], .int (-1)] hs2 = .ok (.int (-3)) hs2 := shown_ok (k := k+2) L.toLibNet ⟨3, false, 5, false⟩ ⟨by decide, by decide, by decide, by decide⟩ (-1) (by decide) (by decide)
  have r4 : callF F (k+6) 40 [.tup [.int 4, .str "near", .int 1, .str "shown"], .int 6, .str "tare"] hs2 = .ok (.int (-2)) hs2 := net_behind_ok (k := k+2) L.toLibNet ⟨4, true, 1, true⟩ ⟨by decide, by decide, by decide, by decide⟩ 6 (by decide) (by decide) none trivial
  have eq : cmpB .eq (.lst [.int 10, .int 0, .int (-3)]) (.lst [.int 10, .int 0, .int (-3)]) hs2 = some true := by rfl
  refine (cseq (fr' := [some (.scr ns), v1, some (.lst [.int 10, .int 0, .int (-3)]), v3, v4, v5, v6, v7, v8, v9, v10, v11]) (hs' := hs2) ?_).trans ?_
  · simp only [ss_nil, ss_cons, s_set, s_expr, s_ret, s_ite, s_pass, s_cont, s_rais, v_var, v_cst, v_bin, v_neg, v_not, v_and, v_or, v_cmp, v_chain, v_isN, v_notN, v_ite, v_tup, v_lst, v_idx, v_slice, v_call, v_blt, v_mth, evEs, evIt, asg, asgs, wipes, bindC, setAll, Res.bind_ok, Res.bind_exn, Res.then_ok, Res.then_exn, Res.calm_ok, RS.seq_nx, RS.seq_rt, RS.seq_ct, RS.seq_exn, List.getElem?_cons_zero, List.getElem?_cons_succ, List.set_cons_zero, List.set_cons_succ, if_true, if_false, eq_self, Bool.false_eq_true, decide_true, decide_false, Bool.not_true, Bool.not_false, Bool.and_true, Bool.true_and, Bool.and_false, Bool.false_and, Bool.or_true, Bool.true_or, Bool.or_false, Bool.false_or, f_f, r1, r2, r3]
  refine (cseqR (d := .bl true) (hs' := hs2) ?_).trans ?_
  · simp only [ss_nil, ss_cons, s_set, s_expr, s_ret, s_ite, s_pass, s_cont, s_rais, v_var, v_cst, v_bin, v_neg, v_not, v_and, v_or, v_cmp, v_chain, v_isN, v_notN, v_ite, v_tup, v_lst, v_idx, v_slice, v_call, v_blt, v_mth, evEs, evIt, asg, asgs, wipes, bindC, setAll, Res.bind_ok, Res.bind_exn, Res.then_ok, Res.then_exn, Res.calm_ok, RS.seq_nx, RS.seq_rt, RS.seq_ct, RS.seq_exn, List.getElem?_cons_zero, List.getElem?_cons_succ, List.set_cons_zero, List.set_cons_succ, if_true, if_false, eq_self, Bool.false_eq_true, decide_true, decide_false, Bool.not_true, Bool.not_false, Bool.and_true, Bool.true_and, Bool.and_false, Bool.false_and, Bool.or_true, Bool.true_or, Bool.or_false, Bool.false_or, f_f, eq, r4, c_eqi]
  · rfl
end
end WG

set_option Elab.async false
set_option linter.all false
set_option maxRecDepth 100000
set_option maxHeartbeats 0
set_option autoImplicit false
namespace WG
namespace K11
open PySem PySem.Spec PyProof.Rows L2
def top (i : Nat) : Stmt := PySem.Challenge.pw_weighedin_k11_what_is_shown.main.body.getD i (.Pass ⟨0, 0, 0, 0⟩)
def dOf (x : Str) (i : Nat) : He.DefD := match top i with
  | .FunctionDef name args body _ _ _ scope _ _ _ => ⟨(x, none), x, x, args, body, scope, [], []⟩
  | _ => ⟨(x, none), x, x, ⟨[], [], none, [], [], none, []⟩, [], ⟨.function, [], false, false, []⟩, [], []⟩
def d_is_whole : Df := ⟨dOf "is_whole" 10, ["value", "low", "high"], c_is_whole⟩
def d_is_word : Df := ⟨dOf "is_word" 11, ["value", "words"], c_is_word⟩
def d_is_right_scale : Df := ⟨dOf "is_right_scale" 12, ["value"], c_is_right_scale⟩
def d_shows : Df := ⟨dOf "shows" 13, ["scale", "net", "step"], c_shows⟩
def d_held : Df := ⟨dOf "held" 14, ["scale", "net"], c_held⟩
def d_after_act : Df := ⟨dOf "after_act" 15, ["scale", "net", "act"], c_after_act⟩
def d_need_scale : Df := ⟨dOf "need_scale" 16, ["value"], c_need_scale⟩
def d_need_net : Df := ⟨dOf "need_net" 17, ["value"], c_need_net⟩
def d_is_act : Df := ⟨dOf "is_act" 18, ["value"], c_is_act⟩
def d_need_act : Df := ⟨dOf "need_act" 19, ["value"], c_need_act⟩
def d_shown : Df := ⟨dOf "shown" 20, ["scale", "net"], c_shown⟩
def d_net_behind : Df := ⟨dOf "net_behind" 21, ["scale", "net", "act"], c_net_behind⟩
def d_row_shown_h : Df := ⟨dOf "row_shown" 24, ["scale", "acts", "found", "net", "act"], c_row_shown_h⟩
def d_law_source : Df := ⟨dOf "_law_source" 26, ["_law_script", "_law_k", "_law_number", "_law_start"], c_law_source⟩
def d_law_pick : Df := ⟨dOf "_law_pick" 27, ["_law_source_here", "_law_many", "_law_found"], c_law_pick⟩
def d_law_chosen : Df := ⟨dOf "_law_chosen" 28, ["_law_source_here", "_law_things"], c_law_chosen⟩
def d_law_scale : Df := ⟨dOf "_law_scale" 29, ["_law_source_here", "_law_step", "_law_hold"], c_law_scale⟩
def d_law_shows_k11 : Df := ⟨dOf "_law_shows" 30, ["_law_scale_here", "_law_net_here", "_law_step", "_law_low"], c_law_shows_k11⟩
def d_law_net : Df := ⟨dOf "_law_net" 31, ["_law_scale_here", "_law_net_here", "_law_act"], c_law_net⟩
def d_law_outcome_k11 : Df := ⟨dOf "_law_outcome" 32, ["_law_call", "_law_scale_here", "_law_value", "_law_act"], c_law_outcome_k11⟩
def d_law_refuses_k11 : Df := ⟨dOf "_law_refuses" 33, ["_law_scale_here", "_law_odd"], c_law_refuses_k11⟩
def d_law_k11 : Df := ⟨dOf "law" 34, ["_law_script", "_law_k", "_law_some", "_law_source_here", "_law_scale_here", "_law_turn", "_law_wide", "_law_net_here", "_law_act", "_law_acts", "_law_due", "_law_found"], c_law_k11⟩
def dfs0 : List (Nat × Df) := [(0, d_is_whole), (1, d_is_word), (2, d_is_right_scale), (32, d_shows), (33, d_held), (34, d_after_act), (35, d_need_scale), (36, d_need_net), (37, d_is_act), (38, d_need_act), (39, d_shown), (40, d_net_behind), (41, d_row_shown_h), (13, d_law_source), (14, d_law_pick), (15, d_law_chosen), (25, d_law_scale), (42, d_law_shows_k11), (43, d_law_net), (44, d_law_outcome_k11), (45, d_law_refuses_k11), (46, d_law_k11)]
def dfs : List (Nat × Df) := dfs0
def glb0 : List (Str × GK) := [("is_whole", .fn 0), ("is_word", .fn 1), ("is_right_scale", .fn 2), ("shows", .fn 32), ("held", .fn 33), ("after_act", .fn 34), ("need_scale", .fn 35), ("need_net", .fn 36), ("is_act", .fn 37), ("need_act", .fn 38), ("shown", .fn 39), ("net_behind", .fn 40), ("row_shown", .fn 41), ("_law_source", .fn 13), ("_law_pick", .fn 14), ("_law_chosen", .fn 15), ("_law_scale", .fn 25), ("_law_shows", .fn 42), ("_law_net", .fn 43), ("_law_outcome", .fn 44), ("_law_refuses", .fn 45), ("law", .fn 46), ("MOST_STEP", .cst (.int 10)), ("MOST_HOLD", .cst (.int 5)), ("MOST_WEIGHT", .cst (.int 300)), ("MOST_NET", .cst (.int 3000)), ("MOST_ACTS", .cst (.int 100)), ("isinstance", .blt), ("int", .blt), ("bool", .blt)]
def glb1 : List (Str × GK) := [("str", .blt), ("tuple", .blt), ("len", .blt), ("abs", .blt), ("all", .blt), ("list", .blt), ("range", .blt), ("max", .blt), ("min", .blt), ("WeighError", .cls 0), ("InvalidScale", .cls 2), ("InvalidNet", .cls 3), ("InvalidAct", .cls 4)]
def glb : List (Str × GK) := glb0 ++ glb1
def clsL : List (Nat × Str) := [(0, "WeighError"), (2, "InvalidScale"), (3, "InvalidNet"), (4, "InvalidAct")]
theorem bd_is_whole : Df.bnd d_is_whole := fun kV doc pm an cdv ct us hl => match us, hl with | [_, _, _], _ => rfl
theorem ok_is_whole : Df.ok glb d_is_whole = true := by kernel_rfl
theorem bd_is_word : Df.bnd d_is_word := fun kV doc pm an cdv ct us hl => match us, hl with | [_, _], _ => rfl
theorem ok_is_word : Df.ok glb d_is_word = true := by kernel_rfl
theorem bd_is_right_scale : Df.bnd d_is_right_scale := fun kV doc pm an cdv ct us hl => match us, hl with | [_], _ => rfl
theorem ok_is_right_scale : Df.ok glb d_is_right_scale = true := by kernel_rfl
theorem bd_shows : Df.bnd d_shows := fun kV doc pm an cdv ct us hl => match us, hl with | [_, _], _ => rfl
theorem ok_shows : Df.ok glb d_shows = true := by kernel_rfl
theorem bd_held : Df.bnd d_held := fun kV doc pm an cdv ct us hl => match us, hl with | [_, _], _ => rfl
theorem ok_held : Df.ok glb d_held = true := by kernel_rfl
theorem bd_after_act : Df.bnd d_after_act := fun kV doc pm an cdv ct us hl => match us, hl with | [_, _, _], _ => rfl
theorem ok_after_act : Df.ok glb d_after_act = true := by kernel_rfl
theorem bd_need_scale : Df.bnd d_need_scale := fun kV doc pm an cdv ct us hl => match us, hl with | [_], _ => rfl
theorem ok_need_scale : Df.ok glb d_need_scale = true := by kernel_rfl
theorem bd_need_net : Df.bnd d_need_net := fun kV doc pm an cdv ct us hl => match us, hl with | [_], _ => rfl
theorem ok_need_net : Df.ok glb d_need_net = true := by kernel_rfl
theorem bd_is_act : Df.bnd d_is_act := fun kV doc pm an cdv ct us hl => match us, hl with | [_], _ => rfl
theorem ok_is_act : Df.ok glb d_is_act = true := by kernel_rfl
theorem bd_need_act : Df.bnd d_need_act := fun kV doc pm an cdv ct us hl => match us, hl with | [_], _ => rfl
theorem ok_need_act : Df.ok glb d_need_act = true := by kernel_rfl
theorem bd_shown : Df.bnd d_shown := fun kV doc pm an cdv ct us hl => match us, hl with | [_, _], _ => rfl
theorem ok_shown : Df.ok glb d_shown = true := by kernel_rfl
theorem bd_net_behind : Df.bnd d_net_behind := fun kV doc pm an cdv ct us hl => match us, hl with | [_, _, _], _ => rfl
theorem ok_net_behind : Df.ok glb d_net_behind = true := by kernel_rfl
theorem bd_row_shown_h : Df.bnd d_row_shown_h := fun kV doc pm an cdv ct us hl => match us, hl with | [_, _], _ => rfl
theorem ok_row_shown_h : Df.ok glb d_row_shown_h = true := by kernel_rfl
theorem bd_law_source : Df.bnd d_law_source := fun kV doc pm an cdv ct us hl => match us, hl with | [_, _], _ => rfl
theorem ok_law_source : Df.ok glb d_law_source = true := by kernel_rfl
theorem bd_law_pick : Df.bnd d_law_pick := fun kV doc pm an cdv ct us hl => match us, hl with | [_, _], _ => rfl
theorem ok_law_pick : Df.ok glb d_law_pick = true := by kernel_rfl
theorem bd_law_chosen : Df.bnd d_law_chosen := fun kV doc pm an cdv ct us hl => match us, hl with | [_, _], _ => rfl
theorem ok_law_chosen : Df.ok glb d_law_chosen = true := by kernel_rfl
theorem bd_law_scale : Df.bnd d_law_scale := fun kV doc pm an cdv ct us hl => match us, hl with | [_], _ => rfl
theorem ok_law_scale : Df.ok glb d_law_scale = true := by kernel_rfl
theorem bd_law_shows_k11 : Df.bnd d_law_shows_k11 := fun kV doc pm an cdv ct us hl => match us, hl with | [_, _], _ => rfl
theorem ok_law_shows_k11 : Df.ok glb d_law_shows_k11 = true := by kernel_rfl
theorem bd_law_net : Df.bnd d_law_net := fun kV doc pm an cdv ct us hl => match us, hl with | [_, _, _], _ => rfl
theorem ok_law_net : Df.ok glb d_law_net = true := by kernel_rfl
theorem bd_law_outcome_k11 : Df.bnd d_law_outcome_k11 := fun kV doc pm an cdv ct us hl => match us, hl with | [_, _, _, _], _ => rfl
theorem ok_law_outcome_k11 : Df.ok glb d_law_outcome_k11 = true := by kernel_rfl
theorem bd_law_refuses_k11 : Df.bnd d_law_refuses_k11 := fun kV doc pm an cdv ct us hl => match us, hl with | [_], _ => rfl
theorem ok_law_refuses_k11 : Df.ok glb d_law_refuses_k11 = true := by kernel_rfl
theorem bd_law_k11 : Df.bnd d_law_k11 := fun kV doc pm an cdv ct us hl => match us, hl with | [_], _ => rfl
theorem ok_law_k11 : Df.ok glb d_law_k11 = true := by kernel_rfl
theorem bds : ∀ p ∈ dfs, Df.bnd p.2 := by
  intro x hx
  simp only [dfs, dfs0, List.mem_append, List.mem_cons, List.not_mem_nil, or_false] at hx
  rcases hx with (rfl | rfl | rfl | rfl | rfl | rfl | rfl | rfl | rfl | rfl | rfl | rfl | rfl | rfl | rfl | rfl | rfl | rfl | rfl | rfl | rfl | rfl)
  · exact bd_is_whole
  · exact bd_is_word
  · exact bd_is_right_scale
  · exact bd_shows
  · exact bd_held
  · exact bd_after_act
  · exact bd_need_scale
  · exact bd_need_net
  · exact bd_is_act
  · exact bd_need_act
  · exact bd_shown
  · exact bd_net_behind
  · exact bd_row_shown_h
  · exact bd_law_source
  · exact bd_law_pick
  · exact bd_law_chosen
  · exact bd_law_scale
  · exact bd_law_shows_k11
  · exact bd_law_net
  · exact bd_law_outcome_k11
  · exact bd_law_refuses_k11
  · exact bd_law_k11
theorem dok : (dfs.all fun p => Df.ok glb p.2) = true := by
  rw [List.all_eq_true]
  intro x hx
  simp only [dfs, dfs0, List.mem_append, List.mem_cons, List.not_mem_nil, or_false] at hx
  rcases hx with (rfl | rfl | rfl | rfl | rfl | rfl | rfl | rfl | rfl | rfl | rfl | rfl | rfl | rfl | rfl | rfl | rfl | rfl | rfl | rfl | rfl | rfl)
  · exact ok_is_whole
  · exact ok_is_word
  · exact ok_is_right_scale
  · exact ok_shows
  · exact ok_held
  · exact ok_after_act
  · exact ok_need_scale
  · exact ok_need_net
  · exact ok_is_act
  · exact ok_need_act
  · exact ok_shown
  · exact ok_net_behind
  · exact ok_row_shown_h
  · exact ok_law_source
  · exact ok_law_pick
  · exact ok_law_chosen
  · exact ok_law_scale
  · exact ok_law_shows_k11
  · exact ok_law_net
  · exact ok_law_outcome_k11
  · exact ok_law_refuses_k11
  · exact ok_law_k11
theorem gok : glb.all (gOk dfs clsL) = true := by kernel_rfl
def loose0 : List Str := ["WeighError", "InvalidScale", "InvalidNet", "InvalidAct", "MOST_STEP", "MOST_HOLD", "MOST_WEIGHT", "MOST_NET", "is_whole", "is_word", "is_right_scale", "shows", "held", "after_act", "need_scale", "need_net", "is_act", "need_act", "shown", "net_behind", "MOST_ACTS", "row_shown", "_law_source", "_law_pick", "_law_chosen", "_law_scale", "_law_shows", "_law_net", "_law_outcome", "_law_refuses"]
def loose : List Str := loose0

def fa : List He.Fa := fasOf glb clsL
def fn : List He.DefD := dfs.map (·.2.d)
abbrev R : PySem.W.OpenRow := PySem.W.OpenLaw.row PySem.Challenge.rw_weighedin_k11_what_is_shown
abbrev hk : PySem.W.Hook := He.hookD 4 fa fn
def ob (s : PySem.W.SharedT) : He.AlD := He.obsDG 4 fa fn (HandSHeadRun.getT s)
theorem ob_eq (s : PySem.W.SharedT) : ob s = hk.obs s.abs := He.obsDG_eq (HandSHeadRun.getT_eq s)
theorem run (w : World) : HandSHeadRun.RunEq R (PySem.W.view R.prog [34]) hk ob 4000 loose w := by
  intro os
  kernel_rfl
end K11
end WG

set_option linter.all false
namespace WG
namespace K11
open PySem
theorem law_ok : ∀ ns : List Int, ns.length ≤ 63 → callF (prgOf dfs) 40 46 [.scr ns] [] = .ok (.bl true) [] := fun ns hn => law_k11 (F := prgOf dfs) (k := 33) { } ns
end K11
end WG

set_option Elab.async false
set_option linter.all false
set_option maxRecDepth 100000
set_option maxHeartbeats 0
set_option autoImplicit false
open PySem PySem.W PySem.Calls PyProof.Rows
theorem PySem.Challenge.cw_weighedin_k11_what_is_shown_holds : PySem.Challenge.rw_weighedin_k11_what_is_shown.Holds := by
  w_on; o_law
  refine HandSHeadRun.head_any (r := OpenLaw.row PySem.Challenge.rw_weighedin_k11_what_is_shown) (q := view (OpenLaw.row PySem.Challenge.rw_weighedin_k11_what_is_shown).prog [34]) (H := WG.K11.hk) (ob := WG.K11.ob) (M := 4000) (loose := WG.K11.loose) (d := HandSHeadRun.topDef (OpenLaw.row PySem.Challenge.rw_weighedin_k11_what_is_shown).prog 34) (kwd := []) WG.K11.ob_eq
    (by kernel_rfl) (fun s => by kernel_rfl) WG.K11.run (by kernel_rfl) (by kernel_rfl) (by kernel_rfl) (by rfl) (by first | assumption | decide +kernel) (by decide +kernel) ⟨rfl, rfl, rfl, rfl, rfl, by decide +kernel⟩ ?hw ?hc
  case hw => w_witness2
  case hc =>
    refine L2.walk_ofE (l := PySem.Challenge.rw_weighedin_k11_what_is_shown) (n := 63) (k := 40) (x := "_law_script") (CX := L2.CX0) rfl (by decide) (by kernel_rfl) ⟨rfl, by decide, by decide⟩ ?F (fun _ _ _ _ z => z)
    intro w mg fa h Y G hmg0
    obtain ⟨K, KX, c⟩ := Y
    have hmg : mg ("law" : PySem.Str) = some (.ref fa) := by
      have e : (HandSHeadRun.topDef (OpenLaw.row PySem.Challenge.rw_weighedin_k11_what_is_shown).prog 34).name = ("law" : PySem.Str) := by kernel_rfl
      rw [← e]
      exact hmg0
    exact WG.law_fn (P := (PySem.Challenge.rw_weighedin_k11_what_is_shown).prog) KX G c WG.K11.dok WG.K11.gok WG.K11.bds (i := 46) (x := WG.K11.d_law_k11) (k := 40) (n := 63) (by rfl) (by rfl) (by rfl) (by rfl) hmg WG.K11.law_ok
