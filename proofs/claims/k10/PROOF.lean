import PyProof.Rows.All
import Wide.All
import OpenK.AllK
import Wide.FinOn
import HandS.ForMost
import HandS.Dict
import KE.KDictKeyed
import HandS.Exc
import HandS.ExcOwn
import HandS.TupMul
import HandS.TupAny
import HandS.Deep
import HandS.Flow
import PyProof.Rows.TupDisplay
import HandS.TupLen
import HandS.TupLe
import HandS.More
import HandS.RaiseMore
import KE.DataCmp
import KE.LtSeq
import KE.DataMinMax
import HandS.Rev
import HandS.NoneIn
import HandS.DictComp
import HandS.TryMany
import HandS.CallRecv
import HandS.ExcField
import HandS.ExcIs
import KE.KExcIs
import HandS.ExcInit
import HandS.Nested
import KE.KExcSuper
import PySem.Challenge.RW_flowform_k10_tokens_of_a_text
set_option Elab.async false
set_option linter.all false
set_option maxRecDepth 100000
/-! Mn, part 1: values by value, a store of cells, the evaluator. -/
namespace Mn
open PySem L2
abbrev NK := PySem.NestedKey
inductive D where
  | non | bl (b : Bool) | int (i : Int) | str (s : Str) | tup (xs : List D) | loc (n : Nat) | lst (xs : List D) | dct (ks : List NK) (vs : List D)
inductive Cell where
  | lst (xs : List D)
  | ro (xs : List D)
  | dct (kvs : List (NK × D))
  | obj (c : Str) (fs : List (Str × D))
abbrev Store := List Cell
/-- an exception: its class, its attributes -/
structure Exn where
  cls : Str
  fs : List (Str × D)
inductive Res (α : Type) where
  | ok (a : α) (S : Store)
  | exc (e : Exn) (S : Store)
  | bad
abbrev M (α : Type) := Store → Res α
namespace M
def ret {α : Type} (a : α) : M α := fun S => .ok a S
def bad {α : Type} : M α := fun _ => .bad
def bind {α β : Type} (m : M α) (f : α → M β) : M β := fun S =>
  match m S with
  | .ok a S' => f a S'
  | .exc e S' => .exc e S'
  | .bad => .bad
end M
def opt {α : Type} : Option α → M α
  | some a => M.ret a
  | none => M.bad
def guard (c : Bool) : M Unit := match c with
  | true => M.ret ()
  | false => M.bad
/-- what must hold so that the run ends well, with Q of its end (E: of an exception) -/
def wpx {α : Type} (m : M α) (Q : α → Store → Prop) (E : Exn → Store → Prop) (S : Store) : Prop :=
  match m S with
  | .ok a S' => Q a S'
  | .exc e S' => E e S'
  | .bad => False
/-- no exception leaves -/
def nx {α : Type} (m : M α) : M α := fun S => match m S with
  | .ok a S' => .ok a S'
  | _ => .bad
def raisM {α : Type} (x : Exn) : M α := fun S => .exc x S
def trapM {α : Type} (m : M α) (h : Exn → M α) : M α := fun S => match m S with
  | .ok a S' => .ok a S'
  | .exc x S' => h x S'
  | .bad => .bad
abbrev E0x : Exn → Store → Prop := fun _ _ => False
abbrev wp {α : Type} (m : M α) (Q : α → Store → Prop) (S : Store) : Prop := wpx m Q E0x S
section
variable {α β : Type} {Q Q' : α → Store → Prop} {E E' : Exn → Store → Prop} {S : Store}
@[simp] theorem wpx_ret {a : α} : wpx (M.ret a) Q E S ↔ Q a S := Iff.rfl
@[simp] theorem wpx_bad : wpx (M.bad : M α) Q E S ↔ False := Iff.rfl
@[simp] theorem wpx_bind {m : M β} {f : β → M α} : wpx (M.bind m f) Q E S ↔ wpx m (fun b S' => wpx (f b) Q E S') E S := by
  show (match M.bind m f S with | .ok a S' => Q a S' | .exc e S' => E e S' | .bad => False) ↔ (match m S with | .ok a S' => _ | .exc e S' => E e S' | .bad => False)
  unfold M.bind
  cases m S <;> exact Iff.rfl
@[simp] theorem wpx_nx {m : M α} : wpx (nx m) Q E S ↔ wpx m Q E0x S := by
  unfold wpx nx
  cases m S <;> exact Iff.rfl
@[simp] theorem wpx_raisM {x : Exn} : wpx (raisM x : M α) Q E S ↔ E x S := Iff.rfl
@[simp] theorem wpx_trapM {m : M α} {h : Exn → M α} : wpx (trapM m h) Q E S ↔ wpx m Q (fun x S' => wpx (h x) Q E S') S := by
  unfold trapM
  show (match (match m S with | .ok a S' => Res.ok a S' | .exc x S' => h x S' | .bad => .bad) with | .ok a S' => Q a S' | .exc e S' => E e S' | .bad => False) ↔ (match m S with | .ok a S' => _ | .exc e S' => _ | .bad => False)
  cases m S <;> exact Iff.rfl
@[simp] theorem wpx_opt_some {a : α} : wpx (opt (some a)) Q E S ↔ Q a S := Iff.rfl
@[simp] theorem wpx_opt_none : wpx (opt (none : Option α)) Q E S ↔ False := Iff.rfl
theorem wpx_opt {o : Option α} : wpx (opt o) Q E S ↔ ∃ a, o = some a ∧ Q a S := by
  cases o with
  | none => exact ⟨fun h => h.elim, fun ⟨_, h, _⟩ => nomatch h⟩
  | some a => exact ⟨fun h => ⟨a, rfl, h⟩, fun ⟨_, h, q⟩ => by cases h; exact q⟩
@[simp] theorem wpx_guard {c : Bool} {Q : Unit → Store → Prop} : wpx (guard c) Q E S ↔ c = true ∧ Q () S := by
  cases c
  · exact ⟨fun h => h.elim, fun h => nomatch h.1⟩
  · exact ⟨fun h => ⟨rfl, h⟩, fun h => h.2⟩
theorem wpx_mono {m : M α} (h : wpx m Q E S) (hq : ∀ a S', Q a S' → Q' a S') (he : ∀ e S', E e S' → E' e S') : wpx m Q' E' S := by
  unfold wpx at *
  cases e : m S with
  | ok a S' => rw [e] at h; exact hq _ _ h
  | exc x S' => rw [e] at h; exact he _ _ h
  | bad => rw [e] at h; exact h
theorem wp_mono {m : M α} (h : wp m Q S) (hq : ∀ a S', Q a S' → Q' a S') : wp m Q' S := wpx_mono h hq fun _ _ x => x
theorem wpx_of_wp {m : M α} (h : wp m Q S) (hq : ∀ a S', Q a S' → Q' a S') : wpx m Q' E S := wpx_mono h hq fun _ _ x => x.elim
end
/-! ### data as the library reads it -/
mutual
def py : D → Option PyData
  | .non => some .none
  | .bl b => some (.bool b)
  | .int i => some (.int i)
  | .str x => some (.str x)
  | .tup xs => (pyAll xs).map .tuple
  | .loc _ => none
  | .lst _ => none
  | .dct _ _ => none
def pyAll : List D → Option (List PyData)
  | [] => some []
  | x :: xs => match py x, pyAll xs with
    | some a, some r => some (a :: r)
    | _, _ => none
end
/-- a tuple, a text, an int ..; or a list of such -/
def py1 (S : Store) : D → Option PyData
  | .loc n => match S[n]? with
    | some (.lst xs) => (pyAll xs).map .list
    | some (.ro xs) => (pyAll xs).map .list
    | _ => none
  | d => py d
inductive BOp where
  | add | sub | mul | mod | fdiv | pow
  deriving DecidableEq
inductive COp where
  | eq | ne | lt | le | gt | ge | isn | isnn | inn | nin
  deriving DecidableEq
inductive Bi where
  | len | int | abs | max2 | min2 | max1 | min1 | sum | list | tuple | str | repr | all | any
  | append | pop0 | pop1 | extend | reverse | insert | join | split | startswith
  | isTuple | isStr | isInt | isBool | isList
  deriving DecidableEq
inductive IK where
  | rng1 | rng2 | rng3 | seq | rev
  deriving DecidableEq
mutual
inductive E where
  | c (d : D) | v (i : Nat) | g (x : Str)
  | bin (o : BOp) (a b : E) | neg (a : E) | cmp (o : COp) (a b : E)
  | cmp3 (o o2 : COp) (a b c : E)
  | tr (a : E) | not (a : E) | and (a b : E) | or (a b : E) | vand (a b : E) | vor (a b : E)
  | ite (c a b : E)
  | tup (es : Es) | lst (es : Es) | dnew | dnew1 (k v : E)
  | idx (a b : E) | slc0 (a : E) | slcL (a lo : E) | slcH (a hi : E) | slcB (a lo hi : E)
  | fld (e : E) (c f : Str) | mcall (c m g : Str) (o : E) (es : Es) | new (c g : Str) (es : Es)
  | call (f : Str) (es : Es) | bi (b : Bi) (es : Es) | meth (b : Bi) (o : E) (es : Es)
  | comp (elt : E) (sl : Nat) (own : List Nat) (k : IK) (es : Es) (cond : E)
  | dcomp (ke ve : E) (sl : Nat) (own : List Nat) (k : IK) (es : Es) (cond : E)
inductive Es where
  | nil | cons (e : E) (r : Es)
end
mutual
inductive Pat where
  | nm (i : Nat) | tup (ps : Pats) | sub (o i : E) | fld (o : E) (c f : Str)
inductive Pats where
  | nil | cons (p : Pat) (r : Pats)
end
/-- an expression of an except suite; f: a field of what is caught; is: is it of one of these classes; sb: str of a bool -/
inductive Hx where
  | c (d : D) | v (i : Nat) | f (n : Str) | is (cs : List Str) | and (a b : Hx) | or (a b : Hx) | not (a : Hx)
  | tup0 | tupC (a : Hx) (r : Hx) | add (a b : Hx) | sb (a : Hx) | eq (a b : Hx)
mutual
inductive Sm where
  | expr (e : E) | set (p : Pat) (e : E) | par (i j : Nat) (a b : E) | aug (i : Nat) (o : BOp) (e : E) | afld (o : E) (c f : Str) (b : BOp) (e : E) | ret (e : E)
  | ife (c : E) (a b : Sms) | whl (c : E) (b : Sms) | fr (p : Pat) (k : IK) (es : Es) (b : Sms)
  | brk | cnt | pass | bad
  | rai (c : Str) (fs : List Str) (es : Es) | tri (b : Sms) (hs : Hds)
inductive Sms where
  | nil | cons (s : Sm) (r : Sms)
/-- except clauses: the classes, the name's slot, the suite -/
inductive Hds where
  | nil | cons (cs : List Str) (sl : Option Nat) (h : Hs) (r : Hds)
/-- an except suite -/
inductive Hs where
  | nil | ret (e : Hx) | set (i : Nat) (e : Hx) (r : Hs) | ife (c a : Hx) (r : Hs) | gen (b : Sms)
end
abbrev Nv := List (Option D)
def alloc (c : Cell) : M D := fun S => .ok (.loc S.length) (S ++ [c])
def rdL (n : Nat) : M (List D) := fun S => match S[n]? with
  | some (.lst xs) => .ok xs S
  | some (.ro xs) => .ok xs S
  | _ => .bad
def getC (n : Nat) : M Cell := fun S => match S[n]? with
  | some c => .ok c S
  | none => .bad
def wrC (n : Nat) (c : Cell) : M Unit := fun S => .ok () (S.set n c)
/-- a list that may be changed -/
def owL (n : Nat) : M (List D) := fun S => match S[n]? with
  | some (.lst xs) => .ok xs S
  | _ => .bad
def wrL (n : Nat) (xs : List D) : M Unit := fun S => .ok () (S.set n (.lst xs))
def ok2 (n : Nat) : Bool := decide (n ≤ sizeLine)
def newL (xs : List D) : M D := M.bind (guard (ok2 xs.length)) fun _ => alloc (.lst xs)
def newT (xs : List D) : M D := M.bind (guard (ok2 xs.length)) fun _ => M.ret (.tup xs)
/-! ### dicts -/
mutual
def keyD : D → Option NK
  | .non => some .none
  | .bl b => some (.num (if b = true then 1 else 0))
  | .int i => some (.num i)
  | .str x => some (.text x)
  | .tup xs => (keysD xs).map .tup
  | .loc _ => none
  | .lst _ => none
  | .dct _ _ => none
def keysD : List D → Option (List NK)
  | [] => some []
  | x :: xs => match keyD x, keysD xs with
    | some a, some r => some (a :: r)
    | _, _ => none
end
/-- a key of a dict: an int, a text, a tuple -/
def dkey : D → Option NK
  | .int i => some (.num i)
  | .str x => some (.text x)
  | .tup xs => match keysD xs with
    | some ks => if (NestedKey.tup ks).depth ≤ 8 then some (.tup ks) else none
    | none => none
  | _ => none
/-- an int, a text -/
def scK : D → Bool
  | .int _ => true
  | .str _ => true
  | _ => false
def isTK : NK → Bool
  | .tup _ => true
  | _ => false
/-- all keys of one kind -/
def fits (k : NK) (kvs : List (NK × D)) : Bool := kvs.all fun p => isTK p.1 == isTK k
def dAt {α : Type} (kvs : List (NK × α)) (k : NK) : Option α := (kvs.find? fun p => decide (p.1 = k)).map (·.2)
def dUp {α : Type} (k : NK) (v : α) (p : NK × α) : NK × α := if p.1 = k then (p.1, v) else p
def dPut {α : Type} (kvs : List (NK × α)) (k : NK) (v : α) : List (NK × α) := if (dAt kvs k).isSome then kvs.map (dUp k v) else kvs ++ [(k, v)]
def dGet (kvs : List (NK × D)) (y : D) : Option D := match dkey y with
  | some k => if fits k kvs = true then dAt kvs k else none
  | none => none
def dHas (kvs : List (NK × D)) (y : D) : Option Bool := match dkey y with
  | some k => if fits k kvs = true then some (dAt kvs k).isSome else none
  | none => none
def dSet (kvs : List (NK × D)) (y v : D) : Option (List (NK × D)) := match dkey y with
  | some k => if fits k kvs = true ∧ kvs.length < sizeLine then some (dPut kvs k v) else none
  | none => none
def cMul (i j : Int) : Bool := (decide (-(2 ^ 64) < i) && decide (i < 2 ^ 64)) || (decide (-(2 ^ 64) < j) && decide (j < 2 ^ 64))
def rep {α : Type} (xs : List α) (n : Nat) : List α := (List.replicate n xs).flatten
def binop : BOp → D → D → M D
  | .add, .int i, .int j => M.ret (.int (i + j))
  | .add, .str x, .str y => M.bind (guard (ok2 (x.length + y.length))) fun _ => M.ret (.str (x ++ y))
  | .add, .tup xs, .tup ys => newT (xs ++ ys)
  | .add, .loc n, .loc m => M.bind (owL n) fun xs => M.bind (owL m) fun ys => newL (xs ++ ys)
  | .sub, .int i, .int j => M.ret (.int (i - j))
  | .mul, .int i, .int j => M.bind (guard (cMul i j)) fun _ => M.ret (.int (i * j))
  | .mul, .str x, .int j => M.bind (guard (decide (x.length ≤ 1000) && decide (-1000 ≤ j) && decide (j ≤ 1000))) fun _ => M.ret (.str ⟨(rep x.cps.toList j.toNat).toArray⟩)
  | .mul, .tup xs, .int j => M.bind (guard (!xs.isEmpty && decide (0 ≤ j) && decide (j ≤ 1000) && decide (xs.length ≤ 1000))) fun _ => M.ret (.tup (rep xs j.toNat))
  | .mul, .loc n, .int j => M.bind (owL n) fun xs => M.bind (guard (decide (-(2 ^ 63) ≤ j) && decide (j < 2 ^ 63) && ok2 (xs.length * j.toNat))) fun _ => alloc (.lst (rep xs j.toNat))
  | .mod, .int i, .int j => M.bind (guard (decide (0 < j))) fun _ => M.ret (.int (i % j))
  | .fdiv, .int i, .int j => M.bind (guard (decide (0 < j) && decide (j < 1073741824))) fun _ => M.ret (.int (i / j))
  | .pow, .int i, .int j => M.bind (guard (decide (0 ≤ j) && decide (j ≤ 1000000) && decide (i.natAbs < 2 ^ 64))) fun _ => M.ret (.int (i ^ j.toNat))
  | _, _, _ => M.bad
def flatD : D → Bool
  | .tup _ => false
  | .loc _ => false
  | .lst _ => false
  | .dct _ _ => false
  | _ => true
/-- data that may be compared -/
def isStrD : D → Bool
  | .str _ => true
  | _ => false
def fitEq (x y : D) (a b : PyData) : Bool := (isStrD x && isStrD y) || (a.canLay0 && b.canLay0 && decide (min a.depth b.depth ≤ 150))
/-! order of data: ints, texts, tuples -/
mutual
def ltD : Nat → D → D → Option Bool
  | _, .int i, .int j => some (decide (i < j))
  | _, .str x, .str y => some (decide (x.cps.toList < y.cps.toList))
  | n + 1, .tup xs, .tup ys => ltDs n xs ys
  | _, _, _ => none
def ltDs : Nat → List D → List D → Option Bool
  | _, [], [] => some false
  | _, [], _ :: _ => some true
  | _, _ :: _, [] => some false
  | n, x :: xs, y :: ys => match py x, py y with
    | some a, some b => if fitEq x y a b = true then (if PyData.eqv a b = true then ltDs n xs ys else ltD n x y) else none
    | _, _ => none
end
def eqM (x y : D) : M Bool := fun S => match py1 S x, py1 S y with
  | some a, some b => if fitEq x y a b = true then .ok (PyData.eqv a b) S else .bad
  | _, _ => .bad
def inAll (x : D) (ys : List D) : Option Bool := match py x, pyAll ys with
  | some a, some bs => if (flatD x && ys.all flatD) || (a.canLay0 && PyData.canLayAll0 bs && decide (min (PyData.depthAll bs) a.depth ≤ 150)) then some (bs.any fun z => PyData.eqv z a) else none
  | _, _ => none
def inC (x : D) : Cell → M Bool
  | .lst ys => opt (inAll x ys)
  | .ro ys => opt (inAll x ys)
  | .dct kvs => opt (dHas kvs x)
  | .obj _ _ => M.bad
def inM (x y : D) : M Bool := match y with
  | .str z => match x with
    | .str w => M.ret (!(Builtin.Str.occurrences z w 0 z.length 1).isEmpty)
    | _ => M.bad
  | .tup ys => opt (inAll x ys)
  | .loc n => M.bind (getC n) fun c => inC x c
  | _ => M.bad
def intsD : List D → Option (List Int)
  | [] => some []
  | .int i :: r => (intsD r).map (i :: ·)
  | _ => none
/-- one row of numbers before another -/
def ltZ : List Int → List Int → Bool
  | [], [] => false
  | [], _ :: _ => true
  | _ :: _, [] => false
  | x :: xs, y :: ys => if x = y then ltZ xs ys else decide (x < y)
def ltZD (xs ys : List D) : Option Bool := match intsD xs, intsD ys with
  | some a, some b => some (ltZ a b)
  | _, _ => none
def cmpop : COp → D → D → M Bool
  | .eq, x, y => eqM x y
  | .ne, x, y => M.bind (eqM x y) fun b => M.ret (!b)
  | .lt, x, y => opt (ltD 100 x y)
  | .gt, .int i, .int j => M.ret (decide (j < i))
  | .le, .int i, .int j => M.ret (decide (i ≤ j))
  | .le, .loc m, .loc n => M.bind (rdL m) fun xs => M.bind (rdL n) fun ys => M.bind (opt (ltZD ys xs)) fun k => M.ret (!k)
  | .ge, .int i, .int j => M.ret (decide (j ≤ i))
  | .isn, x, .non => M.ret (match x with | .non => true | _ => false)
  | .isnn, x, .non => M.ret (match x with | .non => false | _ => true)
  | .inn, x, y => inM x y
  | .nin, x, y => M.bind (inM x y) fun b => M.ret (!b)
  | _, _, _ => M.bad
def truth : D → M Bool
  | .non => M.ret false
  | .bl b => M.ret b
  | .int i => M.ret (i != 0)
  | .str x => M.bind (guard (ok2 x.length)) fun _ => M.ret ((x.length : Int) != 0)
  | .tup xs => M.ret (!xs.isEmpty)
  | .loc n => M.bind (rdL n) fun xs => M.ret (!xs.isEmpty)
  | .lst _ => M.bad
  | .dct _ _ => M.bad
/-- x op= y -/
def augop : BOp → D → D → M D
  | .add, .int i, .int j => M.ret (.int (i + j))
  | .add, .str x, .str y => M.bind (guard (ok2 (x.length + y.length))) fun _ => M.ret (.str (x ++ y))
  | .sub, .int i, .int j => M.ret (.int (i - j))
  | _, _, _ => M.bad
def augI : BOp → D → D → M D
  | .add, .int i, .int j => M.ret (.int (i + j))
  | .sub, .int i, .int j => M.ret (.int (i - j))
  | _, _, _ => M.bad
def asB : D → M Bool
  | .bl b => M.ret b
  | _ => M.bad
def asI : D → M Int
  | .int i => M.ret i
  | _ => M.bad
def strsD : List D → Option (List Str)
  | [] => some []
  | .str x :: r => (strsD r).map (x :: ·)
  | _ => none
def boolsD : List D → Option (List Bool)
  | [] => some []
  | .bl x :: r => (boolsD r).map (x :: ·)
  | _ => none
def idxC : Cell → D → M D
  | .lst xs, .int i => opt (atI xs i)
  | .ro xs, .int i => opt (atI xs i)
  | .dct kvs, y => opt (dGet kvs y)
  | _, _ => M.bad
/-- c[y] = v -/
def putC : Cell → D → D → M Cell
  | .lst xs, .int k, d => M.bind (opt (ixN xs.length k)) fun j => M.ret (.lst (xs.set j d))
  | .dct kvs, y, d => M.bind (opt (dSet kvs y d)) fun kvs' => M.ret (.dct kvs')
  | _, _, _ => M.bad
/-- a dict's entry -/
def putE : Cell → D → D → M Cell
  | .dct kvs, y, d => M.bind (opt (dSet kvs y d)) fun kvs' => M.ret (.dct kvs')
  | _, _, _ => M.bad
def lenC : Cell → M D
  | .lst xs => M.ret (.int xs.length)
  | .ro xs => M.ret (.int xs.length)
  | .dct kvs => M.ret (.int kvs.length)
  | .obj _ _ => M.bad
/-- the cell is no object -/
def noObj : D → M Unit
  | .loc n => M.bind (getC n) fun c => match c with
    | .obj _ _ => M.bad
    | _ => M.ret ()
  | _ => M.ret ()
/-! objects -/
def fPut {α : Type} (f : Str) (v : α) : List (Str × α) → List (Str × α)
  | [] => [(f, v)]
  | (g, x) :: r => if g = f then (g, v) :: r else (g, x) :: fPut f v r
def fldC (c f : Str) : Cell → M D
  | .obj c' fs => M.bind (guard (decide (c' = c))) fun _ => opt (fs.lookup f)
  | _ => M.bad
def fldD (c f : Str) : D → M D
  | .loc n => M.bind (getC n) (fldC c f)
  | _ => M.bad
/-- an object whose method is called -/
def recC (c m : Str) : Cell → M Unit
  | .obj c' fs => guard (decide (c' = c) && (fs.lookup m).isNone)
  | _ => M.bad
def recD (c m : Str) : D → M Unit
  | .loc n => M.bind (getC n) (recC c m)
  | _ => M.bad
def few {α : Type} (fs : List α) : Bool := decide (fs.length ≤ 12)
def setC (c f : Str) (d : D) : Cell → M Cell
  | .obj c' fs => M.bind (guard (decide (c' = c) && few fs)) fun _ => M.ret (.obj c (fPut f d fs))
  | _ => M.bad
def sfdD (c f : Str) (d : D) : D → M Unit
  | .loc n => M.bind (getC n) fun cl => M.bind (setC c f d cl) fun cl' => wrC n cl'
  | _ => M.bad
def index : D → D → M D
  | .tup xs, .int i => opt (atI xs i)
  | .str x, .int i => M.bind (guard (ok2 x.length)) fun _ => opt ((atI x.cps.toList i).map fun c => .str ⟨#[c]⟩)
  | .loc n, y => M.bind (getC n) fun c => idxC c y
  | _, _ => M.bad
def cutD (xs : List D) (lo hi : Option Int) : List D := (xs.drop (HT.sIx xs.length 0 lo)).take (HT.sIx xs.length xs.length hi - HT.sIx xs.length 0 lo)
def slice (x : D) (lo hi : Option Int) : M D := match x with
  | .tup xs => M.ret (.tup (cutD xs lo hi))
  | .str z => M.bind (guard (ok2 z.length)) fun _ => M.ret (.str (cutS z lo hi))
  | .loc n => M.bind (rdL n) fun xs => alloc (.lst (cutD xs lo hi))
  | _ => M.bad
def seqOf : D → M (List D)
  | .tup xs => M.ret xs
  | .loc n => rdL n
  | _ => M.bad
def maxI : List Int → Int
  | [] => 0
  | [x] => x
  | x :: xs => max x (maxI xs)
def minI : List Int → Int
  | [] => 0
  | [x] => x
  | x :: xs => min x (minI xs)
def lenJ (a : Str) (ys : List Str) : Nat := (ys.map (·.length)).sum + ys.length * a.length
def reprM (d : D) : M D := fun S => match py1 S d with
  | some a => if a.showable && !a.hasDict && decide (a.depth ≤ 150) && decide (a.shown.length ≤ sizeLine) then .ok (.str a.shown) S else .bad
  | none => .bad
def builtin : Bi → List D → M D
  | .len, [.str x] => M.bind (guard (ok2 x.length)) fun _ => M.ret (.int x.length)
  | .len, [.loc n] => M.bind (getC n) lenC
  | .len, [d] => M.bind (seqOf d) fun xs => M.ret (.int xs.length)
  | .int, [.int i] => M.ret (.int i)
  | .int, [.bl b] => M.ret (.int (if b then 1 else 0))
  | .abs, [.int i] => M.ret (.int (if i < 0 then -i else i))
  | .max2, [.int i, .int j] => M.ret (.int (if j > i then j else i))
  | .min2, [.int i, .int j] => M.ret (.int (if j < i then j else i))
  | .min2, [.loc m, .loc n] => M.bind (rdL m) fun xs => M.bind (rdL n) fun ys => M.bind (opt (ltZD ys xs)) fun k => M.ret (if k then .loc n else .loc m)
  | .max1, [.loc n] => M.bind (rdL n) fun xs => M.bind (opt (intsD xs)) fun is => M.bind (guard (!is.isEmpty)) fun _ => M.ret (.int (maxI is))
  | .min1, [.loc n] => M.bind (rdL n) fun xs => M.bind (opt (intsD xs)) fun is => M.bind (guard (!is.isEmpty)) fun _ => M.ret (.int (minI is))
  | .sum, [.loc n] => M.bind (rdL n) fun xs => M.bind (opt (intsD xs)) fun is => M.ret (.int is.sum)
  | .list, [d] => M.bind (seqOf d) fun xs => alloc (.lst xs)
  | .tuple, [d] => M.bind (seqOf d) fun xs => M.ret (.tup xs)
  | .str, [.int i] => M.bind (guard (decide (i.natAbs.log2 < 1920))) fun _ => M.ret (.str (toString i))
  | .str, [.str x] => M.ret (.str x)
  | .repr, [.int i] => M.bind (guard (decide (i.natAbs.log2 < 1920))) fun _ => M.ret (.str (toString i))
  | .repr, [.str x] => M.bind (guard (ok2 (reprText x).length)) fun _ => M.ret (.str (reprText x))
  | .repr, [.bl b] => M.ret (.str (if b then "True" else "False"))
  | .repr, [.non] => M.ret (.str "None")
  | .repr, [.tup xs] => reprM (.tup xs)
  | .repr, [.loc n] => reprM (.loc n)
  | .all, [.loc n] => M.bind (rdL n) fun xs => M.bind (opt (boolsD xs)) fun bs => M.ret (.bl (bs.all id))
  | .any, [.loc n] => M.bind (rdL n) fun xs => M.bind (opt (boolsD xs)) fun bs => M.ret (.bl (bs.any id))
  | .append, [.loc n, d] => M.bind (owL n) fun xs => M.bind (guard (decide (xs.length < sizeLine))) fun _ => M.bind (wrL n (xs ++ [d])) fun _ => M.ret .non
  | .pop0, [.loc n] => M.bind (owL n) fun xs => M.bind (opt xs[xs.length - 1]?) fun d => M.bind (wrL n xs.dropLast) fun _ => M.ret d
  | .pop1, [.loc n, .int i] => M.bind (owL n) fun xs => M.bind (guard (decide (-(2 ^ 63) ≤ i) && decide (i < 2 ^ 63))) fun _ =>
      M.bind (opt (seqIndex? i xs.length)) fun k => M.bind (opt xs[k]?) fun d => M.bind (wrL n (xs.eraseIdx k)) fun _ => M.ret d
  | .extend, [.loc n, .loc m] => M.bind (owL n) fun xs => M.bind (owL m) fun ys => M.bind (guard (ok2 (xs.length + ys.length))) fun _ => M.bind (wrL n (xs ++ ys)) fun _ => M.ret .non
  | .extend, [.loc n, .tup ys] => M.bind (owL n) fun xs => M.bind (guard (ok2 (xs.length + ys.length))) fun _ => M.bind (wrL n (xs ++ ys)) fun _ => M.ret .non
  | .insert, [.loc n, .int i, d] => M.bind (owL n) fun xs => M.bind (guard (decide (xs.length < sizeLine) && decide (0 ≤ i) && decide (i < 2 ^ 63))) fun _ => M.bind (wrL n (xs.take i.toNat ++ [d] ++ xs.drop i.toNat)) fun _ => M.ret .non
  | .reverse, [.loc n] => M.bind (owL n) fun xs => M.bind (wrL n xs.reverse) fun _ => M.ret .non
  | .join, [.str a, d] => M.bind (seqOf d) fun xs => M.bind (opt (strsD xs)) fun ys => M.bind (guard (decide (lenJ a ys ≤ 16777216))) fun _ => M.ret (.str (Txt.join a ys))
  | .split, [.str a, .str b] => M.bind (guard (!(b.length == 0) && decide (a.length + 2 ≤ sizeLine))) fun _ => alloc (.lst ((Txt.split a b).map .str))
  | .startswith, [.str a, .str b] => M.ret (.bl (Txt.startswith a b))
  | .isList, [.loc n] => M.bind (rdL n) fun _ => M.ret (.bl true)
  | .isList, [_] => M.ret (.bl false)
  | .isTuple, [d] => M.bind (noObj d) fun _ => M.ret (.bl (match d with | .tup _ => true | _ => false))
  | .isStr, [d] => M.bind (noObj d) fun _ => M.ret (.bl (match d with | .str _ => true | _ => false))
  | .isInt, [d] => M.bind (noObj d) fun _ => M.ret (.bl (match d with | .int _ => true | .bl _ => true | _ => false))
  | .isBool, [d] => M.bind (noObj d) fun _ => M.ret (.bl (match d with | .bl _ => true | _ => false))
  | _, _ => M.bad
/-- the receiver of a method -/
def recv : Bi → D → M Unit
  | .join, .str _ => M.ret ()
  | .split, .str _ => M.ret ()
  | .startswith, .str _ => M.ret ()
  | .append, .loc n => M.bind (rdL n) fun _ => M.ret ()
  | .pop0, .loc n => M.bind (rdL n) fun _ => M.ret ()
  | .pop1, .loc n => M.bind (rdL n) fun _ => M.ret ()
  | .extend, .loc n => M.bind (rdL n) fun _ => M.ret ()
  | .insert, .loc n => M.bind (rdL n) fun _ => M.ret ()
  | .reverse, .loc n => M.bind (rdL n) fun _ => M.ret ()
  | _, _ => M.bad
/-! ### what is walked -/
inductive ItV where
  | rng (lo st : Int) (n : Nat)
  | tup (xs : List D)
  | str (x : Str)
  | lst (n : Nat)
  | rev (n k : Nat)
  | revT (xs : List D)
def mkIt : IK → List D → M ItV
  | .rng1, [.int j] => M.bind (guard (decide (-(2 ^ 62) ≤ j) && decide (j < 2 ^ 62))) fun _ => M.ret (.rng 0 1 j.toNat)
  | .rng2, [.int i, .int j] => M.bind (guard (decide (-(2 ^ 62) ≤ i) && decide (i < 2 ^ 62) && decide (-(2 ^ 62) ≤ j) && decide (j < 2 ^ 62))) fun _ => M.ret (.rng i 1 (j - i).toNat)
  | .rng3, [.int i, .int j, .int c] => M.bind (guard (decide (c ≠ 0) && decide (c.natAbs < 1073741824) && Builtin.Range.small i j c && decide (0 ≤ Builtin.Range.rangeSize i j c))) fun _ => M.ret (.rng i c (Builtin.Range.rangeSize i j c).toNat)
  | .seq, [.tup xs] => M.ret (.tup xs)
  | .seq, [.str x] => M.ret (.str x)
  | .seq, [.loc n] => M.bind (rdL n) fun _ => M.ret (.lst n)
  | .rev, [.loc n] => M.bind (rdL n) fun xs => M.ret (.rev n xs.length)
  | .rev, [.tup xs] => M.ret (.revT xs)
  | _, _ => M.bad
def rd (S : Store) (n : Nat) : Option (List D) := match S[n]? with
  | some (.lst xs) => some xs
  | some (.ro xs) => some xs
  | _ => none
/-- the item of turn i; some none: the walk is over -/
def itO : ItV → Nat → Store → Option (Option D)
  | .rng lo st n, i, _ => some (if i < n then some (.int (lo + (i : Int) * st)) else none)
  | .tup xs, i, _ => some xs[i]?
  | .str x, i, _ => some (x.cps[i]?.map fun c => .str ⟨#[c]⟩)
  | .lst n, i, S => (rd S n).map (·[i]?)
  | .rev n k, i, S => match rd S n with
    | some xs => if xs.length = k then some (if i < k then xs[k - 1 - i]? else none) else none
    | none => none
  | .revT xs, i, _ => some (if i < xs.length then xs[xs.length - 1 - i]? else none)
def itAt (J : ItV) (i : Nat) : M (Option D) := fun S => match itO J i S with
  | some o => .ok o S
  | none => .bad
def FUEL : Nat := 2 ^ 40
inductive Flow where
  | nx | bk | ct | rt (d : D)
/-- one list comprehension's turns, acc the new list's place -/
def compF (J : ItV) (put : D → Nv → Nv) (cond : Nv → M D) (elt : Nv → M D) (env : Nv) (n : Nat) : Nat → Nat → M D
  | 0, _ => M.bad
  | f + 1, i => M.bind (itAt J i) fun o => match o with
    | none => M.ret (.loc n)
    | some d => M.bind (nx (cond (put d env))) fun b => M.bind (asB b) fun b => match b with
      | true => M.bind (nx (elt (put d env))) fun y => M.bind (owL n) fun xs => M.bind (guard (decide (xs.length < sizeLine))) fun _ => M.bind (wrL n (xs ++ [y])) fun _ => compF J put cond elt env n f (i + 1)
      | false => compF J put cond elt env n f (i + 1)
/-- a dict comprehension's turns -/
def dcompF (J : ItV) (put : D → Nv → Nv) (cond : Nv → M D) (ke ve : Nv → M D) (env : Nv) (n : Nat) : Nat → Nat → M D
  | 0, _ => M.bad
  | f + 1, i => M.bind (itAt J i) fun o => match o with
    | none => M.ret (.loc n)
    | some d => M.bind (nx (cond (put d env))) fun b => M.bind (asB b) fun b => match b with
      | true => M.bind (nx (ke (put d env))) fun y => M.bind (guard (scK y)) fun _ => M.bind (nx (ve (put d env))) fun z => M.bind (getC n) fun c => M.bind (putE c y z) fun c' => M.bind (wrC n c') fun _ => dcompF J put cond ke ve env n f (i + 1)
      | false => dcompF J put cond ke ve env n f (i + 1)
def whileF (c : Nv → M D) (b : Nv → M (Flow × Nv)) : Nat → Nv → M (Flow × Nv)
  | 0, _ => M.bad
  | f + 1, env => M.bind (c env) fun x => M.bind (asB x) fun x => match x with
    | false => M.ret (.nx, env)
    | true => M.bind (b env) fun r => match r with
      | (.nx, env') => whileF c b f env'
      | (.ct, env') => whileF c b f env'
      | (.bk, env') => M.ret (.nx, env')
      | (.rt d, env') => M.ret (.rt d, env')
def forF (J : ItV) (asg : D → Nv → M Nv) (b : Nv → M (Flow × Nv)) : Nat → Nat → Nv → M (Flow × Nv)
  | 0, _, _ => M.bad
  | f + 1, i, env => M.bind (itAt J i) fun o => match o with
    | none => M.ret (.nx, env)
    | some d => M.bind (asg d env) fun env1 => M.bind (b env1) fun r => match r with
      | (.nx, env') => forF J asg b f (i + 1) env'
      | (.ct, env') => forF J asg b f (i + 1) env'
      | (.bk, env') => M.ret (.nx, env')
      | (.rt d, env') => M.ret (.rt d, env')
/-! ### the evaluator -/
structure Ctx where
  glob : Str → Option D
  call : Str → List D → M D
def wipeD (env : Nv) : List Nat → Nv
  | [] => env
  | v :: vs => (wipeD env vs).set v none
def putD (i : Nat) (d : D) (env : Nv) : Nv := env.set i (some d)
mutual
def evE (C : Ctx) : E → Nv → M D
  | .c d, _ => M.ret d
  | .v i, env => match env[i]? with
    | some (some d) => M.ret d
    | _ => M.bad
  | .g x, _ => opt (C.glob x)
  | .bin o a b, env => M.bind (evE C a env) fun x => M.bind (evE C b env) fun y => binop o x y
  | .neg a, env => M.bind (evE C a env) fun x => M.bind (asI x) fun i => M.ret (.int (-i))
  | .cmp o a b, env => M.bind (evE C a env) fun x => M.bind (evE C b env) fun y => M.bind (cmpop o x y) fun b => M.ret (.bl b)
  | .cmp3 o o2 a b c, env => M.bind (evE C a env) fun x => M.bind (evE C b env) fun y => M.bind (cmpop o x y) fun k => match k with
    | true => M.bind (evE C c env) fun z => M.bind (cmpop o2 y z) fun k => M.ret (.bl k)
    | false => M.ret (.bl false)
  | .tr a, env => M.bind (evE C a env) fun x => M.bind (truth x) fun b => M.ret (.bl b)
  | .not a, env => M.bind (evE C a env) fun x => M.bind (asB x) fun b => M.ret (.bl (!b))
  | .and a b, env => M.bind (evE C a env) fun x => M.bind (asB x) fun k => match k with
    | true => evE C b env
    | false => M.ret (.bl false)
  | .or a b, env => M.bind (evE C a env) fun x => M.bind (asB x) fun k => match k with
    | true => M.ret (.bl true)
    | false => evE C b env
  | .vand a b, env => M.bind (evE C a env) fun x => M.bind (truth x) fun k => match k with
    | true => evE C b env
    | false => M.ret x
  | .vor a b, env => M.bind (evE C a env) fun x => M.bind (truth x) fun k => match k with
    | true => M.ret x
    | false => evE C b env
  | .ite c a b, env => M.bind (evE C c env) fun x => M.bind (asB x) fun k => match k with
    | true => evE C a env
    | false => evE C b env
  | .tup es, env => M.bind (evEs C es env) fun xs => newT xs
  | .lst es, env => M.bind (evEs C es env) fun xs => newL xs
  | .dnew, _ => alloc (.dct [])
  | .dnew1 k v, env => fun S => (M.bind (evE C k env) fun y => M.bind (evE C v env) fun z => M.bind (getC S.length) fun c => M.bind (putE c y z) fun c' => M.bind (wrC S.length c') fun _ => M.ret (.loc S.length)) (S ++ [.dct []])
  | .idx a b, env => M.bind (evE C a env) fun x => M.bind (evE C b env) fun y => index x y
  | .slc0 a, env => M.bind (evE C a env) fun x => slice x none none
  | .slcL a lo, env => M.bind (evE C a env) fun x => M.bind (evE C lo env) fun y => M.bind (asI y) fun l => slice x (some l) none
  | .slcH a hi, env => M.bind (evE C a env) fun x => M.bind (evE C hi env) fun z => M.bind (asI z) fun h => slice x none (some h)
  | .slcB a lo hi, env => M.bind (evE C a env) fun x => M.bind (evE C lo env) fun y => M.bind (asI y) fun l => M.bind (evE C hi env) fun z => M.bind (asI z) fun h => slice x (some l) (some h)
  | .fld e c f, env => M.bind (evE C e env) fun x => fldD c f x
  | .mcall c m g o es, env => M.bind (evE C o env) fun x => M.bind (recD c m x) fun _ => M.bind (evEs C es env) fun xs => C.call g (x :: xs)
  | .new c g es, env => M.bind (evEs C es env) fun xs => fun S => M.bind (C.call g (.loc S.length :: xs)) (fun v => match v with
    | .non => M.ret (.loc S.length)
    | _ => M.bad) (S ++ [.obj c []])
  | .call f es, env => M.bind (evEs C es env) fun xs => C.call f xs
  | .bi b es, env => M.bind (evEs C es env) fun xs => builtin b xs
  | .meth b o es, env => M.bind (evE C o env) fun x => M.bind (recv b x) fun _ => M.bind (evEs C es env) fun xs => builtin b (x :: xs)
  | .comp elt sl own k es cond, env => M.bind (evEs C es env) fun xs => M.bind (mkIt k xs) fun J => fun S =>
      compF J (putD sl) (evE C cond) (evE C elt) (wipeD env own) S.length FUEL 0 (S ++ [.lst []])
  | .dcomp ke ve sl own k es cond, env => M.bind (evEs C es env) fun xs => M.bind (mkIt k xs) fun J => fun S =>
      dcompF J (putD sl) (evE C cond) (evE C ke) (evE C ve) (wipeD env own) S.length FUEL 0 (S ++ [.dct []])
def evEs (C : Ctx) : Es → Nv → M (List D)
  | .nil, _ => M.ret []
  | .cons e r, env => M.bind (evE C e env) fun x => M.bind (evEs C r env) fun xs => M.ret (x :: xs)
end
mutual
def evP (C : Ctx) : Pat → D → Nv → M Nv
  | .nm i, d, env => M.ret (env.set i (some d))
  | .tup ps, d, env => match d with
    | .tup xs => evPs C ps xs env
    | .loc n => M.bind (rdL n) fun xs => evPs C ps xs env
    | _ => M.bad
  | .sub o i, d, env => M.bind (nx (evE C o env)) fun x => M.bind (nx (evE C i env)) fun y => match x, y with
    | .loc n, y => M.bind (getC n) fun c => M.bind (putC c y d) fun c' => M.bind (wrC n c') fun _ => M.ret env
    | _, _ => M.bad
  | .fld o c f, d, env => M.bind (nx (evE C o env)) fun x => M.bind (sfdD c f d x) fun _ => M.ret env
def evPs (C : Ctx) : Pats → List D → Nv → M Nv
  | .nil, [], env => M.ret env
  | .cons p r, x :: xs, env => M.bind (evP C p x env) fun env' => evPs C r xs env'
  | _, _, _ => M.bad
end
/-- data without places: what an exception carries -/
def scal : D → Bool
  | .non => true
  | .bl _ => true
  | .int _ => true
  | .str _ => true
  | _ => false
def evX (x : Exn) (env : Nv) : Hx → Option D
  | .c d => some d
  | .v i => match env[i]? with
    | some (some d) => some d
    | _ => none
  | .f n => x.fs.lookup n
  | .is cs => some (.bl (cs.contains x.cls))
  | .and a b => match evX x env a with
    | some (.bl true) => match evX x env b with
      | some (.bl k) => some (.bl k)
      | _ => none
    | some (.bl false) => some (.bl false)
    | _ => none
  | .or a b => match evX x env a with
    | some (.bl false) => match evX x env b with
      | some (.bl k) => some (.bl k)
      | _ => none
    | some (.bl true) => some (.bl true)
    | _ => none
  | .not a => match evX x env a with
    | some (.bl k) => some (.bl (!k))
    | _ => none
  | .tup0 => some (.tup [])
  | .tupC a r => match evX x env a, evX x env r with
    | some d, some (.tup ds) => some (.tup (d :: ds))
    | _, _ => none
  | .add a b => match evX x env a, evX x env b with
    | some (.str y), some (.str z) => if ok2 (y.length + z.length) = true then some (.str (y ++ z)) else none
    | _, _ => none
  | .sb a => match evX x env a with
    | some (.bl b) => some (.str (if b then "True" else "False"))
    | _ => none
  | .eq a b => match evX x env a, evX x env b with
    | some (.int i), some (.int j) => some (.bl (decide (i = j)))
    | some (.str y), some (.str z) => some (.bl (decide (y = z)))
    | _, _ => none
def wipeO (env : Nv) : Option Nat → Nv
  | none => env
  | some i => env.set i none
def slOk : Option Nat → Nv → Bool
  | none, _ => true
  | some i, env => decide (i < env.length)
mutual
def evS (C : Ctx) : Sm → Nv → M (Flow × Nv)
  | .expr e, env => M.bind (evE C e env) fun _ => M.ret (.nx, env)
  | .set p e, env => M.bind (evE C e env) fun d => M.bind (evP C p d env) fun env' => M.ret (.nx, env')
  | .par i j a b, env => M.bind (evE C a env) fun x => M.bind (evE C b env) fun y => M.ret (.nx, (env.set i (some x)).set j (some y))
  | .aug i o e, env => match env[i]? with
    | some (some x) => M.bind (evE C e env) fun y => M.bind (augop o x y) fun z => M.ret (.nx, env.set i (some z))
    | _ => M.bad
  | .afld o c f b e, env => M.bind (evE C o env) fun x => M.bind (fldD c f x) fun v => M.bind (evE C e env) fun y => M.bind (augI b v y) fun z => M.bind (sfdD c f z x) fun _ => M.ret (.nx, env)
  | .ret e, env => M.bind (evE C e env) fun d => M.ret (.rt d, env)
  | .ife c a b, env => M.bind (evE C c env) fun x => M.bind (asB x) fun k => match k with
    | true => evSs C a env
    | false => evSs C b env
  | .whl c b, env => whileF (evE C c) (evSs C b) FUEL env
  | .fr p k es b, env => M.bind (evEs C es env) fun xs => M.bind (mkIt k xs) fun J => forF J (evP C p) (evSs C b) FUEL 0 env
  | .brk, env => M.ret (.bk, env)
  | .cnt, env => M.ret (.ct, env)
  | .pass, env => M.ret (.nx, env)
  | .bad, _ => M.bad
  | .rai c fs es, env => M.bind (evEs C es env) fun xs => M.bind (guard (decide (xs.length = fs.length) && xs.all scal)) fun _ => raisM ⟨c, fs.zip xs⟩
  | .tri b hs, env => trapM (evSs C b env) fun x => evHds C x hs env
def evSs (C : Ctx) : Sms → Nv → M (Flow × Nv)
  | .nil, env => M.ret (.nx, env)
  | .cons s r, env => M.bind (evS C s env) fun q => match q with
    | (.nx, env') => evSs C r env'
    | (f, env') => M.ret (f, env')
def evHds (C : Ctx) (x : Exn) : Hds → Nv → M (Flow × Nv)
  | .nil, _ => raisM x
  | .cons cs sl h r, env => match cs.contains x.cls with
    | true => M.bind (guard (slOk sl env)) fun _ => M.bind (evH C x h (wipeO env sl)) fun q => M.ret (q.1, wipeO q.2 sl)
    | false => evHds C x r env
def evH (C : Ctx) (x : Exn) : Hs → Nv → M (Flow × Nv)
  | .nil, env => M.ret (.nx, env)
  | .ret e, env => M.bind (opt (evX x env e)) fun d => M.ret (.rt d, env)
  | .set i e r, env => M.bind (opt (evX x env e)) fun d => evH C x r (env.set i (some d))
  | .ife c a r, env => M.bind (opt (evX x env c)) fun b => M.bind (asB b) fun b => match b with
    | true => M.bind (opt (evX x env a)) fun d => M.ret (.rt d, env)
    | false => evH C x r env
  | .gen b, env => evSs C b env
end
/-- a def: its parameters, the number of its names, its body -/
structure Def where
  arity : Nat
  slots : Nat
  body : Sms
def retOf : Flow × Nv → M D
  | (.nx, _) => M.ret .non
  | (.rt d, _) => M.ret d
  | _ => M.bad
def startD (n : Nat) (ds : List D) : Nv := ds.map some ++ List.replicate (n - ds.length) none
def callD (C : Ctx) (d : Def) (ds : List D) : M D := M.bind (guard (ds.length == d.arity)) fun _ => M.bind (evSs C d.body (startD d.slots ds)) retOf
/-- the defs, called at most n deep -/
def callN (defs : List (Str × Def)) (glob : Str → Option D) : Nat → Str → List D → M D
  | 0, _, _ => M.bad
  | n + 1, f, ds => match defs.lookup f with
    | some d => callD ⟨glob, callN defs glob n⟩ d ds
    | none => M.bad
end Mn
/-! Mn, part 1b: what raises nothing. -/
namespace Mn
open PySem L2
def NoX {α : Type} (m : M α) : Prop := ∀ S x S', m S ≠ .exc x S'
section
variable {α β : Type} {m : M α}
theorem NoX.wp {Q : α → Store → Prop} {E : Exn → Store → Prop} {S : Store} (h : NoX m) (q : wpx m Q E S) : Mn.wp m Q S := by
  show wpx m Q E0x S
  unfold wpx at *
  cases e : m S with
  | ok a S' => rw [e] at q; exact q
  | exc x S' => exact absurd e (h S x S')
  | bad => rw [e] at q; exact q
theorem NoX.iff {Q : α → Store → Prop} {E : Exn → Store → Prop} {S : Store} (h : NoX m) : wpx m Q E S ↔ Mn.wp m Q S := ⟨h.wp, fun q => wpx_mono q (fun _ _ z => z) fun _ _ z => z.elim⟩
theorem NoX.ret {a : α} : NoX (M.ret a) := fun _ _ _ h => nomatch h
theorem NoX.bad : NoX (M.bad : M α) := fun _ _ _ h => nomatch h
theorem NoX.bind {f : α → M β} (h : NoX m) (k : ∀ a, NoX (f a)) : NoX (M.bind m f) := fun S x S' q => by
  unfold M.bind at q
  cases e : m S with
  | ok a S1 => rw [e] at q; exact k a S1 x S' q
  | exc y S1 => exact h S y S1 e
  | bad => rw [e] at q; cases q
theorem NoX.opt {o : Option α} : NoX (opt o) := by cases o <;> exact fun _ _ _ h => nomatch h
theorem NoX.guard {c : Bool} : NoX (guard c) := by cases c <;> exact fun _ _ _ h => nomatch h
theorem nox_alloc {c : Cell} : NoX (alloc c) := fun _ _ _ h => nomatch h
theorem nox_wrC {n : Nat} {c : Cell} : NoX (wrC n c) := fun _ _ _ h => nomatch h
theorem nox_wrL {n : Nat} {c : List D} : NoX (wrL n c) := fun _ _ _ h => nomatch h
theorem nox_rdL {n : Nat} : NoX (rdL n) := fun S x S' h => by unfold rdL at h; split at h <;> cases h
theorem nox_getC {n : Nat} : NoX (getC n) := fun S x S' h => by unfold getC at h; split at h <;> cases h
theorem nox_owL {n : Nat} : NoX (owL n) := fun S x S' h => by unfold owL at h; split at h <;> cases h
theorem nox_eqM {a b : D} : NoX (eqM a b) := fun S x S' h => by unfold eqM at h; split at h <;> (try split at h) <;> cases h
theorem nox_reprM {a : D} : NoX (reprM a) := fun S x S' h => by unfold reprM at h; split at h <;> (try split at h) <;> cases h
theorem nox_itAt {J : ItV} {i : Nat} : NoX (itAt J i) := fun S x S' h => by unfold itAt at h; split at h <;> cases h
end
theorem nox_newT {xs : List D} : NoX (newT xs) := by unfold newT; repeat' (first | exact NoX.bad | exact NoX.ret | exact NoX.opt | exact NoX.guard | exact nox_alloc | exact nox_wrC | exact nox_wrL | exact nox_rdL | exact nox_getC | exact nox_owL | exact nox_eqM | exact nox_reprM | exact nox_itAt | refine NoX.bind ?_ (fun _ => ?_))
theorem nox_newL {xs : List D} : NoX (newL xs) := by unfold newL; repeat' (first | exact NoX.bad | exact NoX.ret | exact NoX.opt | exact NoX.guard | exact nox_alloc | exact nox_wrC | exact nox_wrL | exact nox_rdL | exact nox_getC | exact nox_owL | exact nox_eqM | exact nox_reprM | exact nox_itAt | refine NoX.bind ?_ (fun _ => ?_))
theorem nox_asB {d : D} : NoX (asB d) := by unfold asB; split <;> (first | exact NoX.bad | exact NoX.ret | exact NoX.opt | exact NoX.guard | exact nox_alloc | exact nox_wrC | exact nox_wrL | exact nox_rdL | exact nox_getC | exact nox_owL | exact nox_eqM | exact nox_reprM | exact nox_itAt | refine NoX.bind ?_ (fun _ => ?_))
theorem nox_asI {d : D} : NoX (asI d) := by unfold asI; split <;> (first | exact NoX.bad | exact NoX.ret | exact NoX.opt | exact NoX.guard | exact nox_alloc | exact nox_wrC | exact nox_wrL | exact nox_rdL | exact nox_getC | exact nox_owL | exact nox_eqM | exact nox_reprM | exact nox_itAt | refine NoX.bind ?_ (fun _ => ?_))
theorem nox_seqOf {d : D} : NoX (seqOf d) := by unfold seqOf; split <;> (first | exact NoX.bad | exact NoX.ret | exact NoX.opt | exact NoX.guard | exact nox_alloc | exact nox_wrC | exact nox_wrL | exact nox_rdL | exact nox_getC | exact nox_owL | exact nox_eqM | exact nox_reprM | exact nox_itAt | refine NoX.bind ?_ (fun _ => ?_))
theorem nox_binop {o : BOp} {a b : D} : NoX (binop o a b) := by unfold binop; split <;> (repeat' first | (first | exact NoX.bad | exact NoX.ret | exact NoX.opt | exact NoX.guard | exact nox_alloc | exact nox_wrC | exact nox_wrL | exact nox_rdL | exact nox_getC | exact nox_owL | exact nox_eqM | exact nox_reprM | exact nox_itAt | refine NoX.bind ?_ (fun _ => ?_)) | exact nox_newT | exact nox_newL)
theorem nox_augop {o : BOp} {a b : D} : NoX (augop o a b) := by unfold augop; split <;> (repeat' (first | exact NoX.bad | exact NoX.ret | exact NoX.opt | exact NoX.guard | exact nox_alloc | exact nox_wrC | exact nox_wrL | exact nox_rdL | exact nox_getC | exact nox_owL | exact nox_eqM | exact nox_reprM | exact nox_itAt | refine NoX.bind ?_ (fun _ => ?_)))
theorem nox_augI {o : BOp} {a b : D} : NoX (augI o a b) := by unfold augI; split <;> (repeat' (first | exact NoX.bad | exact NoX.ret | exact NoX.opt | exact NoX.guard | exact nox_alloc | exact nox_wrC | exact nox_wrL | exact nox_rdL | exact nox_getC | exact nox_owL | exact nox_eqM | exact nox_reprM | exact nox_itAt | refine NoX.bind ?_ (fun _ => ?_)))
theorem nox_inC {x : D} {c : Cell} : NoX (inC x c) := by unfold inC; split <;> (repeat' (first | exact NoX.bad | exact NoX.ret | exact NoX.opt | exact NoX.guard | exact nox_alloc | exact nox_wrC | exact nox_wrL | exact nox_rdL | exact nox_getC | exact nox_owL | exact nox_eqM | exact nox_reprM | exact nox_itAt | refine NoX.bind ?_ (fun _ => ?_)))
theorem nox_inM {x y : D} : NoX (inM x y) := by unfold inM; split <;> (repeat' first | (first | exact NoX.bad | exact NoX.ret | exact NoX.opt | exact NoX.guard | exact nox_alloc | exact nox_wrC | exact nox_wrL | exact nox_rdL | exact nox_getC | exact nox_owL | exact nox_eqM | exact nox_reprM | exact nox_itAt | refine NoX.bind ?_ (fun _ => ?_)) | exact nox_inC | split)
theorem nox_cmpop {o : COp} {a b : D} : NoX (cmpop o a b) := by unfold cmpop; split <;> (repeat' first | (first | exact NoX.bad | exact NoX.ret | exact NoX.opt | exact NoX.guard | exact nox_alloc | exact nox_wrC | exact nox_wrL | exact nox_rdL | exact nox_getC | exact nox_owL | exact nox_eqM | exact nox_reprM | exact nox_itAt | refine NoX.bind ?_ (fun _ => ?_)) | exact nox_inM)
theorem nox_truth {d : D} : NoX (truth d) := by unfold truth; split <;> (repeat' (first | exact NoX.bad | exact NoX.ret | exact NoX.opt | exact NoX.guard | exact nox_alloc | exact nox_wrC | exact nox_wrL | exact nox_rdL | exact nox_getC | exact nox_owL | exact nox_eqM | exact nox_reprM | exact nox_itAt | refine NoX.bind ?_ (fun _ => ?_)))
theorem nox_idxC {c : Cell} {d : D} : NoX (idxC c d) := by unfold idxC; split <;> (first | exact NoX.bad | exact NoX.ret | exact NoX.opt | exact NoX.guard | exact nox_alloc | exact nox_wrC | exact nox_wrL | exact nox_rdL | exact nox_getC | exact nox_owL | exact nox_eqM | exact nox_reprM | exact nox_itAt | refine NoX.bind ?_ (fun _ => ?_))
theorem nox_putC {c : Cell} {d e : D} : NoX (putC c d e) := by unfold putC; split <;> (repeat' (first | exact NoX.bad | exact NoX.ret | exact NoX.opt | exact NoX.guard | exact nox_alloc | exact nox_wrC | exact nox_wrL | exact nox_rdL | exact nox_getC | exact nox_owL | exact nox_eqM | exact nox_reprM | exact nox_itAt | refine NoX.bind ?_ (fun _ => ?_)))
theorem nox_putE {c : Cell} {d e : D} : NoX (putE c d e) := by unfold putE; split <;> (repeat' (first | exact NoX.bad | exact NoX.ret | exact NoX.opt | exact NoX.guard | exact nox_alloc | exact nox_wrC | exact nox_wrL | exact nox_rdL | exact nox_getC | exact nox_owL | exact nox_eqM | exact nox_reprM | exact nox_itAt | refine NoX.bind ?_ (fun _ => ?_)))
theorem nox_lenC {c : Cell} : NoX (lenC c) := by unfold lenC; split <;> (first | exact NoX.bad | exact NoX.ret | exact NoX.opt | exact NoX.guard | exact nox_alloc | exact nox_wrC | exact nox_wrL | exact nox_rdL | exact nox_getC | exact nox_owL | exact nox_eqM | exact nox_reprM | exact nox_itAt | refine NoX.bind ?_ (fun _ => ?_))
theorem nox_noObj {d : D} : NoX (noObj d) := by unfold noObj; split <;> (repeat' first | (first | exact NoX.bad | exact NoX.ret | exact NoX.opt | exact NoX.guard | exact nox_alloc | exact nox_wrC | exact nox_wrL | exact nox_rdL | exact nox_getC | exact nox_owL | exact nox_eqM | exact nox_reprM | exact nox_itAt | refine NoX.bind ?_ (fun _ => ?_)) | split)
theorem nox_fldC {c f : Str} {l : Cell} : NoX (fldC c f l) := by unfold fldC; split <;> (repeat' (first | exact NoX.bad | exact NoX.ret | exact NoX.opt | exact NoX.guard | exact nox_alloc | exact nox_wrC | exact nox_wrL | exact nox_rdL | exact nox_getC | exact nox_owL | exact nox_eqM | exact nox_reprM | exact nox_itAt | refine NoX.bind ?_ (fun _ => ?_)))
theorem nox_fldD {c f : Str} {d : D} : NoX (fldD c f d) := by unfold fldD; split <;> (repeat' first | (first | exact NoX.bad | exact NoX.ret | exact NoX.opt | exact NoX.guard | exact nox_alloc | exact nox_wrC | exact nox_wrL | exact nox_rdL | exact nox_getC | exact nox_owL | exact nox_eqM | exact nox_reprM | exact nox_itAt | refine NoX.bind ?_ (fun _ => ?_)) | exact nox_fldC)
theorem nox_recC {c f : Str} {l : Cell} : NoX (recC c f l) := by unfold recC; split <;> (repeat' (first | exact NoX.bad | exact NoX.ret | exact NoX.opt | exact NoX.guard | exact nox_alloc | exact nox_wrC | exact nox_wrL | exact nox_rdL | exact nox_getC | exact nox_owL | exact nox_eqM | exact nox_reprM | exact nox_itAt | refine NoX.bind ?_ (fun _ => ?_)))
theorem nox_recD {c f : Str} {d : D} : NoX (recD c f d) := by unfold recD; split <;> (repeat' first | (first | exact NoX.bad | exact NoX.ret | exact NoX.opt | exact NoX.guard | exact nox_alloc | exact nox_wrC | exact nox_wrL | exact nox_rdL | exact nox_getC | exact nox_owL | exact nox_eqM | exact nox_reprM | exact nox_itAt | refine NoX.bind ?_ (fun _ => ?_)) | exact nox_recC)
theorem nox_setC {c f : Str} {d : D} {l : Cell} : NoX (setC c f d l) := by unfold setC; split <;> (repeat' (first | exact NoX.bad | exact NoX.ret | exact NoX.opt | exact NoX.guard | exact nox_alloc | exact nox_wrC | exact nox_wrL | exact nox_rdL | exact nox_getC | exact nox_owL | exact nox_eqM | exact nox_reprM | exact nox_itAt | refine NoX.bind ?_ (fun _ => ?_)))
theorem nox_sfdD {c f : Str} {d e : D} : NoX (sfdD c f d e) := by unfold sfdD; split <;> (repeat' first | (first | exact NoX.bad | exact NoX.ret | exact NoX.opt | exact NoX.guard | exact nox_alloc | exact nox_wrC | exact nox_wrL | exact nox_rdL | exact nox_getC | exact nox_owL | exact nox_eqM | exact nox_reprM | exact nox_itAt | refine NoX.bind ?_ (fun _ => ?_)) | exact nox_setC)
theorem nox_index {a b : D} : NoX (index a b) := by unfold index; split <;> (repeat' first | (first | exact NoX.bad | exact NoX.ret | exact NoX.opt | exact NoX.guard | exact nox_alloc | exact nox_wrC | exact nox_wrL | exact nox_rdL | exact nox_getC | exact nox_owL | exact nox_eqM | exact nox_reprM | exact nox_itAt | refine NoX.bind ?_ (fun _ => ?_)) | exact nox_idxC)
theorem nox_slice {a : D} {lo hi : Option Int} : NoX (slice a lo hi) := by unfold slice; split <;> (repeat' (first | exact NoX.bad | exact NoX.ret | exact NoX.opt | exact NoX.guard | exact nox_alloc | exact nox_wrC | exact nox_wrL | exact nox_rdL | exact nox_getC | exact nox_owL | exact nox_eqM | exact nox_reprM | exact nox_itAt | refine NoX.bind ?_ (fun _ => ?_)))
theorem nox_builtin {b : Bi} {xs : List D} : NoX (builtin b xs) := by unfold builtin; split <;> (repeat' first | (first | exact NoX.bad | exact NoX.ret | exact NoX.opt | exact NoX.guard | exact nox_alloc | exact nox_wrC | exact nox_wrL | exact nox_rdL | exact nox_getC | exact nox_owL | exact nox_eqM | exact nox_reprM | exact nox_itAt | refine NoX.bind ?_ (fun _ => ?_)) | exact nox_lenC | exact nox_seqOf | exact nox_noObj)
theorem nox_recv {b : Bi} {d : D} : NoX (recv b d) := by unfold recv; split <;> (repeat' (first | exact NoX.bad | exact NoX.ret | exact NoX.opt | exact NoX.guard | exact nox_alloc | exact nox_wrC | exact nox_wrL | exact nox_rdL | exact nox_getC | exact nox_owL | exact nox_eqM | exact nox_reprM | exact nox_itAt | refine NoX.bind ?_ (fun _ => ?_)))
theorem nox_mkIt {k : IK} {xs : List D} : NoX (mkIt k xs) := by unfold mkIt; split <;> (repeat' (first | exact NoX.bad | exact NoX.ret | exact NoX.opt | exact NoX.guard | exact nox_alloc | exact nox_wrC | exact nox_wrL | exact nox_rdL | exact nox_getC | exact nox_owL | exact nox_eqM | exact nox_reprM | exact nox_itAt | refine NoX.bind ?_ (fun _ => ?_)))
end Mn
/-! Mn, part 2: how values and stores stand for the abstract heap. -/
namespace Mn
open PySem PySem.Spec PyProof.Rows L2
/-- a list of the written part -/
def KL (K : PySem.W.Frag) (a : Addr) (xs : List V) : Prop := ∀ H : Hp, SqL K H a xs
mutual
def Rp (K : PySem.W.Frag) (H : Hp) (ρ : List Addr) : D → V → Prop
  | .non, v => v = .non
  | .bl b, v => v = .bl b
  | .int i, v => v = .int i
  | .str x, v => v = .str x
  | .tup ds, v => ∃ a vs, v = .ref a ∧ SqT K H a vs ∧ Rps K H ρ ds vs
  | .loc n, v => ∃ a, ρ[n]? = some a ∧ v = .ref a
  | .lst _, _ => False
  | .dct _ _, _ => False
def Rps (K : PySem.W.Frag) (H : Hp) (ρ : List Addr) : List D → List V → Prop
  | [], vs => vs = []
  | d :: ds, vs => ∃ v r, vs = v :: r ∧ Rp K H ρ d v ∧ Rps K H ρ ds r
end
/-- tuples stay -/
def Ex (K : PySem.W.Frag) (H H' : Hp) : Prop := ∀ a xs, SqT K H a xs → SqT K H' a xs
section
variable {w : World} {K : PySem.W.Frag} {H H' H2 : Hp} {ρ ρ' ρ2 : List Addr}
theorem Ex.refl : Ex K H H := fun _ _ h => h
theorem Ex.trans (a : Ex K H H') (b : Ex K H' H2) : Ex K H H2 := fun _ _ h => b _ _ (a _ _ h)
theorem pre_get {n : Nat} {a : Addr} (p : ρ <+: ρ') (h : ρ[n]? = some a) : ρ'[n]? = some a := by
  obtain ⟨t, rfl⟩ := p
  obtain ⟨hl, _⟩ := List.getElem?_eq_some_iff.mp h
  rw [List.getElem?_append_left hl]; exact h
mutual
theorem Rp.mono (p : ρ <+: ρ') (e : Ex K H H') : ∀ {d : D} {v : V}, Rp K H ρ d v → Rp K H' ρ' d v
  | .non, _, h => h
  | .bl _, _, h => h
  | .int _, _, h => h
  | .str _, _, h => h
  | .tup ds, v, h => by
    unfold Rp at h ⊢
    obtain ⟨a, vs, e1, e2, e3⟩ := h
    exact ⟨a, vs, e1, e _ _ e2, Rps.mono p e e3⟩
  | .loc n, v, h => by
    unfold Rp at h ⊢
    obtain ⟨a, e1, e2⟩ := h
    exact ⟨a, pre_get p e1, e2⟩
  | .lst _, v, h => by unfold Rp at h; exact h.elim
  | .dct _ _, v, h => by unfold Rp at h; exact h.elim
theorem Rps.mono (p : ρ <+: ρ') (e : Ex K H H') : ∀ {ds : List D} {vs : List V}, Rps K H ρ ds vs → Rps K H' ρ' ds vs
  | [], _, h => by unfold Rps at h ⊢; exact h
  | d :: ds, vs, h => by
    unfold Rps at h ⊢
    obtain ⟨v, r, e1, e2, e3⟩ := h
    exact ⟨v, r, e1, Rp.mono p e e2, Rps.mono p e e3⟩
end
theorem rps_iff : ∀ {ds : List D} {vs : List V}, Rps K H ρ ds vs ↔ ds.length = vs.length ∧ ∀ (i : Nat) d v, ds[i]? = some d → vs[i]? = some v → Rp K H ρ d v
  | [], vs => by
    unfold Rps
    constructor
    · rintro rfl
      exact ⟨rfl, fun i d v h => by simp at h⟩
    · rintro ⟨h, _⟩
      exact List.eq_nil_of_length_eq_zero h.symm
  | d :: ds, vs => by
    unfold Rps
    constructor
    · rintro ⟨v, r, rfl, h1, h2⟩
      obtain ⟨l, h3⟩ := rps_iff.mp h2
      refine ⟨by simp [l], fun i d' v' e1 e2 => ?_⟩
      cases i with
      | zero =>
        simp at e1 e2
        subst e1; subst e2
        exact h1
      | succ i => exact h3 i d' v' (by simpa using e1) (by simpa using e2)
    · rintro ⟨l, h⟩
      cases vs with
      | nil => simp at l
      | cons v r =>
        refine ⟨v, r, rfl, h 0 d v rfl rfl, rps_iff.mpr ⟨by simpa using l, fun i d' v' e1 e2 => h (i + 1) d' v' (by simpa using e1) (by simpa using e2)⟩⟩
theorem Rps.length {ds : List D} {vs : List V} (h : Rps K H ρ ds vs) : ds.length = vs.length := (rps_iff.mp h).1
theorem Rps.at {ds : List D} {vs : List V} (h : Rps K H ρ ds vs) {i : Nat} {d : D} (e : ds[i]? = some d) : ∃ v, vs[i]? = some v ∧ Rp K H ρ d v := by
  obtain ⟨l, q⟩ := rps_iff.mp h
  obtain ⟨hl, _⟩ := List.getElem?_eq_some_iff.mp e
  have hv : i < vs.length := by omega
  exact ⟨vs[i], List.getElem?_eq_getElem hv, q i d _ e (List.getElem?_eq_getElem hv)⟩
theorem Rps.nil : Rps K H ρ [] [] := by unfold Rps; rfl
theorem Rps.cons {d : D} {ds : List D} {v : V} {vs : List V} (h1 : Rp K H ρ d v) (h2 : Rps K H ρ ds vs) : Rps K H ρ (d :: ds) (v :: vs) := by
  unfold Rps; exact ⟨v, vs, rfl, h1, h2⟩
theorem Rps.append {ds es : List D} {vs us : List V} (h1 : Rps K H ρ ds vs) (h2 : Rps K H ρ es us) : Rps K H ρ (ds ++ es) (vs ++ us) := by
  induction ds generalizing vs with
  | nil => unfold Rps at h1; subst h1; exact h2
  | cons d ds ih =>
    unfold Rps at h1
    obtain ⟨v, r, rfl, a, b⟩ := h1
    exact .cons a (ih b)
theorem Rps.take {ds : List D} {vs : List V} (n : Nat) (h : Rps K H ρ ds vs) : Rps K H ρ (ds.take n) (vs.take n) := by
  obtain ⟨l, q⟩ := rps_iff.mp h
  refine rps_iff.mpr ⟨by simp [l], fun i d v e1 e2 => ?_⟩
  rw [List.getElem?_take] at e1 e2
  split at e1
  · rename_i hi
    rw [if_pos hi] at e2
    exact q i d v e1 e2
  · cases e1
theorem Rps.drop {ds : List D} {vs : List V} (n : Nat) (h : Rps K H ρ ds vs) : Rps K H ρ (ds.drop n) (vs.drop n) := by
  obtain ⟨l, q⟩ := rps_iff.mp h
  refine rps_iff.mpr ⟨by simp [l], fun i d v e1 e2 => ?_⟩
  rw [List.getElem?_drop] at e1 e2
  exact q _ d v e1 e2
theorem Rps.set {ds : List D} {vs : List V} {d : D} {v : V} (n : Nat) (h : Rps K H ρ ds vs) (hd : Rp K H ρ d v) : Rps K H ρ (ds.set n d) (vs.set n v) := by
  obtain ⟨l, q⟩ := rps_iff.mp h
  refine rps_iff.mpr ⟨by simp [l], fun i d' v' e1 e2 => ?_⟩
  rw [List.getElem?_set] at e1 e2
  by_cases hi : n = i
  · rw [if_pos hi] at e1 e2
    split at e1
    · split at e2
      · cases e1; cases e2; exact hd
      · cases e2
    · cases e1
  · rw [if_neg hi] at e1 e2
    exact q i d' v' e1 e2
theorem Rps.reverse {ds : List D} {vs : List V} (h : Rps K H ρ ds vs) : Rps K H ρ ds.reverse vs.reverse := by
  induction ds generalizing vs with
  | nil => unfold Rps at h; subst h; exact .nil
  | cons d ds ih =>
    unfold Rps at h
    obtain ⟨v, r, rfl, a, b⟩ := h
    rw [List.reverse_cons, List.reverse_cons]
    exact (ih b).append (.cons a .nil)
theorem Rps.eraseIdx {ds : List D} {vs : List V} (n : Nat) (h : Rps K H ρ ds vs) : Rps K H ρ (ds.eraseIdx n) (vs.eraseIdx n) := by
  rw [List.eraseIdx_eq_take_drop_succ, List.eraseIdx_eq_take_drop_succ]
  exact (h.take n).append (h.drop (n + 1))
theorem Rps.dropLast {ds : List D} {vs : List V} (h : Rps K H ρ ds vs) : Rps K H ρ ds.dropLast vs.dropLast := by
  rw [List.dropLast_eq_take, List.dropLast_eq_take, h.length]
  exact h.take _
theorem Rps.rep {ds : List D} {vs : List V} (h : Rps K H ρ ds vs) : ∀ n, Rps K H ρ (Mn.rep ds n) (Mn.rep vs n)
  | 0 => .nil
  | n + 1 => by
    unfold Mn.rep
    rw [List.replicate_succ, List.replicate_succ, List.flatten_cons, List.flatten_cons]
    exact h.append (Rps.rep h n)
theorem Rps.intsR : ∀ {ds : List D} {vs : List V} {is : List Int}, Rps K H ρ ds vs → intsD ds = some is → vs = is.map V.int
  | [], vs, is, h, e => by unfold Rps at h; unfold intsD at e; subst h; cases e; rfl
  | .int i :: ds, vs, is, h, e => by
    unfold Rps at h
    obtain ⟨v, r, rfl, a, b⟩ := h
    unfold intsD at e
    cases q : intsD ds with
    | none => rw [q] at e; cases e
    | some js =>
      rw [q] at e; cases e
      unfold Rp at a
      rw [a, Rps.intsR b q]; rfl
  | .non :: _, _, _, _, e => by simp [intsD] at e
  | .bl _ :: _, _, _, _, e => by simp [intsD] at e
  | .str _ :: _, _, _, _, e => by simp [intsD] at e
  | .tup _ :: _, _, _, _, e => by simp [intsD] at e
  | .loc _ :: _, _, _, _, e => by simp [intsD] at e
  | .lst _ :: _, _, _, _, e => by simp [intsD] at e
  | .dct _ _ :: _, _, _, _, e => by simp [intsD] at e
theorem Rps.strsR : ∀ {ds : List D} {vs : List V} {is : List Str}, Rps K H ρ ds vs → strsD ds = some is → vs = is.map V.str
  | [], vs, is, h, e => by unfold Rps at h; unfold strsD at e; subst h; cases e; rfl
  | .str i :: ds, vs, is, h, e => by
    unfold Rps at h
    obtain ⟨v, r, rfl, a, b⟩ := h
    unfold strsD at e
    cases q : strsD ds with
    | none => rw [q] at e; cases e
    | some js =>
      rw [q] at e; cases e
      unfold Rp at a
      rw [a, Rps.strsR b q]; rfl
  | .non :: _, _, _, _, e => by simp [strsD] at e
  | .bl _ :: _, _, _, _, e => by simp [strsD] at e
  | .int _ :: _, _, _, _, e => by simp [strsD] at e
  | .tup _ :: _, _, _, _, e => by simp [strsD] at e
  | .loc _ :: _, _, _, _, e => by simp [strsD] at e
  | .lst _ :: _, _, _, _, e => by simp [strsD] at e
  | .dct _ _ :: _, _, _, _, e => by simp [strsD] at e
theorem Rps.boolsR : ∀ {ds : List D} {vs : List V} {is : List Bool}, Rps K H ρ ds vs → boolsD ds = some is → vs = is.map V.bl
  | [], vs, is, h, e => by unfold Rps at h; unfold boolsD at e; subst h; cases e; rfl
  | .bl i :: ds, vs, is, h, e => by
    unfold Rps at h
    obtain ⟨v, r, rfl, a, b⟩ := h
    unfold boolsD at e
    cases q : boolsD ds with
    | none => rw [q] at e; cases e
    | some js =>
      rw [q] at e; cases e
      unfold Rp at a
      rw [a, Rps.boolsR b q]; rfl
  | .non :: _, _, _, _, e => by simp [boolsD] at e
  | .str _ :: _, _, _, _, e => by simp [boolsD] at e
  | .int _ :: _, _, _, _, e => by simp [boolsD] at e
  | .tup _ :: _, _, _, _, e => by simp [boolsD] at e
  | .loc _ :: _, _, _, _, e => by simp [boolsD] at e
  | .lst _ :: _, _, _, _, e => by simp [boolsD] at e
  | .dct _ _ :: _, _, _, _, e => by simp [boolsD] at e
theorem Rps.of_strs : ∀ (xs : List Str), Rps K H ρ (xs.map D.str) (xs.map V.str)
  | [] => .nil
  | x :: xs => .cons (by unfold Rp; rfl) (Rps.of_strs xs)
theorem Rps.of_ints : ∀ (xs : List Int), Rps K H ρ (xs.map D.int) (xs.map V.int)
  | [] => .nil
  | x :: xs => .cons (by unfold Rp; rfl) (Rps.of_ints xs)
/-- a dict whose keys are tuples, its entries -/
def RawT (w : World) (a : Addr) (xs : List (NK × Addr × V)) : Heap → Prop := fun h => (a == sysModules) = false ∧ xs.length ≤ sizeLine ∧ ∃ us : List (NK × Addr × Value),
  Paired (fun p q => p.1 = q.1 ∧ p.2.1 = q.2.1 ∧ RelV p.2.2 q.2.2) xs us ∧ ∃ o es ep, h.get? a = some o ∧ o.ExactDict ∧ o.data = .dict es ep ∧ es.toList = us.map (fun x => ⟨NestedKey.hash w x.1, .ref x.2.1, x.2.2⟩) ∧ (us.map (·.1)).Nodup
/-- the tuple at b is the key k -/
def KeyT (K : PySem.W.Frag) (H : Hp) (k : NK) (b : Addr) : Prop := ∃ ρ ds, Rp K H ρ (.tup ds) (.ref b) ∧ keysD ds = some (match k with | .tup ks => ks | _ => []) ∧ isTK k = true ∧ k.depth ≤ 8
theorem KeyT.mono {k : NK} {b : Addr} (e : Ex K H H') (h : KeyT K H k b) : KeyT K H' k b := by
  obtain ⟨ρ, ds, h1, h2⟩ := h
  exact ⟨ρ, ds, h1.mono List.prefix_rfl e, h2⟩
def toK : Key → NK
  | .inl i => .num i
  | .inr x => .text x
theorem toK_inj {a b : Key} (h : toK a = toK b) : a = b := by
  cases a <;> cases b <;> simp [toK] at h <;> first | (subst h; rfl) | cases h
/-- a cell stands at a -/
def CellR (w : World) (K : PySem.W.Frag) (H : Hp) (ρ : List Addr) : Cell → Addr → Prop
  | .lst ds, a => ∃ vs, H a = some (.lst vs) ∧ Rps K H ρ ds vs
  | .ro ds, a => ∃ vs, ((∃ o, H a = some (.frz o (.lst vs))) ∨ KL K a vs) ∧ Rps K H ρ ds vs
  | .dct kvs, a => (∃ ks : List (Key × V), H a = some (.dK ks) ∧ kvs.map (·.1) = ks.map (fun p => toK p.1) ∧ Rps K H ρ (kvs.map (·.2)) (ks.map (·.2))) ∨
      ∃ xs, xs ≠ [] ∧ H a = some (.ext (RawT w a xs)) ∧ kvs.map (·.1) = xs.map (·.1) ∧ Rps K H ρ (kvs.map (·.2)) (xs.map (·.2.2)) ∧ ∀ x ∈ xs, KeyT K H x.1 x.2.1
  | .obj c fs, a => ∃ (C dx : Addr) (gs : List (Str × V)), PySem.W.nsIn K mainGlobals c = some (some (.ref C)) ∧ H a = some (.ins C dx gs) ∧ fs.map (·.1) = gs.map (·.1) ∧ Rps K H ρ (fs.map (·.2)) (gs.map (·.2))
def isMC : Cell → Bool
  | .ro _ => false
  | _ => true
structure SR (w : World) (K : PySem.W.Frag) (H : Hp) (ρ : List Addr) (S : Store) : Prop where
  len : ρ.length = S.length
  cell : ∀ (n : Nat) c a, S[n]? = some c → ρ[n]? = some a → CellR w K H ρ c a
  dis : ∀ (n m : Nat) a c c', n ≠ m → S[n]? = some c → S[m]? = some c' → isMC c = true → isMC c' = true → ρ[n]? = some a → ρ[m]? ≠ some a
theorem SR.addr {S : Store} (h : SR w K H ρ S) {n : Nat} {c : Cell} (e : S[n]? = some c) : ∃ a, ρ[n]? = some a ∧ CellR w K H ρ c a := by
  obtain ⟨hl, _⟩ := List.getElem?_eq_some_iff.mp e
  have hv : n < ρ.length := by rw [h.len]; exact hl
  exact ⟨ρ[n], List.getElem?_eq_getElem hv, h.cell n c _ e (List.getElem?_eq_getElem hv)⟩
theorem SR.loc {S : Store} (h : SR w K H ρ S) {n : Nat} {v : V} (r : Rp K H ρ (.loc n) v) {c : Cell} (e : S[n]? = some c) : ∃ a, v = .ref a ∧ ρ[n]? = some a ∧ CellR w K H ρ c a := by
  unfold Rp at r
  obtain ⟨a, h1, h2⟩ := r
  exact ⟨a, h2, h1, h.cell n c a e h1⟩
theorem CellR.sql {xs : List D} {a : Addr} {c : Cell} (h : CellR w K H ρ c a) (hc : c = .lst xs ∨ c = .ro xs) : ∃ vs, SqL K H a vs ∧ Rps K H ρ xs vs := by
  rcases hc with rfl | rfl
  · obtain ⟨vs, h1, h2⟩ := h
    exact ⟨vs, .inl (.inl h1), h2⟩
  · obtain ⟨vs, h1, h2⟩ := h
    refine ⟨vs, ?_, h2⟩
    rcases h1 with ⟨o, h1⟩ | h1
    · exact .inl (.inr ⟨o, h1⟩)
    · exact h1 H
/-- what stands for a cell that is written is no tuple -/
def noTup : HO → Bool
  | .tup _ => false
  | .frz _ _ => false
  | _ => true
theorem CellR.mut {c : Cell} {a : Addr} (hm : isMC c = true) (h : CellR w K H ρ c a) : ∃ o, H a = some o ∧ noTup o = true ∧ Mut (some o) := by
  cases c with
  | lst ds => obtain ⟨vs, h1, _⟩ := h; exact ⟨_, h1, rfl, trivial⟩
  | ro ds => cases hm
  | dct kvs =>
    rcases h with ⟨ks, h1, _⟩ | ⟨xs, h0, h1, _⟩
    · exact ⟨_, h1, rfl, trivial⟩
    · exact ⟨_, h1, rfl, trivial⟩
  | obj c fs => obtain ⟨C, dx, gs, _, h1, _⟩ := h; exact ⟨_, h1, rfl, trivial⟩
/-- a new object keeps all -/
theorem ex_new {p : Addr} {o : HO} (h : H p = none) : Ex K H (upd H p o) := by
  intro a xs q
  rcases q with (q | ⟨ob, q⟩) | q
  · exact .inl (.inl (by rw [upd_ne (ne_of_none q h)]; exact q))
  · exact .inl (.inr ⟨ob, by rw [upd_ne (ne_of_none q h)]; exact q⟩)
  · exact .inr q
/-- an object that is written keeps all tuples -/
theorem ex_wr {p : Addr} {o u : HO} (h : H p = some o) (hn : noTup o = true) : Ex K H (upd H p u) := by
  intro a xs q
  rcases q with (q | ⟨ob, q⟩) | q
  · exact .inl (.inl (by rw [upd_ne (ne_of q h (by rintro rfl; cases hn))]; exact q))
  · exact .inl (.inr ⟨ob, by rw [upd_ne (ne_of q h (by rintro rfl; cases hn))]; exact q⟩)
  · exact .inr q
theorem ex_put {p : Addr} {vs us : List V} (h : H p = some (.lst vs)) : Ex K H (upd H p (.lst us)) := ex_wr h rfl
theorem CellR.mono {c : Cell} {a : Addr} (p : ρ <+: ρ') (e : Ex K H H') (h : CellR w K H ρ c a) (k : ∀ o, H a = some o → H' a = some o) : CellR w K H' ρ' c a := by
  cases c with
  | lst ds =>
    obtain ⟨vs, h1, h2⟩ := h
    exact ⟨vs, k _ h1, h2.mono p e⟩
  | ro ds =>
    obtain ⟨vs, h1, h2⟩ := h
    exact ⟨vs, h1.imp (fun ⟨o, q⟩ => ⟨o, k _ q⟩) id, h2.mono p e⟩
  | dct kvs =>
    rcases h with ⟨ks, h1, h2, h3⟩ | ⟨xs, h0, h1, h2, h3, h4⟩
    · exact .inl ⟨ks, k _ h1, h2, h3.mono p e⟩
    · exact .inr ⟨xs, h0, k _ h1, h2, h3.mono p e, fun x hx => (h4 x hx).mono e⟩
  | obj c fs =>
    obtain ⟨C, dx, gs, h0, h1, h2, h3⟩ := h
    exact ⟨C, dx, gs, h0, k _ h1, h2, h3.mono p e⟩
/-- a new untracked-by-us object (a tuple) -/
theorem SR.tup {S : Store} (h : SR w K H ρ S) {p : Addr} {o : HO} (hp : H p = none) : SR w K (upd H p o) ρ S :=
  ⟨h.len, fun n c a e1 e2 => (h.cell n c a e1 e2).mono List.prefix_rfl (ex_new hp) fun o' q => by rw [upd_ne (ne_of_none q hp)]; exact q, h.dis⟩
theorem SR.allocC {S : Store} (h : SR w K H ρ S) {p : Addr} {c0 : Cell} {o : HO} (hp : H p = none) (hr : CellR w K (upd H p o) (ρ ++ [p]) c0 p) : SR w K (upd H p o) (ρ ++ [p]) (S ++ [c0]) := by
  refine ⟨by simp [h.len], fun n c a e1 e2 => ?_, fun n m a ys zs hnm e1 e2 m1 m2 e3 e4 => ?_⟩
  · by_cases hn : n < S.length
    · rw [List.getElem?_append_left hn] at e1
      rw [List.getElem?_append_left (by rw [h.len]; exact hn)] at e2
      exact (h.cell n c a e1 e2).mono (List.prefix_append _ _) (ex_new hp) fun o' q => by rw [upd_ne (ne_of_none q hp)]; exact q
    · have hl : n = S.length := by
        obtain ⟨q, _⟩ := List.getElem?_eq_some_iff.mp e1
        simp at q; omega
      subst hl
      simp at e1
      rw [← h.len] at e2
      simp at e2
      subst e1; subst e2
      exact hr
  · have key : ∀ (n m : Nat) (ys : Cell), n < S.length → m = S.length → (S ++ [c0])[n]? = some ys → isMC ys = true → (ρ ++ [p])[n]? = some a → (ρ ++ [p])[m]? = some a → False := by
      intro n m ys hn hm e1 m1 e3 e4
      rw [List.getElem?_append_left hn] at e1
      rw [List.getElem?_append_left (by rw [h.len]; exact hn)] at e3
      subst hm
      rw [← h.len] at e4
      simp at e4
      subst e4
      obtain ⟨us, q, _⟩ := (h.cell n _ _ e1 e3).mut m1
      rw [hp] at q; cases q
    have ln : n < S.length + 1 := by obtain ⟨q, _⟩ := List.getElem?_eq_some_iff.mp e1; simpa using q
    have lm : m < S.length + 1 := by obtain ⟨q, _⟩ := List.getElem?_eq_some_iff.mp e2; simpa using q
    by_cases hn : n < S.length
    · by_cases hm : m < S.length
      · rw [List.getElem?_append_left hn] at e1
        rw [List.getElem?_append_left hm] at e2
        rw [List.getElem?_append_left (by rw [h.len]; exact hn)] at e3
        rw [List.getElem?_append_left (by rw [h.len]; exact hm)] at e4
        exact h.dis n m a ys zs hnm e1 e2 m1 m2 e3 e4
      · exact key n m ys hn (by omega) e1 m1 e3 e4
    · exact key m n zs (by omega) (by omega) e2 m2 e4 e3
theorem SR.alloc {S : Store} (h : SR w K H ρ S) {p : Addr} {xs : List D} {vs : List V} (hp : H p = none) (hr : Rps K H ρ xs vs) : SR w K (upd H p (.lst vs)) (ρ ++ [p]) (S ++ [.lst xs]) :=
  h.allocC hp ⟨vs, upd_same, hr.mono (List.prefix_append _ _) (ex_new hp)⟩
/-- a cell is written -/
theorem SR.putC {S : Store} (h : SR w K H ρ S) {n : Nat} {p : Addr} {c c1 : Cell} {o1 : HO} (e : S[n]? = some c) (ep : ρ[n]? = some p) (hm : isMC c = true) (hm1 : isMC c1 = true) (hr : CellR w K (upd H p o1) ρ c1 p) : SR w K (upd H p o1) ρ (S.set n c1) := by
  obtain ⟨o, hp, hn, _⟩ := (h.cell n c p e ep).mut hm
  have hx := ex_wr (K := K) (u := o1) hp hn
  refine ⟨by simp [h.len], fun m c' a e1 e2 => ?_, fun m k a zs ws hmk e1 e2 m1 m2 e3 e4 => ?_⟩
  · by_cases hm' : n = m
    · subst hm'
      rw [ep] at e2; cases e2
      obtain ⟨hl, _⟩ := List.getElem?_eq_some_iff.mp e
      rw [List.getElem?_set_self hl] at e1
      cases e1
      exact hr
    · rw [List.getElem?_set_ne hm'] at e1
      have hc := h.cell m c' a e1 e2
      cases c' with
      | ro zs =>
        obtain ⟨ws, h1, h2⟩ := hc
        refine ⟨ws, h1.imp (fun ⟨o, q⟩ => ⟨o, ?_⟩) id, h2.mono List.prefix_rfl hx⟩
        rw [upd_ne (ne_of q hp (by rintro rfl; cases hn))]; exact q
      | lst zs =>
        have na : a ≠ p := fun z => h.dis n m p _ _ hm' e e1 hm rfl ep (z ▸ e2)
        exact hc.mono List.prefix_rfl hx fun o' q => by rw [upd_ne na]; exact q
      | dct zs =>
        have na : a ≠ p := fun z => h.dis n m p _ _ hm' e e1 hm rfl ep (z ▸ e2)
        exact hc.mono List.prefix_rfl hx fun o' q => by rw [upd_ne na]; exact q
      | obj _ _ =>
        have na : a ≠ p := fun z => h.dis n m p _ _ hm' e e1 hm rfl ep (z ▸ e2)
        exact hc.mono List.prefix_rfl hx fun o' q => by rw [upd_ne na]; exact q
  · have back : ∀ (m : Nat) zs, (S.set n c1)[m]? = some zs → isMC zs = true → ∃ zs', S[m]? = some zs' ∧ isMC zs' = true := by
      intro m zs e1 m1
      by_cases hm' : n = m
      · subst hm'; exact ⟨_, e, hm⟩
      · rw [List.getElem?_set_ne hm'] at e1; exact ⟨_, e1, m1⟩
    obtain ⟨z1, q1, r1⟩ := back m zs e1 m1
    obtain ⟨z2, q2, r2⟩ := back k ws e2 m2
    exact h.dis m k a z1 z2 hmk q1 q2 r1 r2 e3 e4
theorem SR.put {S : Store} (h : SR w K H ρ S) {n : Nat} {p : Addr} {xs ys : List D} {us vs : List V} (e : S[n]? = some (.lst xs)) (ep : ρ[n]? = some p) (hp : H p = some (.lst us)) (hr : Rps K H ρ ys vs) : SR w K (upd H p (.lst vs)) ρ (S.set n (.lst ys)) :=
  h.putC e ep rfl rfl ⟨vs, upd_same, hr.mono List.prefix_rfl (ex_put hp)⟩
/-- the names -/
structure EnvR (K : PySem.W.Frag) (H : Hp) (ρ : List Addr) (env : Nv) (σ : L2.St) : Prop where
  len : env.length = σ.length
  val : ∀ (i : Nat) d, env[i]? = some (some d) → ∃ v, σ[i]? = some (some v) ∧ Rp K H ρ d v
theorem EnvR.mono {env : Nv} {σ : L2.St} (h : EnvR K H ρ env σ) (p : ρ <+: ρ') (e : Ex K H H') : EnvR K H' ρ' env σ :=
  ⟨h.len, fun i d q => let ⟨v, h1, h2⟩ := h.val i d q; ⟨v, h1, h2.mono p e⟩⟩
theorem EnvR.set {env : Nv} {σ : L2.St} (h : EnvR K H ρ env σ) {d : D} {v : V} (r : Rp K H ρ d v) (i : Nat) : EnvR K H ρ (env.set i (some d)) (σ.set i (some v)) := by
  refine ⟨by simp [h.len], fun j d' e => ?_⟩
  rw [List.getElem?_set] at e
  by_cases hi : i = j
  · subst hi
    rw [if_pos rfl] at e
    split at e
    · rename_i hl
      cases e
      exact ⟨v, by rw [List.getElem?_set_self (by rw [← h.len]; exact hl)], r⟩
    · cases e
  · rw [if_neg hi] at e
    obtain ⟨w, h1, h2⟩ := h.val j d' e
    exact ⟨w, by rw [List.getElem?_set_ne hi]; exact h1, h2⟩
theorem EnvR.wipe {env : Nv} {σ : L2.St} (h : EnvR K H ρ env σ) : ∀ own : List Nat, EnvR K H ρ (wipeD env own) (wipe σ own)
  | [] => h
  | w :: ws => by
    have ih := EnvR.wipe h ws
    unfold wipeD L2.wipe
    refine ⟨by simp [ih.len], fun j d e => ?_⟩
    rw [List.getElem?_set] at e
    by_cases hi : w = j
    · rw [if_pos hi] at e
      split at e
      · cases e
      · cases e
    · rw [if_neg hi] at e
      obtain ⟨v, h1, h2⟩ := ih.val j d e
      exact ⟨v, by rw [List.getElem?_set_ne hi]; exact h1, h2⟩
/-! ### what is wanted, lifted -/
def LQ (w : World) (K : PySem.W.Frag) (Q : VK) (ρ : List Addr) (H : Hp) : D → Store → Prop := fun d S => ∀ v H' ρ', ρ <+: ρ' → Ex K H H' → SR w K H' ρ' S → Rp K H' ρ' d v → Q v H'
def LB (w : World) (K : PySem.W.Frag) (Q : Bool → Hp → Prop) (ρ : List Addr) (H : Hp) : D → Store → Prop := fun d S => ∃ b, d = .bl b ∧ ∀ H' ρ', ρ <+: ρ' → Ex K H H' → SR w K H' ρ' S → Q b H'
def LA (w : World) (K : PySem.W.Frag) (Q : List V → Hp → Prop) (ρ : List Addr) (H : Hp) : List D → Store → Prop := fun ds S => ∀ vs H' ρ', ρ <+: ρ' → Ex K H H' → SR w K H' ρ' S → Rps K H' ρ' ds vs → Q vs H'
theorem LQ.later {Q : VK} {d : D} {S : Store} (h : LQ w K Q ρ H d S) (p : ρ <+: ρ') (e : Ex K H H') : LQ w K Q ρ' H' d S := fun v H2 ρ2 p2 e2 => h v H2 ρ2 (p.trans p2) (e.trans e2)
theorem LB.later {Q : Bool → Hp → Prop} {d : D} {S : Store} (h : LB w K Q ρ H d S) (p : ρ <+: ρ') (e : Ex K H H') : LB w K Q ρ' H' d S := let ⟨b, e1, h⟩ := h; ⟨b, e1, fun H2 ρ2 p2 e2 => h H2 ρ2 (p.trans p2) (e.trans e2)⟩
theorem LA.later {Q : List V → Hp → Prop} {d : List D} {S : Store} (h : LA w K Q ρ H d S) (p : ρ <+: ρ') (e : Ex K H H') : LA w K Q ρ' H' d S := fun v H2 ρ2 p2 e2 => h v H2 ρ2 (p.trans p2) (e.trans e2)
end
/-- the module's names, the exception classes with their fields -/
abbrev XT := (Str → Option Value) × List (Str × List Str)
/-- the context of the readings: the evaluator's, the module's names, what is wished of an exception -/
structure CtxW where
  c : Ctx
  mg : XT
  ex : WX
/-- where no exception is taken -/
def CtxW.nv (C : CtxW) : CtxW := ⟨C.c, C.mg, fun _ _ _ _ => False⟩
/-- an exception stands as an object of class cls with the dict d -/
def XR (K : PySem.W.Frag) (mg : XT) (H : Hp) (x : Exn) (cls : Value) (d : Option Addr) : Prop :=
  (x.cls, x.fs.map (·.1)) ∈ mg.2 ∧ mg.1 x.cls = some cls ∧ x.fs.all (fun p => scal p.2) = true ∧ ((x.fs = [] ∧ d = none) ∨ ∃ dd vs, d = some dd ∧ H dd = some (.xd vs) ∧ x.fs.map (·.1) = vs.map (·.1) ∧ Rps K H [] (x.fs.map (·.2)) (vs.map (·.2)))
/-- what is wanted of an exception, lifted; env: the names at the place from where it comes -/
def EQ (w : World) (K : PySem.W.Frag) (C : CtxW) (env : Nv) (ρ : List Addr) (H : Hp) : Exn → Store → Prop := fun x S => ∀ cls d H' ρ' σ', ρ <+: ρ' → Ex K H H' → SR w K H' ρ' S → EnvR K H' ρ' env σ' → XR K C.mg H' x cls d → C.ex cls d σ' H'
theorem EQ.later {w : World} {K : PySem.W.Frag} {C : CtxW} {env : Nv} {ρ ρ' : List Addr} {H H' : Hp} {x : Exn} {S : Store} (h : EQ w K C env ρ H x S) (p : ρ <+: ρ') (e : Ex K H H') : EQ w K C env ρ' H' x S :=
  fun cls d H2 ρ2 σ2 p2 e2 => h cls d H2 ρ2 σ2 (p.trans p2) (e.trans e2)
/-- the wish does not look at the names -/
def Ind (C : CtxW) : Prop := ∀ cls d σ σ' H, C.ex cls d σ H → C.ex cls d σ' H
theorem EQ.env {w : World} {K : PySem.W.Frag} {C : CtxW} {env env' : Nv} {ρ ρ' : List Addr} {H H' : Hp} {x : Exn} {S : Store} {σ : L2.St} (hi : Ind C) (hE : EnvR K H' ρ' env σ) (h : EQ w K C env ρ H x S) (p : ρ <+: ρ') (e : Ex K H H') : EQ w K C env' ρ' H' x S :=
  fun cls d H2 ρ2 σ2 p2 e2 s2 _ xr => hi cls d σ σ2 H2 (h cls d H2 ρ2 σ (p.trans p2) (e.trans e2) s2 (hE.mono p2 e2) xr)
def tD (w : World) (K : PySem.W.Frag) (C : CtxW) (ir : E) : TE := fun σ H Q => ∃ ρ S env, SR w K H ρ S ∧ EnvR K H ρ env σ ∧ wpx (evE C.c ir env) (LQ w K Q ρ H) (EQ w K C env ρ H) S
def tDB (w : World) (K : PySem.W.Frag) (C : CtxW) (ir : E) : TT := fun σ H Q => ∃ ρ S env, SR w K H ρ S ∧ EnvR K H ρ env σ ∧ wpx (evE C.c ir env) (LB w K Q ρ H) (EQ w K C env ρ H) S
def tDA (w : World) (K : PySem.W.Frag) (C : CtxW) (es : Es) : TA := fun σ H Q => ∃ ρ S env, SR w K H ρ S ∧ EnvR K H ρ env σ ∧ wpx (evEs C.c es env) (LA w K Q ρ H) (EQ w K C env ρ H) S
section
variable {X : Cx} {e : Expr} {es : List Expr} {st : Stmt} {sts : List Stmt}
theorem pe_imp {t u : TE} (h : PE X e t) (k : ∀ σ H Q, u σ H Q → t σ H Q) : PE X e u := ⟨fun pins s σ H Q I q => h.run pins s σ H Q I (k σ H Q q)⟩
theorem pt_imp {t u : TT} (h : PT X e t) (k : ∀ σ H Q, u σ H Q → t σ H Q) : PT X e u := ⟨fun pins s σ H Q I q => h.run pins s σ H Q I (k σ H Q q)⟩
theorem pw_imp {t u : TT} (h : PW X e t) (k : ∀ σ H Q, u σ H Q → t σ H Q) : PW X e u := ⟨fun wh pins s σ H Q I q => h.run wh pins s σ H Q I (k σ H Q q)⟩
theorem pa_imp {t u : TA} (h : PA X es t) (k : ∀ σ H Q, u σ H Q → t σ H Q) : PA X es u := ⟨fun pos pins s σ H Q I q => h.run pos pins s σ H Q I (k σ H Q q)⟩
theorem ps_imp {t u : TS} (h : PS X st t) (k : ∀ D σ H, u D σ H → t D σ H) : PS X st u := ⟨fun pins s σ H D I q => h.run pins s σ H D I (k D σ H q)⟩
theorem pss_imp {t u : TS} (h : PSs X sts t) (k : ∀ D σ H, u D σ H → t D σ H) : PSs X sts u := ⟨fun pins s σ H D I q => h.run pins s σ H D I (k D σ H q)⟩
end
section
variable {w : World} {K : PySem.W.Frag} {C : CtxW} {H : Hp} {ρ : List Addr} {S : Store} {env : Nv} {σ : L2.St} {E0 : Exn → Store → Prop}
theorem tD_of {ir : E} {Q : VK} {R : D → Store → Prop} (hS : SR w K H ρ S) (hE : EnvR K H ρ env σ) (h : wpx (evE C.c ir env) R E0 S)
    (k : ∀ d S1 v H1 ρ1, R d S1 → ρ <+: ρ1 → Ex K H H1 → SR w K H1 ρ1 S1 → EnvR K H1 ρ1 env σ → Rp K H1 ρ1 d v → Q v H1) (ke : ∀ x S', E0 x S' → EQ w K C env ρ H x S' := by (first | exact fun _ _ q => q | exact fun _ _ q => False.elim q | exact fun _ _ q => EQ.later q (by first | exact List.prefix_rfl | assumption | exact List.IsPrefix.trans (by assumption) (by assumption) | exact List.IsPrefix.trans (List.IsPrefix.trans (by assumption) (by assumption)) (by assumption)) (by first | exact Ex.refl | assumption | exact Ex.trans (by assumption) (by assumption) | exact Ex.trans (Ex.trans (by assumption) (by assumption)) (by assumption)))) : tD w K C ir σ H Q :=
  ⟨ρ, S, env, hS, hE, wpx_mono h (fun d S1 r v H1 ρ1 p e s1 q => k d S1 v H1 ρ1 r p e s1 (hE.mono p e) q) ke⟩
theorem tDA_of {ir : Es} {Q : List V → Hp → Prop} {R : List D → Store → Prop} (hS : SR w K H ρ S) (hE : EnvR K H ρ env σ) (h : wpx (evEs C.c ir env) R E0 S)
    (k : ∀ d S1 v H1 ρ1, R d S1 → ρ <+: ρ1 → Ex K H H1 → SR w K H1 ρ1 S1 → EnvR K H1 ρ1 env σ → Rps K H1 ρ1 d v → Q v H1) (ke : ∀ x S', E0 x S' → EQ w K C env ρ H x S' := by (first | exact fun _ _ q => q | exact fun _ _ q => False.elim q | exact fun _ _ q => EQ.later q (by first | exact List.prefix_rfl | assumption | exact List.IsPrefix.trans (by assumption) (by assumption) | exact List.IsPrefix.trans (List.IsPrefix.trans (by assumption) (by assumption)) (by assumption)) (by first | exact Ex.refl | assumption | exact Ex.trans (by assumption) (by assumption) | exact Ex.trans (Ex.trans (by assumption) (by assumption)) (by assumption)))) : tDA w K C ir σ H Q :=
  ⟨ρ, S, env, hS, hE, wpx_mono h (fun d S1 r v H1 ρ1 p e s1 q => k d S1 v H1 ρ1 r p e s1 (hE.mono p e) q) ke⟩
theorem tDB_of {ir : E} {Q : Bool → Hp → Prop} {R : D → Store → Prop} (hS : SR w K H ρ S) (hE : EnvR K H ρ env σ) (h : wpx (evE C.c ir env) R E0 S)
    (k : ∀ d S1, R d S1 → ∃ b, d = .bl b ∧ ∀ H1 ρ1, ρ <+: ρ1 → Ex K H H1 → SR w K H1 ρ1 S1 → EnvR K H1 ρ1 env σ → Q b H1) (ke : ∀ x S', E0 x S' → EQ w K C env ρ H x S' := by (first | exact fun _ _ q => q | exact fun _ _ q => False.elim q | exact fun _ _ q => EQ.later q (by first | exact List.prefix_rfl | assumption | exact List.IsPrefix.trans (by assumption) (by assumption) | exact List.IsPrefix.trans (List.IsPrefix.trans (by assumption) (by assumption)) (by assumption)) (by first | exact Ex.refl | assumption | exact Ex.trans (by assumption) (by assumption) | exact Ex.trans (Ex.trans (by assumption) (by assumption)) (by assumption)))) : tDB w K C ir σ H Q :=
  ⟨ρ, S, env, hS, hE, wpx_mono h (fun d S1 r => let ⟨b, e, q⟩ := k d S1 r; ⟨b, e, fun H1 ρ1 p e s1 => q H1 ρ1 p e s1 (hE.mono p e)⟩) ke⟩
end
end Mn
/-! Mn: a tuple, none or one time. -/
namespace Mn
open PySem PySem.Spec PyProof.Rows L2
set_option maxHeartbeats 4000000 in
theorem tuple_mul1 (l : Addr) (items : Array Value) (n : Nat) (dd : Option Addr) (sl : Array (Option Value)) (u : Tok) :
    Meets (Builtin.«tuple.__mul__» ⟨[.ref l, .int 1 u], []⟩) (fun _ R s => s.heap.get? l = some { cls := .type "tuple", dict := dd, data := .seq items n, slots := sl } ∧
      R (.ok (.ret (Value.ref l))) s) :=
  .of_wp fun prog w A R s h => by
    obtain ⟨hp, g, d, tk, os⟩ := s
    obtain ⟨hl, h⟩ := h
    have f1 := AutoSeq1.idx_int
    wp_walk using wpAny_loadPart' hl
    exact ⟨_, rfl, h⟩
set_option maxHeartbeats 4000000 in
theorem tuple_mul0 (l : Addr) (items : Array Value) (n : Nat) (dd : Option Addr) (sl : Array (Option Value)) (u : Tok) (hi : items.isEmpty = false) :
    Meets (Builtin.«tuple.__mul__» ⟨[.ref l, .int 0 u], []⟩) (fun _ R s => s.heap.get? l = some { cls := .type "tuple", dict := dd, data := .seq items n, slots := sl } ∧
      R (.ok (.ret (Value.ref s.heap.objs.size))) { s with heap := s.heap.push { cls := Value.type "tuple", data := Data.seq #[] }, toks := s.toks }) :=
  .of_wp fun prog w A R s h => by
    obtain ⟨hp, g, d, tk, os⟩ := s
    obtain ⟨hl, h⟩ := h
    have f1 := AutoSeq1.idx_int
    wp_walk using wpAny_loadPart' hl
    exact ⟨_, rfl, h⟩
def rRep0 (K : PySem.W.Frag) : R2 := fun x y H Q => ∃ l xs, x = .ref l ∧ y = .int 0 ∧ SqT K H l xs ∧ xs ≠ [] ∧ ∀ p, H p = none → Q (.ref p) (upd H p (.tup []))
def rRep1 (K : PySem.W.Frag) : R2 := fun x y H Q => ∃ l xs, x = .ref l ∧ y = .int 1 ∧ SqT K H l xs ∧ Q (.ref l) H
variable {X : Cx}
theorem op_rep1 : OpR X (binaryOp .Mult) (rRep1 X.K) := by
  intro pins s σ H x y v u Q I rx ry h
  obtain ⟨l, xs, rfl, rfl, hT, q⟩ := h
  cases rx
  obtain ⟨t, rfl⟩ := ry
  obtain ⟨its, r, ⟨⟨cls, dd, data, sl⟩, ho, hc, n, hd⟩, hs⟩ := I.tuple hT
  simp only at hc hd
  subst hc hd
  refine wpAny_binaryOp_repeat_ref (T := "tuple") (U := "int") (by decide) ⟨_, ho, rfl⟩ (fun s' => typeIs_int s' 1 t) noFill_tuple_mul F.fills_int_mul F.slot_int_rmul repeat_tuple F.slot_int_index.lookup
    (call_meets F.slot_int_rmul (typeIs_int s 1 t) F.entry_int_rmul (F.args_int_rmul_2 _ _) (int_rmul_tuple 1 t l its.toArray n dd sl)
      ⟨ho, rfl, ⟨_, ho, rfl⟩, call_meets F.slot_tuple_mul ⟨_, ho, rfl⟩ F.entry_tuple_mul (F.args_tuple_mul_2 _ _) (tuple_mul1 l its.toArray n dd sl t) ⟨ho, ?_⟩⟩)
  exact ⟨.ref l, H, I, rfl, q⟩
theorem op_rep0 : OpR X (binaryOp .Mult) (rRep0 X.K) := by
  intro pins s σ H x y v u Q I rx ry h
  obtain ⟨l, xs, rfl, rfl, hT, hne, q⟩ := h
  cases rx
  obtain ⟨t, rfl⟩ := ry
  obtain ⟨its, r, ⟨⟨cls, dd, data, sl⟩, ho, hc, n, hd⟩, hs⟩ := I.tuple hT
  simp only at hc hd
  subst hc hd
  have hle : its.length = xs.length := r.length.symm
  have hi : its.toArray.isEmpty = false := by
    cases its with
    | nil => exact absurd (List.eq_nil_of_length_eq_zero hle.symm) hne
    | cons a b => rfl
  refine wpAny_binaryOp_repeat_ref (T := "tuple") (U := "int") (by decide) ⟨_, ho, rfl⟩ (fun s' => typeIs_int s' 0 t) noFill_tuple_mul F.fills_int_mul F.slot_int_rmul repeat_tuple F.slot_int_index.lookup
    (call_meets F.slot_int_rmul (typeIs_int s 0 t) F.entry_int_rmul (F.args_int_rmul_2 _ _) (int_rmul_tuple 0 t l its.toArray n dd sl)
      ⟨ho, rfl, ⟨_, ho, rfl⟩, call_meets F.slot_tuple_mul ⟨_, ho, rfl⟩ F.entry_tuple_mul (F.args_tuple_mul_2 _ _) (tuple_mul0 l its.toArray n dd sl t hi) ⟨ho, ?_⟩⟩)
  refine ⟨.ref s.heap.objs.size, _, I.laid (t' := s.toks) (o := .tup []) (fun b ob q => Heap.get?_push_of_some _ q) (Nat.le_refl _) ?_, rfl, q _ (I.hok.fresh (Nat.le_refl _))⟩
  exact ⟨by simp, [], .nil, IsTup.new _ _⟩
set_option maxHeartbeats 4000000 in
theorem list_extend_tupG (l : Addr) (items : Array Value) (n : Nat) (b : Addr) (items2 : Array Value) (n2 : Nat) (dd : Option Addr) (sl : Array (Option Value)) (hs0 : ¬(!items.isEmpty && Builtin.List.listTooLong (items.size + items2.size)) = true) (hs1 : items.size ≤ sizeLine) (hs2 : items.size + items2.size ≤ sizeLine + 1) :
    Meets (Builtin.«list.extend» ⟨[.ref l, .ref b], []⟩) (fun _ R s => s.heap.get? l = some { cls := .type "list", dict := none, data := .seq items n, slots := #[] } ∧ s.heap.get? b = some { cls := .type "tuple", dict := dd, data := .seq items2 n2, slots := sl } ∧ R (.ok (.ret Value.none)) { s with heap := s.heap.update l (Obj.mapSeq fun x => x ++ items2), toks := s.toks }) :=
  .of_wp fun prog w A R s h => by
    obtain ⟨hp, g, d, tk, os⟩ := s; obtain ⟨hl, hb, h⟩ := h; have f1 := AutoSeq1.idx_int; have f2 := AutoSeq1.sub_tuple_tuple; have f3 := AutoSeq1.sub_list_list; have f4 := AutoSeq1.sub_tuple_list; have f5 := AutoSeq1.sub_list_tuple;
    have hz' : (items ++ items2).size ≤ sizeLine + 1 := by rw [Array.size_append]; exact hs2
    wp_walk using (wpAny_updateSeq hl rfl (hz := hs1) (_hz' := hz')), wpAny_loadPart' hl, wpAny_loadPart' hb; exact ⟨_, rfl, h⟩
def rExtendT (K : PySem.W.Frag) : V → List V → Hp → VK → Prop := fun x vs H Q => ∃ l b xs zs, x = .ref l ∧ vs = [.ref b] ∧ H l = some (.lst xs) ∧ SqT K H b zs ∧ xs.length + zs.length ≤ sizeLine ∧ Q .non (upd H l (.lst (xs ++ zs)))
theorem mt_extendT : MtM X "list.extend" (rExtendT X.K) := by
  intro pins s σ H x vs v us Q I rx rv h
  obtain ⟨l, b, xs, zs, rfl, rfl, hH, hB, hz, q⟩ := h
  cases rx
  obtain ⟨u, rfl, ru⟩ := rv.one
  cases ru
  obtain ⟨z, its, n, r, hl, e⟩ := I.lstM hH
  obtain ⟨its2, r2, ⟨⟨cls, dd, data, sl⟩, ho, hc, n2, hd⟩, hs⟩ := I.tuple hB
  simp only at hc hd
  subst hc hd
  have hl2 := r2.length
  have hsz : its.toArray.size + its2.toArray.size ≤ sizeLine := by rw [List.size_toArray, List.size_toArray]; omega
  have hlong : ¬ (!its.toArray.isEmpty && Builtin.List.listTooLong (its.toArray.size + its2.toArray.size)) = true := by
    rw [notLongL hsz, Bool.and_false]
    exact Bool.false_ne_true
  refine call_meets F.slot_list_extend ⟨_, e, rfl⟩ F.entry_list_extend (F.args_list_extend_2 _ _)
    (list_extend_tupG l its.toArray n b its2.toArray n2 dd sl hlong (by rw [List.size_toArray]; omega) (by omega)) ⟨e, ho, ?_⟩
  refine ⟨.non, _, I.lset (its' := its ++ its2) hH e (by simp) (r.append r2) ?_, rfl, q⟩
  rw [List.length_append]
  omega
end Mn
/-! Mn, part 3: the operators keep to the evaluator. -/
namespace Mn
open PySem PySem.Spec PyProof.Rows L2
section
variable {w : World} {K : PySem.W.Frag} {H : Hp} {ρ : List Addr} {S : Store} {Q : VK} {v : V}
theorem Rp.intE {i : Int} (h : Rp K H ρ (.int i) v) : v = .int i := by unfold Rp at h; exact h
theorem Rp.strE {i : Str} (h : Rp K H ρ (.str i) v) : v = .str i := by unfold Rp at h; exact h
theorem Rp.blE {i : Bool} (h : Rp K H ρ (.bl i) v) : v = .bl i := by unfold Rp at h; exact h
theorem Rp.nonE (h : Rp K H ρ .non v) : v = .non := by unfold Rp at h; exact h
theorem Rp.tupE {xs : List D} (h : Rp K H ρ (.tup xs) v) : ∃ a vs, v = .ref a ∧ SqT K H a vs ∧ Rps K H ρ xs vs := by unfold Rp at h; exact h
theorem Rp.int {i : Int} : Rp K H ρ (.int i) (.int i) := by unfold Rp; rfl
theorem Rp.str {i : Str} : Rp K H ρ (.str i) (.str i) := by unfold Rp; rfl
theorem Rp.bl {i : Bool} : Rp K H ρ (.bl i) (.bl i) := by unfold Rp; rfl
theorem Rp.non : Rp K H ρ .non .non := by unfold Rp; rfl
theorem Rp.tup {xs : List D} {a : Addr} {vs : List V} (h : SqT K H a vs) (r : Rps K H ρ xs vs) : Rp K H ρ (.tup xs) (.ref a) := by unfold Rp; exact ⟨a, vs, rfl, h, r⟩
theorem LQ.here {d : D} (h : LQ w K Q ρ H d S) (hS : SR w K H ρ S) (r : Rp K H ρ d v) : Q v H := h v H ρ List.prefix_rfl Ex.refl hS r
theorem LQ.tup {xs : List D} {vs : List V} (h : LQ w K Q ρ H (.tup xs) S) (hS : SR w K H ρ S) (r : Rps K H ρ xs vs) {p : Addr} (hp : H p = none) : Q (.ref p) (upd H p (.tup vs)) :=
  h _ _ ρ List.prefix_rfl (ex_new hp) (hS.tup hp) (.tup (.inl (.inl upd_same)) (r.mono List.prefix_rfl (ex_new hp)))
theorem LQ.new {xs : List D} {vs : List V} (h : LQ w K Q ρ H (.loc S.length) (S ++ [.lst xs])) (hS : SR w K H ρ S) (r : Rps K H ρ xs vs) {p : Addr} (hp : H p = none) : Q (.ref p) (upd H p (.lst vs)) :=
  h _ _ (ρ ++ [p]) (List.prefix_append _ _) (ex_new hp) (hS.alloc hp r) (by unfold Rp; exact ⟨p, by rw [← hS.len]; simp, rfl⟩)
theorem wp_owL {n : Nat} {R : List D → Store → Prop} : wp (owL n) R S ↔ ∃ xs, S[n]? = some (.lst xs) ∧ R xs S := by
  unfold wp wpx owL
  cases e : S[n]? with
  | none => exact ⟨fun h => h.elim, fun ⟨_, h, _⟩ => nomatch h⟩
  | some c =>
    cases c with
    | lst xs => exact ⟨fun h => ⟨xs, rfl, h⟩, fun ⟨_, h, q⟩ => by cases h; exact q⟩
    | ro xs => exact ⟨fun h => h.elim, fun ⟨_, h, _⟩ => nomatch h⟩
    | dct xs => exact ⟨fun h => h.elim, fun ⟨_, h, _⟩ => nomatch h⟩
    | obj _ _ => exact ⟨fun h => h.elim, fun ⟨_, h, _⟩ => nomatch h⟩
theorem wp_getC {n : Nat} {R : Cell → Store → Prop} : wp (getC n) R S ↔ ∃ c, S[n]? = some c ∧ R c S := by
  unfold wp wpx getC
  cases e : S[n]? with
  | none => exact ⟨fun h => h.elim, fun ⟨_, h, _⟩ => nomatch h⟩
  | some c => exact ⟨fun h => ⟨c, rfl, h⟩, fun ⟨_, h, q⟩ => by cases h; exact q⟩
theorem wp_wrC {n : Nat} {c : Cell} {R : Unit → Store → Prop} : wp (wrC n c) R S ↔ R () (S.set n c) := Iff.rfl
theorem wp_rdL {n : Nat} {R : List D → Store → Prop} : wp (rdL n) R S ↔ ∃ xs, (S[n]? = some (.lst xs) ∨ S[n]? = some (.ro xs)) ∧ R xs S := by
  unfold wp wpx rdL
  cases e : S[n]? with
  | none => exact ⟨fun h => h.elim, fun ⟨_, h, _⟩ => h.elim (fun z => nomatch z) fun z => nomatch z⟩
  | some c =>
    cases c with
    | lst xs => exact ⟨fun h => ⟨xs, .inl rfl, h⟩, fun ⟨_, h, q⟩ => by rcases h with h | h <;> cases h; exact q⟩
    | ro xs => exact ⟨fun h => ⟨xs, .inr rfl, h⟩, fun ⟨_, h, q⟩ => by rcases h with h | h <;> cases h; exact q⟩
    | dct xs => exact ⟨fun h => h.elim, fun ⟨_, h, q⟩ => by rcases h with h | h <;> cases h⟩
    | obj _ _ => exact ⟨fun h => h.elim, fun ⟨_, h, q⟩ => by rcases h with h | h <;> cases h⟩
theorem wp_alloc {c : Cell} {R : D → Store → Prop} : wp (alloc c) R S ↔ R (.loc S.length) (S ++ [c]) := Iff.rfl
theorem wp_wrL {n : Nat} {xs : List D} {R : Unit → Store → Prop} : wp (wrL n xs) R S ↔ R () (S.set n (.lst xs)) := Iff.rfl
theorem wp_newL {xs : List D} {R : D → Store → Prop} : wp (newL xs) R S ↔ xs.length ≤ sizeLine ∧ R (.loc S.length) (S ++ [.lst xs]) := by
  unfold newL
  simp only [wpx_bind, wpx_guard, ok2, decide_eq_true_eq]
  exact Iff.rfl
theorem wp_newT {xs : List D} {R : D → Store → Prop} : wp (newT xs) R S ↔ xs.length ≤ sizeLine ∧ R (.tup xs) S := by
  unfold newT
  simp only [wpx_bind, wpx_guard, ok2, decide_eq_true_eq, wpx_ret]
theorem wp_asB {d : D} {R : Bool → Store → Prop} : wp (asB d) R S ↔ ∃ b, d = .bl b ∧ R b S := by
  cases d <;> first | exact ⟨fun h => h.elim, fun ⟨_, h, _⟩ => nomatch h⟩ | exact ⟨fun h => ⟨_, rfl, h⟩, fun ⟨_, h, q⟩ => by cases h; exact q⟩
theorem wp_asI {d : D} {R : Int → Store → Prop} : wp (asI d) R S ↔ ∃ b, d = .int b ∧ R b S := by
  cases d <;> first | exact ⟨fun h => h.elim, fun ⟨_, h, _⟩ => nomatch h⟩ | exact ⟨fun h => ⟨_, rfl, h⟩, fun ⟨_, h, q⟩ => by cases h; exact q⟩
theorem wp_seqOf {d : D} {R : List D → Store → Prop} : wp (seqOf d) R S ↔ (∃ xs, d = .tup xs ∧ R xs S) ∨ ∃ n xs, d = .loc n ∧ (S[n]? = some (.lst xs) ∨ S[n]? = some (.ro xs)) ∧ R xs S := by
  cases d with
  | tup xs => exact ⟨fun h => .inl ⟨_, rfl, h⟩, fun h => h.elim (fun ⟨_, e, q⟩ => by cases e; exact q) fun ⟨_, _, e, _⟩ => nomatch e⟩
  | loc n => exact ⟨fun h => let ⟨xs, h1, h2⟩ := wp_rdL.mp h; .inr ⟨n, xs, rfl, h1, h2⟩, fun h => h.elim (fun ⟨_, e, q⟩ => nomatch e) fun ⟨_, xs, e, h1, h2⟩ => by cases e; exact wp_rdL.mpr ⟨xs, h1, h2⟩⟩
  | _ => exact ⟨fun h => h.elim, fun h => h.elim (fun ⟨_, e, q⟩ => nomatch e) fun ⟨_, _, e, _⟩ => nomatch e⟩
/-- a sequence is read -/
theorem seq_read {d : D} {xs : List D} (hS : SR w K H ρ S) (r : Rp K H ρ d v) (h : d = .tup xs ∨ ∃ n, d = .loc n ∧ (S[n]? = some (.lst xs) ∨ S[n]? = some (.ro xs))) :
    ∃ a vs, v = .ref a ∧ (SqL K H a vs ∨ SqT K H a vs) ∧ Rps K H ρ xs vs := by
  rcases h with rfl | ⟨n, rfl, h⟩
  · obtain ⟨a, vs, e, h1, h2⟩ := r.tupE
    exact ⟨a, vs, e, .inr h1, h2⟩
  · rcases h with h | h
    · obtain ⟨a, e, _, hc⟩ := hS.loc r h
      obtain ⟨vs, h1, h2⟩ := hc.sql (.inl rfl)
      exact ⟨a, vs, e, .inl h1, h2⟩
    · obtain ⟨a, e, _, hc⟩ := hS.loc r h
      obtain ⟨vs, h1, h2⟩ := hc.sql (.inr rfl)
      exact ⟨a, vs, e, .inl h1, h2⟩
theorem lst_read {n : Nat} {xs : List D} (hS : SR w K H ρ S) (r : Rp K H ρ (.loc n) v) (h : S[n]? = some (.lst xs)) : ∃ a vs, v = .ref a ∧ ρ[n]? = some a ∧ H a = some (.lst vs) ∧ Rps K H ρ xs vs := by
  obtain ⟨a, e, q, hc⟩ := hS.loc r h
  obtain ⟨vs, h1, h2⟩ := hc
  exact ⟨a, vs, e, q, h1, h2⟩
end
section
variable {X : Cx}
def rBin (w : World) (K : PySem.W.Frag) (o : BOp) : R2 := fun x y H Q => ∃ ρ S d e, SR w K H ρ S ∧ Rp K H ρ d x ∧ Rp K H ρ e y ∧ wp (binop o d e) (LQ w K Q ρ H) S
theorem opr_add : OpR X (binaryOp .Add) (rBin X.w X.K .add) := by
  intro pins s σ H x y v u Q I rx ry ⟨ρ, S, d, e, hS, hd, he, h⟩
  cases d with
  | int i => cases e with
    | int j =>
      cases hd.intE; cases he.intE
      exact op_add pins s σ H _ _ v u Q I rx ry ⟨i, j, rfl, rfl, LQ.here h hS .int⟩
    | _ => exact False.elim h
  | str i => cases e with
    | str j =>
      cases hd.strE; cases he.strE
      unfold binop at h
      simp only [wpx_bind, wpx_guard, wpx_ret, ok2, decide_eq_true_eq] at h
      exact op_add_str pins s σ H _ _ v u Q I rx ry ⟨i, j, rfl, rfl, h.1, LQ.here h.2 hS .str⟩
    | _ => exact False.elim h
  | tup xs => cases e with
    | tup ys =>
      obtain ⟨a, vs, rfl, h1, r1⟩ := hd.tupE
      obtain ⟨b, us, rfl, h2, r2⟩ := he.tupE
      unfold binop at h
      rw [wp_newT] at h
      obtain ⟨hz, q⟩ := h
      have l1 := r1.length
      have l2 := r2.length
      rw [List.length_append] at hz
      refine op_catA pins s σ H _ _ v u Q I rx ry ⟨a, b, vs, us, rfl, rfl, h1, h2, by omega, fun e => ?_, fun _ e => ?_, fun _ _ p hp => LQ.tup q hS (r1.append r2) hp⟩
      · subst e
        have : xs = [] := List.eq_nil_of_length_eq_zero l1
        subst this
        exact LQ.here q hS (.tup h2 r2)
      · subst e
        have : ys = [] := List.eq_nil_of_length_eq_zero l2
        subst this
        exact LQ.here q hS (.tup h1 (by simpa using r1))
    | _ => exact False.elim h
  | loc n => cases e with
    | loc m =>
      unfold binop at h
      simp only [wpx_bind] at h
      obtain ⟨xs, e1, h⟩ := wp_owL.mp h
      obtain ⟨ys, e2, h⟩ := wp_owL.mp h
      obtain ⟨hz, q⟩ := wp_newL.mp h
      obtain ⟨a, vs, rfl, _, h1, r1⟩ := lst_read hS hd e1
      obtain ⟨b, us, rfl, _, h2, r2⟩ := lst_read hS he e2
      have l1 := r1.length
      have l2 := r2.length
      rw [List.length_append] at hz
      exact op_cat pins s σ H _ _ v u Q I rx ry ⟨a, b, vs, us, rfl, rfl, h1, h2, by omega, fun p hp => LQ.new q hS (r1.append r2) hp⟩
    | _ => exact False.elim h
  | _ => exact False.elim h
theorem opr_sub : OpR X (binaryOp .Sub) (rBin X.w X.K .sub) := by
  intro pins s σ H x y v u Q I rx ry ⟨ρ, S, d, e, hS, hd, he, h⟩
  cases d with
  | int i => cases e with
    | int j =>
      cases hd.intE; cases he.intE
      exact op_sub pins s σ H _ _ v u Q I rx ry ⟨i, j, rfl, rfl, LQ.here h hS .int⟩
    | _ => exact False.elim h
  | _ => exact False.elim h
theorem opr_mod : OpR X (binaryOp .Mod) (rBin X.w X.K .mod) := by
  intro pins s σ H x y v u Q I rx ry ⟨ρ, S, d, e, hS, hd, he, h⟩
  cases d with
  | int i => cases e with
    | int j =>
      cases hd.intE; cases he.intE
      unfold binop at h
      simp only [wpx_bind, wpx_guard, wpx_ret, decide_eq_true_eq] at h
      exact op_mod pins s σ H _ _ v u Q I rx ry ⟨i, j, rfl, rfl, h.1, LQ.here h.2 hS .int⟩
    | _ => exact False.elim h
  | _ => exact False.elim h
theorem opr_fdiv : OpR X (binaryOp .FloorDiv) (rBin X.w X.K .fdiv) := by
  intro pins s σ H x y v u Q I rx ry ⟨ρ, S, d, e, hS, hd, he, h⟩
  cases d with
  | int i => cases e with
    | int j =>
      cases hd.intE; cases he.intE
      unfold binop at h
      simp only [wpx_bind, wpx_guard, wpx_ret, decide_eq_true_eq, Bool.and_eq_true] at h
      exact op_fdiv pins s σ H _ _ v u Q I rx ry ⟨i, j, rfl, rfl, h.1, LQ.here h.2 hS .int⟩
    | _ => exact False.elim h
  | _ => exact False.elim h
theorem opr_pow : OpR X (binaryOp .Pow) (rBin X.w X.K .pow) := by
  intro pins s σ H x y v u Q I rx ry ⟨ρ, S, d, e, hS, hd, he, h⟩
  cases d with
  | int i => cases e with
    | int j =>
      cases hd.intE; cases he.intE
      unfold binop at h
      simp only [wpx_bind, wpx_guard, wpx_ret, decide_eq_true_eq, Bool.and_eq_true] at h
      exact op_pow pins s σ H _ _ v u Q I rx ry ⟨i, j, rfl, rfl, ⟨h.1.1.1, h.1.1.2, h.1.2⟩, LQ.here h.2 hS .int⟩
    | _ => exact False.elim h
  | _ => exact False.elim h
theorem fold_rep (l : List Nat) : ∀ (n : Nat) (acc : Array Nat), (List.replicate n l.toArray).foldl (· ++ ·) acc = acc ++ (rep l n).toArray
  | 0, acc => by simp [rep]
  | n + 1, acc => by
    rw [List.replicate_succ, List.foldl_cons, fold_rep l n]
    simp [rep, List.replicate_succ]
theorem rep_len {α : Type} (l : List α) : ∀ n, (rep l n).length = n * l.length
  | 0 => by simp [rep]
  | n + 1 => by
    have := rep_len l n
    unfold rep at *
    rw [List.replicate_succ, List.flatten_cons, List.length_append, this, Nat.succ_mul, Nat.add_comm]
theorem mul_le {a b c d : Nat} (h1 : a ≤ c) (h2 : b ≤ d) : a * b ≤ c * d := Nat.mul_le_mul h1 h2
theorem opr_mul : OpR X (binaryOp .Mult) (rBin X.w X.K .mul) := by
  intro pins s σ H x y v u Q I rx ry ⟨ρ, S, d, e, hS, hd, he, h⟩
  have hline : sizeLine = 16777216 := sizeLine_eq
  cases d with
  | int i => cases e with
    | int j =>
      cases hd.intE; cases he.intE
      unfold binop cMul at h
      simp only [wpx_bind, wpx_guard, wpx_ret, decide_eq_true_eq, Bool.and_eq_true, Bool.or_eq_true] at h
      exact op_mul pins s σ H _ _ v u Q I rx ry ⟨i, j, rfl, rfl, h.1, LQ.here h.2 hS .int⟩
    | _ => exact False.elim h
  | str z => cases e with
    | int j =>
      cases hd.strE; cases he.intE
      unfold binop at h
      simp only [wpx_bind, wpx_guard, wpx_ret, decide_eq_true_eq, Bool.and_eq_true] at h
      obtain ⟨⟨⟨hz, hlo⟩, hhi⟩, q⟩ := h
      obtain ⟨t, rfl⟩ := rx
      obtain ⟨t', rfl⟩ := ry
      have hm : z.length * j.toNat ≤ 1000 * 1000 := mul_le hz (by omega)
      have q' := LQ.here (v := .str ⟨(rep z.cps.toList j.toNat).toArray⟩) q hS .str
      refine PySem.P.mul_str (by simp; omega) (fun h1 h2 => ?_) (fun h1 h2 => ?_) ?_
      · have : (2 ^ 63 - 1 : Int) / 1000 ≤ (2 ^ 63 - 1) / j := by
          apply Int.le_ediv_of_mul_le (by omega)
          have : (2 ^ 63 - 1 : Int) / 1000 * j ≤ (2 ^ 63 - 1 : Int) / 1000 * 1000 := Int.mul_le_mul_of_nonneg_left (by omega) (by decide)
          refine Int.le_trans this (by decide)
        have c : (1000 : Int) ≤ (2 ^ 63 - 1 : Int) / 1000 := by decide
        omega
      · unfold Builtin.Str.tooLong
        rw [decide_eq_false (by omega)]
      · by_cases hj : j < 1
        · rw [if_pos hj]
          have e0 : j.toNat = 0 := by omega
          rw [e0] at q'
          exact ⟨by decide, ⟨.str _, H, I.tok _, ⟨_, rfl⟩, q'⟩⟩
        · rw [if_neg hj]
          by_cases h1 : (j == 1 || z.length == 0) = true
          · rw [if_pos h1]
            have e0 : (⟨(rep z.cps.toList j.toNat).toArray⟩ : Str) = z := by
              have : rep z.cps.toList j.toNat = z.cps.toList := by
                rcases Bool.or_eq_true _ _ ▸ h1 with h1 | h1
                · have : j = 1 := by simpa using h1
                  subst this
                  simp [rep]
                · have : z.length = 0 := by simpa using h1
                  have : z.cps.toList = [] := List.eq_nil_of_length_eq_zero (by simpa [Str.length] using this)
                  rw [this]
                  exact List.eq_nil_of_length_eq_zero (by rw [rep_len]; simp)
              rw [this]
            rw [e0] at q'
            exact ⟨.str z, H, I, ⟨_, rfl⟩, q'⟩
          · rw [if_neg h1]
            have e0 : (List.replicate j.toNat z.cps).foldl (· ++ ·) #[] = (rep z.cps.toList j.toNat).toArray := by
              have := fold_rep z.cps.toList j.toNat #[]
              simpa using this
            refine ⟨?_, ⟨.str _, H, I.tok _, ⟨_, rfl⟩, ?_⟩⟩
            · show Str.length ⟨_⟩ ≤ sizeLine
              rw [e0]
              show (rep z.cps.toList j.toNat).toArray.size ≤ _
              rw [List.size_toArray, rep_len, hline, Nat.mul_comm]
              have : z.cps.toList.length = z.length := by simp [Str.length]
              rw [this]
              omega
            · rw [e0]
              exact q'
    | _ => exact False.elim h
  | tup xs => cases e with
    | int j =>
      cases he.intE
      obtain ⟨a, vs, rfl, h1, r1⟩ := hd.tupE
      unfold binop at h
      simp only [wpx_bind, wpx_guard, wpx_ret, decide_eq_true_eq, Bool.and_eq_true] at h
      obtain ⟨⟨⟨⟨hne, h2⟩, h3⟩, h4⟩, q⟩ := h
      have l1 := r1.length
      have hv : vs ≠ [] := by
        rintro rfl
        have : xs = [] := List.eq_nil_of_length_eq_zero l1
        subst this
        simp at hne
      by_cases j0 : j = 0
      · subst j0
        exact op_rep0 pins s σ H _ _ v u Q I rx ry ⟨a, vs, rfl, rfl, h1, hv, fun p hp => LQ.tup q hS .nil hp⟩
      · by_cases j1 : j = 1
        · subst j1
          have e1 : rep xs (1 : Int).toNat = xs := by simp [rep]
          rw [e1] at q
          exact op_rep1 pins s σ H _ _ v u Q I rx ry ⟨a, vs, rfl, rfl, h1, LQ.here q hS (.tup h1 r1)⟩
        · exact op_repT pins s σ H _ _ v u Q I rx ry ⟨a, j, vs, rfl, rfl, h1, hv, by omega, h3, by omega, fun p hp => LQ.tup q hS (r1.rep j.toNat) hp⟩
    | _ => exact False.elim h
  | loc n => cases e with
    | int j =>
      cases he.intE
      unfold binop at h
      simp only [wpx_bind] at h
      obtain ⟨xs, e1, h⟩ := wp_owL.mp h
      simp only [wpx_bind, wpx_guard, wp_alloc, ok2, decide_eq_true_eq, Bool.and_eq_true] at h
      obtain ⟨⟨⟨h2, h3⟩, h4⟩, q⟩ := h
      obtain ⟨a, vs, rfl, _, h1, r1⟩ := lst_read hS hd e1
      have l1 := r1.length
      exact op_rep pins s σ H _ _ v u Q I rx ry ⟨a, j, vs, rfl, rfl, h1, h2, h3, by rw [← l1]; exact h4, fun p hp => LQ.new q hS (r1.rep j.toNat) hp⟩
    | _ => exact False.elim h
  | _ => exact False.elim h
end
end Mn
/-! Mn: dicts, their keys ints, texts, or tuples of any depth to 8. -/
namespace Mn
open PySem PySem.Spec PyProof.Rows L2
section
variable {X : Cx} {w : World} {K : PySem.W.Frag} {H : Hp} {ρ : List Addr} {S : Store} {pins : List (Addr × Obj)} {σ : L2.St} {s : Shared}
mutual
theorem nested_of (I : Inv X pins σ H s) : ∀ {d : D} {v : V} {u : Value} {k : NK}, Rp X.K H ρ d v → keyD d = some k → RelV v u → NestedIs s.heap k u
  | .non, v, u, k, r, e, q => by cases r.nonE; cases e; cases (show u = Value.none from q); exact .none
  | .bl b, v, u, k, r, e, q => by cases r.blE; cases e; cases (show u = Value.bool b from q); exact .bool rfl
  | .int i, v, u, k, r, e, q => by cases r.intE; cases e; obtain ⟨t, rfl⟩ := (show ∃ t, u = Value.int i t from q); exact .int _ _
  | .str x, v, u, k, r, e, q => by cases r.strE; cases e; obtain ⟨t, rfl⟩ := (show ∃ t, u = Value.str x t from q); exact .text _ _
  | .tup xs, v, u, k, r, e, q => by
    obtain ⟨a, vs, rfl, h1, h2⟩ := r.tupE
    cases (show u = Value.ref a from q)
    unfold keyD at e
    cases hk : keysD xs with
    | none => rw [hk] at e; cases e
    | some ks =>
      rw [hk] at e; cases e
      obtain ⟨its, hv, ⟨o, e1, e2, n, e3⟩, _⟩ := I.tuple h1
      exact .tup e1 e2 e3 (by simpa using nested_all I h2 hk hv)
  | .loc _, _, _, _, _, e, _ => by cases e
  | .lst _, _, _, _, _, e, _ => by cases e
  | .dct _ _, _, _, _, _, e, _ => by cases e
theorem nested_all (I : Inv X pins σ H s) : ∀ {ds : List D} {vs : List V} {us : List Value} {ks : List NK}, Rps X.K H ρ ds vs → keysD ds = some ks → Vals vs us → NestedAll s.heap ks us
  | [], vs, us, ks, r, e, q => by
    unfold Rps at r; subst r
    cases q; cases e; exact .nil
  | d :: ds, vs, us, ks, r, e, q => by
    unfold Rps at r
    obtain ⟨v, r', rfl, h1, h2⟩ := r
    cases q with
    | cons q1 q2 =>
      unfold keysD at e
      cases h3 : keyD d with
      | none => rw [h3] at e; cases e
      | some k =>
        cases h4 : keysD ds with
        | none => rw [h3, h4] at e; cases e
        | some ks' =>
          rw [h3, h4] at e; cases e
          exact .cons (nested_of I h1 h3 q1) (nested_all I h2 h4 q2)
end
theorem key_is (I : Inv X pins σ H s) {k : NK} {b : Addr} (h : KeyT X.K H k b) : (nestedKind X.prog X.w).is s.heap k b := by
  obtain ⟨ρ', ds, h1, h2, h3, h4⟩ := h
  cases k with
  | tup ks =>
    refine ⟨nested_of (ρ := ρ') (d := .tup ds) I h1 ?_ rfl, h4⟩
    have h2 : keysD ds = some ks := h2
    unfold keyD
    rw [h2]; rfl
  | _ => cases h3
/-- a tuple that is a key -/
theorem keyT_of {xs : List D} {v : V} {k : NK} (r : Rp K H ρ (.tup xs) v) (e : dkey (.tup xs) = some k) : ∃ b, v = .ref b ∧ KeyT K H k b := by
  obtain ⟨a, vs, rfl, h1, h2⟩ := r.tupE
  unfold dkey at e
  cases hk : keysD xs with
  | none => simp only [hk] at e; cases e
  | some ks =>
    simp only [hk] at e
    split at e
    · rename_i hd
      cases e
      exact ⟨a, rfl, ρ, xs, .tup h1 h2, hk, rfl, hd⟩
    · cases e
theorem dkey_sc {y : D} {v : V} {k : NK} (r : Rp K H ρ y v) (e : dkey y = some k) : (isTK k = true ∧ ∃ xs, y = .tup xs) ∨ (isTK k = false ∧ ∃ q : Key, v = kV q ∧ k = toK q) := by
  cases y with
  | int i => cases r.intE; cases e; exact .inr ⟨rfl, .inl i, rfl, rfl⟩
  | str x => cases r.strE; cases e; exact .inr ⟨rfl, .inr x, rfl, rfl⟩
  | tup xs =>
    left
    refine ⟨?_, xs, rfl⟩
    obtain ⟨b, _, _, _, _, _, h, _⟩ := keyT_of r e
    exact h
  | _ => cases e
/-! ### entries -/
abbrev PX : NK × Addr × V → NK × Addr × Value → Prop := fun p q => p.1 = q.1 ∧ p.2.1 = q.2.1 ∧ RelV p.2.2 q.2.2
theorem at_rel {k : NK} : ∀ {xs : List (NK × Addr × V)} {us : List (NK × Addr × Value)} {kvs : List (NK × D)}, Paired PX xs us → kvs.map (·.1) = xs.map (·.1) → Rps K H ρ (kvs.map (·.2)) (xs.map (·.2.2)) →
    (dAt kvs k = none ∧ atKey us k = none) ∨ ∃ d v b u, dAt kvs k = some d ∧ atKey us k = some (b, u) ∧ Rp K H ρ d v ∧ RelV v u
  | _, _, [], .nil, _, _ => .inl ⟨rfl, rfl⟩
  | _, _, _ :: _, .nil, e, _ => by simp at e
  | x :: xs, u :: us, [], .cons _ _, e, _ => by simp at e
  | x :: xs, u :: us, p :: kvs, .cons q t, e, r => by
    simp only [List.map_cons, List.cons.injEq] at e r
    unfold Rps at r
    obtain ⟨v, r', he, h1, h2⟩ := r
    simp only [List.cons.injEq] at he
    obtain ⟨rfl, rfl⟩ := he
    by_cases hk : p.1 = k
    · right
      refine ⟨p.2, x.2.2, u.2.1, u.2.2, by simp [dAt, hk], ?_, h1, q.2.2⟩
      have : u.1 = k := by rw [← q.1, ← e.1]; exact hk
      simp [atKey, this]
    · have hu : ¬ u.1 = k := by rw [← q.1, ← e.1]; exact hk
      rcases at_rel (k := k) t e.2 h2 with ⟨a, b⟩ | ⟨d, v, b, w', a, c, r⟩
      · left
        unfold dAt atKey at *
        simp only [List.find?_cons, hk, hu, decide_false]
        exact ⟨a, b⟩
      · right
        refine ⟨d, v, b, w', ?_, ?_, r⟩
        · unfold dAt at *
          simpa only [List.find?_cons, hk, decide_false] using a
        · unfold atKey at *
          simpa only [List.find?_cons, hu, decide_false] using c
def upX (k : NK) (v : V) (x : NK × Addr × V) : NK × Addr × V := if x.1 = k then (x.1, x.2.1, v) else x
theorem up_rel {k : NK} {d : D} {v : V} {u : Value} (hd : Rp K H ρ d v) (hu : RelV v u) : ∀ {xs : List (NK × Addr × V)} {us : List (NK × Addr × Value)} {kvs : List (NK × D)}, Paired PX xs us → kvs.map (·.1) = xs.map (·.1) → Rps K H ρ (kvs.map (·.2)) (xs.map (·.2.2)) →
    Paired PX (xs.map (upX k v)) (us.map (putAt k u)) ∧ (kvs.map (dUp k d)).map (·.1) = (xs.map (upX k v)).map (·.1) ∧ Rps K H ρ ((kvs.map (dUp k d)).map (·.2)) ((xs.map (upX k v)).map (·.2.2))
  | _, _, [], .nil, _, _ => ⟨.nil, rfl, .nil⟩
  | _, _, _ :: _, .nil, e, _ => by simp at e
  | x :: xs, u' :: us, [], .cons _ _, e, _ => by simp at e
  | x :: xs, u' :: us, p :: kvs, .cons q t, e, r => by
    simp only [List.map_cons, List.cons.injEq] at e r
    unfold Rps at r
    obtain ⟨v', r', he, h1, h2⟩ := r
    simp only [List.cons.injEq] at he
    obtain ⟨rfl, rfl⟩ := he
    obtain ⟨i1, i2, i3⟩ := up_rel (k := k) hd hu t e.2 h2
    simp only [List.map_cons]
    by_cases hk : p.1 = k
    · have hx : x.1 = k := by rw [← e.1]; exact hk
      have hu' : u'.1 = k := by rw [← q.1]; exact hx
      refine ⟨.cons ?_ i1, ?_, ?_⟩
      · unfold upX putAt; rw [if_pos hx, if_pos hu']; exact ⟨q.1, q.2.1, hu⟩
      · rw [i2]; unfold dUp upX; rw [if_pos hk, if_pos hx]; simp only [e.1]
      · refine .cons ?_ i3
        unfold dUp upX; rw [if_pos hk, if_pos hx]; exact hd
    · have hx : ¬ x.1 = k := by rw [← e.1]; exact hk
      have hu' : ¬ u'.1 = k := by rw [← q.1]; exact hx
      refine ⟨.cons ?_ i1, ?_, ?_⟩
      · unfold upX putAt; rw [if_neg hx, if_neg hu']; exact q
      · rw [i2]; unfold dUp upX; rw [if_neg hk, if_neg hx]; simp only [e.1]
      · refine .cons ?_ i3
        unfold dUp upX; rw [if_neg hk, if_neg hx]; exact h1
theorem paired_append {α β : Type} {F : α → β → Prop} : ∀ {a b : List α} {c d : List β}, Paired F a c → Paired F b d → Paired F (a ++ b) (c ++ d)
  | _, _, _, _, .nil, h => h
  | _, _, _, _, .cons q t, h => .cons q (paired_append t h)
/-- the entries behind d[k] = v -/
theorem put_rel {k : NK} {b : Addr} {d : D} {v : V} {u : Value} {xs : List (NK × Addr × V)} {us : List (NK × Addr × Value)} {kvs : List (NK × D)} (hd : Rp K H ρ d v) (hu : RelV v u) (hk : KeyT K H k b) (hx : ∀ x ∈ xs, KeyT K H x.1 x.2.1)
    (p : Paired PX xs us) (e : kvs.map (·.1) = xs.map (·.1)) (r : Rps K H ρ (kvs.map (·.2)) (xs.map (·.2.2))) :
    ∃ xs', Paired PX xs' (storedH us k b u) ∧ (dPut kvs k d).map (·.1) = xs'.map (·.1) ∧ Rps K H ρ ((dPut kvs k d).map (·.2)) (xs'.map (·.2.2)) ∧ ∀ x ∈ xs', KeyT K H x.1 x.2.1 := by
  rcases at_rel (k := k) p e r with ⟨a, c⟩ | ⟨d', v', b', u', a, c, _⟩
  · refine ⟨xs ++ [(k, b, v)], ?_, ?_, ?_, fun x hm => ?_⟩
    · rw [storedH_new c]
      exact paired_append p (.cons ⟨rfl, rfl, hu⟩ .nil)
    · unfold dPut; rw [a]; simp [e]
    · unfold dPut; rw [a]
      simp only [Option.isSome_none, Bool.false_eq_true, if_false, List.map_append, List.map_cons, List.map_nil]
      exact r.append (.cons hd .nil)
    · rcases List.mem_append.mp hm with q | q
      · exact hx x q
      · simp at q; subst q; exact hk
  · obtain ⟨i1, i2, i3⟩ := up_rel (k := k) hd hu p e r
    refine ⟨xs.map (upX k v), ?_, ?_, ?_, fun x hm => ?_⟩
    · rw [storedH_old c]; exact i1
    · unfold dPut; rw [a]; exact i2
    · unfold dPut; rw [a]; exact i3
    · obtain ⟨y, hy, rfl⟩ := List.mem_map.mp hm
      unfold upX
      split
      · exact hx y hy
      · exact hx y hy
theorem dPut_ne (kvs : List (NK × D)) (k : NK) (d : D) : dPut kvs k d ≠ [] := by
  unfold dPut
  split
  · rename_i h
    intro z
    rw [List.map_eq_nil_iff] at z
    subst z
    cases h
  · simp
theorem length_dPut (kvs : List (NK × D)) (k : NK) (d : D) : (dPut kvs k d).length ≤ kvs.length + 1 := by
  unfold dPut
  split
  · rw [List.length_map]; omega
  · simp
/-- the object's entries as the library has them -/
theorem raw_dict {a : Addr} {xs : List (NK × Addr × V)} (I : Inv X pins σ H s) (h : RawT X.w a xs s.heap) (hx : ∀ x ∈ xs, KeyT X.K H x.1 x.2.1) :
    (a == sysModules) = false ∧ xs.length ≤ sizeLine ∧ ∃ us, Paired PX xs us ∧ s.heap.DictOfH (nestedKind X.prog X.w) a us := by
  obtain ⟨h1, h2, us, p, o, es, ep, e1, e2, e3, e4, e5⟩ := h
  refine ⟨h1, h2, us, p, o, es, ep, e1, e2, e3, e4, fun y hy => ?_, e5⟩
  have : ∀ {xs : List (NK × Addr × V)} {us : List (NK × Addr × Value)}, Paired PX xs us → (∀ x ∈ xs, KeyT X.K H x.1 x.2.1) → ∀ y ∈ us, KeyT X.K H y.1 y.2.1 := by
    intro xs us p
    induction p with
    | nil => intro _ y hy; cases hy
    | @cons a b as bs q t ih =>
      intro hx y hy
      rcases List.mem_cons.mp hy with rfl | hy
      · rw [← q.1, ← q.2.1]; exact hx _ (List.mem_cons_self ..)
      · exact ih (fun x hm => hx x (List.mem_cons_of_mem _ hm)) y hy
  exact key_is I (this p hx y hy)
/-- .. and back -/
theorem raw_of {a : Addr} {h' : Heap} {P : Program} {xs : List (NK × Addr × V)} {us : List (NK × Addr × Value)} (ha : (a == sysModules) = false) (hz : xs.length ≤ sizeLine) (p : Paired PX xs us) (dd : h'.DictOfH (nestedKind P w) a us) : RawT w a xs h' := by
  obtain ⟨o, es, ep, e1, e2, e3, e4, _, e5⟩ := dd
  exact ⟨ha, hz, us, p, o, es, ep, e1, e2, e3, e4, e5⟩
theorem raw_ext {P : Program} {H' : Hp} {h' : Heap} {a : Addr} {xs : List (NK × Addr × V)} (r : RawT w a xs h') : ObjOk P w H' h' a (.ext (RawT w a xs)) := by
  refine ⟨r, ?_, fun h1 h2 q k => ?_⟩
  · obtain ⟨_, _, _, _, o, _, _, e, _⟩ := r
    exact ⟨o, e⟩
  · obtain ⟨a1, a2, us, p, o, es, ep, e1, e2⟩ := q
    exact ⟨a1, a2, us, p, o, es, ep, k _ e1, e2⟩
/-- int and text keys: what is there -/
theorem atK_rel {q : Key} : ∀ {ks : List (Key × V)} {kvs : List (NK × D)}, kvs.map (·.1) = ks.map (fun p => toK p.1) → Rps K H ρ (kvs.map (·.2)) (ks.map (·.2)) →
    (dAt kvs (toK q) = none ∧ valV ks q = none) ∨ ∃ d v, dAt kvs (toK q) = some d ∧ valV ks q = some v ∧ Rp K H ρ d v
  | [], [], _, _ => .inl ⟨rfl, rfl⟩
  | [], _ :: _, e, _ => by simp at e
  | _ :: _, [], e, _ => by simp at e
  | x :: ks, p :: kvs, e, r => by
    simp only [List.map_cons, List.cons.injEq] at e r
    unfold Rps at r
    obtain ⟨v, r', he, h1, h2⟩ := r
    simp only [List.cons.injEq] at he
    obtain ⟨rfl, rfl⟩ := he
    by_cases hk : x.1 = q
    · exact .inr ⟨p.2, x.2, by unfold dAt; rw [List.find?_cons]; simp [e.1, hk], valV_pos hk, h1⟩
    · have hp : ¬ p.1 = toK q := by rw [e.1]; exact fun z => hk (toK_inj z)
      rw [valV_neg hk]
      have : dAt (p :: kvs) (toK q) = dAt kvs (toK q) := by unfold dAt; simp [List.find?_cons, hp]
      rw [this]
      exact atK_rel e.2 h2
theorem putK_rel {q : Key} {d : D} {v : V} (hd : Rp K H ρ d v) {ks : List (Key × V)} {kvs : List (NK × D)} (e : kvs.map (·.1) = ks.map (fun p => toK p.1)) (r : Rps K H ρ (kvs.map (·.2)) (ks.map (·.2))) :
    (dPut kvs (toK q) d).map (·.1) = (putK ks q v).map (fun p => toK p.1) ∧ Rps K H ρ ((dPut kvs (toK q) d).map (·.2)) ((putK ks q v).map (·.2)) := by
  have up : ∀ {ks : List (Key × V)} {kvs : List (NK × D)}, kvs.map (·.1) = ks.map (fun p => toK p.1) → Rps K H ρ (kvs.map (·.2)) (ks.map (·.2)) →
      (kvs.map (dUp (toK q) d)).map (·.1) = (ks.map (fun kv => if kv.1 = q then (kv.1, v) else kv)).map (fun p => toK p.1) ∧ Rps K H ρ ((kvs.map (dUp (toK q) d)).map (·.2)) ((ks.map (fun kv => if kv.1 = q then (kv.1, v) else kv)).map (·.2)) := by
    intro ks
    induction ks with
    | nil =>
      intro kvs e r
      cases kvs with
      | nil => exact ⟨rfl, .nil⟩
      | cons _ _ => simp at e
    | cons x ks ih =>
      intro kvs e r
      cases kvs with
      | nil => simp at e
      | cons p kvs =>
        simp only [List.map_cons, List.cons.injEq] at e r
        unfold Rps at r
        obtain ⟨v', r', he, h1, h2⟩ := r
        simp only [List.cons.injEq] at he
        obtain ⟨rfl, rfl⟩ := he
        obtain ⟨i1, i2⟩ := ih e.2 h2
        simp only [List.map_cons]
        by_cases hk : x.1 = q
        · have hp : p.1 = toK q := by rw [e.1, hk]
          rw [i1]
          refine ⟨?_, .cons ?_ i2⟩
          · unfold dUp; rw [if_pos hp, if_pos hk]; simp only [e.1]
          · unfold dUp; rw [if_pos hp, if_pos hk]; exact hd
        · have hp : ¬ p.1 = toK q := by rw [e.1]; exact fun z => hk (toK_inj z)
          rw [i1]
          refine ⟨?_, .cons ?_ i2⟩
          · unfold dUp; rw [if_neg hp, if_neg hk]; simp only [e.1]
          · unfold dUp; rw [if_neg hp, if_neg hk]; exact h1
  unfold dPut putK
  rw [valV_any]
  rcases atK_rel (q := q) e r with ⟨a, b⟩ | ⟨d', v', a, b, _⟩
  · rw [a, b]
    simp only [Option.isSome_none, Bool.false_eq_true, if_false, List.map_append, List.map_cons, List.map_nil, e, true_and]
    exact r.append (.cons hd .nil)
  · rw [a, b]
    exact up e r
theorem fits_tk {kvs : List (NK × D)} {k : NK} (h : fits k kvs = true) : ∀ p ∈ kvs, isTK p.1 = isTK k := fun p hp => by
  have := List.all_eq_true.mp h p hp
  simpa using this
theorem tk_toK (q : Key) : isTK (toK q) = false := by cases q <;> rfl
/-- a dict of the wrong kind is empty -/
theorem nil_ks {kvs : List (NK × D)} {ks : List (Key × V)} {k : NK} (h : fits k kvs = true) (hk : isTK k = true) (e : kvs.map (·.1) = ks.map (fun p => toK p.1)) : kvs = [] ∧ ks = [] := by
  cases kvs with
  | nil => cases ks with
    | nil => exact ⟨rfl, rfl⟩
    | cons _ _ => simp at e
  | cons p r => cases ks with
    | nil => simp at e
    | cons x y =>
      simp only [List.map_cons, List.cons.injEq] at e
      have := fits_tk h p (List.mem_cons_self ..)
      rw [e.1, tk_toK, hk] at this
      cases this
theorem nil_xs {kvs : List (NK × D)} {xs : List (NK × Addr × V)} {k : NK} (h : fits k kvs = true) (hk : isTK k = false) (e : kvs.map (·.1) = xs.map (·.1)) (hx : ∀ x ∈ xs, KeyT K H x.1 x.2.1) : kvs = [] ∧ xs = [] := by
  cases kvs with
  | nil => cases xs with
    | nil => exact ⟨rfl, rfl⟩
    | cons _ _ => simp at e
  | cons p r => cases xs with
    | nil => simp at e
    | cons x y =>
      simp only [List.map_cons, List.cons.injEq] at e
      have := fits_tk h p (List.mem_cons_self ..)
      obtain ⟨_, _, _, _, h3, _⟩ := hx x (List.mem_cons_self ..)
      rw [e.1, h3, hk] at this
      cases this
end
end Mn
/-! Mn: what is done with dicts. -/
namespace Mn
open PySem PySem.Spec PyProof.Rows L2
section
variable {X : Cx} {w : World} {K : PySem.W.Frag} {H : Hp} {ρ : List Addr} {S : Store} {pins : List (Addr × Obj)} {σ : L2.St} {s : Shared} {A : Around} {E : Value → Shared → Prop} {a : Addr} {kvs : List (NK × D)} {y d : D} {yv : V} {u : Value}
theorem room_in1 {P : Program} (hu : A.units + 20 < cLine) : (nestedKind P w).room A.in1 := by
  show A.in1.units + 8 < cLine
  rw [Around.in1_units]; omega
theorem room_0 {P : Program} (hu : A.units + 20 < cLine) : (nestedKind P w).room A := by
  show A.units + 8 < cLine
  omega
theorem ext_raw (I : Inv X pins σ H s) {xs : List (NK × Addr × V)} (e : H a = some (.ext (RawT X.w a xs))) : RawT X.w a xs s.heap := (I.hok a _ e).1
theorem dd_type (I : Inv X pins σ H s) (c : CellR X.w X.K H ρ (.dct kvs) a) : s.TypeIs (.ref a) "dict" := by
  rcases c with ⟨ks, h1, _⟩ | ⟨xs, h0, h1, _, _, h4⟩
  · obtain ⟨_, _, vs, _, dd⟩ := dk_of I.hok h1
    exact dd.typeIs
  · obtain ⟨_, _, us, _, dd⟩ := raw_dict I (ext_raw I h1) h4
    exact dd.typeIs
theorem k_to_t {P : Program} {h : Heap} (dd : h.DictOf (mixKind P w) a []) : h.DictOfH (nestedKind P w) a [] := by
  obtain ⟨o, es, ep, e1, e2, e3, _, e5, _⟩ := dd
  refine ⟨o, es, ep, e1, e2, e3, ?_, fun _ hx => (nomatch hx), List.nodup_nil⟩
  generalize es.toList = l at e5
  cases l with
  | nil => rfl
  | cons _ _ => cases e5
theorem t_to_k {P : Program} {h : Heap} (dd : h.DictOfH (nestedKind P w) a []) : h.DictOf (mixKind P w) a [] := by
  obtain ⟨o, es, ep, e1, e2, e3, e4, _⟩ := dd
  have e : es = #[] := by simpa using e4
  subst e
  exact ⟨o, #[], ep, e1, e2, e3, fun e he => absurd he (by simp), .nil, List.nodup_nil⟩
theorem dget_some (g : dGet kvs y = some d) : ∃ k, dkey y = some k ∧ fits k kvs = true ∧ dAt kvs k = some d := by
  unfold dGet at g
  cases h : dkey y with
  | none => simp [h] at g
  | some k =>
    simp only [h] at g
    split at g
    · rename_i hf; exact ⟨k, rfl, hf, g⟩
    · cases g
theorem dhas_some {b : Bool} (g : dHas kvs y = some b) : ∃ k, dkey y = some k ∧ fits k kvs = true ∧ b = (dAt kvs k).isSome := by
  unfold dHas at g
  cases h : dkey y with
  | none => simp [h] at g
  | some k =>
    simp only [h] at g
    split at g
    · rename_i hf; cases g; exact ⟨k, rfl, hf, rfl⟩
    · cases g
theorem dset_some {kvs' : List (NK × D)} (g : dSet kvs y d = some kvs') : ∃ k, dkey y = some k ∧ fits k kvs = true ∧ kvs.length < sizeLine ∧ kvs' = dPut kvs k d := by
  unfold dSet at g
  cases h : dkey y with
  | none => simp [h] at g
  | some k =>
    simp only [h] at g
    split at g
    · rename_i hf; cases g; exact ⟨k, rfl, hf.1, hf.2, rfl⟩
    · cases g
/-- d[y] -/
theorem dd_get {Q : Value → Shared → Prop} (hu : A.units + 20 < cLine) (I : Inv X pins σ H s) (c : CellR X.w X.K H ρ (.dct kvs) a) (ry : Rp X.K H ρ y yv) (rv : RelV yv u) (g : dGet kvs y = some d)
    (h : ∀ v w' s', Inv X pins σ H s' → Rp X.K H ρ d v → RelV v w' → Q w' s') : wpAny (model X.prog X.w) A (getItem (.ref a) u) Q E s := by
  obtain ⟨k, hk, hf, hd⟩ := dget_some g
  rcases dkey_sc ry hk with ⟨ht, xs0, rfl⟩ | ⟨ht, q, rfl, rfl⟩
  · obtain ⟨b, rfl, kt⟩ := keyT_of ry hk
    cases (show u = Value.ref b from rv)
    rcases c with ⟨ks, h1, h2, h3⟩ | ⟨xs, h0, h1, h2, h3, h4⟩
    · obtain ⟨rfl, rfl⟩ := nil_ks hf ht h2
      cases hd
    · obtain ⟨a1, a2, us, p, dd⟩ := raw_dict I (ext_raw I h1) h4
      rcases at_rel (k := k) p h2 h3 with ⟨z, _⟩ | ⟨d', v, b', u', z1, z2, z3, z4⟩
      · rw [z] at hd; cases hd
      · rw [z1] at hd; cases hd
        exact wpAny_getItem_heap (room_in1 hu) (key_is I kt) dd z2 (h v u' _ (I.tok _) z3 z4)
  · rcases c with ⟨ks, h1, h2, h3⟩ | ⟨xs, h0, h1, h2, h3, h4⟩
    · rcases atK_rel (q := q) h2 h3 with ⟨z, _⟩ | ⟨d', v, z1, z2, z3⟩
      · rw [z] at hd; cases hd
      · rw [z1] at hd; cases hd
        exact d_getItem (v := v) (by omega) I (z2 ▸ DGet.k h1) rv fun w' s' I' rw' => h v w' s' I' z3 rw'
    · exact absurd (nil_xs hf ht h2 h4).2 h0
/-- y in d -/
theorem dd_in {Q : Value → Shared → Prop} {b : Bool} (hu : A.units + 20 < cLine) (I : Inv X pins σ H s) (c : CellR X.w X.K H ρ (.dct kvs) a) (ry : Rp X.K H ρ y yv) (rv : RelV yv u) (g : dHas kvs y = some b)
    (h : ∀ s', Inv X pins σ H s' → Q (.bool b) s') : wpAny (model X.prog X.w) A (compareOp .In u (.ref a)) Q E s := by
  obtain ⟨k, hk, hf, rfl⟩ := dhas_some g
  rcases dkey_sc ry hk with ⟨ht, xs0, rfl⟩ | ⟨ht, q, rfl, rfl⟩
  · obtain ⟨b, rfl, kt⟩ := keyT_of ry hk
    cases (show u = Value.ref b from rv)
    rcases c with ⟨ks, h1, h2, h3⟩ | ⟨xs, h0, h1, h2, h3, h4⟩
    · obtain ⟨rfl, rfl⟩ := nil_ks hf ht h2
      obtain ⟨_, hs, vs, rel, dd⟩ := dk_of I.hok h1
      cases rel
      exact wpAny_in_heap (room_in1 hu) (key_is I kt) hs (k_to_t dd) (h _ (I.tok _))
    · obtain ⟨a1, a2, us, p, dd⟩ := raw_dict I (ext_raw I h1) h4
      refine wpAny_in_heap (room_in1 hu) (key_is I kt) a1 dd ?_
      rcases at_rel (k := k) p h2 h3 with ⟨z, z'⟩ | ⟨d', v, b', u', z1, z2, z3, z4⟩
      · rw [z'] ; rw [z] at h; exact h _ (I.tok _)
      · rw [z2]; rw [z1] at h; exact h _ (I.tok _)
  · rcases c with ⟨ks, h1, h2, h3⟩ | ⟨xs, h0, h1, h2, h3, h4⟩
    · have e : (dAt kvs (toK q)).isSome = (valV ks q).isSome := by
        rcases atK_rel (q := q) h2 h3 with ⟨z, z'⟩ | ⟨d', v, z1, z2, z3⟩
        · rw [z, z']; rfl
        · rw [z1, z2]; rfl
      rw [e] at h
      exact d_in (by omega) I (DGet.k h1) rv fun s' I' => h s' I'
    · exact absurd (nil_xs hf ht h2 h4).2 h0
/-- y not in d -/
theorem dd_nin {Q : Value → Shared → Prop} {b : Bool} (hu : A.units + 20 < cLine) (I : Inv X pins σ H s) (c : CellR X.w X.K H ρ (.dct kvs) a) (ry : Rp X.K H ρ y yv) (rv : RelV yv u) (g : dHas kvs y = some b)
    (h : ∀ s', Inv X pins σ H s' → Q (.bool (!b)) s') : wpAny (model X.prog X.w) A (compareOp .NotIn u (.ref a)) Q E s := by
  obtain ⟨k, hk, hf, rfl⟩ := dhas_some g
  rcases dkey_sc ry hk with ⟨ht, xs0, rfl⟩ | ⟨ht, q, rfl, rfl⟩
  · obtain ⟨b, rfl, kt⟩ := keyT_of ry hk
    cases (show u = Value.ref b from rv)
    rcases c with ⟨ks, h1, h2, h3⟩ | ⟨xs, h0, h1, h2, h3, h4⟩
    · obtain ⟨rfl, rfl⟩ := nil_ks hf ht h2
      obtain ⟨_, hs, vs, rel, dd⟩ := dk_of I.hok h1
      cases rel
      exact wpAny_notIn_heap (room_in1 hu) (key_is I kt) hs (k_to_t dd) (h _ (I.tok _))
    · obtain ⟨a1, a2, us, p, dd⟩ := raw_dict I (ext_raw I h1) h4
      refine wpAny_notIn_heap (room_in1 hu) (key_is I kt) a1 dd ?_
      rcases at_rel (k := k) p h2 h3 with ⟨z, z'⟩ | ⟨d', v, b', u', z1, z2, z3, z4⟩
      · rw [z'] ; rw [z] at h; exact h _ (I.tok _)
      · rw [z2]; rw [z1] at h; exact h _ (I.tok _)
  · rcases c with ⟨ks, h1, h2, h3⟩ | ⟨xs, h0, h1, h2, h3, h4⟩
    · have e : (dAt kvs (toK q)).isSome = (valV ks q).isSome := by
        rcases atK_rel (q := q) h2 h3 with ⟨z, z'⟩ | ⟨d', v, z1, z2, z3⟩
        · rw [z, z']; rfl
        · rw [z1, z2]; rfl
      rw [e] at h
      exact d_notIn (by omega) I (DGet.k h1) rv fun s' I' => h s' I'
    · exact absurd (nil_xs hf ht h2 h4).2 h0
/-- how a dict's cell is written: the heap behind it, and the cell that stands then -/
theorem dd_put {Q : Unit → Shared → Prop} {m : Sem Unit} {v : V} {r : Value} {kvs' : List (NK × D)}
    (mk : ∀ (q : Key) (vs : List (Key × Value)), RelV (kV q) u → s.heap.DictOf (mixKind X.prog X.w) a vs → vs.length ≤ sizeLine → (∀ h' t', h'.DictOf (mixKind X.prog X.w) a (stored vs q r) → Heap.SameBut a s.heap h' → Q () { s with heap := h', toks := t' }) → wpAny (model X.prog X.w) A m Q E s)
    (mt : ∀ (k : NK) (b : Addr) (us : List (NK × Addr × Value)), u = .ref b → (nestedKind X.prog X.w).is s.heap k b → s.heap.DictOfH (nestedKind X.prog X.w) a us → us.length ≤ sizeLine → (∀ h' t', h'.DictOfH (nestedKind X.prog X.w) a (storedH us k b r) → Heap.SameBut a s.heap h' → Q () { s with heap := h', toks := t' }) → wpAny (model X.prog X.w) A m Q E s)
    (I : Inv X pins σ H s) (c : CellR X.w X.K H ρ (.dct kvs) a) (ry : Rp X.K H ρ y yv) (rv : RelV yv u) (rd : Rp X.K H ρ d v) (rr : RelV v r) (g : dSet kvs y d = some kvs')
    (h : ∀ (o : HO) s', Inv X pins σ (upd H a o) s' → CellR X.w X.K (upd H a o) ρ (.dct kvs') a → Ex X.K H (upd H a o) → Q () s') : wpAny (model X.prog X.w) A m Q E s := by
  obtain ⟨k, hk, hf, hz, rfl⟩ := dset_some g
  have hl := length_dPut kvs k d
  obtain ⟨o0, ho0, hn0, hm0⟩ := c.mut rfl
  rcases dkey_sc ry hk with ⟨ht, xs0, rfl⟩ | ⟨ht, q, rfl, rfl⟩
  · obtain ⟨b, rfl, kt⟩ := keyT_of ry hk
    cases (show u = Value.ref b from rv)
    have go : ∀ (xs : List (NK × Addr × V)) (us : List (NK × Addr × Value)), (a == sysModules) = false → Paired PX xs us → s.heap.DictOfH (nestedKind X.prog X.w) a us → kvs.map (·.1) = xs.map (·.1) → Rps X.K H ρ (kvs.map (·.2)) (xs.map (·.2.2)) → (∀ x ∈ xs, KeyT X.K H x.1 x.2.1) →
        wpAny (model X.prog X.w) A m Q E s := by
      intro xs us ha p dd h2 h3 h4
      have hlx : us.length = kvs.length := by
        have e1 := Paired.length p
        have e2 := congrArg List.length h2
        simp only [List.length_map] at e2
        omega
      refine mt k b us rfl (key_is I kt) dd (by omega) fun h' t' dd' hs => ?_
      obtain ⟨xs', p', e', r', kt'⟩ := put_rel rd rr kt h4 p h2 h3
      have hx' : xs'.length ≤ sizeLine := by
        have e2 := congrArg List.length e'
        simp only [List.length_map] at e2
        omega
      have hne : xs' ≠ [] := fun z => by
        subst z
        exact dPut_ne kvs k d (List.map_eq_nil_iff.mp e')
      have raw := raw_of ha hx' p' dd'
      have ex : Ex X.K H (upd H a (.ext (RawT X.w a xs'))) := ex_wr ho0 hn0
      refine h _ _ (d_write (t' := t') I (by rw [ho0]; exact hm0) hs (let ⟨o, _, _, e, _⟩ := dd'; ⟨o, e⟩) (raw_ext raw)) (.inr ⟨xs', hne, upd_same, e', r'.mono List.prefix_rfl ex, fun x hx => (kt' x hx).mono ex⟩) ex
    rcases c with ⟨ks, h1, h2, h3⟩ | ⟨xs, h0, h1, h2, h3, h4⟩
    · obtain ⟨rfl, rfl⟩ := nil_ks hf ht h2
      obtain ⟨_, hs, vs, rel, dd⟩ := dk_of I.hok h1
      cases rel
      exact go [] [] hs .nil (k_to_t dd) rfl .nil (fun _ hx => nomatch hx)
    · obtain ⟨a1, a2, us, p, dd⟩ := raw_dict I (ext_raw I h1) h4
      exact go xs us a1 p dd h2 h3 h4
  · have go : ∀ (ks : List (Key × V)) (vs : List (Key × Value)), (a == sysModules) = false → KV ks vs → s.heap.DictOf (mixKind X.prog X.w) a vs → kvs.map (·.1) = ks.map (fun p => toK p.1) → Rps X.K H ρ (kvs.map (·.2)) (ks.map (·.2)) → wpAny (model X.prog X.w) A m Q E s := by
      intro ks vs ha rel dd h2 h3
      have hlx : vs.length = kvs.length := by
        have e1 := rel.length
        have e2 := congrArg List.length h2
        simp only [List.length_map] at e2
        omega
      refine mk q vs rv dd (by omega) fun h' t' dd' hs => ?_
      obtain ⟨e', r'⟩ := putK_rel (q := q) (v := v) rd h2 h3
      have hz' : (putK ks q v).length ≤ sizeLine := by
        have e2 := congrArg List.length e'
        simp only [List.length_map] at e2
        omega
      have ex : Ex X.K H (upd H a (.dK (putK ks q v))) := ex_wr ho0 hn0
      exact h _ _ (d_write (t' := t') I (by rw [ho0]; exact hm0) hs (let ⟨o, _, _, e, _⟩ := dd'; ⟨o, e⟩) (dk_new hz' ha (rel.put q rr) dd')) (.inl ⟨_, upd_same, e', r'.mono List.prefix_rfl ex⟩) ex
    rcases c with ⟨ks, h1, h2, h3⟩ | ⟨xs, h0, h1, h2, h3, h4⟩
    · obtain ⟨_, hs, vs, rel, dd⟩ := dk_of I.hok h1
      exact go ks vs hs rel dd h2 h3
    · exact absurd (nil_xs hf ht h2 h4).2 h0
/-- d[y] = v -/
theorem dd_set {Q : Unit → Shared → Prop} {v : V} {r : Value} {kvs' : List (NK × D)} (hu : A.units + 20 < cLine) (I : Inv X pins σ H s) (c : CellR X.w X.K H ρ (.dct kvs) a) (ry : Rp X.K H ρ y yv) (rv : RelV yv u) (rd : Rp X.K H ρ d v) (rr : RelV v r) (g : dSet kvs y d = some kvs')
    (h : ∀ (o : HO) s', Inv X pins σ (upd H a o) s' → CellR X.w X.K (upd H a o) ρ (.dct kvs') a → Ex X.K H (upd H a o) → Q () s') : wpAny (model X.prog X.w) A (setItem (.ref a) u r) Q E s :=
  dd_put (fun q vs rv dd hz k => wpAny_setItem_pairs (hsz := hz) (kV_is rv) dd fun h' dd' hs => k h' _ dd' hs) (fun k b us e hk dd hz kk => by subst e; exact wpAny_setItem_heap (hsz := hz) (room_in1 hu) hk dd fun h' dd' hs => kk h' _ dd' hs) I c ry rv rd rr g h
/-- the same by a display, a comprehension -/
theorem dd_dictSet {Q : Unit → Shared → Prop} {v : V} {r : Value} {kvs' : List (NK × D)} (hu : A.units + 20 < cLine) (I : Inv X pins σ H s) (c : CellR X.w X.K H ρ (.dct kvs) a) (ry : Rp X.K H ρ y yv) (rv : RelV yv u) (rd : Rp X.K H ρ d v) (rr : RelV v r) (g : dSet kvs y d = some kvs')
    (h : ∀ (o : HO) s', Inv X pins σ (upd H a o) s' → CellR X.w X.K (upd H a o) ρ (.dct kvs') a → Ex X.K H (upd H a o) → Q () s') : wpAny (model X.prog X.w) A (dictSet a u r) Q E s :=
  dd_put (fun q vs rv dd hz k => wpAny_dictSet_pairs (hsz := hz) (kV_is rv) dd fun h' dd' hs => k h' _ dd' hs) (fun k b us e hk dd hz kk => by subst e; exact wpAny_dictSet_heap (hsz := hz) (room_0 hu) hk dd fun h' dd' hs => kk h' _ dd' hs) I c ry rv rd rr g h
theorem dd_len {Q : Value → Shared → Prop} (I : Inv X pins σ H s) (c : CellR X.w X.K H ρ (.dct kvs) a) (h : ∀ t s', Inv X pins σ H s' → Q (.int kvs.length t) s') : wpAny (model X.prog X.w) A (call (.builtin "len") [.ref a]) Q E s := by
  rcases c with ⟨ks, h1, h2, h3⟩ | ⟨xs, h0, h1, h2, h3, h4⟩
  · have e2 := congrArg List.length h2
    simp only [List.length_map] at e2
    exact d_len I (.inl h1) (by rw [← e2]; exact h)
  · have e2 := congrArg List.length h2
    simp only [List.length_map] at e2
    obtain ⟨a1, a2, us, p, dd⟩ := raw_dict I (ext_raw I h1) h4
    have e3 := Paired.length p
    refine call_len_dictH a1 dd (by rw [← e3]; rw [sizeLine_eq] at a2; omega) ?_
    rw [← e3, ← e2]
    exact h _ _ (I.tok _)
end
end Mn
/-! Mn, part 4: comparisons. -/
namespace Mn
open PySem PySem.Spec PyProof.Rows L2
section
variable {w : World} {K : PySem.W.Frag} {H : Hp} {ρ : List Addr} {S : Store}
mutual
theorem dp_of : ∀ {d : D} {v : V} {p : PyData}, Rp K H ρ d v → py d = some p → Dp K H v p
  | .non, v, p, h, e => by cases h.nonE; unfold py at e; cases e; exact .non
  | .bl b, v, p, h, e => by cases h.blE; unfold py at e; cases e; exact .bl b
  | .int i, v, p, h, e => by cases h.intE; unfold py at e; cases e; exact .int i
  | .str x, v, p, h, e => by cases h.strE; unfold py at e; cases e; exact .str x
  | .tup ds, v, p, h, e => by
    obtain ⟨a, vs, rfl, h1, h2⟩ := h.tupE
    unfold py at e
    cases q : pyAll ds with
    | none => rw [q] at e; cases e
    | some ps => rw [q] at e; cases e; exact .tup h1 (dps_of h2 q)
  | .loc n, v, p, h, e => by unfold py at e; cases e
  | .lst _, v, p, h, e => by unfold py at e; cases e
  | .dct _ _, v, p, h, e => by unfold py at e; cases e
theorem dps_of : ∀ {ds : List D} {vs : List V} {ps : List PyData}, Rps K H ρ ds vs → pyAll ds = some ps → DpAll K H vs ps
  | [], vs, ps, h, e => by unfold Rps at h; unfold pyAll at e; cases e; subst h; exact .nil
  | d :: ds, vs, ps, h, e => by
    unfold Rps at h
    obtain ⟨v, r, rfl, h1, h2⟩ := h
    unfold pyAll at e
    cases q1 : py d with
    | none => simp only [q1] at e; cases e
    | some a =>
      cases q2 : pyAll ds with
      | none => simp only [q1, q2] at e; cases e
      | some r =>
        simp only [q1, q2] at e
        cases e
        exact .cons (dp_of h1 q1) (dps_of h2 q2)
end
theorem dp1_of (hS : SR w K H ρ S) {d : D} {v : V} {p : PyData} (h : Rp K H ρ d v) (e : py1 S d = some p) : Dp K H v p := by
  cases d with
  | loc n =>
    unfold py1 at e
    simp only at e
    cases q : S[n]? with
    | none => rw [q] at e; cases e
    | some c =>
      obtain ⟨a, rfl, _, hc⟩ := hS.loc h q
      rw [q] at e
      cases c with
      | lst xs =>
        obtain ⟨vs, h1, h2⟩ := hc.sql (.inl rfl)
        simp only at e
        cases q2 : pyAll xs with
        | none => rw [q2] at e; cases e
        | some ps => rw [q2] at e; cases e; exact .lst h1 (dps_of h2 q2)
      | ro xs =>
        obtain ⟨vs, h1, h2⟩ := hc.sql (.inr rfl)
        simp only at e
        cases q2 : pyAll xs with
        | none => rw [q2] at e; cases e
        | some ps => rw [q2] at e; cases e; exact .lst h1 (dps_of h2 q2)
      | dct xs => cases e
      | obj _ _ => cases e
  | _ => exact dp_of h e
theorem flat_of {d : D} {v : V} (h : Rp K H ρ d v) (f : flatD d = true) : flatV v = true := by
  cases d with
  | non => cases h.nonE; rfl
  | bl b => cases h.blE; rfl
  | int b => cases h.intE; rfl
  | str b => cases h.strE; rfl
  | tup xs => cases f
  | loc xs => cases f
  | lst xs => cases f
  | dct ks vs => cases f
theorem eqV_of {d e : D} {v u : V} {a b : PyData} (h : Rp K H ρ d v) (h2 : Rp K H ρ e u) (f : flatD d = true) (g : flatD e = true) (ea : py d = some a) (eb : py e = some b) : eqV v u = PyData.eqv a b := by
  cases d with
  | tup xs => cases f
  | loc xs => cases f
  | lst xs => cases f
  | dct ks vs => cases f
  | non =>
    cases h.nonE; unfold py at ea; cases ea
    cases e with
    | tup xs => cases g
    | loc xs => cases g
    | lst xs => cases g
    | dct ks vs => cases g
    | non => cases h2.nonE; unfold py at eb; cases eb; rfl
    | bl _ => cases h2.blE; unfold py at eb; cases eb; rfl
    | int _ => cases h2.intE; unfold py at eb; cases eb; rfl
    | str _ => cases h2.strE; unfold py at eb; cases eb; rfl
  | bl _ =>
    cases h.blE; unfold py at ea; cases ea
    cases e with
    | tup xs => cases g
    | loc xs => cases g
    | lst xs => cases g
    | dct ks vs => cases g
    | non => cases h2.nonE; unfold py at eb; cases eb; rfl
    | bl _ => cases h2.blE; unfold py at eb; cases eb; rfl
    | int _ => cases h2.intE; unfold py at eb; cases eb; rfl
    | str _ => cases h2.strE; unfold py at eb; cases eb; rfl
  | int _ =>
    cases h.intE; unfold py at ea; cases ea
    cases e with
    | tup xs => cases g
    | loc xs => cases g
    | lst xs => cases g
    | dct ks vs => cases g
    | non => cases h2.nonE; unfold py at eb; cases eb; rfl
    | bl _ => cases h2.blE; unfold py at eb; cases eb; rfl
    | int _ => cases h2.intE; unfold py at eb; cases eb; rfl
    | str _ => cases h2.strE; unfold py at eb; cases eb; rfl
  | str _ =>
    cases h.strE; unfold py at ea; cases ea
    cases e with
    | tup xs => cases g
    | loc xs => cases g
    | lst xs => cases g
    | dct ks vs => cases g
    | non => cases h2.nonE; unfold py at eb; cases eb; rfl
    | bl _ => cases h2.blE; unfold py at eb; cases eb; rfl
    | int _ => cases h2.intE; unfold py at eb; cases eb; rfl
    | str _ => cases h2.strE; unfold py at eb; cases eb; rfl
theorem pyAll_get : ∀ {ds : List D} {ps : List PyData}, pyAll ds = some ps → ps.length = ds.length ∧ ∀ (i : Nat) d, ds[i]? = some d → ∃ p, ps[i]? = some p ∧ py d = some p
  | [], ps, e => by unfold pyAll at e; cases e; exact ⟨rfl, fun i d h => by simp at h⟩
  | d :: ds, ps, e => by
    unfold pyAll at e
    cases q1 : py d with
    | none => simp only [q1] at e; cases e
    | some a =>
      cases q2 : pyAll ds with
      | none => simp only [q1, q2] at e; cases e
      | some r =>
        simp only [q1, q2] at e
        cases e
        obtain ⟨l, h⟩ := pyAll_get q2
        refine ⟨by simp [l], fun i d' hd => ?_⟩
        cases i with
        | zero => simp at hd; subst hd; exact ⟨a, rfl, q1⟩
        | succ i => exact h i d' (by simpa using hd)
theorem any_flat {d : D} {v : V} {a : PyData} (h : Rp K H ρ d v) (f : flatD d = true) (ea : py d = some a) : ∀ {ys : List D} {us : List V} {bs : List PyData}, Rps K H ρ ys us → ys.all flatD = true → pyAll ys = some bs → inV v us = bs.any fun z => PyData.eqv z a
  | [], us, bs, h2, _, e => by unfold Rps at h2; unfold pyAll at e; cases e; subst h2; rfl
  | y :: ys, us, bs, h2, g, e => by
    unfold Rps at h2
    obtain ⟨u, r, rfl, h3, h4⟩ := h2
    unfold pyAll at e
    rw [List.all_cons, Bool.and_eq_true] at g
    cases q1 : py y with
    | none => simp only [q1] at e; cases e
    | some b =>
      cases q2 : pyAll ys with
      | none => simp only [q1, q2] at e; cases e
      | some bs' =>
        simp only [q1, q2] at e
        cases e
        have ih := any_flat h f ea h4 g.2 q2
        unfold inV at ih ⊢
        rw [List.any_cons, List.any_cons, ih, eqV_of h3 h g.1 f q1 ea]
theorem all_flat : ∀ {ys : List D} {us : List V}, Rps K H ρ ys us → ys.all flatD = true → us.all flatV = true
  | [], us, h, _ => by unfold Rps at h; subst h; rfl
  | y :: ys, us, h, g => by
    unfold Rps at h
    obtain ⟨u, r, rfl, h3, h4⟩ := h
    rw [List.all_cons, Bool.and_eq_true] at g
    rw [List.all_cons, flat_of h3 g.1, all_flat h4 g.2]; rfl
end
def rCmp (w : World) (K : PySem.W.Frag) (o : COp) : R2 := fun x y H Q => ∃ ρ S d e, SR w K H ρ S ∧ Rp K H ρ d x ∧ Rp K H ρ e y ∧ wp (cmpop o d e) (fun b S' => LQ w K Q ρ H (.bl b) S') S
section
variable {X : Cx}
theorem wp_eqM {x y : D} {R : Bool → Store → Prop} {S : Store} : wp (eqM x y) R S ↔ ∃ a b, py1 S x = some a ∧ py1 S y = some b ∧ fitEq x y a b = true ∧ R (PyData.eqv a b) S := by
  unfold wp wpx eqM
  cases e1 : py1 S x with
  | none => simp
  | some a =>
    cases e2 : py1 S y with
    | none => simp
    | some b =>
      by_cases h : fitEq x y a b = true
      · simp [h]
      · simp [h]
theorem fit_cases {d e : D} {a b : PyData} {S : Store} (ea : py1 S d = some a) (eb : py1 S e = some b) (f : fitEq d e a b = true) :
    (∃ z w, d = .str z ∧ e = .str w ∧ a = .str z ∧ b = .str w) ∨ (a.canLay0 = true ∧ b.canLay0 = true ∧ min a.depth b.depth ≤ 150) := by
  unfold fitEq at f
  rcases Bool.or_eq_true _ _ ▸ f with f | f
  · rw [Bool.and_eq_true] at f
    cases d with
    | str z => cases e with
      | str w => exact .inl ⟨z, w, rfl, rfl, (Option.some.inj ea).symm, (Option.some.inj eb).symm⟩
      | _ => cases f.2
    | _ => cases f.1
  · simp only [Bool.and_eq_true, decide_eq_true_eq] at f
    exact .inr ⟨f.1.1, f.1.2, f.2⟩
theorem eqv_go {pins : List (Addr × Obj)} {s : Shared} {σ : L2.St} {H : Hp} {ρ : List Addr} {x y : V} {v u : Value} {d e : D} {a b : PyData} {A : Around} (I : Inv X pins σ H s) (rx : RelV x v) (ry : RelV y u) (hu : A.units + 150 < cLine)
    (hd : Rp X.K H ρ d x) (he : Rp X.K H ρ e y) (ea : py d = some a) (eb : py e = some b) (f : fitEq d e a b = true) : SeqAt.EqAt A s v u (PyData.eqv a b) := by
  have ea1 : py1 [] d = some a := by cases d <;> first | exact ea | (unfold py at ea; cases ea)
  have eb1 : py1 [] e = some b := by cases e <;> first | exact eb | (unfold py at eb; cases eb)
  rcases fit_cases ea1 eb1 f with ⟨z, w, rfl, rfl, rfl, rfl⟩ | ⟨f1, f2, f3⟩
  · have : eqV x y = PyData.eqv (.str z) (.str w) := eqV_of hd he rfl rfl ea eb
    rw [← this]
    exact eqAt_V rx ry (flat_of hd rfl) (flat_of he rfl)
  · obtain ⟨as, q1⟩ := Dp.reads I a x v (dp_of hd ea) rx
    obtain ⟨bs, q2⟩ := Dp.reads I b y u (dp_of he eb) ry
    exact SeqAt.eqAt_reads a b A s v u as bs q1 q2 f1 f2 (by omega)
theorem opr_eq (hu : X.A.units + 200 < cLine) : OpR X (compareOp .Eq) (rCmp X.w X.K .eq) := by
  intro pins s σ H x y v u Q I rx ry ⟨ρ, S, d, e, hS, hd, he, h⟩
  obtain ⟨a, b, ea, eb, f, q⟩ := wp_eqM.mp h
  have fin := LQ.here q hS .bl
  rcases fit_cases ea eb f with ⟨z, w, rfl, rfl, rfl, rfl⟩ | ⟨f1, f2, f3⟩
  · cases hd.strE; cases he.strE
    refine op_eq pins s σ H _ _ v u Q I rx ry ⟨rfl, ?_⟩
    rw [dec_str]
    exact fin
  · obtain ⟨as, q1⟩ := Dp.reads I a x v (dp1_of hS hd ea) rx
    obtain ⟨bs, q2⟩ := Dp.reads I b y u (dp1_of hS he eb) ry
    exact SeqAt.compareEq_reads q1 q2 f1 f2 (by omega) ⟨.bl _, H, I, rfl, fin⟩
theorem opr_ne (hu : X.A.units + 200 < cLine) : OpR X (compareOp .NotEq) (rCmp X.w X.K .ne) := by
  intro pins s σ H x y v u Q I rx ry ⟨ρ, S, d, e, hS, hd, he, h⟩
  unfold cmpop at h
  simp only [wpx_bind, wpx_ret] at h
  obtain ⟨a, b, ea, eb, f, q⟩ := wp_eqM.mp h
  have fin := LQ.here q hS .bl
  rcases fit_cases ea eb f with ⟨z, w, rfl, rfl, rfl, rfl⟩ | ⟨f1, f2, f3⟩
  · cases hd.strE; cases he.strE
    refine op_ne pins s σ H _ _ v u Q I rx ry ⟨rfl, ?_⟩
    rw [dec_str]
    exact fin
  · obtain ⟨as, q1⟩ := Dp.reads I a x v (dp1_of hS hd ea) rx
    obtain ⟨bs, q2⟩ := Dp.reads I b y u (dp1_of hS he eb) ry
    exact SeqAt.compareNe_reads q1 q2 f1 f2 (by omega) ⟨.bl _, H, I, rfl, fin⟩
theorem inAll_some {x : D} {ys : List D} {r : Bool} (h : inAll x ys = some r) : ∃ a bs, py x = some a ∧ pyAll ys = some bs ∧ r = (bs.any fun z => PyData.eqv z a) ∧
    ((flatD x = true ∧ ys.all flatD = true) ∨ (a.canLay0 = true ∧ PyData.canLayAll0 bs = true ∧ min (PyData.depthAll bs) a.depth ≤ 150)) := by
  unfold inAll at h
  cases e1 : py x with
  | none => simp [e1] at h
  | some a =>
    cases e2 : pyAll ys with
    | none => simp [e1, e2] at h
    | some bs =>
      simp only [e1, e2] at h
      split at h
      · rename_i c
        cases h
        refine ⟨a, bs, rfl, rfl, rfl, ?_⟩
        rcases Bool.or_eq_true _ _ ▸ c with c | c
        · exact .inl (by simpa using c)
        · simp only [Bool.and_eq_true, decide_eq_true_eq] at c
          exact .inr ⟨c.1.1, c.1.2, c.2⟩
      · cases h
theorem opr_in (hu : X.A.units + 200 < cLine) : OpR X (compareOp .In) (rCmp X.w X.K .inn) := by
  intro pins s σ H x y v u Q I rx ry ⟨ρ, S, d, e, hS, hd, he, h⟩
  have main : ∀ ys r, (e = .tup ys ∨ ∃ n, e = .loc n ∧ (S[n]? = some (.lst ys) ∨ S[n]? = some (.ro ys))) → inAll d ys = some r → LQ X.w X.K Q ρ H (.bl r) S → wpAny (model X.prog X.w) X.A (compareOp .In v u) (EP X pins σ Q) X.xe s := by
    intro ys r hy hi q
    obtain ⟨a, bs, ea, eb, er, c⟩ := inAll_some hi
    subst er
    have fin := LQ.here q hS .bl
    obtain ⟨p, us, rfl, hq, hr⟩ := seq_read hS he hy
    rcases c with ⟨c1, c2⟩ | ⟨c1, c2, c3⟩
    · exact op_in_seq pins s σ H x _ v u Q I rx ry ⟨p, us, rfl, hq, flat_of hd c1, all_flat hr c2, by
        rw [if_neg Bool.false_ne_true, any_flat hd c1 ea hr c2 eb]; exact fin⟩
    · obtain ⟨as, q1⟩ := Dp.reads I a x v (dp_of hd ea) rx
      rcases hq with hq | hq
      · obtain ⟨cs, q2⟩ := Dp.reads I (.list bs) _ u (.lst hq (dps_of hr eb)) ry
        exact SeqAt.in_list_reads q2 q1 c2 c1 (by omega) ⟨.bl _, H, I, rfl, fin⟩
      · obtain ⟨cs, q2⟩ := Dp.reads I (.tuple bs) _ u (.tup hq (dps_of hr eb)) ry
        exact SeqAt.in_tuple_reads q2 q1 c2 c1 (by omega) ⟨.bl _, H, I, rfl, fin⟩
  cases e with
  | str z => cases d with
    | str w =>
      cases hd.strE; cases he.strE
      exact op_in_str pins s σ H _ _ v u Q I rx ry ⟨w, z, rfl, rfl, LQ.here h hS .bl⟩
    | _ => exact False.elim h
  | tup ys =>
    obtain ⟨r, hi, q⟩ := wpx_opt.mp h
    exact main ys r (.inl rfl) hi q
  | loc n =>
    unfold cmpop inM at h
    simp only [wpx_bind] at h
    obtain ⟨c, hc, h⟩ := wp_getC.mp h
    cases c with
    | lst ys =>
      obtain ⟨r, hi, q⟩ := wpx_opt.mp h
      exact main ys r (.inr ⟨n, rfl, .inl hc⟩) hi q
    | ro ys =>
      obtain ⟨r, hi, q⟩ := wpx_opt.mp h
      exact main ys r (.inr ⟨n, rfl, .inr hc⟩) hi q
    | dct kvs =>
      obtain ⟨r, hi, q⟩ := wpx_opt.mp h
      obtain ⟨a, rfl, _, cr⟩ := hS.loc he hc
      obtain rfl : u = Value.ref a := ry
      exact dd_in (by omega) I cr hd rx hi fun s' I' => ⟨.bl r, H, I', rfl, LQ.here q hS .bl⟩
    | obj _ _ => exact False.elim h
  | _ => exact False.elim h
theorem opr_nin (hu : X.A.units + 200 < cLine) : OpR X (compareOp .NotIn) (rCmp X.w X.K .nin) := by
  intro pins s σ H x y v u Q I rx ry ⟨ρ, S, d, e, hS, hd, he, h⟩
  unfold cmpop at h
  simp only [wpx_bind, wpx_ret] at h
  have main : ∀ ys r, (e = .tup ys ∨ ∃ n, e = .loc n ∧ (S[n]? = some (.lst ys) ∨ S[n]? = some (.ro ys))) → inAll d ys = some r → LQ X.w X.K Q ρ H (.bl (!r)) S → wpAny (model X.prog X.w) X.A (compareOp .NotIn v u) (EP X pins σ Q) X.xe s := by
    intro ys r hy hi q
    obtain ⟨a, bs, ea, eb, er, c⟩ := inAll_some hi
    subst er
    have fin := LQ.here q hS .bl
    obtain ⟨p, us, rfl, hq, hr⟩ := seq_read hS he hy
    rcases c with ⟨c1, c2⟩ | ⟨c1, c2, c3⟩
    · exact op_notIn_seq pins s σ H x _ v u Q I rx ry ⟨p, us, rfl, hq, flat_of hd c1, all_flat hr c2, by
        rw [if_pos rfl, any_flat hd c1 ea hr c2 eb]; exact fin⟩
    · obtain ⟨as, q1⟩ := Dp.reads I a x v (dp_of hd ea) rx
      rcases hq with hq | hq
      · obtain ⟨cs, q2⟩ := Dp.reads I (.list bs) _ u (.lst hq (dps_of hr eb)) ry
        exact SeqAt.notIn_list_reads q2 q1 c2 c1 (by omega) ⟨.bl _, H, I, rfl, fin⟩
      · obtain ⟨cs, q2⟩ := Dp.reads I (.tuple bs) _ u (.tup hq (dps_of hr eb)) ry
        exact SeqAt.notIn_tuple_reads q2 q1 c2 c1 (by omega) ⟨.bl _, H, I, rfl, fin⟩
  cases e with
  | str z => cases d with
    | str w =>
      cases hd.strE; cases he.strE
      exact op_notIn_str pins s σ H _ _ v u Q I rx ry ⟨w, z, rfl, rfl, LQ.here h hS .bl⟩
    | _ => exact False.elim h
  | tup ys =>
    obtain ⟨r, hi, q⟩ := wpx_opt.mp h
    exact main ys r (.inl rfl) hi q
  | loc n =>
    unfold inM at h
    simp only [wpx_bind] at h
    obtain ⟨c, hc, h⟩ := wp_getC.mp h
    cases c with
    | lst ys =>
      obtain ⟨r, hi, q⟩ := wpx_opt.mp h
      exact main ys r (.inr ⟨n, rfl, .inl hc⟩) hi q
    | ro ys =>
      obtain ⟨r, hi, q⟩ := wpx_opt.mp h
      exact main ys r (.inr ⟨n, rfl, .inr hc⟩) hi q
    | dct kvs =>
      obtain ⟨r, hi, q⟩ := wpx_opt.mp h
      obtain ⟨a, rfl, _, cr⟩ := hS.loc he hc
      obtain rfl : u = Value.ref a := ry
      exact dd_nin (by omega) I cr hd rx hi fun s' I' => ⟨.bl (!r), H, I', rfl, LQ.here q hS .bl⟩
    | obj _ _ => exact False.elim h
  | _ => exact False.elim h
theorem opr_isn : OpR X (compareOp .Is) (rCmp X.w X.K .isn) := by
  intro pins s σ H x y v u Q I rx ry ⟨ρ, S, d, e, hS, hd, he, h⟩
  cases e with
  | non =>
    cases he.nonE
    refine op_isN pins s σ H x _ v u Q I rx ry ⟨rfl, ?_⟩
    have fin := LQ.here (v := .bl (decide (x = .non))) h hS (by
      unfold Rp
      cases d with
      | non => cases hd.nonE; rfl
      | bl _ => cases hd.blE; rfl
      | int _ => cases hd.intE; rfl
      | str _ => cases hd.strE; rfl
      | tup xs => obtain ⟨a, vs, rfl, _⟩ := hd.tupE; rfl
      | loc n => unfold Rp at hd; obtain ⟨a, _, rfl⟩ := hd; rfl
      | lst _ => unfold Rp at hd; exact hd.elim
      | dct _ _ => unfold Rp at hd; exact hd.elim)
    exact fin
  | _ => first | exact False.elim h | (cases d <;> exact False.elim h)
theorem opr_isnn : OpR X (compareOp .IsNot) (rCmp X.w X.K .isnn) := by
  intro pins s σ H x y v u Q I rx ry ⟨ρ, S, d, e, hS, hd, he, h⟩
  cases e with
  | non =>
    cases he.nonE
    refine op_notN pins s σ H x _ v u Q I rx ry ⟨rfl, ?_⟩
    have fin := LQ.here (v := .bl (!decide (x = .non))) h hS (by
      unfold Rp
      cases d with
      | non => cases hd.nonE; rfl
      | bl _ => cases hd.blE; rfl
      | int _ => cases hd.intE; rfl
      | str _ => cases hd.strE; rfl
      | tup xs => obtain ⟨a, vs, rfl, _⟩ := hd.tupE; rfl
      | loc n => unfold Rp at hd; obtain ⟨a, _, rfl⟩ := hd; rfl
      | lst _ => unfold Rp at hd; exact hd.elim
      | dct _ _ => unfold Rp at hd; exact hd.elim)
    exact fin
  | _ => first | exact False.elim h | (cases d <;> exact False.elim h)
theorem opr_gt : OpR X (compareOp .Gt) (rCmp X.w X.K .gt) := by
  intro pins s σ H x y v u Q I rx ry ⟨ρ, S, d, e, hS, hd, he, h⟩
  cases d with
  | int i => cases e with
    | int j => cases hd.intE; cases he.intE; exact op_gt pins s σ H _ _ v u Q I rx ry ⟨i, j, rfl, rfl, LQ.here h hS .bl⟩
    | _ => exact False.elim h
  | _ => exact False.elim h
theorem opr_ge : OpR X (compareOp .GtE) (rCmp X.w X.K .ge) := by
  intro pins s σ H x y v u Q I rx ry ⟨ρ, S, d, e, hS, hd, he, h⟩
  cases d with
  | int i => cases e with
    | int j => cases hd.intE; cases he.intE; exact op_ge pins s σ H _ _ v u Q I rx ry ⟨i, j, rfl, rfl, LQ.here h hS .bl⟩
    | _ => exact False.elim h
  | _ => exact False.elim h
end
end Mn
/-! Mn, part 5: the order of nested tuples; only what lies ahead of the first difference is looked at. -/
namespace Mn
open PySem PySem.SeqAt
open PySem.AutoSeq1 (wpAny_loadPart')
open PySem.MeetsSeq PySem.MeetsSeq2 PySem.MeetsSeq3
/-- what two rows give from place i on, k places left -/
def lexN (eq lt : Nat → Bool) (sz : Bool) (i : Nat) : Nat → Bool
  | 0 => sz
  | k + 1 => match eq i with
    | true => lexN eq lt sz (i + 1) k
    | false => lt i
theorem ltTree (p q : Addr) (us ws : Array Value) (m m2 : Nat) (od od2 : Option Addr) (sa sa2 : Array (Option Value)) (eq lt : Nat → Bool) :
    Meets (Builtin.«tuple.__lt__» ⟨[.ref p, .ref q], []⟩)
      (fun A R s => s.heap.get? p = some { cls := .type "tuple", dict := od, data := .seq us m, slots := sa } ∧ s.heap.get? q = some { cls := .type "tuple", dict := od2, data := .seq ws m2, slots := sa2 } ∧
        (∀ (j : Nat) (a1 : j < us.size) (a2 : j < ws.size), (∀ k, k < j → eq k = true) → EqAt A.in1 s us[j] ws[j] (eq j)) ∧
        (∀ (j : Nat) (a1 : j < us.size) (a2 : j < ws.size), (∀ k, k < j → eq k = true) → eq j = false → Ob.RcOp .Lt A.in1 s us[j] ws[j] (lt j)) ∧
        R (.ok (.ret (.bool (lexN eq lt (decide (us.size < ws.size)) 0 (min us.size ws.size))))) s) :=
  .of_wp fun prog w A R s h => by
    obtain ⟨hp, gs, dr, tk, os⟩ := s
    obtain ⟨ep, eq2, hE, hL, hR0⟩ := h
    have notSub := AutoSeq1.sub_tuple_tuple
    have zl : (us.toList.zip ws.toList).length = min us.size ws.size := by simp
    wp_walk using wpAny_loadPart' ep, wpAny_loadPart' eq2, wpAny_forIn_list _ (fun rest b st => b.1 = none ∧ st = ⟨hp, gs, dr, tk, os⟩ ∧ ∃ i, rest = (us.toList.zip ws.toList).drop i ∧ (∀ k, k < i → eq k = true) ∧
      R (.ok (.ret (.bool (lexN eq lt (decide (us.size < ws.size)) i (min us.size ws.size - i))))) ⟨hp, gs, dr, tk, os⟩) _
    case turn =>
      rintro ⟨u, x⟩ rest b st ⟨_, rfl, i, hz, hk, hR⟩
      have inz : i < (us.toList.zip ws.toList).length := Nat.lt_of_not_le fun c => by
        rw [List.drop_of_length_le c] at hz
        cases hz
      have im : i < min us.size ws.size := zl ▸ inz
      have i1 : i < us.size := by omega
      have i2 : i < ws.size := by omega
      rw [List.drop_eq_getElem_cons inz] at hz
      obtain ⟨pair, tail⟩ := List.cons.inj hz
      obtain rfl : u = us[i] := by simpa using congrArg Prod.fst pair
      obtain rfl : x = ws[i] := by simpa using congrArg Prod.snd pair
      obtain ⟨k, ek⟩ : ∃ k, min us.size ws.size - i = k + 1 := ⟨min us.size ws.size - (i + 1), by omega⟩
      have ek' : min us.size ws.size - (i + 1) = k := by omega
      rw [ek] at hR
      unfold lexN at hR
      refine wpAny_bind (hE i i1 i2 hk prog w _ _ ?_)
      cases he : eq i with
      | true =>
        simp only [he] at hR
        wp_walk
        refine ⟨rfl, rfl, i + 1, tail, fun k' hk' => ?_, by rw [ek']; exact hR⟩
        rcases Nat.lt_or_ge k' i with c | c
        · exact hk k' c
        · rw [show k' = i by omega]; exact he
      | false =>
        simp only [he] at hR
        have hlt := hL i i1 i2 hk he prog w
        wp_walk using hlt
        exact ⟨_, rfl, by simpa using hR⟩
    case fin =>
      rintro ⟨b1, b2⟩ st ⟨hb1, rfl, i, hz, _, hR⟩
      simp only at hb1
      subst hb1
      have over : min us.size ws.size ≤ i := Nat.le_of_not_lt fun c => by
        rw [List.drop_eq_getElem_cons (zl.symm ▸ c)] at hz
        cases hz
      rw [Nat.sub_eq_zero_of_le over] at hR
      unfold lexN at hR
      wp_walk
      exact ⟨_, rfl, by simpa [Builtin.Tuple.tupleCompareSizes] using hR⟩
    case h =>
      exact ⟨rfl, rfl, 0, rfl, fun k c => absurd c (Nat.not_lt_zero _), by simpa using hR0⟩
theorem ltTup {A : Around} {s : Shared} {p q : Addr} {us ws : Array Value} {eq lt : Nat → Bool} (hp : s.heap.IsTuple p us) (hq : s.heap.IsTuple q ws) (hu : A.units < cLine)
    (hE : ∀ (j : Nat) (a1 : j < us.size) (a2 : j < ws.size), (∀ k, k < j → eq k = true) → EqAt A.in1 s us[j] ws[j] (eq j))
    (hL : ∀ (j : Nat) (a1 : j < us.size) (a2 : j < ws.size), (∀ k, k < j → eq k = true) → eq j = false → Ob.RcOp .Lt A.in1 s us[j] ws[j] (lt j)) :
    Ob.RcOp .Lt A s (.ref p) (.ref q) (lexN eq lt (decide (us.size < ws.size)) 0 (min us.size ws.size)) := fun prog w E Q h => by
  obtain ⟨⟨c1, d1, t1, l1⟩, o1, k1, n1, s1⟩ := id hp
  obtain ⟨⟨c2, d2, t2, l2⟩, o2, k2, n2, s2⟩ := id hq
  simp only at k1 s1 k2 s2
  subst k1 s1 k2 s2
  exact richCompare_meets_room (op := .Lt) ⟨_, o1, rfl⟩ ⟨_, o2, rfl⟩ F.slot_tuple_lt F.entry_tuple_lt (F.args_tuple_lt_2 _ _) (ltTree p q us ws n1 n2 d1 d2 l1 l2 eq lt) ⟨o1, o2, hE, hL, (fun x => nomatch x), h⟩ hu
end Mn
namespace Mn
open PySem PySem.Spec PyProof.Rows L2
/-- the answers along two rows -/
theorem lex_of (n : Nat) : ∀ (ds es : List D) (b : Bool), ltDs n ds es = some b → ∃ eq lt : Nat → Bool,
    lexN eq lt (decide (ds.length < es.length)) 0 (min ds.length es.length) = b ∧
    ∀ (j : Nat) d1 d2, ds[j]? = some d1 → es[j]? = some d2 → (∀ k, k < j → eq k = true) → ∃ a1 a2, py d1 = some a1 ∧ py d2 = some a2 ∧ fitEq d1 d2 a1 a2 = true ∧ eq j = PyData.eqv a1 a2 ∧ (eq j = false → ltD n d1 d2 = some (lt j))
  | [], [], b, h => ⟨fun _ => true, fun _ => true, by unfold ltDs at h; cases h; rfl, fun j d1 d2 h => by simp at h⟩
  | [], e :: es, b, h => ⟨fun _ => true, fun _ => true, by unfold ltDs at h; cases h; simp [lexN], fun j d1 d2 h => by simp at h⟩
  | d :: ds, [], b, h => ⟨fun _ => true, fun _ => true, by unfold ltDs at h; cases h; simp [lexN], fun j d1 d2 _ h => by simp at h⟩
  | d :: ds, e :: es, b, h => by
    unfold ltDs at h
    have shift : ∀ (f g : Nat → Bool) (z : Bool) (k i : Nat) (x y : Bool), lexN (fun n => match n with | 0 => x | n + 1 => f n) (fun n => match n with | 0 => y | n + 1 => g n) z (i + 1) k = lexN f g z i k := by
      intro f g z k
      induction k with
      | zero => intros; rfl
      | succ k ih =>
        intro i x y
        unfold lexN
        simp only
        rw [ih (i + 1) x y]
    cases e1 : py d with
    | none => simp [e1] at h
    | some a1 =>
      cases e2 : py e with
      | none => simp [e1, e2] at h
      | some a2 =>
        simp only [e1, e2] at h
        by_cases hf : fitEq d e a1 a2 = true
        · rw [if_pos hf] at h
          have hm : min (d :: ds).length (e :: es).length = min ds.length es.length + 1 := by simp only [List.length_cons]; omega
          by_cases hv : PyData.eqv a1 a2 = true
          · rw [if_pos hv] at h
            obtain ⟨f, g, h1, h2⟩ := lex_of n ds es b h
            refine ⟨fun n => match n with | 0 => true | n + 1 => f n, fun n => match n with | 0 => true | n + 1 => g n, ?_, fun j d1 d2 q1 q2 hk => ?_⟩
            · rw [hm]
              unfold lexN
              simp only
              rw [shift]
              simpa using h1
            · cases j with
              | zero =>
                simp at q1 q2
                subst q1; subst q2
                exact ⟨a1, a2, e1, e2, hf, hv.symm, fun z => nomatch z⟩
              | succ j =>
                exact h2 j d1 d2 (by simpa using q1) (by simpa using q2) fun k hk' => hk (k + 1) (by omega)
          · rw [if_neg hv] at h
            refine ⟨fun n => match n with | 0 => false | n + 1 => true, fun n => b, ?_, fun j d1 d2 q1 q2 hk => ?_⟩
            · rw [hm]
              unfold lexN
              rfl
            · cases j with
              | zero =>
                simp at q1 q2
                subst q1; subst q2
                exact ⟨a1, a2, e1, e2, hf, (Bool.eq_false_iff.mpr hv).symm, fun _ => h⟩
              | succ j => exact absurd (hk 0 (by omega)) (by simp)
        · rw [if_neg hf] at h; cases h
section
variable {X : Cx}
theorem lt_run {pins : List (Addr × Obj)} {s : Shared} {σ : L2.St} {H : Hp} {ρ : List Addr} (I : Inv X pins σ H s) : ∀ (n : Nat) (d e : D) (b : Bool), ltD n d e = some b → ∀ (A : Around), A.units + n + 160 < cLine → ∀ x y v u, Rp X.K H ρ d x → Rp X.K H ρ e y → RelV x v → RelV y u → Ob.RcOp .Lt A s v u b := by
  intro n
  induction n with
  | zero =>
    intro d e b h A hu x y v u hd he rx ry
    cases d with
    | int i => cases e with
      | int j =>
        cases hd.intE; cases he.intE
        obtain ⟨t, rfl⟩ := rx
        obtain ⟨t', rfl⟩ := ry
        unfold ltD at h; cases h
        exact Ob.RcOp.lt_int i j t t'
      | _ => unfold ltD at h; cases h
    | str i => cases e with
      | str j =>
        cases hd.strE; cases he.strE
        obtain ⟨t, rfl⟩ := rx
        obtain ⟨t', rfl⟩ := ry
        unfold ltD at h; cases h
        exact fun prog w E Q q => PyProof.Rows.lt_str q
      | _ => unfold ltD at h; cases h
    | _ => (cases e <;> (unfold ltD at h; cases h))
  | succ n ih =>
    intro d e b h A hu x y v u hd he rx ry
    cases d with
    | int i => cases e with
      | int j =>
        cases hd.intE; cases he.intE
        obtain ⟨t, rfl⟩ := rx
        obtain ⟨t', rfl⟩ := ry
        unfold ltD at h; cases h
        exact Ob.RcOp.lt_int i j t t'
      | _ => unfold ltD at h; cases h
    | str i => cases e with
      | str j =>
        cases hd.strE; cases he.strE
        obtain ⟨t, rfl⟩ := rx
        obtain ⟨t', rfl⟩ := ry
        unfold ltD at h; cases h
        exact fun prog w E Q q => PyProof.Rows.lt_str q
      | _ => unfold ltD at h; cases h
    | tup ds => cases e with
      | tup es =>
        obtain ⟨p, vs, rfl, hp, hr⟩ := hd.tupE
        obtain ⟨q, us, rfl, hq, hr2⟩ := he.tupE
        cases rx
        cases ry
        obtain ⟨its, r1, p1, _⟩ := I.tuple hp
        obtain ⟨its2, r2, p2, _⟩ := I.tuple hq
        unfold ltD at h
        obtain ⟨eq, lt, hb, hj⟩ := lex_of n ds es b h
        have l1 : its.toArray.size = ds.length := by rw [List.size_toArray, ← r1.length, ← hr.length]
        have l2 : its2.toArray.size = es.length := by rw [List.size_toArray, ← r2.length, ← hr2.length]
        have look : ∀ (j : Nat) (a1 : j < its.toArray.size) (a2 : j < its2.toArray.size), ∃ d1 d2 w1 w2, ds[j]? = some d1 ∧ es[j]? = some d2 ∧ Rp X.K H ρ d1 w1 ∧ Rp X.K H ρ d2 w2 ∧ RelV w1 its.toArray[j] ∧ RelV w2 its2.toArray[j] := by
          intro j a1 a2
          have b1 : j < ds.length := by omega
          have b2 : j < es.length := by omega
          obtain ⟨w1, x1, y1⟩ := hr.at (List.getElem?_eq_getElem b1)
          obtain ⟨w2, x2, y2⟩ := hr2.at (List.getElem?_eq_getElem b2)
          obtain ⟨u1, z1, g1⟩ := r1.get x1
          obtain ⟨u2, z2, g2⟩ := r2.get x2
          refine ⟨_, _, w1, w2, List.getElem?_eq_getElem b1, List.getElem?_eq_getElem b2, y1, y2, ?_, ?_⟩
          · have : its.toArray[j] = u1 := by
              have := (List.getElem?_eq_some_iff.mp z1).2
              simpa using this
            rw [this]; exact g1
          · have : its2.toArray[j] = u2 := by
              have := (List.getElem?_eq_some_iff.mp z2).2
              simpa using this
            rw [this]; exact g2
        have R := ltTup (A := A) (s := s) (eq := eq) (lt := lt) p1 p2 (by omega)
          (fun j a1 a2 hk => by
            obtain ⟨d1, d2, w1, w2, x1, x2, y1, y2, g1, g2⟩ := look j a1 a2
            obtain ⟨c1, c2, q1, q2, q3, q4, _⟩ := hj j d1 d2 x1 x2 hk
            rw [q4]
            exact eqv_go I g1 g2 (by show A.units + 1 + 150 < cLine; omega) y1 y2 q1 q2 q3)
          (fun j a1 a2 hk hf => by
            obtain ⟨d1, d2, w1, w2, x1, x2, y1, y2, g1, g2⟩ := look j a1 a2
            obtain ⟨c1, c2, q1, q2, q3, q4, q5⟩ := hj j d1 d2 x1 x2 hk
            exact ih d1 d2 _ (q5 hf) A.in1 (by show A.units + 1 + n + 160 < cLine; omega) w1 w2 _ _ y1 y2 g1 g2)
        rw [l1, l2, hb] at R
        exact R
      | _ => unfold ltD at h; cases h
    | _ => (cases e <;> (unfold ltD at h; cases h))
theorem opr_lt (hu : X.A.units + 300 < cLine) : OpR X (compareOp .Lt) (rCmp X.w X.K .lt) := by
  intro pins s σ H x y v u Q I rx ry ⟨ρ, S, d, e, hS, hd, he, h⟩
  obtain ⟨b, hb, q⟩ := wpx_opt.mp h
  exact lt_run I 100 d e b hb X.A (by omega) x y v u hd he rx ry X.prog X.w X.xe _ ⟨.bl b, H, I, rfl, LQ.here q hS .bl⟩
end
end Mn
/-! Mn, part 6: built-in functions and methods, truth, index, slice. -/
namespace Mn
open PySem PySem.Spec PyProof.Rows L2
def rBi (w : World) (K : PySem.W.Frag) (b : Bi) : List V → Hp → VK → Prop := fun vs H Q => ∃ ρ S ds, SR w K H ρ S ∧ Rps K H ρ ds vs ∧ wp (builtin b ds) (LQ w K Q ρ H) S
section
variable {X : Cx} {w : World} {K : PySem.W.Frag} {H : Hp} {ρ : List Addr} {S : Store} {Q : VK} {v : V}
theorem rps1 {d : D} {vs : List V} (h : Rps K H ρ [d] vs) : ∃ v, vs = [v] ∧ Rp K H ρ d v := by
  unfold Rps at h
  obtain ⟨v, r, rfl, h1, h2⟩ := h
  unfold Rps at h2
  subst h2
  exact ⟨v, rfl, h1⟩
theorem rps2 {d e : D} {vs : List V} (h : Rps K H ρ [d, e] vs) : ∃ v u, vs = [v, u] ∧ Rp K H ρ d v ∧ Rp K H ρ e u := by
  unfold Rps at h
  obtain ⟨v, r, rfl, h1, h2⟩ := h
  obtain ⟨u, rfl, h3⟩ := rps1 h2
  exact ⟨v, u, rfl, h1, h3⟩
theorem rps3 {d e f : D} {vs : List V} (h : Rps K H ρ [d, e, f] vs) : ∃ v u w, vs = [v, u, w] ∧ Rp K H ρ d v ∧ Rp K H ρ e u ∧ Rp K H ρ f w := by
  unfold Rps at h
  obtain ⟨v, r, rfl, h1, h2⟩ := h
  obtain ⟨u, w, rfl, h3, h4⟩ := rps2 h2
  exact ⟨v, u, w, rfl, h1, h3, h4⟩
theorem Rps.ints_of {ns : List Int} {ds : List D} {vs : List V} (h : Rps K H ρ ds vs) (e : intsD ds = some ns) : vs = ns.map V.int := h.intsR e
theorem max_in : ∀ (ns : List Int), ns ≠ [] → maxI ns ∈ ns ∧ ∀ y ∈ ns, y ≤ maxI ns
  | [], h => absurd rfl h
  | [x], _ => ⟨by simp [maxI], fun y hy => by simp at hy; subst hy; simp [maxI]⟩
  | x :: y :: r, _ => by
    obtain ⟨h1, h2⟩ := max_in (y :: r) (by simp)
    have e : maxI (x :: y :: r) = max x (maxI (y :: r)) := rfl
    rw [e]
    refine ⟨?_, fun z hz => ?_⟩
    · rcases Int.le_total x (maxI (y :: r)) with c | c
      · rw [Int.max_eq_right c]; exact List.mem_cons_of_mem _ h1
      · rw [Int.max_eq_left c]; exact List.mem_cons_self
    · rcases List.mem_cons.mp hz with rfl | hz
      · exact Int.le_max_left _ _
      · exact Int.le_trans (h2 z hz) (Int.le_max_right _ _)
theorem min_in : ∀ (ns : List Int), ns ≠ [] → minI ns ∈ ns ∧ ∀ y ∈ ns, minI ns ≤ y
  | [], h => absurd rfl h
  | [x], _ => ⟨by simp [minI], fun y hy => by simp at hy; subst hy; simp [minI]⟩
  | x :: y :: r, _ => by
    obtain ⟨h1, h2⟩ := min_in (y :: r) (by simp)
    have e : minI (x :: y :: r) = min x (minI (y :: r)) := rfl
    rw [e]
    refine ⟨?_, fun z hz => ?_⟩
    · rcases Int.le_total x (minI (y :: r)) with c | c
      · rw [Int.min_eq_left c]; exact List.mem_cons_self
      · rw [Int.min_eq_right c]; exact List.mem_cons_of_mem _ h1
    · rcases List.mem_cons.mp hz with rfl | hz
      · exact Int.min_le_left _ _
      · exact Int.le_trans (Int.min_le_right _ _) (h2 z hz)
theorem bi_len : CallR X (.builtin "len") (rBi X.w X.K .len) := by
  intro pins s σ H xs us Q I r ⟨ρ, S, ds, hS, hd, h⟩
  match ds, hd, h with
  | [.str x], hd, h =>
    obtain ⟨v, rfl, hv⟩ := rps1 hd
    cases hv.strE
    unfold builtin at h
    simp only [wpx_bind, wpx_guard, wpx_ret, ok2, decide_eq_true_eq] at h
    exact call_len pins s σ H _ us Q I r ⟨_, _, rfl, ⟨h.1, rfl⟩, LQ.here h.2 hS .int⟩
  | [.tup ys], hd, h =>
    obtain ⟨v, rfl, hv⟩ := rps1 hd
    obtain ⟨a, vs, rfl, h1, h2⟩ := hv.tupE
    have h : LQ X.w X.K Q ρ H (.int ys.length) S := h
    exact call_len pins s σ H _ us Q I r ⟨_, _, rfl, .inr ⟨vs, h1, rfl⟩, by rw [← h2.length]; exact LQ.here h hS .int⟩
  | [.loc n], hd, h =>
    obtain ⟨v, rfl, hv⟩ := rps1 hd
    unfold builtin at h
    simp only [wpx_bind] at h
    obtain ⟨c, hc, h⟩ := wp_getC.mp h
    have main : ∀ ys, (S[n]? = some (.lst ys) ∨ S[n]? = some (.ro ys)) → LQ X.w X.K Q ρ H (.int ys.length) S → wpAny (model X.prog X.w) X.A (call (.builtin "len") us) (EP X pins σ Q) X.xe s := fun ys hy h => by
      obtain ⟨a, vs, rfl, hq, h2⟩ := seq_read hS hv (.inr ⟨n, rfl, hy⟩)
      exact call_len_seq pins s σ H _ us Q I r ⟨a, vs, rfl, hq, by rw [← h2.length]; exact LQ.here h hS .int⟩
    cases c with
    | lst ys => exact main ys (.inl hc) h
    | ro ys => exact main ys (.inr hc) h
    | dct kvs =>
      obtain ⟨a, rfl, _, cr⟩ := hS.loc hv hc
      obtain ⟨u, rfl, rx⟩ := vals1 r
      obtain rfl : u = Value.ref a := rx
      exact dd_len I cr fun t s' I' => ⟨.int _, H, I', ⟨t, rfl⟩, LQ.here h hS .int⟩
    | obj c fs => exact False.elim h
  | [], _, h => exact False.elim h
  | [.non], _, h => exact False.elim h
  | [.bl _], _, h => exact False.elim h
  | [.int _], _, h => exact False.elim h
  | a :: b :: c, _, h => cases a <;> exact False.elim h
theorem bi_int : CallR X (.type "int") (rBi X.w X.K .int) := by
  intro pins s σ H xs us Q I r ⟨ρ, S, ds, hS, hd, h⟩
  match ds, hd, h with
  | [.int i], hd, h =>
    obtain ⟨v, rfl, hv⟩ := rps1 hd
    cases hv.intE
    exact call_int1 pins s σ H _ us Q I r (.inl ⟨i, rfl, LQ.here h hS .int⟩)
  | [.bl i], hd, h =>
    obtain ⟨v, rfl, hv⟩ := rps1 hd
    cases hv.blE
    exact call_int1 pins s σ H _ us Q I r (.inr ⟨i, rfl, LQ.here h hS .int⟩)
  | [], _, h => exact False.elim h
  | [.non], _, h => exact False.elim h
  | [.str _], _, h => exact False.elim h
  | [.tup _], _, h => exact False.elim h
  | [.loc _], _, h => exact False.elim h
  | a :: b :: c, _, h => cases a <;> exact False.elim h
theorem bi_abs : CallR X (.builtin "abs") (rBi X.w X.K .abs) := by
  intro pins s σ H xs us Q I r ⟨ρ, S, ds, hS, hd, h⟩
  match ds, hd, h with
  | [.int i], hd, h =>
    obtain ⟨v, rfl, hv⟩ := rps1 hd
    cases hv.intE
    exact call_abs pins s σ H _ us Q I r ⟨i, rfl, LQ.here h hS .int⟩
  | [], _, h => exact False.elim h
  | [.non], _, h => exact False.elim h
  | [.str _], _, h => exact False.elim h
  | [.bl _], _, h => exact False.elim h
  | [.tup _], _, h => exact False.elim h
  | [.loc _], _, h => exact False.elim h
  | a :: b :: c, _, h => cases a <;> exact False.elim h
theorem two_of {ds : List D} {R : D → Store → Prop} (h : wp (builtin .max2 ds) R S) : ∃ i j, ds = [.int i, .int j] := by
  match ds, h with
  | [.int i, .int j], _ => exact ⟨i, j, rfl⟩
  | [], h => exact False.elim h
  | [a], h => cases a <;> exact False.elim h
  | [a, b], h => cases a <;> cases b <;> first | exact ⟨_, _, rfl⟩ | exact False.elim h
  | a :: b :: c :: d, h => cases a <;> cases b <;> exact False.elim h
theorem loc_of (b : Bi) (hb : b = .max1 ∨ b = .min1 ∨ b = .sum ∨ b = .all ∨ b = .any) {ds : List D} {R : D → Store → Prop} (h : wp (builtin b ds) R S) : ∃ n, ds = [.loc n] := by
  rcases hb with rfl | rfl | rfl | rfl | rfl <;> (match ds, h with
    | [], h => exact False.elim h
    | [a], h => cases a <;> first | exact ⟨_, rfl⟩ | exact False.elim h
    | a :: b :: c, h => cases a <;> exact False.elim h)
theorem bi_max2 (hc : X.calm = true) : CallR X (.builtin "max") (rBi X.w X.K .max2) := by
  intro pins s σ H xs us Q I r ⟨ρ, S, ds, hS, hd, h⟩
  obtain ⟨i, j, rfl⟩ := two_of h
  obtain ⟨v, u, rfl, hv, hu⟩ := rps2 hd
  cases hv.intE; cases hu.intE
  exact call_max2 hc pins s σ H _ us Q I r ⟨i, j, rfl, LQ.here h hS .int⟩
theorem sql_of {n : Nat} {xs : List D} (hS : SR w K H ρ S) (r : Rp K H ρ (.loc n) v) (h : S[n]? = some (.lst xs) ∨ S[n]? = some (.ro xs)) : ∃ a vs, v = .ref a ∧ SqL K H a vs ∧ Rps K H ρ xs vs := by
  rcases h with h | h
  · obtain ⟨a, rfl, _, hc⟩ := hS.loc r h
    obtain ⟨vs, h1, h2⟩ := hc.sql (.inl rfl)
    exact ⟨a, vs, rfl, h1, h2⟩
  · obtain ⟨a, rfl, _, hc⟩ := hS.loc r h
    obtain ⟨vs, h1, h2⟩ := hc.sql (.inr rfl)
    exact ⟨a, vs, rfl, h1, h2⟩
theorem bi_max1 (hc : X.calm = true) : CallR X (.builtin "max") (rBi X.w X.K .max1) := by
  intro pins s σ H xs us Q I r ⟨ρ, S, ds, hS, hd, h⟩
  obtain ⟨n, rfl⟩ := loc_of .max1 (by simp) h
  obtain ⟨v, rfl, hv⟩ := rps1 hd
  unfold builtin at h
  simp only [wpx_bind] at h
  obtain ⟨ys, hy, h⟩ := wp_rdL.mp h
  obtain ⟨ns, hn, h⟩ := wpx_opt.mp h
  simp only [wpx_bind, wpx_guard, wpx_ret] at h
  obtain ⟨a, vs, rfl, hq, h2⟩ := sql_of hS hv hy
  have := h2.intsR hn
  subst this
  have hne : ns ≠ [] := by rintro rfl; simp at h
  obtain ⟨m1, m2⟩ := max_in ns hne
  refine cr_max hc pins s σ H _ us Q I r ⟨a, ns, rfl, hq, List.length_pos_iff.mpr hne, fun m hm hall => ?_⟩
  have : m = maxI ns := Int.le_antisymm (m2 m hm) (hall _ m1)
  rw [this]
  exact LQ.here h.2 hS .int
theorem bi_min1 (hc : X.calm = true) : CallR X (.builtin "min") (rBi X.w X.K .min1) := by
  intro pins s σ H xs us Q I r ⟨ρ, S, ds, hS, hd, h⟩
  obtain ⟨n, rfl⟩ := loc_of .min1 (by simp) h
  obtain ⟨v, rfl, hv⟩ := rps1 hd
  unfold builtin at h
  simp only [wpx_bind] at h
  obtain ⟨ys, hy, h⟩ := wp_rdL.mp h
  obtain ⟨ns, hn, h⟩ := wpx_opt.mp h
  simp only [wpx_bind, wpx_guard, wpx_ret] at h
  obtain ⟨a, vs, rfl, hq, h2⟩ := sql_of hS hv hy
  have := h2.intsR hn
  subst this
  have hne : ns ≠ [] := by rintro rfl; simp at h
  obtain ⟨m1, m2⟩ := min_in ns hne
  refine cr_min hc pins s σ H _ us Q I r ⟨a, ns, rfl, hq, List.length_pos_iff.mpr hne, fun m hm hall => ?_⟩
  have : m = minI ns := Int.le_antisymm (hall _ m1) (m2 m hm)
  rw [this]
  exact LQ.here h.2 hS .int
theorem bi_sum (hc : X.calm = true) : CallR X (.builtin "sum") (rBi X.w X.K .sum) := by
  intro pins s σ H xs us Q I r ⟨ρ, S, ds, hS, hd, h⟩
  obtain ⟨n, rfl⟩ := loc_of .sum (by simp) h
  obtain ⟨v, rfl, hv⟩ := rps1 hd
  unfold builtin at h
  simp only [wpx_bind] at h
  obtain ⟨ys, hy, h⟩ := wp_rdL.mp h
  obtain ⟨ns, hn, h⟩ := wpx_opt.mp h
  obtain ⟨a, vs, rfl, hq, h2⟩ := sql_of hS hv hy
  have := h2.intsR hn
  subst this
  exact cr_sum hc pins s σ H _ us Q I r ⟨a, ns, rfl, hq, LQ.here h hS .int⟩
theorem bi_all (hc : X.calm = true) : CallR X (.builtin "all") (rBi X.w X.K .all) := by
  intro pins s σ H xs us Q I r ⟨ρ, S, ds, hS, hd, h⟩
  obtain ⟨n, rfl⟩ := loc_of .all (by simp) h
  obtain ⟨v, rfl, hv⟩ := rps1 hd
  unfold builtin at h
  simp only [wpx_bind] at h
  obtain ⟨ys, hy, h⟩ := wp_rdL.mp h
  obtain ⟨ns, hn, h⟩ := wpx_opt.mp h
  obtain ⟨a, vs, rfl, hq, h2⟩ := sql_of hS hv hy
  have := h2.boolsR hn
  subst this
  exact cr_all hc pins s σ H _ us Q I r ⟨a, ns, rfl, hq, LQ.here h hS .bl⟩
theorem bi_any (hc : X.calm = true) : CallR X (.builtin "any") (rBi X.w X.K .any) := by
  intro pins s σ H xs us Q I r ⟨ρ, S, ds, hS, hd, h⟩
  obtain ⟨n, rfl⟩ := loc_of .any (by simp) h
  obtain ⟨v, rfl, hv⟩ := rps1 hd
  unfold builtin at h
  simp only [wpx_bind] at h
  obtain ⟨ys, hy, h⟩ := wp_rdL.mp h
  obtain ⟨ns, hn, h⟩ := wpx_opt.mp h
  obtain ⟨a, vs, rfl, hq, h2⟩ := sql_of hS hv hy
  have := h2.boolsR hn
  subst this
  exact cr_any hc pins s σ H _ us Q I r ⟨a, ns, rfl, hq, LQ.here h hS .bl⟩
theorem one_of (b : Bi) (hb : b = .list ∨ b = .tuple ∨ b = .str ∨ b = .repr) {ds : List D} {R : D → Store → Prop} (h : wp (builtin b ds) R S) : ∃ d, ds = [d] := by
  rcases hb with rfl | rfl | rfl | rfl <;> (match ds, h with
    | [], h => exact False.elim h
    | [a], h => exact ⟨a, rfl⟩
    | a :: b :: c, h => cases a <;> exact False.elim h)
theorem bi_list : CallR X (.type "list") (rBi X.w X.K .list) := by
  intro pins s σ H xs us Q I r ⟨ρ, S, ds, hS, hd, h⟩
  obtain ⟨d, rfl⟩ := one_of .list (by simp) h
  obtain ⟨v, rfl, hv⟩ := rps1 hd
  unfold builtin at h
  simp only [wpx_bind] at h
  rcases wp_seqOf.mp h with ⟨ys, rfl, h⟩ | ⟨n, ys, rfl, hy, h⟩
  · obtain ⟨a, vs, rfl, hq, h2⟩ := seq_read hS hv (.inl rfl)
    exact call_list_of pins s σ H _ us Q I r ⟨a, vs, rfl, hq, fun p hp => LQ.new h hS h2 hp⟩
  · obtain ⟨a, vs, rfl, hq, h2⟩ := seq_read hS hv (.inr ⟨n, rfl, hy⟩)
    exact call_list_of pins s σ H _ us Q I r ⟨a, vs, rfl, hq, fun p hp => LQ.new h hS h2 hp⟩
theorem bi_tuple : CallR X (.type "tuple") (rBi X.w X.K .tuple) := by
  intro pins s σ H xs us Q I r ⟨ρ, S, ds, hS, hd, h⟩
  obtain ⟨d, rfl⟩ := one_of .tuple (by simp) h
  obtain ⟨v, rfl, hv⟩ := rps1 hd
  unfold builtin at h
  simp only [wpx_bind] at h
  rcases wp_seqOf.mp h with ⟨ys, rfl, h⟩ | ⟨n, ys, rfl, hy, h⟩
  · obtain ⟨a, vs, rfl, hq, h2⟩ := hv.tupE
    exact call_tuple_of pins s σ H _ us Q I r ⟨a, vs, rfl, .inr ⟨hq, LQ.here h hS (.tup hq h2)⟩⟩
  · obtain ⟨a, vs, rfl, hq, h2⟩ := sql_of hS hv hy
    exact call_tuple_of pins s σ H _ us Q I r ⟨a, vs, rfl, .inl ⟨hq, fun p hp => LQ.tup h hS h2 hp⟩⟩
theorem bi_str : CallR X (.type "str") (rBi X.w X.K .str) := by
  intro pins s σ H xs us Q I r ⟨ρ, S, ds, hS, hd, h⟩
  obtain ⟨d, rfl⟩ := one_of .str (by simp) h
  obtain ⟨v, rfl, hv⟩ := rps1 hd
  cases d with
  | int i =>
    cases hv.intE
    unfold builtin at h
    simp only [wpx_bind, wpx_guard, wpx_ret, decide_eq_true_eq] at h
    exact call_str_int pins s σ H _ us Q I r ⟨i, rfl, h.1, LQ.here h.2 hS .str⟩
  | str x =>
    cases hv.strE
    exact SkE.call_str_str pins s σ H _ us Q I r ⟨x, rfl, LQ.here h hS .str⟩
  | _ => exact False.elim h
theorem bi_repr (hu : X.A.units + 200 < cLine) (hg : X.A.guards = some []) : CallR X (.builtin "repr") (rBi X.w X.K .repr) := by
  intro pins s σ H xs us Q I r ⟨ρ, S, ds, hS, hd, h⟩
  obtain ⟨d, rfl⟩ := one_of .repr (by simp) h
  obtain ⟨v, rfl, hv⟩ := rps1 hd
  have deep : wp (reprM d) (LQ X.w X.K Q ρ H) S → (∃ a, v = .ref a) → wpAny (model X.prog X.w) X.A (call (.builtin "repr") us) (EP X pins σ Q) X.xe s := by
    intro h ⟨a, ev⟩
    subst ev
    unfold wp wpx reprM at h
    cases e : py1 S d with
    | none => rw [e] at h; exact h.elim
    | some p =>
      rw [e] at h
      simp only at h
      split at h
      · rename_i c
        split at c
        · rename_i c2
          simp only [Bool.and_eq_true, decide_eq_true_eq, Bool.not_eq_true'] at c2
          cases c
          obtain ⟨u, rfl, ru⟩ := vals1 r
          cases ru
          obtain ⟨as, q1⟩ := Dp.reads I p _ _ (dp1_of hS hv e) rfl
          exact repr_of_reads' q1 c2.1.1.1 (fun z => by rw [c2.1.1.2] at z; cases z) hg (by omega) (fun _ _ z => z) (fun h' u tk hk => ⟨.str p.shown, H, I.kept hk, ⟨u, rfl⟩, LQ.here h hS .str⟩) c2.2
        · cases c
      · rename_i c
        split at c <;> cases c
      · exact h.elim
  cases d with
  | int i =>
    cases hv.intE
    unfold builtin at h
    simp only [wpx_bind, wpx_guard, wpx_ret, decide_eq_true_eq] at h
    exact SkE.call_repr_int pins s σ H _ us Q I r ⟨i, rfl, h.1, LQ.here h.2 hS .str⟩
  | str x =>
    cases hv.strE
    unfold builtin at h
    simp only [wpx_bind, wpx_guard, wpx_ret, ok2, decide_eq_true_eq] at h
    obtain ⟨u, rfl, ru⟩ := vals1 r
    obtain ⟨t, rfl⟩ := ru
    exact PySem.P.repr_of_str ⟨.str _, H, I.tok _, ⟨_, rfl⟩, LQ.here h.2 hS .str⟩ h.1
  | bl b =>
    cases hv.blE
    obtain ⟨u, rfl, ru⟩ := vals1 r
    cases ru
    have h : LQ X.w X.K Q ρ H (.str (if b then "True" else "False")) S := h
    exact PySem.P.repr_of_bool ⟨.str _, H, I.tok _, ⟨_, rfl⟩, LQ.here h hS .str⟩
  | non =>
    cases hv.nonE
    obtain ⟨u, rfl, ru⟩ := vals1 r
    cases ru
    have h : LQ X.w X.K Q ρ H (.str "None") S := h
    exact PySem.P.repr_of_none ⟨.str _, H, I.tok _, ⟨_, rfl⟩, LQ.here h hS .str⟩
  | tup ys => obtain ⟨a, vs, rfl, hq, h2⟩ := hv.tupE; exact deep h ⟨a, rfl⟩
  | loc n => unfold Rp at hv; obtain ⟨a, _, rfl⟩ := hv; exact deep h ⟨a, rfl⟩
  | lst _ => unfold Rp at hv; exact hv.elim
  | dct _ _ => unfold Rp at hv; exact hv.elim
end
end Mn
/-! Mn: lists of numbers in order: <= and min of two. -/
namespace Mn
open PySem PySem.Spec PyProof.Rows L2
theorem fl_lt : ∀ (as bs : List Int) (i : Nat) (e r : Nat → Bool), (∀ k, k < as.length → k < bs.length → e (i + k) = (as.getD k 0 == bs.getD k 0)) → (∀ k, k < as.length → k < bs.length → r (i + k) = decide (as.getD k 0 < bs.getD k 0)) →
    SeqAt.firstLt e r (decide (as.length < bs.length)) (List.range' i (min as.length bs.length)) = ltZ as bs
  | [], [], i, e, r, _, _ => rfl
  | [], b :: bs, i, e, r, _, _ => by
    rw [show min ([] : List Int).length (b :: bs).length = 0 by simp]
    simp [SeqAt.firstLt, ltZ]
  | a :: as, [], i, e, r, _, _ => by
    rw [show min (a :: as).length ([] : List Int).length = 0 by simp]
    simp [SeqAt.firstLt, ltZ]
  | a :: as, b :: bs, i, e, r, he, hr => by
    rw [show min (a :: as).length (b :: bs).length = min as.length bs.length + 1 by simp only [List.length_cons]; omega, List.range'_succ]
    have h0 := he 0 (by simp) (by simp)
    have r0 := hr 0 (by simp) (by simp)
    simp only [Nat.add_zero, List.getD_cons_zero] at h0 r0
    rw [ltZ]
    by_cases h : a = b
    · rw [if_pos h, SeqAt.firstLt_yes (by rw [h0, h]; simp)]
      have ih := fl_lt as bs (i + 1) e r (fun k h1 h2 => by
        have := he (k + 1) (by simpa using h1) (by simpa using h2)
        rw [show i + 1 + k = i + (k + 1) by omega, this]; simp) (fun k h1 h2 => by
        have := hr (k + 1) (by simpa using h1) (by simpa using h2)
        rw [show i + 1 + k = i + (k + 1) by omega, this]; simp)
      rw [← ih]
      simp
    · rw [if_neg h, SeqAt.firstLt_no (by rw [h0]; simp [h]), r0]
theorem fl_le : ∀ (as bs : List Int) (i : Nat) (e r : Nat → Bool), (∀ k, k < as.length → k < bs.length → e (i + k) = (as.getD k 0 == bs.getD k 0)) → (∀ k, k < as.length → k < bs.length → r (i + k) = decide (as.getD k 0 ≤ bs.getD k 0)) →
    SeqAt.firstLt e r (decide (as.length ≤ bs.length)) (List.range' i (min as.length bs.length)) = !ltZ bs as
  | [], [], i, e, r, _, _ => rfl
  | [], b :: bs, i, e, r, _, _ => by
    rw [show min ([] : List Int).length (b :: bs).length = 0 by simp]
    simp [SeqAt.firstLt, ltZ]
  | a :: as, [], i, e, r, _, _ => by
    rw [show min (a :: as).length ([] : List Int).length = 0 by simp]
    simp [SeqAt.firstLt, ltZ]
  | a :: as, b :: bs, i, e, r, he, hr => by
    rw [show min (a :: as).length (b :: bs).length = min as.length bs.length + 1 by simp only [List.length_cons]; omega, List.range'_succ]
    have h0 := he 0 (by simp) (by simp)
    have r0 := hr 0 (by simp) (by simp)
    simp only [Nat.add_zero, List.getD_cons_zero] at h0 r0
    rw [ltZ]
    by_cases h : a = b
    · rw [if_pos h.symm, SeqAt.firstLt_yes (by rw [h0, h]; simp)]
      have ih := fl_le as bs (i + 1) e r (fun k h1 h2 => by
        have := he (k + 1) (by simpa using h1) (by simpa using h2)
        rw [show i + 1 + k = i + (k + 1) by omega, this]; simp) (fun k h1 h2 => by
        have := hr (k + 1) (by simpa using h1) (by simpa using h2)
        rw [show i + 1 + k = i + (k + 1) by omega, this]; simp)
      rw [← ih]
      simp
    · rw [if_neg (fun z => h z.symm), SeqAt.firstLt_no (by rw [h0]; simp [h]), r0]
      by_cases z : a ≤ b
      · rw [decide_eq_true z, decide_eq_false (by omega)]; rfl
      · rw [decide_eq_false z, decide_eq_true (by omega)]; rfl
theorem ints_rps {K : PySem.W.Frag} {H : Hp} {ρ : List Addr} : ∀ {xs : List D} {vs : List V} {ns : List Int}, intsD xs = some ns → Rps K H ρ xs vs → vs = ns.map V.int
  | [], vs, ns, h, r => by
    unfold Rps at r
    cases h
    exact r
  | d :: xs, vs, ns, h, r => by
    cases d with
    | int i =>
      unfold intsD at h
      cases e : intsD xs with
      | none => rw [e] at h; cases h
      | some ms =>
        rw [e] at h
        cases h
        unfold Rps at r
        obtain ⟨v, us, rfl, r1, r2⟩ := r
        cases r1.intE
        rw [ints_rps e r2]; rfl
    | _ => unfold intsD at h; cases h
section
variable {X : Cx} {A : Around} {s : Shared} {a b : Addr} {ns ms : List Int} {its its2 : List Value}
theorem ints_eqlt (i1 : IntsAre its ns) (i2 : IntsAre its2 ms) : (∀ j (h1 : j < its.toArray.size) (h2 : j < its2.toArray.size), SeqAt.EqAt A s its.toArray[j] its2.toArray[j] (ns.getD j 0 == ms.getD j 0)) ∧
    (∀ j (h1 : j < its.toArray.size) (h2 : j < its2.toArray.size), SeqAt.RcLt A s its.toArray[j] its2.toArray[j] (decide (ns.getD j 0 < ms.getD j 0))) ∧
    (∀ j (h1 : j < its.toArray.size) (h2 : j < its2.toArray.size), SeqAt.RcOp .LtE A s its.toArray[j] its2.toArray[j] (decide (ns.getD j 0 ≤ ms.getD j 0))) := by
  have at1 : ∀ j (h1 : j < its.toArray.size), ∃ t, its.toArray[j] = .int (ns.getD j 0) t := fun j h1 => PyProof.Rows.IntsAre.int_at i1 _ _ (by simp at h1; simp [h1])
  have at2 : ∀ j (h1 : j < its2.toArray.size), ∃ t, its2.toArray[j] = .int (ms.getD j 0) t := fun j h1 => PyProof.Rows.IntsAre.int_at i2 _ _ (by simp at h1; simp [h1])
  refine ⟨fun j h1 h2 => ?_, fun j h1 h2 => ?_, fun j h1 h2 => ?_⟩
  all_goals
    obtain ⟨t, et⟩ := at1 j h1
    obtain ⟨t', et'⟩ := at2 j h2
    rw [et, et']
  · exact SeqAt.EqAt.int_int _ _ _ _
  · exact fun _ _ _ _ h => PyProof.Rows.lt_int h
  · exact fun _ _ _ _ h => PyProof.Rows.le_int h
theorem lists_lt (p1 : s.heap.IsList a its.toArray) (p2 : s.heap.IsList b its2.toArray) (i1 : IntsAre its ns) (i2 : IntsAre its2 ms) (hu : A.units < cLine) : SeqAt.RcLt A s (.ref a) (.ref b) (ltZ ns ms) := by
  have e1 : its.toArray.size = ns.length := by rw [List.size_toArray]; exact i1.length
  have e2 : its2.toArray.size = ms.length := by rw [List.size_toArray]; exact i2.length
  obtain ⟨q1, q2, q3⟩ := ints_eqlt (A := A.in1) (s := s) i1 i2
  have R := SeqAt.RcLt.lists p1 p2 hu (e := fun j => ns.getD j 0 == ms.getD j 0) (r := fun j => decide (ns.getD j 0 < ms.getD j 0)) q1 fun j h1 h2 _ => q2 j h1 h2
  rw [e1, e2, List.range_eq_range', fl_lt ns ms 0 _ _ (fun k _ _ => by rw [Nat.zero_add]) (fun k _ _ => by rw [Nat.zero_add])] at R
  exact R
theorem lists_le (p1 : s.heap.IsList a its.toArray) (p2 : s.heap.IsList b its2.toArray) (i1 : IntsAre its ns) (i2 : IntsAre its2 ms) (hu : A.units < cLine) : SeqAt.RcOp .LtE A s (.ref a) (.ref b) (!ltZ ms ns) := by
  have e1 : its.toArray.size = ns.length := by rw [List.size_toArray]; exact i1.length
  have e2 : its2.toArray.size = ms.length := by rw [List.size_toArray]; exact i2.length
  obtain ⟨q1, q2, q3⟩ := ints_eqlt (A := A.in1) (s := s) i1 i2
  have R := SeqAt.RcOp.lists_le p1 p2 hu (e := fun j => ns.getD j 0 == ms.getD j 0) (r := fun j => decide (ns.getD j 0 ≤ ms.getD j 0)) q1 fun j h1 h2 _ => q3 j h1 h2
  rw [e1, e2, List.range_eq_range', fl_le ns ms 0 _ _ (fun k _ _ => by rw [Nat.zero_add]) (fun k _ _ => by rw [Nat.zero_add])] at R
  exact R
theorem min_lists {prog : Program} {w : World} {E : Value → Shared → Prop} {Q : Value → Shared → Prop} (hh : A.handled = none) (p1 : s.heap.IsList a its.toArray) (p2 : s.heap.IsList b its2.toArray) (i1 : IntsAre its ns) (i2 : IntsAre its2 ms) (hu : A.units + 1 < cLine)
    (h : ∀ h' tk, (∀ c o, s.heap.get? c = some o → h'.get? c = some o) → Q (.ref (if ltZ ms ns then b else a)) { s with heap := h', toks := tk }) : wpAny (model prog w) A (call (.builtin "min") [.ref a, .ref b]) Q E s := by
  have hname : (toString "min" ++ toString ".loop" : String) = "min.loop" := by decide
  refine call_function_tree F.kind_min F.plain_min F.entry_min (F.args_min2 _ _) ?_
  show wpAny _ A.in1 (Builtin.Builtins.bindParams "min" ["key", "default"] 0 ⟨[], []⟩ >>= _) _ _ s
  refine wpAny_bind (wpAny_of_eq (show Builtin.Builtins.bindParams "min" ["key", "default"] 0 ⟨[], []⟩ = pure [none, none] from rfl) ?_)
  show wpAny _ A.in1 (newTuple [.ref a, .ref b] >>= _) _ _ s
  refine wpAny_bind (wpAny_newObj_type ?_)
  have hT : (s.heap.push { cls := .type "tuple", data := .seq #[.ref a, .ref b] }).IsTuple s.heap.objs.size #[.ref a, .ref b] := ⟨_, Heap.get?_push_size _ rfl, rfl, 0, rfl⟩
  have hold : ∀ c o, s.heap.get? c = some o → (s.heap.push { cls := .type "tuple", data := .seq #[.ref a, .ref b] }).get? c = some o := fun c o e => Heap.get?_push_of_some _ e
  refine wpAny_bind (PySem.W.iter_tupleW (A := A.in1) hh hT fun s₂ e W st hfp hw hk => ?_)
  refine wpAny_bind (wpAny_newObj_type ?_)
  have hSf : s₂.heap.objs.size ∉ [(s.heap.push { cls := .type "tuple", data := .seq #[.ref a, .ref b] }).objs.size, s.heap.objs.size] := fun hm => Nat.lt_irrefl _ (hfp _ hm)
  have hcmp : CmpIn prog w A.in1 .Lt s.heap (fun i v => (#[Value.ref a, Value.ref b] : Array Value)[i]? = some v) (fun i j => if i = 1 ∧ j = 0 then ltZ ms ns else if i = 0 ∧ j = 1 then ltZ ns ms else if i = 0 then ltZ ns ns else ltZ ms ms) := by
    intro i j vi vj s' Q' E' hs' hi hj q
    have q1 : s'.heap.IsList a its.toArray := p1.at fun o e => hs' a o e
    have q2 : s'.heap.IsList b its2.toArray := p2.at fun o e => hs' b o e
    have cases2 : ∀ {k : Nat} {u : Value}, (#[Value.ref a, Value.ref b] : Array Value)[k]? = some u → (k = 0 ∧ u = .ref a) ∨ (k = 1 ∧ u = .ref b) := by
      intro k u h
      match k, h with
      | 0, h => exact .inl ⟨rfl, by simpa using h.symm⟩
      | 1, h => exact .inr ⟨rfl, by simpa using h.symm⟩
      | k + 2, h => simp at h
    have hu1 : A.in1.units < cLine := hu
    rcases cases2 hi with ⟨rfl, rfl⟩ | ⟨rfl, rfl⟩ <;> rcases cases2 hj with ⟨rfl, rfl⟩ | ⟨rfl, rfl⟩
    · exact lists_lt q1 q1 i1 i1 hu1 prog w _ _ (by simpa using q)
    · exact lists_lt q1 q2 i1 i2 hu1 prog w _ _ (by simpa using q)
    · exact lists_lt q2 q1 i2 i1 hu1 prog w _ _ (by simpa using q)
    · exact lists_lt q2 q2 i2 i2 hu1 prog w _ _ (by simpa using q)
  rw [hname]
  refine wpAny_pure ⟨plainId_quiet F.plain_min_loop _, codeAny_min_loop_firstH W s.heap (fun c o e => hw c o (hold c o e)) _ hcmp s₂.heap.objs.size hSf (fresh_in fun c o e => hk c o (hold c o e)) _ (by simp) (fun c o e => Heap.get?_push_of_some _ (hk c o (hold c o e))) (W.frame 0 s₂ _ s₂.toks st (Nat.le_refl _) fun c _ o e => Heap.get?_push_of_some _ e) (Heap.get?_push_size _ rfl) fun v s' hP hm => ?_⟩
  obtain ⟨h', tk, es, hk2⟩ := PySem.W.moved_old e rfl (Moved.drop_new (tk := s₂.toks) hm (Nat.le_refl _))
  have ev : v = .ref (if ltZ ms ns then b else a) := by
    have hP' : (#[Value.ref a, Value.ref b] : Array Value)[if ltZ ms ns = true then 1 else 0]? = some v := hP
    cases hz : ltZ ms ns with
    | true => rw [hz] at hP'; simpa using hP'.symm
    | false => rw [hz] at hP'; simpa using hP'.symm
  rw [es, ev]
  exact h h' tk fun c o e => hk2 c o (hold c o e)
end
section
variable {X : Cx}
theorem opr_le (hu : X.A.units + 5 < cLine) : OpR X (compareOp .LtE) (rCmp X.w X.K .le) := by
  intro pins s σ H x y v u Q I rx ry ⟨ρ, S, d, e, hS, hd, he, h⟩
  cases d with
  | int i => cases e with
    | int j => cases hd.intE; cases he.intE; exact op_le pins s σ H _ _ v u Q I rx ry ⟨i, j, rfl, rfl, LQ.here h hS .bl⟩
    | _ => exact False.elim h
  | loc m => cases e with
    | loc n =>
      replace h := wpx_bind.mp (show wp (M.bind (rdL m) fun xs => M.bind (rdL n) fun ys => M.bind (opt (ltZD ys xs)) fun k => M.ret (!k)) _ S from h)
      obtain ⟨xs, hx, h⟩ := wp_rdL.mp h
      replace h := wpx_bind.mp h
      obtain ⟨ys, hy, h⟩ := wp_rdL.mp h
      replace h := wpx_bind.mp h
      obtain ⟨k, hk, h⟩ := wpx_opt.mp h
      obtain ⟨a, vs, rfl, ha, hr⟩ := sql_of hS hd hx
      obtain ⟨b, us, rfl, hb, hr2⟩ := sql_of hS he hy
      unfold ltZD at hk
      cases e1 : intsD ys with
      | none => rw [e1] at hk; cases hk
      | some ms =>
        cases e2 : intsD xs with
        | none => rw [e1, e2] at hk; cases hk
        | some ns =>
          rw [e1, e2] at hk
          cases hk
          cases ints_rps e2 hr
          cases ints_rps e1 hr2
          cases rx
          cases ry
          obtain ⟨its, r1, p1, _⟩ := I.list ha
          obtain ⟨its2, r2, p2, _⟩ := I.list hb
          have l1 : s.heap.IsList a its.toArray := by
            obtain ⟨o, m, e, c, d, q⟩ := p1
            exact ⟨o, e, c, m, q⟩
          have l2 : s.heap.IsList b its2.toArray := by
            obtain ⟨o, m, e, c, d, q⟩ := p2
            exact ⟨o, e, c, m, q⟩
          exact lists_le l1 l2 (Vals.ints r1) (Vals.ints r2) (by omega) X.prog X.w X.xe _ ⟨.bl _, H, I, rfl, LQ.here h hS .bl⟩
    | _ => exact False.elim h
  | _ => exact False.elim h
theorem two_min {ds : List D} {R : D → Store → Prop} (h : wp (builtin .min2 ds) R S) : (∃ i j, ds = [.int i, .int j]) ∨ ∃ m n, ds = [.loc m, .loc n] := by
  match ds, h with
  | [.int i, .int j], _ => exact .inl ⟨i, j, rfl⟩
  | [.loc i, .loc j], _ => exact .inr ⟨i, j, rfl⟩
  | [], h => exact False.elim h
  | [a], h => cases a <;> exact False.elim h
  | [a, b], h => cases a <;> cases b <;> first | exact .inl ⟨_, _, rfl⟩ | exact .inr ⟨_, _, rfl⟩ | exact False.elim h
  | a :: b :: c :: d, h => cases a <;> cases b <;> exact False.elim h
theorem bi_min2 (hc : X.calm = true) (hu : X.A.units + 5 < cLine) : CallR X (.builtin "min") (rBi X.w X.K .min2) := by
  intro pins s σ H xs us Q I r ⟨ρ, S, ds, hS, hd, h⟩
  rcases two_min h with ⟨i, j, rfl⟩ | ⟨m, n, rfl⟩
  · obtain ⟨v, u, rfl, hv, hu⟩ := rps2 hd
    cases hv.intE; cases hu.intE
    exact call_min2 hc pins s σ H _ us Q I r ⟨i, j, rfl, LQ.here h hS .int⟩
  · obtain ⟨v, u, rfl, hv, hw⟩ := rps2 hd
    replace h := wpx_bind.mp (show wp (M.bind (rdL m) fun xs => M.bind (rdL n) fun ys => M.bind (opt (ltZD ys xs)) fun k => M.ret (if k then D.loc n else D.loc m)) _ S from h)
    obtain ⟨xs, hx, h⟩ := wp_rdL.mp h
    replace h := wpx_bind.mp h
    obtain ⟨ys, hy, h⟩ := wp_rdL.mp h
    replace h := wpx_bind.mp h
    obtain ⟨k, hk, h⟩ := wpx_opt.mp h
    obtain ⟨a, vs, rfl, ha, hr⟩ := sql_of hS hv hx
    obtain ⟨b, us', rfl, hb, hr2⟩ := sql_of hS hw hy
    unfold ltZD at hk
    cases e1 : intsD ys with
    | none => rw [e1] at hk; cases hk
    | some ms =>
      cases e2 : intsD xs with
      | none => rw [e1, e2] at hk; cases hk
      | some ns =>
        rw [e1, e2] at hk
        cases hk
        cases ints_rps e2 hr
        cases ints_rps e1 hr2
        obtain ⟨u1, u2, rfl, rx, ry⟩ := vals2 r
        cases rx
        cases ry
        obtain ⟨its, r1, p1, _⟩ := I.list ha
        obtain ⟨its2, r2, p2, _⟩ := I.list hb
        have l1 : s.heap.IsList a its.toArray := by
          obtain ⟨o, m, e, c, d, q⟩ := p1
          exact ⟨o, e, c, m, q⟩
        have l2 : s.heap.IsList b its2.toArray := by
          obtain ⟨o, m, e, c, d, q⟩ := p2
          exact ⟨o, e, c, m, q⟩
        refine min_lists (I.ok.hd hc) l1 l2 (Vals.ints r1) (Vals.ints r2) (by omega) fun h' tk k => ?_
        cases hz : ltZ ms ns with
        | true =>
          rw [hz] at h
          exact ⟨.ref b, H, I.kept k, rfl, LQ.here h hS hw⟩
        | false =>
          rw [hz] at h
          exact ⟨.ref a, H, I.kept k, rfl, LQ.here h hS hv⟩
end
end Mn
/-! Mn, part 7: methods, truth, index, slice, isinstance. -/
namespace Mn
open PySem PySem.Spec PyProof.Rows L2
section
variable {X : Cx} {w : World} {K : PySem.W.Frag} {H : Hp} {ρ : List Addr} {S : Store} {Q : VK} {v : V}
def rMt (w : World) (K : PySem.W.Frag) (b : Bi) : V → List V → Hp → VK → Prop := fun x vs H Q => rBi w K b (x :: vs) H Q
/-- a list is written -/
theorem LQ.put {d : D} {n : Nat} {p : Addr} {xs ys : List D} {vs us : List V} (h : LQ w K Q ρ H d (S.set n (.lst ys))) (hS : SR w K H ρ S) (e : S[n]? = some (.lst xs)) (ep : ρ[n]? = some p) (hp : H p = some (.lst us)) (hr : Rps K H ρ ys vs) (r : Rp K H ρ d v) : Q v (upd H p (.lst vs)) :=
  h v _ ρ List.prefix_rfl (ex_put hp) (hS.put e ep hp hr) (r.mono List.prefix_rfl (ex_put hp))
theorem app_of {ds : List D} {R : D → Store → Prop} (h : wp (builtin .append ds) R S) : ∃ n d, ds = [.loc n, d] := by
  match ds, h with
  | [], h => exact False.elim h
  | [a], h => cases a <;> exact False.elim h
  | [a, b], h => cases a <;> first | exact ⟨_, _, rfl⟩ | exact False.elim h
  | a :: b :: c :: d, h => cases a <;> exact False.elim h
theorem mr_append : MtR X "list.append" (rMt X.w X.K .append) := by
  intro pins s σ H x xs w us Q I rx r ⟨ρ, S, ds, hS, hd, h⟩
  obtain ⟨n, d, rfl⟩ := app_of h
  obtain ⟨v1, v2, e, hv, hu⟩ := rps2 hd
  cases e
  unfold builtin at h
  simp only [wpx_bind] at h
  obtain ⟨ys, hy, h⟩ := wp_owL.mp h
  simp only [wpx_bind, wpx_guard, wpx_ret, decide_eq_true_eq] at h
  obtain ⟨hz, h⟩ := h
  have h := wp_wrL.mp h
  obtain ⟨a, vs, rfl, ep, ha, h2⟩ := lst_read hS hv hy
  exact mt_append pins s σ H _ _ w us Q I rx r ⟨a, vs, v2, rfl, rfl, ha, by rw [← h2.length]; exact hz, LQ.put h hS hy ep ha (h2.append (.cons hu .nil)) .non⟩
theorem loc1_of (b : Bi) (hb : b = .pop0 ∨ b = .reverse) {ds : List D} {R : D → Store → Prop} (h : wp (builtin b ds) R S) : ∃ n, ds = [.loc n] := by
  rcases hb with rfl | rfl <;> (match ds, h with
    | [], h => exact False.elim h
    | [a], h => cases a <;> first | exact ⟨_, rfl⟩ | exact False.elim h
    | a :: b :: c, h => cases a <;> exact False.elim h)
theorem mr_pop0 : MtR X "list.pop" (rMt X.w X.K .pop0) := by
  intro pins s σ H x xs w us Q I rx r ⟨ρ, S, ds, hS, hd, h⟩
  obtain ⟨n, rfl⟩ := loc1_of .pop0 (.inl rfl) h
  obtain ⟨v1, e, hv⟩ := rps1 hd
  cases e
  unfold builtin at h
  simp only [wpx_bind] at h
  obtain ⟨ys, hy, h⟩ := wp_owL.mp h
  obtain ⟨d, hi, h⟩ := wpx_opt.mp h
  simp only [wpx_bind, wpx_ret] at h
  have h := wp_wrL.mp h
  obtain ⟨a, vs, rfl, ep, ha, h2⟩ := lst_read hS hv hy
  obtain ⟨y, hi2, ry⟩ := h2.at hi
  exact mt_pop pins s σ H _ _ w us Q I rx r ⟨a, vs, y, rfl, rfl, ha, by rw [← h2.length]; exact hi2, LQ.put h hS hy ep ha h2.dropLast ry⟩
theorem mr_reverse : MtR X "list.reverse" (rMt X.w X.K .reverse) := by
  intro pins s σ H x xs w us Q I rx r ⟨ρ, S, ds, hS, hd, h⟩
  obtain ⟨n, rfl⟩ := loc1_of .reverse (.inr rfl) h
  obtain ⟨v1, e, hv⟩ := rps1 hd
  cases e
  unfold builtin at h
  simp only [wpx_bind] at h
  obtain ⟨ys, hy, h⟩ := wp_owL.mp h
  simp only [wpx_bind, wpx_ret] at h
  have h := wp_wrL.mp h
  obtain ⟨a, vs, rfl, ep, ha, h2⟩ := lst_read hS hv hy
  exact mt_reverse pins s σ H _ _ w us Q I rx r ⟨a, vs, rfl, rfl, ha, LQ.put h hS hy ep ha h2.reverse .non⟩
theorem pop1_of {ds : List D} {R : D → Store → Prop} (h : wp (builtin .pop1 ds) R S) : ∃ n i, ds = [.loc n, .int i] := by
  match ds, h with
  | [], h => exact False.elim h
  | [a], h => cases a <;> exact False.elim h
  | [a, b], h => cases a <;> cases b <;> first | exact ⟨_, _, rfl⟩ | exact False.elim h
  | a :: b :: c :: d, h => cases a <;> cases b <;> exact False.elim h
theorem mr_pop1 : MtR X "list.pop" (rMt X.w X.K .pop1) := by
  intro pins s σ H x xs w us Q I rx r ⟨ρ, S, ds, hS, hd, h⟩
  obtain ⟨n, i, rfl⟩ := pop1_of h
  obtain ⟨v1, v2, e, hv, hu⟩ := rps2 hd
  cases e
  cases hu.intE
  unfold builtin at h
  simp only [wpx_bind] at h
  obtain ⟨ys, hy, h⟩ := wp_owL.mp h
  simp only [wpx_bind, wpx_guard, Bool.and_eq_true, decide_eq_true_eq] at h
  obtain ⟨⟨h5, h6⟩, h⟩ := h
  obtain ⟨k, hk, h⟩ := wpx_opt.mp h
  obtain ⟨d, hi, h⟩ := wpx_opt.mp h
  simp only [wpx_bind, wpx_ret] at h
  have h := wp_wrL.mp h
  obtain ⟨a, vs, rfl, ep, ha, h2⟩ := lst_read hS hv hy
  obtain ⟨y, hi2, ry⟩ := h2.at hi
  exact mt_popAt pins s σ H _ _ w us Q I rx r ⟨a, vs, i, k, y, rfl, rfl, ha, h5, h6, by rw [← h2.length]; exact hk, hi2, LQ.put h hS hy ep ha (h2.eraseIdx k) ry⟩
theorem ext_of {ds : List D} {R : D → Store → Prop} (h : wp (builtin .extend ds) R S) : (∃ n i, ds = [.loc n, .loc i]) ∨ ∃ n ys, ds = [.loc n, .tup ys] := by
  match ds, h with
  | [], h => exact False.elim h
  | [a], h => cases a <;> exact False.elim h
  | [a, b], h => cases a <;> cases b <;> first | exact .inl ⟨_, _, rfl⟩ | exact .inr ⟨_, _, rfl⟩ | exact False.elim h
  | a :: b :: c :: d, h => cases a <;> cases b <;> exact False.elim h
theorem mr_extend : MtR X "list.extend" (rMt X.w X.K .extend) := by
  intro pins s σ H x xs w us Q I rx r ⟨ρ, S, ds, hS, hd, h⟩
  rcases ext_of h with ⟨n, m, rfl⟩ | ⟨n, ys', rfl⟩
  rotate_left
  · obtain ⟨v1, v2, e, hv, hu⟩ := rps2 hd
    cases e
    unfold builtin at h
    simp only [wpx_bind] at h
    obtain ⟨ys, hy, h⟩ := wp_owL.mp h
    simp only [wpx_bind, wpx_guard, wpx_ret, ok2, decide_eq_true_eq] at h
    obtain ⟨h5, h⟩ := h
    have h := wp_wrL.mp h
    obtain ⟨a, vs, rfl, ep, ha, h2⟩ := lst_read hS hv hy
    obtain ⟨b, ws, rfl, hb, h3⟩ := hu.tupE
    exact mt_extendT pins s σ H _ _ w us Q I rx r ⟨a, b, vs, ws, rfl, rfl, ha, hb, by rw [← h2.length, ← h3.length]; exact h5, LQ.put h hS hy ep ha (h2.append h3) .non⟩
  obtain ⟨v1, v2, e, hv, hu⟩ := rps2 hd
  cases e
  unfold builtin at h
  simp only [wpx_bind] at h
  obtain ⟨ys, hy, h⟩ := wp_owL.mp h
  obtain ⟨zs, hz, h⟩ := wp_owL.mp h
  simp only [wpx_bind, wpx_guard, wpx_ret, ok2, decide_eq_true_eq] at h
  obtain ⟨h5, h⟩ := h
  have h := wp_wrL.mp h
  obtain ⟨a, vs, rfl, ep, ha, h2⟩ := lst_read hS hv hy
  obtain ⟨b, ws, rfl, _, hb, h3⟩ := lst_read hS hu hz
  exact mt_extend pins s σ H _ _ w us Q I rx r ⟨a, b, vs, ws, rfl, rfl, ha, hb, by rw [← h2.length, ← h3.length]; exact h5, LQ.put h hS hy ep ha (h2.append h3) .non⟩
theorem ins_of {ds : List D} {R : D → Store → Prop} (h : wp (builtin .insert ds) R S) : ∃ n i d, ds = [.loc n, .int i, d] := by
  match ds, h with
  | [], h => exact False.elim h
  | [a], h => cases a <;> exact False.elim h
  | [a, b], h => cases a <;> cases b <;> exact False.elim h
  | [a, b, c], h => cases a <;> cases b <;> first | exact ⟨_, _, _, rfl⟩ | exact False.elim h
  | a :: b :: c :: d :: e, h => cases a <;> cases b <;> exact False.elim h
theorem mr_insert : MtR X "list.insert" (rMt X.w X.K .insert) := by
  intro pins s σ H x xs w us Q I rx r ⟨ρ, S, ds, hS, hd, h⟩
  obtain ⟨n, i, d, rfl⟩ := ins_of h
  obtain ⟨v1, v2, v3, e, hv, hu, hw⟩ := rps3 hd
  cases e
  cases hu.intE
  unfold builtin at h
  simp only [wpx_bind] at h
  obtain ⟨ys, hy, h⟩ := wp_owL.mp h
  simp only [wpx_bind, wpx_guard, wpx_ret, Bool.and_eq_true, decide_eq_true_eq] at h
  obtain ⟨⟨⟨h5, h6⟩, h7⟩, h⟩ := h
  have h := wp_wrL.mp h
  obtain ⟨a, vs, rfl, ep, ha, h2⟩ := lst_read hS hv hy
  exact mt_insert pins s σ H _ _ w us Q I rx r ⟨a, vs, i, v3, rfl, rfl, ha, by rw [← h2.length]; exact h5, h6, h7, LQ.put h hS hy ep ha (((h2.take _).append (.cons hw .nil)).append (h2.drop _)) .non⟩
theorem join_of {ds : List D} {R : D → Store → Prop} (h : wp (builtin .join ds) R S) : ∃ a d, ds = [.str a, d] := by
  match ds, h with
  | [], h => exact False.elim h
  | [a], h => cases a <;> exact False.elim h
  | [a, b], h => cases a <;> first | exact ⟨_, _, rfl⟩ | exact False.elim h
  | a :: b :: c :: d, h => cases a <;> exact False.elim h
theorem mr_join : MtR X "str.join" (rMt X.w X.K .join) := by
  intro pins s σ H x xs w us Q I rx r ⟨ρ, S, ds, hS, hd, h⟩
  obtain ⟨a, d, rfl⟩ := join_of h
  obtain ⟨v1, v2, e, hv, hu⟩ := rps2 hd
  cases e
  cases hv.strE
  unfold builtin lenJ at h
  simp only [wpx_bind] at h
  rcases wp_seqOf.mp h with ⟨zs, rfl, h⟩ | ⟨n, zs, rfl, hy, h⟩
  · obtain ⟨ys, hs, h⟩ := wpx_opt.mp h
    simp only [wpx_bind, wpx_guard, wpx_ret, decide_eq_true_eq] at h
    obtain ⟨p, vs, rfl, hq, h2⟩ := hu.tupE
    have := h2.strsR hs
    subst this
    exact mt_join pins s σ H _ _ w us Q I rx r ⟨a, p, ys, rfl, rfl, .inr hq, h.1, LQ.here h.2 hS .str⟩
  · obtain ⟨ys, hs, h⟩ := wpx_opt.mp h
    simp only [wpx_bind, wpx_guard, wpx_ret, decide_eq_true_eq] at h
    obtain ⟨p, vs, rfl, hq, h2⟩ := sql_of hS hu hy
    have := h2.strsR hs
    subst this
    exact mt_join pins s σ H _ _ w us Q I rx r ⟨a, p, ys, rfl, rfl, .inl hq, h.1, LQ.here h.2 hS .str⟩
theorem str2_of (b : Bi) (hb : b = .split ∨ b = .startswith) {ds : List D} {R : D → Store → Prop} (h : wp (builtin b ds) R S) : ∃ a d, ds = [.str a, .str d] := by
  rcases hb with rfl | rfl <;> (match ds, h with
  | [], h => exact False.elim h
  | [a], h => cases a <;> exact False.elim h
  | [a, b], h => cases a <;> cases b <;> first | exact ⟨_, _, rfl⟩ | exact False.elim h
  | a :: b :: c :: d, h => cases a <;> cases b <;> exact False.elim h)
theorem mr_split : MtR X "str.split" (rMt X.w X.K .split) := by
  intro pins s σ H x xs w us Q I rx r ⟨ρ, S, ds, hS, hd, h⟩
  obtain ⟨a, b, rfl⟩ := str2_of .split (.inl rfl) h
  obtain ⟨v1, v2, e, hv, hu⟩ := rps2 hd
  cases e
  cases hv.strE; cases hu.strE
  unfold builtin at h
  simp only [wpx_bind, wpx_guard, Bool.and_eq_true, decide_eq_true_eq, Bool.not_eq_true'] at h
  obtain ⟨⟨h1, h2⟩, h⟩ := h
  have h := wp_alloc.mp h
  exact mt_split pins s σ H _ _ w us Q I rx r ⟨a, b, rfl, rfl, h1, h2, fun p hp => LQ.new h hS (.of_strs _) hp⟩
theorem mr_startswith : MtR X "str.startswith" (rMt X.w X.K .startswith) := by
  intro pins s σ H x xs w us Q I rx r ⟨ρ, S, ds, hS, hd, h⟩
  obtain ⟨a, b, rfl⟩ := str2_of .startswith (.inr rfl) h
  obtain ⟨v1, v2, e, hv, hu⟩ := rps2 hd
  cases e
  cases hv.strE; cases hu.strE
  exact mt_startswith pins s σ H _ _ w us Q I rx r ⟨a, b, rfl, rfl, LQ.here h hS .bl⟩
/-- the receiver's type -/
def isStrB : Bi → Bool
  | .join => true
  | .split => true
  | .startswith => true
  | _ => false
theorem recv_ty {b : Bi} {d : D} {R : Unit → Store → Prop} (hS : SR w K H ρ S) (r : Rp K H ρ d v) (h : wp (recv b d) R S) : tyV K (if isStrB b then "str" else "list") v H ∧ R () S := by
  cases d with
  | str z =>
    cases r.strE
    cases b <;> first | exact False.elim h | exact ⟨rfl, h⟩
  | loc n =>
    have key : ∀ {b : Bi}, wp (M.bind (rdL n) fun _ => M.ret ()) R S → tyV K "list" v H ∧ R () S := by
      intro b h
      simp only [wpx_bind] at h
      obtain ⟨ys, hy, h⟩ := wp_rdL.mp h
      obtain ⟨a, vs, rfl, hq, _⟩ := sql_of hS r hy
      exact ⟨.inl ⟨rfl, vs, hq⟩, h⟩
    cases b <;> first | exact False.elim h | exact key (b := .append) h
  | _ => cases b <;> exact False.elim h
/-! ### truth, index, slice -/
theorem truth_tru {d : D} {R : Bool → Store → Prop} (hS : SR w K H ρ S) (r : Rp K H ρ d v) (h : wp (truth d) R S) : ∃ k, TruV K v H k ∧ R k S := by
  cases d with
  | non => cases r.nonE; exact ⟨false, rfl, h⟩
  | bl b => cases r.blE; exact ⟨b, rfl, h⟩
  | int i => cases r.intE; exact ⟨_, rfl, h⟩
  | str x =>
    cases r.strE
    unfold truth at h
    simp only [wpx_bind, wpx_guard, wpx_ret, ok2, decide_eq_true_eq] at h
    exact ⟨_, ⟨h.1, rfl⟩, h.2⟩
  | tup xs =>
    obtain ⟨a, vs, rfl, h1, h2⟩ := r.tupE
    have h : R (!xs.isEmpty) S := h
    refine ⟨!vs.isEmpty, .inr (.inl ⟨vs, h1, rfl⟩), ?_⟩
    have : vs.isEmpty = xs.isEmpty := by
      have := h2.length
      cases xs <;> cases vs <;> first | rfl | (simp at this)
    rw [this]; exact h
  | loc n =>
    unfold truth at h
    simp only [wpx_bind, wpx_ret] at h
    obtain ⟨xs, hy, h⟩ := wp_rdL.mp h
    obtain ⟨a, vs, rfl, hq, h2⟩ := sql_of hS r hy
    refine ⟨!vs.isEmpty, .inl ⟨vs, hq, rfl⟩, ?_⟩
    have : vs.isEmpty = xs.isEmpty := by
      have := h2.length
      cases xs <;> cases vs <;> first | rfl | (simp at this)
    rw [this]; exact h
  | lst _ => unfold Rp at r; exact r.elim
  | dct _ _ => unfold Rp at r; exact r.elim
theorem atI_rps {xs : List D} {vs : List V} {i : Int} {d : D} (h : Rps K H ρ xs vs) (e : atI xs i = some d) : ∃ w, atI vs i = some w ∧ Rp K H ρ d w := by
  unfold atI at e ⊢
  rw [← h.length]
  cases q : ixN xs.length i with
  | none => rw [q] at e; cases e
  | some j =>
    rw [q] at e
    exact h.at e
def rIdx (w : World) (K : PySem.W.Frag) : R2 := fun x y H Q => ∃ ρ S d e, SR w K H ρ S ∧ Rp K H ρ d x ∧ Rp K H ρ e y ∧ wp (index d e) (LQ w K Q ρ H) S
theorem ixr (hu : X.A.units + 20 < cLine) : IxR X (rIdx X.w X.K) := by
  intro value sl pins s σ H x y w u Q I rx ry ⟨ρ, S, d, e, hS, hd, he, h⟩ hs
  by_cases hl : ∃ n kvs, d = .loc n ∧ S[n]? = some (.dct kvs)
  · obtain ⟨n, kvs, rfl, hn⟩ := hl
    unfold index at h
    simp only [wpx_bind] at h
    obtain ⟨c, hc, h⟩ := wp_getC.mp h
    rw [hn] at hc; cases hc
    obtain ⟨c, hc, q⟩ := wpx_opt.mp (show wp (opt (dGet kvs e)) _ _ from h)
    obtain ⟨a, rfl, _, cr⟩ := hS.loc hd hn
    obtain rfl : w = Value.ref a := rx
    exact tail_any (dd_type I cr) PySem.F.slot_dict_getitem.lookup (dd_get hu I cr he ry hc fun v w' s' I' r' rv' => ⟨v, H, I', rv', LQ.here q hS r'⟩) hs
  cases e with
  | int i =>
    cases he.intE
    cases d with
    | tup xs =>
      obtain ⟨a, vs, rfl, h1, h2⟩ := hd.tupE
      obtain ⟨c, hc, q⟩ := wpx_opt.mp h
      obtain ⟨z, hz, rz⟩ := atI_rps h2 hc
      exact ix_tup value sl pins s σ H _ _ w u Q I rx ry ⟨a, vs, i, z, rfl, rfl, h1, hz, LQ.here q hS rz⟩ hs
    | str z =>
      cases hd.strE
      unfold index at h
      simp only [wpx_bind, wpx_guard, ok2, decide_eq_true_eq] at h
      obtain ⟨hz, h⟩ := h
      obtain ⟨c, hc, q⟩ := wpx_opt.mp h
      cases hk : atI z.cps.toList i with
      | none => rw [hk] at hc; cases hc
      | some k =>
        rw [hk] at hc; cases hc
        exact ix_str value sl pins s σ H _ _ w u Q I rx ry ⟨z, i, k, rfl, rfl, hz, hk, LQ.here q hS .str⟩ hs
    | loc n =>
      unfold index at h
      simp only [wpx_bind] at h
      obtain ⟨cc, hcc, h⟩ := wp_getC.mp h
      have key : ∃ ys c, (S[n]? = some (.lst ys) ∨ S[n]? = some (.ro ys)) ∧ atI ys i = some c ∧ LQ X.w X.K Q ρ H c S := by
        cases cc with
        | lst ys => obtain ⟨c, hc, q⟩ := wpx_opt.mp h; exact ⟨ys, c, .inl hcc, hc, q⟩
        | ro ys => obtain ⟨c, hc, q⟩ := wpx_opt.mp h; exact ⟨ys, c, .inr hcc, hc, q⟩
        | dct kvs => exact absurd ⟨n, kvs, rfl, hcc⟩ hl
        | obj _ _ => exact False.elim h
      obtain ⟨ys, c, hy, hc, q⟩ := key
      obtain ⟨a, vs, rfl, hq, h2⟩ := sql_of hS hd hy
      obtain ⟨z, hz, rz⟩ := atI_rps h2 hc
      exact ix_list value sl pins s σ H _ _ w u Q I rx ry ⟨a, vs, i, z, rfl, rfl, hq, hz, LQ.here q hS rz⟩ hs
    | _ => exact False.elim h
  | _ =>
    cases d with
    | loc n =>
      unfold index at h
      simp only [wpx_bind] at h
      obtain ⟨cc, hcc, h⟩ := wp_getC.mp h
      cases cc with
      | lst ys => exact False.elim h
      | ro ys => exact False.elim h
      | dct kvs => exact absurd ⟨n, kvs, rfl, hcc⟩ hl
      | obj _ _ => exact False.elim h
    | _ => exact False.elim h
def rSlc (w : World) (K : PySem.W.Frag) : V → Option Int → Option Int → Hp → VK → Prop := fun x lo hi H Q => ∃ ρ S d, SR w K H ρ S ∧ Rp K H ρ d x ∧ wp (slice d lo hi) (LQ w K Q ρ H) S
theorem Rps.cut {xs : List D} {vs : List V} (h : Rps K H ρ xs vs) (lo hi : Option Int) : Rps K H ρ (cutD xs lo hi) (cutV vs lo hi) := by
  unfold cutD cutV
  rw [h.length]
  exact (h.drop _).take _
theorem slr : SlR X (rSlc X.w X.K) := by
  intro pins s σ H x w vl vu lo hi sl Q I rx hs pl pu ⟨ρ, S, d, hS, hd, h⟩
  cases d with
  | tup xs =>
    obtain ⟨a, vs, rfl, h1, h2⟩ := hd.tupE
    have h : LQ X.w X.K Q ρ H (.tup (cutD xs lo hi)) S := h
    refine sl_tupA pins s σ H _ w vl vu lo hi sl Q I rx hs pl pu ⟨a, vs, rfl, h1, fun c => ?_, fun _ p hp => LQ.tup h hS (h2.cut lo hi) hp⟩
    refine LQ.here h hS (.tup h1 ?_)
    have : cutD xs lo hi = xs := by
      unfold cutD
      rw [h2.length, c.1, c.2]
      simp [← h2.length]
    rw [this]; exact h2
  | str z =>
    cases hd.strE
    unfold slice at h
    simp only [wpx_bind, wpx_guard, wpx_ret, ok2, decide_eq_true_eq] at h
    exact sl_str pins s σ H _ w vl vu lo hi sl Q I rx hs pl pu ⟨z, rfl, h.1, LQ.here h.2 hS .str⟩
  | loc n =>
    unfold slice at h
    simp only [wpx_bind] at h
    obtain ⟨ys, hy, h⟩ := wp_rdL.mp h
    have h := wp_alloc.mp h
    obtain ⟨a, vs, rfl, hq, h2⟩ := sql_of hS hd hy
    exact sl_list pins s σ H _ w vl vu lo hi sl Q I rx hs pl pu ⟨a, vs, rfl, hq, fun p hp => LQ.new h hS (h2.cut lo hi) hp⟩
  | _ => exact False.elim h
/-! ### isinstance -/
def isTy : Bi → String
  | .isTuple => "tuple"
  | .isStr => "str"
  | .isInt => "int"
  | .isList => "list"
  | _ => "bool"
def tyName : D → String
  | .non => "NoneType"
  | .bl _ => "bool"
  | .int _ => "int"
  | .str _ => "str"
  | .tup _ => "tuple"
  | .loc _ => "list"
  | .lst _ => "list"
  | .dct _ _ => "list"
theorem kit_ans (K : PySem.W.Frag) (b : Bi) (hb : b = .isTuple ∨ b = .isStr ∨ b = .isInt ∨ b = .isBool) (t : String) (ht : t = "NoneType" ∨ t = "bool" ∨ t = "int" ∨ t = "str" ∨ t = "tuple" ∨ t = "list") :
    PySem.W.kitOne K (.type t) (.type (isTy b)) = some ((t == isTy b) || (b == .isInt && t == "bool")) := by
  rcases hb with rfl | rfl | rfl | rfl <;> rcases ht with rfl | rfl | rfl | rfl | rfl | rfl <;> rfl
theorem isi_no {n : Nat} {b : D} {R : D → Store → Prop} (h : wp (M.bind (noObj (.loc n)) fun _ => (M.ret b : M D)) R S) : (∀ c fs, S[n]? ≠ some (.obj c fs)) ∧ R b S := by
  replace h := wpx_bind.mp h
  unfold noObj at h
  obtain ⟨c, hc, h⟩ := wp_getC.mp (wpx_bind.mp h)
  cases c with
  | obj _ _ => exact False.elim h
  | _ => exact ⟨fun _ _ z => (by rw [hc] at z; cases z), h⟩
theorem isi_go {pins : List (Addr × Obj)} {s : Shared} {σ : L2.St} {d : D} {b : Bi} {u : Value} (I : Inv X pins σ H s) (hS : SR X.w X.K H ρ S) (rv : RelV v u) (r : Rp X.K H ρ d v) (hb : b = .isTuple ∨ b = .isStr ∨ b = .isInt ∨ b = .isBool)
    (h : wp (builtin b [d]) (LQ X.w X.K Q ρ H) S) : wpAny (model X.prog X.w) X.A (call (.builtin "isinstance") [u, .type (isTy b)]) (EP X pins σ Q) X.xe s := by
  have hq : LQ X.w X.K Q ρ H (.bl ((tyName d == isTy b) || (b == .isInt && tyName d == "bool"))) S := by
    rcases hb with rfl | rfl | rfl | rfl <;> cases d <;> first | exact h | exact (isi_no h).2
  have hno : ∀ n, d = .loc n → ∀ c fs, S[n]? ≠ some (.obj c fs) := by
    rintro n rfl
    rcases hb with rfl | rfl | rfl | rfl <;> exact (isi_no h).1
  have hk := fun t ht => kit_ans X.K b hb t ht
  have fin : ∀ tk, EP X pins σ Q (.bool ((tyName d == isTy b) || (b == .isInt && tyName d == "bool"))) { s with toks := tk } := fun tk => ⟨.bl _, H, I.tok tk, rfl, LQ.here hq hS .bl⟩
  cases d with
  | non => cases r.nonE; exact isinst_ok I rv .non (hk _ (by simp)) fin
  | bl x => cases r.blE; exact isinst_ok I rv (.bl x) (hk _ (by simp)) fin
  | int x => cases r.intE; exact isinst_ok I rv (.int x) (hk _ (by simp)) fin
  | str x => cases r.strE; exact isinst_ok I rv (.str x) (hk _ (by simp)) fin
  | tup xs =>
    obtain ⟨a, vs, rfl, h1, _⟩ := r.tupE
    cases rv
    obtain ⟨its, _, ⟨o, e1, e2, _⟩, _⟩ := I.tuple h1
    exact PySem.W.kia_one PySem.W.kitx_tuple I.kIn ⟨o, e1, e2⟩ (hk "tuple" (by simp)) (fun z => nomatch z) fin
  | lst _ => unfold Rp at r; exact r.elim
  | dct _ _ => unfold Rp at r; exact r.elim
  | loc n =>
    have hl : ∃ c, S[n]? = some c := by
      unfold Rp at r
      obtain ⟨a, e, _⟩ := r
      obtain ⟨hl, _⟩ := List.getElem?_eq_some_iff.mp e
      rw [hS.len] at hl
      exact ⟨_, List.getElem?_eq_getElem hl⟩
    obtain ⟨c, hc⟩ := hl
    by_cases hdc : ∃ kvs, c = .dct kvs
    · obtain ⟨kvs, rfl⟩ := hdc
      obtain ⟨a, rfl, _, cr⟩ := hS.loc r hc
      cases rv
      have hk' : PySem.W.kitOne X.K (.type "dict") (.type (isTy b)) = some (((D.loc n |> tyName) == isTy b) || (b == .isInt && (D.loc n |> tyName) == "bool")) := by
        rcases hb with rfl | rfl | rfl | rfl <;> rfl
      obtain ⟨o, e1, e2⟩ := dd_type I cr
      exact PySem.W.kia_one PySem.W.kitx_dict I.kIn ⟨o, e1, e2⟩ hk' (fun z => nomatch z) fin
    have hx : ∃ xs, S[n]? = some (.lst xs) ∨ S[n]? = some (.ro xs) := by
      cases c with
      | lst xs => exact ⟨xs, .inl hc⟩
      | ro xs => exact ⟨xs, .inr hc⟩
      | dct kvs => exact absurd ⟨kvs, rfl⟩ hdc
      | obj _ _ => exact absurd hc (hno n rfl _ _)
    obtain ⟨xs, hx⟩ := hx
    obtain ⟨a, vs, rfl, hq2, _⟩ := sql_of hS r hx
    cases rv
    obtain ⟨its, _, ⟨o, m, e1, e2, _⟩, _⟩ := I.list hq2
    exact PySem.W.kia_one PySem.W.kitx_list I.kIn ⟨o, e1, e2⟩ (hk "list" (by simp)) (fun z => nomatch z) fin
theorem kit_ansL (K : PySem.W.Frag) (t : String) (ht : t = "NoneType" ∨ t = "bool" ∨ t = "int" ∨ t = "str" ∨ t = "tuple" ∨ t = "list") : PySem.W.kitOne K (.type t) (.type "list") = some (t == "list") := by
  rcases ht with rfl | rfl | rfl | rfl | rfl | rfl <;> rfl
theorem isi_goL {pins : List (Addr × Obj)} {s : Shared} {σ : L2.St} {d : D} {u : Value} (I : Inv X pins σ H s) (hS : SR X.w X.K H ρ S) (rv : RelV v u) (r : Rp X.K H ρ d v)
    (h : wp (builtin .isList [d]) (LQ X.w X.K Q ρ H) S) : wpAny (model X.prog X.w) X.A (call (.builtin "isinstance") [u, .type "list"]) (EP X pins σ Q) X.xe s := by
  have hk := fun t ht => kit_ansL X.K t ht
  have fin : ∀ b, LQ X.w X.K Q ρ H (.bl b) S → ∀ tk, EP X pins σ Q (.bool b) { s with toks := tk } := fun b hq tk => ⟨.bl _, H, I.tok tk, rfl, LQ.here hq hS .bl⟩
  cases d with
  | non => cases r.nonE; exact isinst_ok I rv .non (hk _ (by simp)) (fin _ h)
  | bl x => cases r.blE; exact isinst_ok I rv (.bl x) (hk _ (by simp)) (fin _ h)
  | int x => cases r.intE; exact isinst_ok I rv (.int x) (hk _ (by simp)) (fin _ h)
  | str x => cases r.strE; exact isinst_ok I rv (.str x) (hk _ (by simp)) (fin _ h)
  | tup xs =>
    obtain ⟨a, vs, rfl, h1, _⟩ := r.tupE
    cases rv
    obtain ⟨its, _, ⟨o, e1, e2, _⟩, _⟩ := I.tuple h1
    exact PySem.W.kia_one PySem.W.kitx_tuple I.kIn ⟨o, e1, e2⟩ (hk "tuple" (by simp)) (fun z => nomatch z) (fin _ h)
  | lst _ => unfold Rp at r; exact r.elim
  | dct _ _ => unfold Rp at r; exact r.elim
  | loc n =>
    obtain ⟨ys, hy, h⟩ := wp_rdL.mp (wpx_bind.mp h)
    obtain ⟨a, vs, rfl, hq2, _⟩ := sql_of hS r hy
    cases rv
    obtain ⟨its, _, ⟨o, m, e1, e2, _⟩, _⟩ := I.list hq2
    exact PySem.W.kia_one PySem.W.kitx_list I.kIn ⟨o, e1, e2⟩ (hk "list" (by simp)) (fun z => nomatch z) (fin _ h)
end
end Mn
/-! Mn, part 8: a def's promise where no repr is under way around (guards empty), and its call. -/
namespace Mn
open PySem PySem.Spec PyProof.Rows L2
structure Rm (k : Nat) (A : Around) : Prop where
  rm : Room k A
  gd : A.guards = some []
theorem Rm.mono {j k : Nat} {A : Around} (r : Rm k A) (h : j ≤ k) : Rm j A := ⟨r.rm.mono h, r.gd⟩
/-- called with such values, in such a heap, from a frame with room k: it returns, and Q holds of what it returns -/
structure FnG (P : Program) (w : World) (K : PySem.W.Frag) (mg : Str → Option Value) (base : Heap) (k : Nat) (f : Addr) (fd : FuncData) (ps : List Str) (sp : Sp) : Prop where
  ar : ∀ vs H Q E, sp vs H Q E → vs.length = ps.length
  go : ∀ (A : Around) (outer : List Env) (s : Shared) (H : Hp) (args : Args) (us : List Value) (vs : List V) (Q : VK) (E : XK), Rm k A → Env0 P w K mg base A outer s H → BindsTo s fd args (ps.zip us) → Vals vs us → sp vs H Q E →
    codeAny (model P w) A (.call (.ref f) args) (CR (L2.CX P w) outer P w H s Q E) s
section
variable {P : Program} {w : World} {K : PySem.W.Frag} {mg : Str → Option Value} {base : Heap}
/-- a def by its body -/
theorem fng_of {k : Nat} {f : Addr} {nm qn : Str} {params : Arguments} {bd : List Stmt} {sc : Scope} {dV kV doc pm cdv ct oc : Value} {an od : Option Addr} {osl : Array (Option Value)} {N ps : List Str} {sp : Sp}
    (look : K.lookup f = some ⟨oc, od, .func (PySem.W.fnOf nm qn params bd sc dV kV doc pm an cdv ct), osl⟩) (code : PySem.W.codeIn K cdv qn = true) (sco : FnScope N ps sc) (ar : ∀ vs H Q E, sp vs H Q E → vs.length = ps.length)
    (walk : ∀ (A : Around) (outer : List Env) (s : Shared) (H : Hp) (vs : List V) (Q : VK) (E : XK), Rm k (A.deeper (envOfC qn sc s.heap.objs.size f cdv)) → sp vs H Q E →
      ∃ t, PSs (cxOf (L2.CX P w) P w K mg base N qn sc f cdv A outer s H E) bd t ∧ t { nx := fun _ H2 => Q .non H2, rt := Q } (start N vs) H) :
    FnG P w K mg base (k + 1) f (PySem.W.fnOf nm qn params bd sc dV kV doc pm an cdv ct) ps sp := by
  constructor
  · exact ar
  intro A outer s H args us vs Q E room e0 bind rel hsp
  have num := ar _ _ _ _ hsp
  have inK : K.In s.heap := e0.mod.kin.keeps fun b o z => (e0.bs b o z).1
  have noLim : s.heap.NoLimit := e0.mod.nolimit.keeps fun b o z => (e0.bs b o z).1
  refine codeAny_call_function room.rm.depth (inK _ _ look) rfl sco.co sco.gen rfl (PySem.W.codeRec_of inK code) (bind _ _ _ _ ?_)
  refine wpAny_newFunctionEnv_cells sco.kind (fun y hy => ?_) fun env henv s1 made => ?_
  · have hmem := (List.of_mem_zip (show (y.1, y.2) ∈ ps.zip us from hy)).1
    rcases sco.par _ hmem with c | c
    · exact .inl c
    · exact .inr ⟨c, PySem.W.cellsFrom_some _ _ _ (.inl c)⟩
  · subst henv
    refine ⟨noLim.keeps made.toInCall.keep, codeAny_func ?_⟩
    obtain ⟨t, ht, hq⟩ := walk A outer s H vs Q E ⟨room.rm.deeper _, room.gd⟩ hsp
    have J0 := inv_start (CX := L2.CX P w) (E := E) (P := P) (w := w) (mg := mg) (base := base) sco room.rm.hd e0 num rel made
    have last : ∀ {σ2 : L2.St} {H2 : Hp} {s2 : Shared} {v : V} {u : Value}, Inv (cxOf (L2.CX P w) P w K mg base N qn sc f cdv A outer s H E) [] σ2 H2 s2 → RelV v u → Q v H2 → CE outer P w H s Q u s2 :=
      fun {σ2 H2 s2 v u} J rv z => ⟨v, H2, J.os, J.bare, J.base, J.hok, rv, z⟩
    refine wpAny_mono (ht.run [] s1 (start N vs) H _ J0 hq) (fun flow s2 hs => ?_) fun _ _ hs => hs
    match flow, hs with
    | .ret u, ⟨v, σ2, H2, J, rv, z⟩ => exact last J rv z
    | .next, ⟨σ2, H2, J, z⟩ => exact last (v := V.non) (u := Value.none) J rfl z
    | .brk, ⟨_, _, _, z⟩ => exact z.elim
    | .cont, ⟨_, _, _, z⟩ => exact z.elim
end
/-- what is wanted of a def's exception, lifted -/
def EX (w : World) (K : PySem.W.Frag) (mg : XT) (E : XK) (ρ : List Addr) (H : Hp) : Exn → Store → Prop := fun x S => ∀ cls d H' ρ', ρ <+: ρ' → Ex K H H' → SR w K H' ρ' S → XR K mg H' x cls d → E cls d H'
theorem EX.later {w : World} {K : PySem.W.Frag} {mg : XT} {E : XK} {ρ ρ' : List Addr} {H H' : Hp} {x : Exn} {S : Store} (h : EX w K mg E ρ H x S) (p : ρ <+: ρ') (e : Ex K H H') : EX w K mg E ρ' H' x S := fun cls d H2 ρ2 p2 e2 => h cls d H2 ρ2 (p.trans p2) (e.trans e2)
/-- the evaluator's promise of a def -/
def spOf (w : World) (K : PySem.W.Frag) (mg : XT) (m : List D → M D) (n : Nat) : Sp := fun vs H Q E => vs.length = n ∧ ∃ ρ S ds, SR w K H ρ S ∧ Rps K H ρ ds vs ∧ wpx (m ds) (LQ w K Q ρ H) (EX w K mg E ρ H) S
/-- the def called f may be called from X -/
def Callee (X : Cx) (C : CtxW) (f : Str) : Prop := ∃ (fa : Addr) (fd : FuncData) (ps : List Str) (k : Nat), X.mg f = some (.ref fa) ∧ PySem.W.keepIn X.K (.ref fa) = true ∧ Binds X.K fd ps [] ∧ Rm k X.A ∧
  (∀ ds Q E S, wpx (C.c.call f ds) Q E S → ds.length = ps.length) ∧ FnG X.prog X.w X.K X.mg X.base k fa fd ps (spOf X.w X.K C.mg (C.c.call f) ps.length)
/-- exceptions of a callee may go on -/
structure Tk (X : Cx) (C : CtxW) : Prop where
  tk : Takes X C.ex
  mg : C.mg.1 = X.mg
theorem ex_of {w : World} {K : PySem.W.Frag} {C : CtxW} {env : Nv} {ρ ρ1 : List Addr} {H H1 : Hp} {x : Exn} {S : Store} {σ : L2.St} (q : EQ w K C env ρ H x S) (p : ρ <+: ρ1) (e : Ex K H H1) (E1 : EnvR K H1 ρ1 env σ) : EX w K C.mg (WE C.ex σ) ρ1 H1 x S :=
  fun cls d H2 ρ2 p2 e2 s2 xr => q cls d H2 ρ2 σ (p.trans p2) (e.trans e2) s2 (E1.mono p2 e2) xr
section
variable {X : Cx} {C : CtxW} {f : Str} {e : Expr} {es : List Expr} {ies : Es} {p pos : Pos}
theorem callee_run {pins : List (Addr × Obj)} {σ : L2.St} {H : Hp} {s : Shared} {Q : VK} {us : List Value} {vs : List V} {fa : Addr} {fd : FuncData} {ps : List Str} {k : Nat} {sp : Sp} {E : XK}
    (G : FnG X.prog X.w X.K X.mg X.base k fa fd ps sp) (room : Rm k X.A) (hb : Binds X.K fd ps []) (hx : PassesAt (L2.CX X.prog X.w) X σ E) (I : Inv X pins σ H s) (r : Vals vs us) (h : sp vs H Q E) : wpAny (model X.prog X.w) X.A (call (.ref fa) us) (EP X pins σ Q) X.xe s := by
  have num : us.length = ps.length := by rw [← r.length]; exact G.ar _ _ _ _ h
  have bind := hb s us I.kIn (by simpa using num)
  rw [List.append_nil] at bind
  refine wpAny_call (codeAny_mono (G.go X.A X.stack s H ⟨us, []⟩ us vs Q E room I.env0 bind r h) fun res s2 hr => ?_)
  match res, hr with
  | .ok (.ret u), hr => exact I.after hr
  | .ok .next, hr => exact False.elim hr
  | .ok .brk, hr => exact False.elim hr
  | .ok .cont, hr => exact False.elim hr
  | .error e, hr => exact hx pins H s e s2 I hr
def notStar : Expr → Bool
  | .Starred _ _ => false
  | _ => true
theorem star_one {e : Expr} {es : List Expr} {env : PySem.Env} (h : notStar e = true) : starEach (e :: es) env = (false, eval e env) :: starEach es env := by
  cases e <;> first | rfl | cases h
theorem star_all : ∀ {es : List Expr} {env : PySem.Env}, es.all notStar = true → (starEach es env).any (·.1) = false
  | [], env, _ => rfl
  | e :: es, env, h => by
    rw [List.all_cons, Bool.and_eq_true] at h
    rw [star_one h.1, List.any_cons, star_all h.2]; rfl
theorem backTo_any {pos : Pos} {l : List (Bool × Sem Value)} : (backTo pos l).any (·.1) = l.any (·.1) := by
  unfold backTo
  rw [List.any_map]
  rfl
theorem plain_args {pos : Pos} {es : List Expr} {env : PySem.Env} (h : es.all notStar = true) : (backTo pos (starEach es env)).any (·.1) = false := by
  rw [backTo_any, star_all h]
/-- f(e, ..), f a def of the text -/
theorem se_call (T : Tk X C) (hc : Callee X C f) (hg : Gl X f) (ha : PA X (e :: es) (tDA X.w X.K C ies)) (hs : (e :: es).all notStar = true) (hd : (f == ("__debug__" : Str)) = false) : PE X (.Call (.Name f p) (e :: es) [] pos) (tD X.w X.K C (.call f ies)) := by
  obtain ⟨fa, fd, ps, k, hm, kp, hb, room, har, G⟩ := hc
  have hs' := hs
  rw [List.all_cons, Bool.and_eq_true] at hs'
  refine ⟨fun pins s σ H Q I h => ?_⟩
  refine wpAny_Call_Name_kw (ld_glob I hg hm ?_ hd)
  obtain ⟨ρ, S, env, hS, hE, h⟩ := h
  unfold evE at h
  replace h := wpx_bind.mp h
  refine PySem.W.callWith_K (h₀ := X.base) I.ok.mod.kin kp (thn (ha.run pos pins s σ H (fun vs H1 => spOf X.w X.K C.mg (C.c.call f) ps.length vs H1 Q (WE C.ex σ)) I
    (tDA_of hS hE h fun ds S1 vs H1 ρ1 h1 p1 e1 s1 E1 r1 => ⟨by rw [← r1.length]; exact har _ _ _ _ h1, ρ1, S1, ds, s1, r1, wpx_mono h1 (fun d S2 q => q.later p1 e1) fun x S2 q => ex_of q p1 e1 E1⟩))
    fun us s1 ⟨vs, H1, I1, r, q⟩ => ⟨I1.kIn, callee_run G room hb (passAt T.tk σ) I1 r q⟩) (star_one hs'.1) (plain_args hs'.2)
theorem se_call0 (T : Tk X C) (hc : Callee X C f) (hg : Gl X f) (hd : (f == ("__debug__" : Str)) = false) : PE X (.Call (.Name f p) [] [] pos) (tD X.w X.K C (.call f .nil)) := by
  obtain ⟨fa, fd, ps, k, hm, kp, hb, room, har, G⟩ := hc
  refine ⟨fun pins s σ H Q I h => ?_⟩
  refine wpAny_Call_Name_kw (ld_glob I hg hm ?_ hd)
  obtain ⟨ρ, S, env, hS, hE, h⟩ := h
  unfold evE evEs at h
  replace h := wpx_bind.mp h
  refine PySem.W.callWith_K0 I.kIn kp (callee_run (us := []) (vs := []) G room hb (passAt T.tk σ) I .nil ?_)
  exact ⟨har _ _ _ _ h, ρ, S, [], hS, .nil, wpx_mono h (fun _ _ q => q) fun x S2 q => ex_of q List.prefix_rfl Ex.refl hE⟩
end
section
variable {E : Exn → Store → Prop} {S : Store}
theorem wx_owL {n : Nat} {R : List D → Store → Prop} : wpx (owL n) R E S ↔ ∃ xs, S[n]? = some (.lst xs) ∧ R xs S := nox_owL.iff.trans wp_owL
theorem wx_getC {n : Nat} {R : Cell → Store → Prop} : wpx (getC n) R E S ↔ ∃ c, S[n]? = some c ∧ R c S := nox_getC.iff.trans wp_getC
theorem wx_wrC {n : Nat} {c : Cell} {R : Unit → Store → Prop} : wpx (wrC n c) R E S ↔ R () (S.set n c) := Iff.rfl
theorem wx_rdL {n : Nat} {R : List D → Store → Prop} : wpx (rdL n) R E S ↔ ∃ xs, (S[n]? = some (.lst xs) ∨ S[n]? = some (.ro xs)) ∧ R xs S := nox_rdL.iff.trans wp_rdL
theorem wx_alloc {c : Cell} {R : D → Store → Prop} : wpx (alloc c) R E S ↔ R (.loc S.length) (S ++ [c]) := Iff.rfl
theorem wx_wrL {n : Nat} {xs : List D} {R : Unit → Store → Prop} : wpx (wrL n xs) R E S ↔ R () (S.set n (.lst xs)) := Iff.rfl
theorem wx_newL {xs : List D} {R : D → Store → Prop} : wpx (newL xs) R E S ↔ xs.length ≤ sizeLine ∧ R (.loc S.length) (S ++ [.lst xs]) := nox_newL.iff.trans wp_newL
theorem wx_newT {xs : List D} {R : D → Store → Prop} : wpx (newT xs) R E S ↔ xs.length ≤ sizeLine ∧ R (.tup xs) S := nox_newT.iff.trans wp_newT
theorem wx_asB {d : D} {R : Bool → Store → Prop} : wpx (asB d) R E S ↔ ∃ b, d = .bl b ∧ R b S := nox_asB.iff.trans wp_asB
theorem wx_asI {d : D} {R : Int → Store → Prop} : wpx (asI d) R E S ↔ ∃ b, d = .int b ∧ R b S := nox_asI.iff.trans wp_asI
end
end Mn
/-! Mn, part 9: expressions. -/
namespace Mn
open PySem PySem.Spec PyProof.Rows L2
def btNames : List Str := ["len", "int", "abs", "max", "min", "sum", "list", "tuple", "str", "repr", "all", "any", "range", "reversed", "isinstance", "bool"]
/-- what the evaluator's rules want of the context; sc: the scope as it is written -/
structure Good (X : Cx) (C : CtxW) (sc : Scope) (N names : List Str) : Prop where
  N_eq : X.N = N
  nd : N.Nodup
  calm : X.calm = true
  gd : X.A.guards = some []
  un : X.A.units + 300 < cLine
  kind : X.env.scope.kind = .function
  lcl : ∀ x, sc.names.lookup x = some .local → X.env.scope.names.lookup x = some .local
  cll : ∀ x, sc.names.lookup x = some .cell → X.env.scope.names.lookup x = some .cell
  fre : ∀ x, sc.names.lookup x = some .free → X.env.scope.names.lookup x = some .cell ∨ X.env.scope.names.lookup x = some .free
  gl : ∀ x, sc.names.lookup x = some .globalImplicit → Gl X x
  fnc : ∀ x, sc.names.lookup x = some .cell → X.fn x = true
  bt : ∀ x ∈ btNames, X.mg x = none
  gb : ∀ x d, C.c.glob x = some d → ∃ u v, X.mg x = some u ∧ RelV v u ∧ ∀ H ρ, Rp X.K H ρ d v
  fns : ∀ f ∈ names, Callee X C f
  tk : Tk X C
  po : PassesOwn (model X.prog X.w) X.A X.env X.xe
def isVis (sc : Scope) (x : Str) : Bool := match sc.names.lookup x with
  | some .local => true
  | some .cell => true
  | some .free => true
  | _ => false
def isLoc (sc : Scope) (x : Str) : Bool := match sc.names.lookup x with
  | some .local => true
  | some .cell => true
  | _ => false
def isGl (sc : Scope) (x : Str) : Bool := match sc.names.lookup x with
  | some .globalImplicit => true
  | _ => false
section
variable {X : Cx} {C : CtxW} {sc : Scope} {N names : List Str} {e a b c : Expr} {es : List Expr} {i : Nat} {x : Str} {pos : Pos} {ia ib ic : E} {ies : Es}
theorem Good.vis (G : Good X C sc N names) (h : isVis sc x = true) : Vis X.env.scope x := by
  unfold isVis at h
  split at h
  · rename_i q; exact .inl (G.lcl _ q)
  · rename_i q; exact .inr (.inl (G.cll _ q))
  · rename_i q; rcases G.fre _ q with z | z
    · exact .inr (.inl z)
    · exact .inr (.inr z)
  · cases h
theorem Good.glo (G : Good X C sc N names) (h : isGl sc x = true) : Gl X x := by
  unfold isGl at h
  split at h
  · rename_i q; exact G.gl _ q
  · cases h
theorem se_var (G : Good X C sc N names) (hN : N[i]? = some x) (hv : isVis sc x = true) (h1 : (x == ("__debug__" : Str)) = false) (h2 : (x == ("__classdict__" : Str)) = false) : PE X (.Name x pos) (tD X.w X.K C (.v i)) := by
  refine pe_imp (pe_var (by rw [G.N_eq]; exact hN) (G.vis hv) h1 h2) fun σ H Q ⟨ρ, S, env, hS, hE, h⟩ => ?_
  unfold evE at h
  cases q : env[i]? with
  | none => simp only [q] at h; exact h.elim
  | some o =>
    cases o with
    | none => simp only [q] at h; exact h.elim
    | some d =>
      simp only [q] at h
      obtain ⟨v, h3, h4⟩ := hE.val i d q
      exact ⟨v, h3, LQ.here h hS h4⟩
theorem se_glob {d : D} (G : Good X C sc N names) (hg : isGl sc x = true) (hd : C.c.glob x = some d) (h1 : (x == ("__debug__" : Str)) = false) : PE X (.Name x pos) (tD X.w X.K C (.g x)) := by
  obtain ⟨u, v, hm, r, rp⟩ := G.gb x d hd
  refine pe_imp (pe_glob (G.glo hg) hm r h1) fun σ H Q ⟨ρ, S, env, hS, hE, h⟩ => ?_
  obtain ⟨d', e', q⟩ := wpx_opt.mp h
  rw [hd] at e'; cases e'
  exact LQ.here q hS (rp H ρ)
theorem se_int {z : Int} {k : Nat} : PE X (.Constant (.int z) k pos) (tD X.w X.K C (.c (.int z))) := pe_imp pe_int fun σ H Q ⟨ρ, S, env, hS, hE, h⟩ => LQ.here h hS .int
theorem se_str {z : Str} {k : Nat} : PE X (.Constant (.str z) k pos) (tD X.w X.K C (.c (.str z))) := pe_imp pe_str fun σ H Q ⟨ρ, S, env, hS, hE, h⟩ => LQ.here h hS .str
theorem se_bl {z : Bool} {k : Nat} : PE X (.Constant (.bool z) k pos) (tD X.w X.K C (.c (.bl z))) := pe_imp pe_bl fun σ H Q ⟨ρ, S, env, hS, hE, h⟩ => LQ.here h hS .bl
theorem se_non {k : Nat} : PE X (.Constant .none k pos) (tD X.w X.K C (.c .non)) := pe_imp pe_non fun σ H Q ⟨ρ, S, env, hS, hE, h⟩ => LQ.here h hS .non
/-- two operands, then an operation by values -/
theorem two_go {r : R2} {m : D → D → M D} {σ : L2.St} {H : Hp} {Q : VK} {ρ : List Addr} {S : Store} {env : Nv} (hS : SR X.w X.K H ρ S) (hE : EnvR X.K H ρ env σ) (nx : ∀ x y, NoX (m x y))
    (h : wpx (M.bind (evE C.c ia env) fun x => M.bind (evE C.c ib env) fun y => m x y) (LQ X.w X.K Q ρ H) (EQ X.w X.K C env ρ H) S)
    (hr : ∀ x y H Q, (∃ ρ S d e, SR X.w X.K H ρ S ∧ Rp X.K H ρ d x ∧ Rp X.K H ρ e y ∧ wp (m d e) (LQ X.w X.K Q ρ H) S) → r x y H Q) : tOp r (tD X.w X.K C ia) (tD X.w X.K C ib) σ H Q := by
  replace h := wpx_bind.mp h
  refine tD_of hS hE h fun d S1 v H1 ρ1 h1 p1 e1 s1 E1 r1 => ?_
  replace h1 := wpx_bind.mp h1
  refine tD_of s1 E1 h1 fun d2 S2 v2 H2 ρ2 h2 p2 e2 s2 E2 r2 => ?_
  exact hr v v2 H2 Q ⟨ρ2, S2, d, d2, s2, r1.mono p2 e2, r2, wp_mono ((nx _ _).wp h2) fun _ _ q => (q.later p1 e1).later p2 e2⟩
def opOf : Operator → Option BOp
  | .Add => some .add
  | .Sub => some .sub
  | .Mult => some .mul
  | .Mod => some .mod
  | .FloorDiv => some .fdiv
  | .Pow => some .pow
  | _ => none
theorem opr_of {op : Operator} {o : BOp} (h : opOf op = some o) : OpR X (binaryOp op) (rBin X.w X.K o) := by
  cases op <;> first | cases h
  · exact opr_add
  · exact opr_sub
  · exact opr_mul
  · exact opr_mod
  · exact opr_pow
  · exact opr_fdiv
theorem se_bin {op : Operator} {o : BOp} (h : opOf op = some o) (ha : PE X a (tD X.w X.K C ia)) (hb : PE X b (tD X.w X.K C ib)) : PE X (.BinOp a op b pos) (tD X.w X.K C (.bin o ia ib)) :=
  pe_imp (pe_op (opr_of h) ha hb) fun σ H Q ⟨ρ, S, env, hS, hE, h⟩ => two_go (m := binop o) hS hE (fun _ _ => nox_binop) h fun x y H Q q => q
theorem se_neg (ha : PE X a (tD X.w X.K C ia)) : PE X (.UnaryOp .USub a pos) (tD X.w X.K C (.neg ia)) :=
  pe_imp (pe_un un_neg ha) fun σ H Q ⟨ρ, S, env, hS, hE, h⟩ => by
    replace h := wpx_bind.mp h
    refine tD_of hS hE h fun d S1 v H1 ρ1 h1 p1 e1 s1 E1 r1 => ?_
    replace h1 := wpx_bind.mp h1
    obtain ⟨k, rfl, q⟩ := wx_asI.mp h1
    cases r1.intE
    exact ⟨k, rfl, LQ.here (LQ.later q p1 e1) s1 .int⟩
def cmpOf : CmpOp → Option COp
  | .Eq => some .eq
  | .NotEq => some .ne
  | .Lt => some .lt
  | .LtE => some .le
  | .Gt => some .gt
  | .GtE => some .ge
  | .Is => some .isn
  | .IsNot => some .isnn
  | .In => some .inn
  | .NotIn => some .nin
theorem cpr_of (G : Good X C sc N names) {op : CmpOp} {o : COp} (h : cmpOf op = some o) : OpR X (compareOp op) (rCmp X.w X.K o) := by
  have hu := G.un
  cases op <;> cases h
  · exact opr_eq (by omega)
  · exact opr_ne (by omega)
  · exact opr_lt (by omega)
  · exact opr_le (by omega)
  · exact opr_gt
  · exact opr_ge
  · exact opr_isn
  · exact opr_isnn
  · exact opr_in (by omega)
  · exact opr_nin (by omega)
theorem cmp_go {o : COp} {σ : L2.St} {H : Hp} {Q : VK} {ρ : List Addr} {S : Store} {env : Nv} (hS : SR X.w X.K H ρ S) (hE : EnvR X.K H ρ env σ)
    (h : wpx (evE C.c (.cmp o ia ib) env) (LQ X.w X.K Q ρ H) (EQ X.w X.K C env ρ H) S) : tOp (rCmp X.w X.K o) (tD X.w X.K C ia) (tD X.w X.K C ib) σ H Q :=
  two_go (m := fun x y => M.bind (cmpop o x y) fun b => M.ret (.bl b)) hS hE (fun _ _ => NoX.bind nox_cmpop fun _ => NoX.ret) h fun x y H Q ⟨ρ, S, d, e, s, r1, r2, q⟩ => ⟨ρ, S, d, e, s, r1, r2, by
    replace q := wpx_bind.mp q
    exact q⟩
theorem se_cmp (G : Good X C sc N names) {op : CmpOp} {o : COp} (h : cmpOf op = some o) (ha : PE X a (tD X.w X.K C ia)) (hb : PE X b (tD X.w X.K C ib)) (hm : behindInMarks op b = false) : PE X (.Compare a [op] [b] pos) (tD X.w X.K C (.cmp o ia ib)) :=
  pe_imp (pe_cmpR (cpr_of G h) ha hb hm) fun σ H Q ⟨ρ, S, env, hS, hE, h⟩ => cmp_go hS hE h
/-- from a bool's lifting to a value's -/
theorem lb_lq {w : World} {K : PySem.W.Frag} {H : Hp} {ρ : List Addr} {S : Store} {Q : Bool → Hp → Prop} {d : D} (h : LB w K Q ρ H d S) : LQ w K (fun x H' => ∃ k, x = .bl k ∧ Q k H') ρ H d S := by
  obtain ⟨k, rfl, h⟩ := h
  intro v H' ρ' p e s r
  cases r.blE
  exact ⟨k, rfl, h H' ρ' p e s⟩
theorem st_cmp (G : Good X C sc N names) {op : CmpOp} {o : COp} (h : cmpOf op = some o) (ha : PE X a (tD X.w X.K C ia)) (hb : PE X b (tD X.w X.K C ib)) (hm : behindInMarks op b = false) : PT X (.Compare a [op] [b] pos) (tDB X.w X.K C (.cmp o ia ib)) :=
  pt_imp (pt_cmpR (cpr_of G h) ha hb hm) fun σ H Q ⟨ρ, S, env, hS, hE, h⟩ => cmp_go hS hE (wpx_mono h (fun _ _ q => lb_lq q) fun _ _ q => q)
theorem chain_go {o o2 : COp} {σ : L2.St} {H : Hp} {Q : VK} {ρ : List Addr} {S : Store} {env : Nv} (hS : SR X.w X.K H ρ S) (hE : EnvR X.K H ρ env σ)
    (h : wpx (evE C.c (.cmp3 o o2 ia ib ic) env) (LQ X.w X.K Q ρ H) (EQ X.w X.K C env ρ H) S) : tChain (rCmp X.w X.K o) (rCmp X.w X.K o2) (tD X.w X.K C ia) (tD X.w X.K C ib) (tD X.w X.K C ic) σ H Q := by
  replace h := wpx_bind.mp h
  refine tD_of hS hE h fun d S1 v H1 ρ1 h1 p1 e1 s1 E1 r1 => ?_
  replace h1 := wpx_bind.mp h1
  refine tD_of s1 E1 h1 fun d2 S2 v2 H2 ρ2 h2 p2 e2 s2 E2 r2 => ?_
  replace h2 := wpx_bind.mp h2
  refine ⟨ρ2, S2, d, d2, s2, r1.mono p2 e2, r2, wp_mono (nox_cmpop.wp h2) fun k S3 q v3 H3 ρ3 p3 e3 s3 r3 => ?_⟩
  cases r3.blE
  refine ⟨k, rfl, ?_⟩
  cases k with
  | false =>
    rw [if_neg Bool.false_ne_true]
    exact LQ.here (((LQ.later q p1 e1).later p2 e2).later p3 e3) s3 .bl
  | true =>
    rw [if_pos rfl]
    replace q := wpx_bind.mp q
    refine tD_of s3 (E2.mono p3 e3) q fun d4 S4 v4 H4 ρ4 h4 p4 e4 s4 E4 r4 => ?_
    replace h4 := wpx_bind.mp h4
    exact ⟨ρ4, S4, d2, d4, s4, (r2.mono p3 e3).mono p4 e4, r4, wp_mono (nox_cmpop.wp h4) fun k S5 q => (((LQ.later q p1 e1).later p2 e2).later p3 e3).later p4 e4⟩
theorem se_cmp3 (G : Good X C sc N names) {op op2 : CmpOp} {o o2 : COp} (h : cmpOf op = some o) (h2 : cmpOf op2 = some o2) (ha : PE X a (tD X.w X.K C ia)) (hb : PE X b (tD X.w X.K C ib)) (hc : PE X c (tD X.w X.K C ic)) (hm : lastMarks [op, op2] [b, c] = false) :
    PE X (.Compare a [op, op2] [b, c] pos) (tD X.w X.K C (.cmp3 o o2 ia ib ic)) :=
  pe_imp (pe_chain (cpr_of G h) (cpr_of G h2) ha hb hc hm) fun σ H Q ⟨ρ, S, env, hS, hE, h⟩ => chain_go hS hE h
theorem st_cmp3 (G : Good X C sc N names) {op op2 : CmpOp} {o o2 : COp} (h : cmpOf op = some o) (h2 : cmpOf op2 = some o2) (ha : PE X a (tD X.w X.K C ia)) (hb : PE X b (tD X.w X.K C ib)) (hc : PE X c (tD X.w X.K C ic)) (hm : lastMarks [op, op2] [b, c] = false) :
    PT X (.Compare a [op, op2] [b, c] pos) (tDB X.w X.K C (.cmp3 o o2 ia ib ic)) :=
  pt_imp (pt_chain (cpr_of G h) (cpr_of G h2) ha hb hc hm) fun σ H Q ⟨ρ, S, env, hS, hE, h⟩ => chain_go hS hE (wpx_mono h (fun _ _ q => lb_lq q) fun _ _ q => q)
/-- a test by truth -/
theorem st_tr (ha : PE X a (tD X.w X.K C ia)) (he : ∀ whole, isTrue a X.env whole = (do let v ← whole; standAt a.pos; holding [v] (truthy v))) : PT X a (tDB X.w X.K C (.tr ia)) :=
  pt_imp (pt_truth ha he) fun σ H Q ⟨ρ, S, env, hS, hE, h⟩ => by
    replace h := wpx_bind.mp h
    refine tD_of hS hE h fun d S1 v H1 ρ1 h1 p1 e1 s1 E1 r1 => ?_
    replace h1 := wpx_bind.mp h1
    obtain ⟨k, hk, q⟩ := truth_tru s1 r1 (nox_truth.wp h1)
    obtain ⟨k', e', q⟩ := (show LB X.w X.K Q ρ H (.bl k) S1 from q)
    cases e'
    exact ⟨k, hk, q H1 ρ1 p1 e1 s1⟩
theorem st_not (ha : PT X a (tDB X.w X.K C ia)) : PT X (.UnaryOp .Not a pos) (tDB X.w X.K C (.not ia)) :=
  pt_imp (pt_not ha) fun σ H Q ⟨ρ, S, env, hS, hE, h⟩ => by
    replace h := wpx_bind.mp h
    refine tDB_of hS hE h fun d S1 h1 => ?_
    replace h1 := wpx_bind.mp h1
    obtain ⟨k, e, q⟩ := wx_asB.mp h1
    obtain ⟨k', e', q⟩ := (show LB X.w X.K Q ρ H (.bl (!k)) S1 from q)
    cases e'
    exact ⟨k, e, fun H1 ρ1 p1 e1 s1 _ => q H1 ρ1 p1 e1 s1⟩
theorem sw_one {op : BoolOp} (ha : PT X a (tDB X.w X.K C ia)) : PW X (.BoolOp op [a] pos) (tDB X.w X.K C ia) := by
  cases op
  · exact pw_and1 ha
  · exact pw_or1 ha
theorem sw_and {rest : List Expr} (ha : PT X a (tDB X.w X.K C ia)) (hb : PW X (.BoolOp .And (b :: rest) pos) (tDB X.w X.K C ib)) : PW X (.BoolOp .And (a :: b :: rest) pos) (tDB X.w X.K C (.and ia ib)) :=
  pw_imp (pw_and ha hb) fun σ H Q ⟨ρ, S, env, hS, hE, h⟩ => by
    replace h := wpx_bind.mp h
    refine tDB_of hS hE h fun d S1 h1 => ?_
    replace h1 := wpx_bind.mp h1
    obtain ⟨k, e, q⟩ := wx_asB.mp h1
    refine ⟨k, e, fun H1 ρ1 p1 e1 s1 E1 => ?_⟩
    cases k with
    | true => rw [if_pos rfl]; exact ⟨ρ1, S1, env, s1, E1, wpx_mono q (fun _ _ z => z.later p1 e1) fun _ _ z => z.later p1 e1⟩
    | false =>
      rw [if_neg Bool.false_ne_true]
      obtain ⟨k', e', q⟩ := (show LB X.w X.K Q ρ H (.bl false) S1 from q)
      cases e'
      exact q H1 ρ1 p1 e1 s1
theorem sw_or {rest : List Expr} (ha : PT X a (tDB X.w X.K C ia)) (hb : PW X (.BoolOp .Or (b :: rest) pos) (tDB X.w X.K C ib)) : PW X (.BoolOp .Or (a :: b :: rest) pos) (tDB X.w X.K C (.or ia ib)) :=
  pw_imp (pw_or ha hb) fun σ H Q ⟨ρ, S, env, hS, hE, h⟩ => by
    replace h := wpx_bind.mp h
    refine tDB_of hS hE h fun d S1 h1 => ?_
    replace h1 := wpx_bind.mp h1
    obtain ⟨k, e, q⟩ := wx_asB.mp h1
    refine ⟨k, e, fun H1 ρ1 p1 e1 s1 E1 => ?_⟩
    cases k with
    | false => rw [if_neg Bool.false_ne_true]; exact ⟨ρ1, S1, env, s1, E1, wpx_mono q (fun _ _ z => z.later p1 e1) fun _ _ z => z.later p1 e1⟩
    | true =>
      rw [if_pos rfl]
      obtain ⟨k', e', q⟩ := (show LB X.w X.K Q ρ H (.bl true) S1 from q)
      cases e'
      exact q H1 ρ1 p1 e1 s1
/-! as values -/
theorem se_one {op : BoolOp} {t : TE} (ha : PE X a t) : PE X (.BoolOp op [a] pos) t := pe_one ha
theorem se_vand {rest : List Expr} (ha : PE X a (tD X.w X.K C ia)) (hb : PE X (.BoolOp .And (b :: rest) pos) (tD X.w X.K C ib)) : PE X (.BoolOp .And (a :: b :: rest) pos) (tD X.w X.K C (.vand ia ib)) :=
  pe_imp (pe_andT ha hb) fun σ H Q ⟨ρ, S, env, hS, hE, h⟩ => by
    replace h := wpx_bind.mp h
    refine tD_of hS hE h fun d S1 v H1 ρ1 h1 p1 e1 s1 E1 r1 => ?_
    replace h1 := wpx_bind.mp h1
    obtain ⟨k, hk, q⟩ := truth_tru s1 r1 (nox_truth.wp h1)
    refine ⟨k, hk, ?_⟩
    cases k with
    | true => rw [if_pos rfl]; exact ⟨ρ1, S1, env, s1, E1, wpx_mono q (fun _ _ z => z.later p1 e1) fun _ _ z => z.later p1 e1⟩
    | false => rw [if_neg Bool.false_ne_true]; exact LQ.here (LQ.later q p1 e1) s1 r1
theorem se_vor {rest : List Expr} (ha : PE X a (tD X.w X.K C ia)) (hb : PE X (.BoolOp .Or (b :: rest) pos) (tD X.w X.K C ib)) : PE X (.BoolOp .Or (a :: b :: rest) pos) (tD X.w X.K C (.vor ia ib)) :=
  pe_imp (pe_orT ha hb) fun σ H Q ⟨ρ, S, env, hS, hE, h⟩ => by
    replace h := wpx_bind.mp h
    refine tD_of hS hE h fun d S1 v H1 ρ1 h1 p1 e1 s1 E1 r1 => ?_
    replace h1 := wpx_bind.mp h1
    obtain ⟨k, hk, q⟩ := truth_tru s1 r1 (nox_truth.wp h1)
    refine ⟨k, hk, ?_⟩
    cases k with
    | false => rw [if_neg Bool.false_ne_true]; exact ⟨ρ1, S1, env, s1, E1, wpx_mono q (fun _ _ z => z.later p1 e1) fun _ _ z => z.later p1 e1⟩
    | true => rw [if_pos rfl]; exact LQ.here (LQ.later q p1 e1) s1 r1
theorem se_vnot (ha : PE X a (tD X.w X.K C ia)) : PE X (.UnaryOp .Not a pos) (tD X.w X.K C (.not (.tr ia))) :=
  pe_imp (pe_notT ha) fun σ H Q ⟨ρ, S, env, hS, hE, h⟩ => by
    replace h := wpx_bind.mp h
    replace h := wpx_bind.mp h
    refine tD_of hS hE h fun d S1 v H1 ρ1 h1 p1 e1 s1 E1 r1 => ?_
    replace h1 := wpx_bind.mp h1
    obtain ⟨k, hk, q⟩ := truth_tru s1 r1 (nox_truth.wp h1)
    exact ⟨k, hk, LQ.here (LQ.later (show LQ X.w X.K Q ρ H (.bl (!k)) S1 from q) p1 e1) s1 .bl⟩
theorem se_ite (hc : PT X c (tDB X.w X.K C ic)) (ha : PE X a (tD X.w X.K C ia)) (hb : PE X b (tD X.w X.K C ib)) : PE X (.IfExp c a b pos) (tD X.w X.K C (.ite ic ia ib)) :=
  pe_imp (pe_ifExp hc ha hb) fun σ H Q ⟨ρ, S, env, hS, hE, h⟩ => by
    replace h := wpx_bind.mp h
    refine tDB_of hS hE h fun d S1 h1 => ?_
    replace h1 := wpx_bind.mp h1
    obtain ⟨k, e, q⟩ := wx_asB.mp h1
    refine ⟨k, e, fun H1 ρ1 p1 e1 s1 E1 => ?_⟩
    cases k with
    | true => rw [if_pos rfl]; exact ⟨ρ1, S1, env, s1, E1, wpx_mono q (fun _ _ z => z.later p1 e1) fun _ _ z => z.later p1 e1⟩
    | false => rw [if_neg Bool.false_ne_true]; exact ⟨ρ1, S1, env, s1, E1, wpx_mono q (fun _ _ z => z.later p1 e1) fun _ _ z => z.later p1 e1⟩
/-! rows of expressions -/
theorem sa_nil : PA X [] (tDA X.w X.K C .nil) := pa_imp pa_nil fun σ H Q ⟨ρ, S, env, hS, hE, h⟩ => h [] H ρ List.prefix_rfl Ex.refl hS .nil
theorem sa_cons (ha : PE X a (tD X.w X.K C ia)) (hr : PA X es (tDA X.w X.K C ies)) (hs : notStar a = true) : PA X (a :: es) (tDA X.w X.K C (.cons ia ies)) :=
  pa_imp (pa_cons ha hr (star_one hs)) fun σ H Q ⟨ρ, S, env, hS, hE, h⟩ => by
    replace h := wpx_bind.mp h
    refine tD_of hS hE h fun d S1 v H1 ρ1 h1 p1 e1 s1 E1 r1 => ?_
    replace h1 := wpx_bind.mp h1
    refine tDA_of s1 E1 h1 fun ds S2 vs H2 ρ2 h2 p2 e2 s2 E2 r2 => ?_
    exact (LA.later (LA.later h2 p1 e1) p2 e2) (v :: vs) H2 ρ2 List.prefix_rfl Ex.refl s2 (.cons (r1.mono p2 e2) r2)
theorem se_tup {k : Nat} (h : PA X es (tDA X.w X.K C ies)) : PE X (.Tuple es k pos) (tD X.w X.K C (.tup ies)) :=
  pe_imp (pe_tup h) fun σ H Q ⟨ρ, S, env, hS, hE, h⟩ => by
    replace h := wpx_bind.mp h
    refine tDA_of hS hE h fun ds S1 vs H1 ρ1 h1 p1 e1 s1 E1 r1 => ?_
    obtain ⟨hz, q⟩ := wx_newT.mp h1
    exact ⟨by rw [← r1.length]; exact hz, fun p hp => LQ.tup (LQ.later q p1 e1) s1 r1 hp⟩
theorem se_lst (h : PA X es (tDA X.w X.K C ies)) : PE X (.List es pos) (tD X.w X.K C (.lst ies)) :=
  pe_imp (pe_lst h) fun σ H Q ⟨ρ, S, env, hS, hE, h⟩ => by
    replace h := wpx_bind.mp h
    refine tDA_of hS hE h fun ds S1 vs H1 ρ1 h1 p1 e1 s1 E1 r1 => ?_
    obtain ⟨hz, q⟩ := wx_newL.mp h1
    exact ⟨by rw [← r1.length]; exact hz, fun p hp => LQ.new (LQ.later q p1 e1) s1 r1 hp⟩
theorem se_dnew : PE X (.Dict [] [] pos) (tD X.w X.K C .dnew) :=
  pe_imp pe_dnewK fun σ H Q ⟨ρ, S, env, hS, hE, h⟩ p hp => by
    have h := wx_alloc.mp h
    have al := hS.allocC (c0 := .dct []) (o := .dK []) hp (.inl ⟨[], upd_same, rfl, .nil⟩)
    exact h _ _ (ρ ++ [p]) (List.prefix_append _ _) (ex_new hp) al (by unfold Rp; exact ⟨p, by rw [← hS.len]; simp, rfl⟩)
/-- one entry is put into the dict at p -/
def putD1 (X : Cx) (p : Addr) (x y : V) (H : Hp) (Q : VK) : Prop := ∃ ρ kvs kvs' d e, CellR X.w X.K H ρ (.dct kvs) p ∧ Rp X.K H ρ d x ∧ Rp X.K H ρ e y ∧ dSet kvs d e = some kvs' ∧
  ∀ o, CellR X.w X.K (upd H p o) ρ (.dct kvs') p → Ex X.K H (upd H p o) → Q (.ref p) (upd H p o)
theorem pe_d1 {ta tb : TE} (hu : X.A.units + 20 < cLine) (ha : PE X a ta) (hb : PE X b tb) : PE X (.Dict [some a] [b] pos) (fun σ H Q => ∀ p, H p = none → ta σ (upd H p (.dK [])) fun x H1 => tb σ H1 fun y H2 => putD1 X p x y H2 Q) := by
  refine ⟨fun pins s σ H Q I h => ?_⟩
  have hn := I.hok.fresh (Nat.le_refl s.heap.objs.size)
  have I1 := I.laid (a := s.heap.objs.size) (o := .dK []) (h' := s.heap.push { cls := .type "dict", data := .dict #[] }) (t' := s.toks) (fun _ _ q => Heap.get?_push_of_some _ q) (Nat.le_refl _) (dk_empty s.heap I.big)
  refine wpAny_Dict_any rfl rfl (by simp) (by simp) (pairTrees_cons_walk (thn (ha.run pins _ σ _ _ I1 (h _ hn)) fun u s1 ⟨x, H1, I1, rx, q1⟩ => thn (hb.run pins s1 σ H1 _ I1 q1) fun w2 s2 ⟨y, H2, I2, ry, q2⟩ => pairTrees_nil_walk ?_))
  obtain ⟨ρ, kvs, kvs', d, e, c, rd, re, g, k⟩ := q2
  show wpAny _ _ (forIn [(u, w2)] _ _) _ _ _
  rw [List.forIn_cons]
  refine wpAny_bind (wpAny_bind (dd_dictSet hu I2 c rd rx re ry g fun o s' I' c' e' => wpAny_pure ?_))
  exact wpAny_pure ⟨.ref s.heap.objs.size, _, I', rfl, k o c' e'⟩
theorem se_dnew1 (G : Good X C sc N names) (ha : PE X a (tD X.w X.K C ia)) (hb : PE X b (tD X.w X.K C ib)) : PE X (.Dict [some a] [b] pos) (tD X.w X.K C (.dnew1 ia ib)) :=
  pe_imp (pe_d1 (by have := G.un; omega) ha hb) fun σ H Q ⟨ρ, S, env, hS, hE, h⟩ p hp => by
    have h : wpx (M.bind (evE C.c ia env) fun y => M.bind (evE C.c ib env) fun z => M.bind (getC S.length) fun c => M.bind (putE c y z) fun c' => M.bind (wrC S.length c') fun _ => M.ret (.loc S.length)) (LQ X.w X.K Q ρ H) (EQ X.w X.K C env ρ H) (S ++ [.dct []]) := h
    have al := hS.allocC (c0 := .dct []) (o := .dK []) hp (.inl ⟨[], upd_same, rfl, .nil⟩)
    have hat : (ρ ++ [p])[S.length]? = some p := by rw [← hS.len]; simp
    have p0 : ρ <+: ρ ++ [p] := List.prefix_append _ _
    have e0 : Ex X.K H (upd H p (.dK [])) := ex_new hp
    refine tD_of al (hE.mono p0 e0) (wpx_bind.mp h) fun d1 S1 v1 H1 ρ1 h1 p1 e1 s1 E1 r1 => ?_
    refine tD_of s1 E1 (wpx_bind.mp h1) fun d2 S2 v2 H2 ρ2 h2 p2 e2 s2 E2 r2 => ?_
    obtain ⟨c, hc, h2⟩ := wx_getC.mp (wpx_bind.mp h2)
    replace h2 := wpx_bind.mp h2
    have hat2 := pre_get p2 (pre_get p1 hat)
    have cr := s2.cell _ _ _ hc hat2
    cases c with
    | ro xs => exact False.elim h2
    | lst xs => exact False.elim h2
    | obj _ _ => exact False.elim h2
    | dct kvs =>
      obtain ⟨kvs', g, h2⟩ := wpx_opt.mp (show wpx (opt (dSet kvs d1 d2)) _ _ _ from wpx_bind.mp h2)
      have h2 := wx_wrC.mp (wpx_bind.mp (show wpx (M.bind (wrC S.length (.dct kvs')) fun _ => M.ret (.loc S.length)) (LQ X.w X.K Q ρ H) (EQ X.w X.K C env ρ H) S2 from h2))
      refine ⟨ρ2, kvs, kvs', d1, d2, cr, r1.mono p2 e2, r2, g, fun o c' ex => ?_⟩
      exact h2 _ _ ρ2 (((List.prefix_append _ _).trans p1).trans p2) (((ex_new hp).trans e1).trans (e2.trans ex)) (s2.putC hc hat2 rfl rfl c') (by unfold Rp; exact ⟨p, hat2, rfl⟩)
def plainIx : Expr → Bool
  | .Slice _ _ none _ => false
  | _ => true
theorem plainIx_ok (h : plainIx b = true) : PlainIx b := by
  intro o i
  cases b <;> try rfl
  rename_i lo hi st p
  cases st
  · cases h
  · rfl
theorem se_idx (G : Good X C sc N names) (ha : PE X a (tD X.w X.K C ia)) (hb : PE X b (tD X.w X.K C ib)) (hp : plainIx b = true) : PE X (.Subscript a b pos) (tD X.w X.K C (.idx ia ib)) :=
  pe_imp (pe_ix (ixr (by have := G.un; omega)) ha hb (plainIx_ok hp)) fun σ H Q ⟨ρ, S, env, hS, hE, h⟩ => two_go (m := index) hS hE (fun _ _ => nox_index) h fun x y H Q q => q
theorem po_go {pa : Option Expr} {t t' : TO} (h : PO X pa t) (k : ∀ σ H Q, t' σ H Q → t σ H Q) : PO X pa t' := ⟨fun pins s σ H Q I q => h.run pins s σ H Q I (k σ H Q q)⟩
variable {lo hi : Expr} {il ih : E} {p2 : Pos}
theorem se_slc0 (ha : PE X a (tD X.w X.K C ia)) : PE X (.Subscript a (.Slice none none none p2) pos) (tD X.w X.K C (.slc0 ia)) :=
  pe_imp (pe_slice slr ha po_none po_none) fun σ H Q ⟨ρ, S, env, hS, hE, h⟩ => by
    replace h := wpx_bind.mp h
    refine tD_of hS hE h fun d S1 v H1 ρ1 h1 p1 e1 s1 E1 r1 => ?_
    exact ⟨ρ1, S1, d, s1, r1, wp_mono (nox_slice.wp h1) fun _ _ q => q.later p1 e1⟩
theorem se_slcL (ha : PE X a (tD X.w X.K C ia)) (hl : PE X lo (tD X.w X.K C il)) : PE X (.Subscript a (.Slice (some lo) none none p2) pos) (tD X.w X.K C (.slcL ia il)) :=
  pe_imp (pe_slice slr ha (po_some hl) po_none) fun σ H Q ⟨ρ, S, env, hS, hE, h⟩ => by
    replace h := wpx_bind.mp h
    refine tD_of hS hE h fun d S1 v H1 ρ1 h1 p1 e1 s1 E1 r1 => ?_
    replace h1 := wpx_bind.mp h1
    refine tD_of s1 E1 h1 fun d2 S2 v2 H2 ρ2 h2 p2 e2 s2 E2 r2 => ?_
    replace h2 := wpx_bind.mp h2
    obtain ⟨k, rfl, h2⟩ := wx_asI.mp h2
    exact ⟨k, r2.intE, ρ2, S2, d, s2, r1.mono p2 e2, wp_mono (nox_slice.wp h2) fun _ _ q => (q.later p1 e1).later p2 e2⟩
theorem se_slcH (ha : PE X a (tD X.w X.K C ia)) (hh : PE X hi (tD X.w X.K C ih)) : PE X (.Subscript a (.Slice none (some hi) none p2) pos) (tD X.w X.K C (.slcH ia ih)) :=
  pe_imp (pe_slice slr ha po_none (po_some hh)) fun σ H Q ⟨ρ, S, env, hS, hE, h⟩ => by
    replace h := wpx_bind.mp h
    refine tD_of hS hE h fun d S1 v H1 ρ1 h1 p1 e1 s1 E1 r1 => ?_
    replace h1 := wpx_bind.mp h1
    refine tD_of s1 E1 h1 fun d2 S2 v2 H2 ρ2 h2 p2 e2 s2 E2 r2 => ?_
    replace h2 := wpx_bind.mp h2
    obtain ⟨k, rfl, h2⟩ := wx_asI.mp h2
    exact ⟨k, r2.intE, ρ2, S2, d, s2, r1.mono p2 e2, wp_mono (nox_slice.wp h2) fun _ _ q => (q.later p1 e1).later p2 e2⟩
theorem se_slcB (ha : PE X a (tD X.w X.K C ia)) (hl : PE X lo (tD X.w X.K C il)) (hh : PE X hi (tD X.w X.K C ih)) : PE X (.Subscript a (.Slice (some lo) (some hi) none p2) pos) (tD X.w X.K C (.slcB ia il ih)) :=
  pe_imp (pe_slice slr ha (po_some hl) (po_some hh)) fun σ H Q ⟨ρ, S, env, hS, hE, h⟩ => by
    replace h := wpx_bind.mp h
    refine tD_of hS hE h fun d S1 v H1 ρ1 h1 p1 e1 s1 E1 r1 => ?_
    replace h1 := wpx_bind.mp h1
    refine tD_of s1 E1 h1 fun d2 S2 v2 H2 ρ2 h2 p2 e2 s2 E2 r2 => ?_
    replace h2 := wpx_bind.mp h2
    obtain ⟨k, rfl, h2⟩ := wx_asI.mp h2
    refine ⟨k, r2.intE, ?_⟩
    replace h2 := wpx_bind.mp h2
    refine tD_of s2 E2 h2 fun d3 S3 v3 H3 ρ3 h3 p3 e3 s3 E3 r3 => ?_
    replace h3 := wpx_bind.mp h3
    obtain ⟨l, rfl, h3⟩ := wx_asI.mp h3
    exact ⟨l, r3.intE, ρ3, S3, d, s3, (r1.mono p2 e2).mono p3 e3, wp_mono (nox_slice.wp h3) fun _ _ q => ((q.later p1 e1).later p2 e2).later p3 e3⟩
/-! ### built-in functions, methods -/
variable {f : Str} {p : Pos}
theorem bi_go {bi : Bi} {σ : L2.St} {H : Hp} {Q : VK} (h : tD X.w X.K C (.bi bi ies) σ H Q) : tDA X.w X.K C ies σ H fun vs H1 => rBi X.w X.K bi vs H1 Q := by
  obtain ⟨ρ, S, env, hS, hE, h⟩ := h
  replace h := wpx_bind.mp h
  exact tDA_of hS hE h fun ds S1 vs H1 ρ1 h1 p1 e1 s1 E1 r1 => ⟨ρ1, S1, ds, s1, r1, wp_mono (nox_builtin.wp h1) fun _ _ q => q.later p1 e1⟩
theorem se_bi {bi : Bi} {id : String} (G : Good X C sc N names) (hc : CallR X (.builtin id) (rBi X.w X.K bi)) (hg : isGl sc f = true) (hb : f ∈ btNames) (hv : bootBuiltins f = some (.builtin id)) (ha : PA X (e :: es) (tDA X.w X.K C ies)) (hs : (e :: es).all notStar = true)
    (h1 : f ≠ "__name__") (h2 : (f == ("__debug__" : Str)) = false) : PE X (.Call (.Name f p) (e :: es) [] pos) (tD X.w X.K C (.bi bi ies)) := by
  have hs' := hs
  rw [List.all_cons, Bool.and_eq_true] at hs'
  exact pe_imp (pe_callB hc (G.glo hg) (G.bt f hb) hv ha h1 h2 (star_one hs'.1) (plain_args hs'.2)) fun σ H Q h => bi_go h
theorem se_ty {bi : Bi} {id : String} (G : Good X C sc N names) (hc : CallR X (.type id) (rBi X.w X.K bi)) (hg : isGl sc f = true) (hb : f ∈ btNames) (hv : bootBuiltins f = some (.type id)) (ha : PA X (e :: es) (tDA X.w X.K C ies)) (hs : (e :: es).all notStar = true)
    (h1 : f ≠ "__name__") (h2 : (f == ("__debug__" : Str)) = false) : PE X (.Call (.Name f p) (e :: es) [] pos) (tD X.w X.K C (.bi bi ies)) := by
  have hs' := hs
  rw [List.all_cons, Bool.and_eq_true] at hs'
  exact pe_imp (pe_callTy hc (G.glo hg) (G.bt f hb) hv ha h1 h2 (star_one hs'.1) (plain_args hs'.2)) fun σ H Q h => bi_go h
def fnOf : Str → Nat → Option Bi := fun f n =>
  if f = "len" ∧ n = 1 then some .len else if f = "abs" ∧ n = 1 then some .abs else if f = "max" ∧ n = 2 then some .max2 else if f = "min" ∧ n = 2 then some .min2 else
  if f = "max" ∧ n = 1 then some .max1 else if f = "min" ∧ n = 1 then some .min1 else if f = "sum" ∧ n = 1 then some .sum else if f = "repr" ∧ n = 1 then some .repr else
  if f = "all" ∧ n = 1 then some .all else if f = "any" ∧ n = 1 then some .any else none
def tyOf : Str → Nat → Option Bi := fun f n =>
  if f = "int" ∧ n = 1 then some .int else if f = "list" ∧ n = 1 then some .list else if f = "tuple" ∧ n = 1 then some .tuple else if f = "str" ∧ n = 1 then some .str else none
theorem se_fn {bi : Bi} (G : Good X C sc N names) (hf : fnOf f (e :: es).length = some bi) (hg : isGl sc f = true) (ha : PA X (e :: es) (tDA X.w X.K C ies)) (hs : (e :: es).all notStar = true) : PE X (.Call (.Name f p) (e :: es) [] pos) (tD X.w X.K C (.bi bi ies)) := by
  have hu := G.un
  unfold fnOf at hf
  split at hf
  · rename_i q; obtain ⟨q, _⟩ := q; subst q; cases hf; exact se_bi G bi_len hg (by decide +kernel) PySem.boot_len ha hs (by decide +kernel) (by decide +kernel)
  split at hf
  · rename_i q; obtain ⟨q, _⟩ := q; subst q; cases hf; exact se_bi G bi_abs hg (by decide +kernel) (by decide +kernel) ha hs (by decide +kernel) (by decide +kernel)
  split at hf
  · rename_i q; obtain ⟨q, _⟩ := q; subst q; cases hf; exact se_bi G (bi_max2 G.calm) hg (by decide +kernel) (by decide +kernel) ha hs (by decide +kernel) (by decide +kernel)
  split at hf
  · rename_i q; obtain ⟨q, _⟩ := q; subst q; cases hf; exact se_bi G (bi_min2 G.calm (by omega)) hg (by decide +kernel) (by decide +kernel) ha hs (by decide +kernel) (by decide +kernel)
  split at hf
  · rename_i q; obtain ⟨q, _⟩ := q; subst q; cases hf; exact se_bi G (bi_max1 G.calm) hg (by decide +kernel) (by decide +kernel) ha hs (by decide +kernel) (by decide +kernel)
  split at hf
  · rename_i q; obtain ⟨q, _⟩ := q; subst q; cases hf; exact se_bi G (bi_min1 G.calm) hg (by decide +kernel) (by decide +kernel) ha hs (by decide +kernel) (by decide +kernel)
  split at hf
  · rename_i q; obtain ⟨q, _⟩ := q; subst q; cases hf; exact se_bi G (bi_sum G.calm) hg (by decide +kernel) (by decide +kernel) ha hs (by decide +kernel) (by decide +kernel)
  split at hf
  · rename_i q; obtain ⟨q, _⟩ := q; subst q; cases hf; exact se_bi G (bi_repr (by omega) G.gd) hg (by decide +kernel) (by decide +kernel) ha hs (by decide +kernel) (by decide +kernel)
  split at hf
  · rename_i q; obtain ⟨q, _⟩ := q; subst q; cases hf; exact se_bi G (bi_all G.calm) hg (by decide +kernel) (by decide +kernel) ha hs (by decide +kernel) (by decide +kernel)
  split at hf
  · rename_i q; obtain ⟨q, _⟩ := q; subst q; cases hf; exact se_bi G (bi_any G.calm) hg (by decide +kernel) (by decide +kernel) ha hs (by decide +kernel) (by decide +kernel)
  cases hf
theorem se_tyf {bi : Bi} (G : Good X C sc N names) (hf : tyOf f (e :: es).length = some bi) (hg : isGl sc f = true) (ha : PA X (e :: es) (tDA X.w X.K C ies)) (hs : (e :: es).all notStar = true) : PE X (.Call (.Name f p) (e :: es) [] pos) (tD X.w X.K C (.bi bi ies)) := by
  unfold tyOf at hf
  split at hf
  · rename_i q; obtain ⟨q, _⟩ := q; subst q; cases hf; exact se_ty G bi_int hg (by decide +kernel) (by decide +kernel) ha hs (by decide +kernel) (by decide +kernel)
  split at hf
  · rename_i q; obtain ⟨q, _⟩ := q; subst q; cases hf; exact se_ty G bi_list hg (by decide +kernel) (by decide +kernel) ha hs (by decide +kernel) (by decide +kernel)
  split at hf
  · rename_i q; obtain ⟨q, _⟩ := q; subst q; cases hf; exact se_ty G bi_tuple hg (by decide +kernel) (by decide +kernel) ha hs (by decide +kernel) (by decide +kernel)
  split at hf
  · rename_i q; obtain ⟨q, _⟩ := q; subst q; cases hf; exact se_ty G bi_str hg (by decide +kernel) (by decide +kernel) ha hs (by decide +kernel) (by decide +kernel)
  cases hf
def isOf : Str → Option Bi := fun f => if f = "tuple" then some .isTuple else if f = "str" then some .isStr else if f = "int" then some .isInt else if f = "bool" then some .isBool else if f = "list" then some .isList else none
theorem se_isi {bi : Bi} {t : Str} {tp : Pos} (G : Good X C sc N names) (hf : isOf t = some bi) (hg : isGl sc "isinstance" = true) (hg2 : isGl sc t = true) (ha : PE X a (tD X.w X.K C ia)) (hs : notStar a = true) :
    PE X (.Call (.Name "isinstance" p) [a, .Name t tp] [] pos) (tD X.w X.K C (.bi bi (.cons ia .nil))) := by
  have hb : (bi = .isTuple ∨ bi = .isStr ∨ bi = .isInt ∨ bi = .isBool ∨ bi = .isList) ∧ PE X (.Name t tp) (tC (.ty (isTy bi))) := by
    unfold isOf at hf
    split at hf
    · rename_i q; subst q; cases hf
      exact ⟨by simp, pe_bltn (G.glo hg2) (G.bt _ (by decide +kernel)) boot_tuple rfl (by decide +kernel) (by decide +kernel)⟩
    split at hf
    · rename_i q; subst q; cases hf
      exact ⟨by simp, pe_bltn (G.glo hg2) (G.bt _ (by decide +kernel)) boot_str rfl (by decide +kernel) (by decide +kernel)⟩
    split at hf
    · rename_i q; subst q; cases hf
      exact ⟨by simp, pe_bltn (G.glo hg2) (G.bt _ (by decide +kernel)) boot_int rfl (by decide +kernel) (by decide +kernel)⟩
    split at hf
    · rename_i q; subst q; cases hf
      exact ⟨by simp, pe_bltn (G.glo hg2) (G.bt _ (by decide +kernel)) boot_bool rfl (by decide +kernel) (by decide +kernel)⟩
    split at hf
    · rename_i q; subst q; cases hf
      exact ⟨by simp, pe_bltn (G.glo hg2) (G.bt _ (by decide +kernel)) boot_list rfl (by decide +kernel) (by decide +kernel)⟩
    cases hf
  obtain ⟨hb, ht⟩ := hb
  have hpa : PA X [a, .Name t tp] (tCons (tD X.w X.K C ia) (tCons (tC (.ty (isTy bi))) tNil)) := pa_cons ha (pa_cons ht pa_nil rfl) (star_one hs)
  have hc : CallR X (.builtin "isinstance") (fun vs H Q => ∃ v ρ S d, vs = [v, .ty (isTy bi)] ∧ SR X.w X.K H ρ S ∧ Rp X.K H ρ d v ∧ wp (builtin bi [d]) (LQ X.w X.K Q ρ H) S) := by
    intro pins s σ H xs us Q I r ⟨v, ρ, S, d, e, hS, hd, h⟩
    subst e
    obtain ⟨u1, u2, rfl, r1, r2⟩ := vals2 r
    cases r2
    rcases hb with hb | hb | hb | hb | hb
    · exact isi_go I hS r1 hd (.inl hb) h
    · exact isi_go I hS r1 hd (.inr (.inl hb)) h
    · exact isi_go I hS r1 hd (.inr (.inr (.inl hb))) h
    · exact isi_go I hS r1 hd (.inr (.inr (.inr hb))) h
    · subst hb; exact isi_goL I hS r1 hd h
  refine pe_imp (pe_callB hc (G.glo hg) (G.bt _ (by decide +kernel)) boot_isinstance hpa (by decide +kernel) (by decide +kernel) (star_one hs) (plain_args rfl)) fun σ H Q ⟨ρ, S, env, hS, hE, h⟩ => ?_
  replace h := wpx_bind.mp h
  replace h := wpx_bind.mp h
  refine tD_of hS hE h fun d S1 v H1 ρ1 h1 p1 e1 s1 E1 r1 => ?_
  exact ⟨v, ρ1, S1, d, rfl, s1, r1, wp_mono (nox_builtin.wp h1) fun _ _ q => q.later p1 e1⟩
/-! methods -/
def plainBase : Expr → Bool
  | .Call (.Name _ _) [] [] _ => false
  | _ => true
theorem base_ok {nm : Str} {env : PySem.Env} {w : Sem Value} (h : plainBase e = true) : attributeBase e nm env w = w := by
  unfold attributeBase
  split
  · cases h
  · rfl
variable {apos cpos : Pos} {o : Expr} {io : E}
theorem meth_go {bi : Bi} {T : String} {σ : L2.St} {H : Hp} {Q : VK} (hT : T = if isStrB bi then "str" else "list") (h : tD X.w X.K C (.meth bi io ies) σ H Q) :
    tD X.w X.K C io σ H fun x H1 => tyV X.K T x H1 ∧ tDA X.w X.K C ies σ H1 fun xs H2 => rMt X.w X.K bi x xs H2 Q := by
  obtain ⟨ρ, S, env, hS, hE, h⟩ := h
  replace h := wpx_bind.mp h
  refine tD_of hS hE h fun d S1 v H1 ρ1 h1 p1 e1 s1 E1 r1 => ?_
  replace h1 := wpx_bind.mp h1
  obtain ⟨ty, h1⟩ := recv_ty s1 r1 (nox_recv.wp h1)
  refine ⟨by rw [hT]; exact ty, ?_⟩
  replace h1 := wpx_bind.mp h1
  exact tDA_of s1 E1 h1 fun ds S2 vs H2 ρ2 h2 p2 e2 s2 E2 r2 => ⟨ρ2, S2, d :: ds, s2, .cons (r1.mono p2 e2) r2, wp_mono (nox_builtin.wp h2) fun _ _ q => (q.later p1 e1).later p2 e2⟩
/-- what makes up a method of a built-in type -/
structure MtOk (X : Cx) (bi : Bi) (nm : Str) : Prop where
  ex : ∃ (T id : String), T = (if isStrB bi then "str" else "list") ∧ PlainAttrs T ∧ Slot T nm id ∧ typeOf (.builtin id) = pure (.type "method_descriptor") ∧ MtR X id (rMt X.w X.K bi)
def mtOf : Str → Nat → Option Bi := fun f n =>
  if f = "append" ∧ n = 1 then some .append else if f = "pop" ∧ n = 0 then some .pop0 else if f = "pop" ∧ n = 1 then some .pop1 else if f = "extend" ∧ n = 1 then some .extend else
  if f = "insert" ∧ n = 2 then some .insert else if f = "reverse" ∧ n = 0 then some .reverse else if f = "join" ∧ n = 1 then some .join else if f = "split" ∧ n = 1 then some .split else
  if f = "startswith" ∧ n = 1 then some .startswith else none
theorem mt_ok {nm : Str} {n : Nat} {bi : Bi} (hf : mtOf nm n = some bi) : MtOk X bi nm := by
  unfold mtOf at hf
  split at hf
  · rename_i q; obtain ⟨q, _⟩ := q; subst q; cases hf; exact ⟨_, _, rfl, PySem.F.plainAttrs_list, PySem.F.slot_list_append, PySem.F.type_list_append, mr_append⟩
  split at hf
  · rename_i q; obtain ⟨q, _⟩ := q; subst q; cases hf; exact ⟨_, _, rfl, PySem.F.plainAttrs_list, PySem.F.slot_list_pop, PySem.F.type_list_pop, mr_pop0⟩
  split at hf
  · rename_i q; obtain ⟨q, _⟩ := q; subst q; cases hf; exact ⟨_, _, rfl, PySem.F.plainAttrs_list, PySem.F.slot_list_pop, PySem.F.type_list_pop, mr_pop1⟩
  split at hf
  · rename_i q; obtain ⟨q, _⟩ := q; subst q; cases hf; exact ⟨_, _, rfl, PySem.F.plainAttrs_list, PySem.F.slot_list_extend, PySem.F.type_list_extend, mr_extend⟩
  split at hf
  · rename_i q; obtain ⟨q, _⟩ := q; subst q; cases hf; exact ⟨_, _, rfl, PySem.F.plainAttrs_list, PySem.F.slot_list_insert, PySem.F.type_list_insert, mr_insert⟩
  split at hf
  · rename_i q; obtain ⟨q, _⟩ := q; subst q; cases hf; exact ⟨_, _, rfl, PySem.F.plainAttrs_list, PySem.F.slot_list_reverse, PySem.F.type_list_reverse, mr_reverse⟩
  split at hf
  · rename_i q; obtain ⟨q, _⟩ := q; subst q; cases hf; exact ⟨_, _, rfl, PySem.F.plainAttrs_str, PySem.F.slot_str_join, PySem.F.type_str_join, mr_join⟩
  split at hf
  · rename_i q; obtain ⟨q, _⟩ := q; subst q; cases hf; exact ⟨_, _, rfl, PySem.F.plainAttrs_str, PySem.F.slot_str_split, PySem.F.type_str_split, mr_split⟩
  split at hf
  · rename_i q; obtain ⟨q, _⟩ := q; subst q; cases hf; exact ⟨_, _, rfl, PySem.F.plainAttrs_str, PySem.F.slot_str_startswith, PySem.F.type_str_startswith, mr_startswith⟩
  cases hf
theorem se_meth0 {nm : Str} {bi : Bi} (hm : mtOf nm 0 = some bi) (ho : PE X o (tD X.w X.K C io)) (hb : plainBase o = true) (hl : (apos.endLine == cpos.line) = true) :
    PE X (.Call (.Attribute o nm apos) [] [] cpos) (tD X.w X.K C (.meth bi io .nil)) := by
  obtain ⟨T, id, hT, h1, h2, h3, h4⟩ := (mt_ok (X := X) hm).ex
  refine pe_imp (pe_bm0 h1 h2 h3 h4 ho (base_ok hb) hl) fun σ H Q h => ?_
  obtain ⟨ρ, S, env, hS, hE, h⟩ := h
  replace h := wpx_bind.mp h
  refine tD_of hS hE h fun d S1 v H1 ρ1 h1 p1 e1 s1 E1 r1 => ?_
  replace h1 := wpx_bind.mp h1
  obtain ⟨ty, h1⟩ := recv_ty s1 r1 (nox_recv.wp h1)
  exact ⟨by rw [hT]; exact ty, ρ1, S1, [d], s1, .cons r1 .nil, wp_mono (nox_builtin.wp (show wpx (builtin bi [d]) (LQ X.w X.K Q ρ H) (EQ X.w X.K C env ρ H) S1 from h1)) fun _ _ q => q.later p1 e1⟩
theorem few_ok {cpos : Pos} {es : List Expr} {env : PySem.Env} (h : es.all notStar = true) (hn : es.length < 30) :
    ((backTo cpos (starEach es env)).all (fun x => !x.1) && (backToKw cpos (keywordEach [] env)).all (fun x => x.1.isSome)
      && decide (es.length + ([] : List Keyword).length + (if ([] : List Keyword).isEmpty then 0 else 1) < 30)) = true := by
  have h1 : (backTo cpos (starEach es env)).all (fun x => !x.1) = true := by
    have := plain_args (pos := cpos) (env := env) h
    rw [List.all_eq_not_any_not]
    simpa using this
  rw [h1]
  simp [backToKw, keywordEach]
  omega
theorem se_meth {nm : Str} {bi : Bi} (hm : mtOf nm (e :: es).length = some bi) (ho : PE X o (tD X.w X.K C io)) (ha : PA X (e :: es) (tDA X.w X.K C ies)) (hs : (e :: es).all notStar = true) (hn : (e :: es).length < 30) (hb : plainBase o = true) (hl : (apos.endLine == cpos.line) = true) :
    PE X (.Call (.Attribute o nm apos) (e :: es) [] cpos) (tD X.w X.K C (.meth bi io ies)) := by
  obtain ⟨T, id, hT, h1, h2, h3, h4⟩ := (mt_ok (X := X) hm).ex
  have hs' := hs
  rw [List.all_cons, Bool.and_eq_true] at hs'
  exact pe_imp (pe_bm h1 h2 h3 h4 ho ha (base_ok hb) (few_ok hs hn) hl (star_one hs'.1) (plain_args hs'.2)) fun σ H Q h => meth_go hT h
end
end Mn
/-! Mn, part 10: walks, targets, statements. -/
namespace Mn
open PySem PySem.Spec PyProof.Rows L2
/-- the walk J is the library's walk T -/
def ItR (K : PySem.W.Frag) (H : Hp) (ρ : List Addr) : ItV → It → Prop
  | .rng lo st n, T => (st = 1 ∧ T = Itr lo n) ∨ T = Itc lo st n
  | .tup xs, T => ∃ a vs, T = Itt K a ∧ SqT K H a vs ∧ Rps K H ρ xs vs
  | .str x, T => T = Its x
  | .lst n, T => ∃ a, ρ[n]? = some a ∧ T = Itl K a
  | .rev n k, T => ∃ a, ρ[n]? = some a ∧ T = Itv K a k
  | .revT xs, T => ∃ a vs, T = RT.ItvT K a xs.length ∧ SqT K H a vs ∧ Rps K H ρ xs vs
section
variable {w : World} {K : PySem.W.Frag} {H H' : Hp} {ρ ρ' : List Addr} {S : Store}
theorem ItR.mono {J : ItV} {T : It} (h : ItR K H ρ J T) (p : ρ <+: ρ') (e : Ex K H H') : ItR K H' ρ' J T := by
  cases J with
  | rng lo st n => exact h
  | str x => exact h
  | tup xs => obtain ⟨a, vs, e1, e2, e3⟩ := h; exact ⟨a, vs, e1, e _ _ e2, e3.mono p e⟩
  | revT xs => obtain ⟨a, vs, e1, e2, e3⟩ := h; exact ⟨a, vs, e1, e _ _ e2, e3.mono p e⟩
  | lst n => obtain ⟨a, e1, e2⟩ := h; exact ⟨a, pre_get p e1, e2⟩
  | rev n k => obtain ⟨a, e1, e2⟩ := h; exact ⟨a, pre_get p e1, e2⟩
theorem rd_some {n : Nat} {xs : List D} (h : rd S n = some xs) : S[n]? = some (.lst xs) ∨ S[n]? = some (.ro xs) := by
  unfold rd at h
  cases q : S[n]? with
  | none => rw [q] at h; cases h
  | some c => rw [q] at h; cases c <;> cases h <;> simp
theorem sql_addr {n : Nat} {xs : List D} {a : Addr} (hS : SR w K H ρ S) (e : ρ[n]? = some a) (h : rd S n = some xs) : ∃ vs, SqL K H a vs ∧ Rps K H ρ xs vs := by
  obtain ⟨b, vs, e2, h1, h2⟩ := sql_of (v := .ref a) hS (by unfold Rp; exact ⟨a, e, rfl⟩) (rd_some h)
  cases e2
  exact ⟨vs, h1, h2⟩
theorem it_stop {J : ItV} {T : It} {i : Nat} (h : ItR K H ρ J T) (hS : SR w K H ρ S) (e : itO J i S = some none) : T.stop i H := by
  cases J with
  | rng lo st n =>
    simp only [itO] at e
    have hi : n ≤ i := by
      by_cases c : i < n
      · rw [if_pos c] at e; cases e
      · omega
    rcases h with ⟨_, rfl⟩ | rfl
    · exact hi
    · exact hi
  | tup xs =>
    obtain ⟨a, vs, rfl, h1, h2⟩ := h
    have hl := h2.length
    have hi : xs.length ≤ i := List.getElem?_eq_none_iff.mp (Option.some.inj e)
    exact ⟨vs, h1, by omega⟩
  | str x =>
    obtain rfl := h
    simp only [itO] at e
    have : x.cps[i]? = none := by
      cases q : x.cps[i]? with
      | none => rfl
      | some c => rw [q] at e; cases e
    show x.cps.size ≤ i
    simpa using this
  | lst n =>
    obtain ⟨a, h1, rfl⟩ := h
    simp only [itO] at e
    cases q : rd S n with
    | none => rw [q] at e; cases e
    | some xs =>
      rw [q] at e
      obtain ⟨vs, h2, h3⟩ := sql_addr hS h1 q
      have hl := h3.length
      have hi : xs.length ≤ i := List.getElem?_eq_none_iff.mp (Option.some.inj e)
      exact ⟨vs, h2, by omega⟩
  | rev n k =>
    obtain ⟨a, h1, rfl⟩ := h
    simp only [itO] at e
    cases q : rd S n with
    | none => simp only [q] at e; cases e
    | some xs =>
      simp only [q] at e
      show k ≤ i
      split at e
      · rename_i hk
        have e := Option.some.inj e
        split at e
        · rename_i c
          have := List.getElem?_eq_none_iff.mp e
          omega
        · omega
      · cases e
  | revT xs =>
    obtain ⟨a, vs, rfl, h1, h2⟩ := h
    simp only [itO] at e
    show xs.length ≤ i
    have e := Option.some.inj e
    split at e
    · rename_i c
      have := List.getElem?_eq_none_iff.mp e
      omega
    · omega
theorem it_item {J : ItV} {T : It} {i : Nat} {d : D} (h : ItR K H ρ J T) (hS : SR w K H ρ S) (e : itO J i S = some (some d)) : T.go i H ∧ ∀ x H', T.yld i H x H' → H' = H ∧ Rp K H ρ d x := by
  have at_ : ∀ {xs : List D} {vs : List V} {j : Nat}, Rps K H ρ xs vs → xs[j]? = some d → ∃ w, vs[j]? = some w ∧ Rp K H ρ d w := fun r q => r.at q
  cases J with
  | rng lo st n =>
    simp only [itO] at e
    have e := Option.some.inj e
    split at e
    · rename_i c
      cases e
      rcases h with ⟨rfl, rfl⟩ | rfl
      · refine ⟨c, fun x H' ⟨e1, e2⟩ => ⟨e1, ?_⟩⟩
        subst e2
        rw [Int.mul_one]
        exact .int
      · refine ⟨c, fun x H' ⟨e1, e2⟩ => ⟨e1, ?_⟩⟩
        subst e2
        exact .int
    · cases e
  | tup xs =>
    obtain ⟨a, vs, rfl, h1, h2⟩ := h
    obtain ⟨w, h3, h4⟩ := at_ h2 (Option.some.inj e)
    refine ⟨⟨vs, w, h1, h3⟩, fun x H' ⟨e1, e2⟩ => ⟨e1, ?_⟩⟩
    have := e2 vs h1
    rw [h3] at this; cases this
    exact h4
  | str x =>
    obtain rfl := h
    simp only [itO] at e
    cases q : x.cps[i]? with
    | none => rw [q] at e; cases e
    | some c =>
      rw [q] at e
      cases e
      obtain ⟨hl, hc⟩ := Array.getElem?_eq_some_iff.mp q
      refine ⟨hl, fun y H' ⟨e1, c', e2, e3⟩ => ⟨e1, ?_⟩⟩
      subst e3
      rw [q] at e2; cases e2
      exact .str
  | lst n =>
    obtain ⟨a, h1, rfl⟩ := h
    simp only [itO] at e
    cases q : rd S n with
    | none => rw [q] at e; cases e
    | some xs =>
      rw [q] at e
      obtain ⟨vs, h2, h3⟩ := sql_addr hS h1 q
      obtain ⟨w, h4, h5⟩ := at_ h3 (Option.some.inj e)
      refine ⟨⟨vs, w, h2, h4⟩, fun x H' ⟨e1, e2⟩ => ⟨e1, ?_⟩⟩
      have := e2 vs h2
      rw [h4] at this; cases this
      exact h5
  | rev n k =>
    obtain ⟨a, h1, rfl⟩ := h
    simp only [itO] at e
    cases q : rd S n with
    | none => simp only [q] at e; cases e
    | some xs =>
      simp only [q] at e
      split at e
      · rename_i hk
        have e := Option.some.inj e
        split at e
        · rename_i c
          obtain ⟨vs, h2, h3⟩ := sql_addr hS h1 q
          obtain ⟨w, h4, h5⟩ := at_ h3 e
          refine ⟨⟨c, vs, w, h2, h4⟩, fun x H' ⟨e1, e2⟩ => ⟨e1, ?_⟩⟩
          have := e2 vs h2
          rw [h4] at this; cases this
          exact h5
        · cases e
      · cases e
  | revT xs =>
    obtain ⟨a, vs, rfl, h1, h2⟩ := h
    simp only [itO] at e
    have e := Option.some.inj e
    split at e
    · rename_i c
      obtain ⟨w, h4, h5⟩ := at_ h2 e
      refine ⟨⟨c, vs, w, h1, h4⟩, fun x H' ⟨e1, e2⟩ => ⟨e1, ?_⟩⟩
      have := e2 vs h1
      rw [h4] at this; cases this
      exact h5
    · cases e
theorem wp_itAt {J : ItV} {i : Nat} {R : Option D → Store → Prop} : wp (itAt J i) R S ↔ ∃ o, itO J i S = some o ∧ R o S := by
  unfold wp wpx itAt
  cases itO J i S with
  | none => exact ⟨fun h => h.elim, fun ⟨_, h, _⟩ => nomatch h⟩
  | some o => exact ⟨fun h => ⟨o, rfl, h⟩, fun ⟨_, h, q⟩ => by cases h; exact q⟩
end
def tDI (w : World) (K : PySem.W.Frag) (C : CtxW) (k : IK) (es : Es) : TI := fun σ H R => ∃ ρ S env, SR w K H ρ S ∧ EnvR K H ρ env σ ∧
  wpx (M.bind (evEs C.c es env) (mkIt k)) (fun J S' => ∀ H' ρ' T, ρ <+: ρ' → Ex K H H' → SR w K H' ρ' S' → ItR K H' ρ' J T → R T H') (EQ w K C env ρ H) S
section
variable {X : Cx} {C : CtxW} {sc : Scope} {N names : List Str} {e a b c : Expr} {es : List Expr} {i : Nat} {x : Str} {pos p : Pos} {ia ib ic : E} {ies : Es} {tg : Expr}
theorem pi_imp {t u : TI} (h : PI X tg e t) (k : ∀ σ H Q, u σ H Q → t σ H Q) : PI X tg e u := ⟨fun pins s σ H Q I q => h.run pins s σ H Q I (k σ H Q q)⟩
theorem pi_or {t u : TI} (h : PI X tg e t) (h' : PI X tg e u) : PI X tg e (fun σ H R => t σ H R ∨ u σ H R) := ⟨fun pins s σ H R I q => q.elim (h.run pins s σ H R I) (h'.run pins s σ H R I)⟩
theorem si_rng1 (G : Good X C sc N names) (hg : isGl sc "range" = true) (ha : PA X [a] (tDA X.w X.K C ies)) (hs : [a].all notStar = true) : PI X tg (.Call (.Name "range" p) [a] [] pos) (tDI X.w X.K C .rng1 ies) := by
  rw [List.all_cons, Bool.and_eq_true] at hs
  refine pi_imp (pi_range1 (G.glo hg) (G.bt _ (by decide +kernel)) ha (star_one hs.1)) fun σ H R ⟨ρ, S, env, hS, hE, h⟩ => ?_
  replace h := wpx_bind.mp h
  refine tDA_of hS hE h fun ds S1 vs H1 ρ1 h1 p1 e1 s1 E1 r1 => ?_
  match ds, r1, h1 with
  | [.int j], r1, h1 =>
    obtain ⟨v, rfl, hv⟩ := rps1 r1
    cases hv.intE
    unfold mkIt at h1
    simp only [wpx_bind, wpx_guard, wpx_ret, Bool.and_eq_true, decide_eq_true_eq] at h1
    exact ⟨j, rfl, h1.1.1, h1.1.2, h1.2 H1 ρ1 _ p1 e1 s1 (.inl ⟨rfl, rfl⟩)⟩
  | [], _, h1 => exact False.elim h1
  | [.non], _, h1 => exact False.elim h1
  | [.bl _], _, h1 => exact False.elim h1
  | [.str _], _, h1 => exact False.elim h1
  | [.tup _], _, h1 => exact False.elim h1
  | [.loc _], _, h1 => exact False.elim h1
  | a :: b :: c, _, h1 => cases a <;> exact False.elim h1
theorem si_rng2 (G : Good X C sc N names) (hg : isGl sc "range" = true) (ha : PA X [a, b] (tDA X.w X.K C ies)) (hs : [a, b].all notStar = true) : PI X tg (.Call (.Name "range" p) [a, b] [] pos) (tDI X.w X.K C .rng2 ies) := by
  simp only [List.all_cons, Bool.and_eq_true] at hs
  have q1 : starEach [b] X.env = [(false, eval b X.env)] := star_one hs.2.1
  refine pi_imp (pi_range2 (G.glo hg) (G.bt _ (by decide +kernel)) ha (by rw [star_one hs.1, q1]) q1) fun σ H R ⟨ρ, S, env, hS, hE, h⟩ => ?_
  replace h := wpx_bind.mp h
  refine tDA_of hS hE h fun ds S1 vs H1 ρ1 h1 p1 e1 s1 E1 r1 => ?_
  have two : ∃ i j, ds = [.int i, .int j] := by
    match ds, h1 with
    | [], h1 => exact False.elim h1
    | [a], h1 => cases a <;> exact False.elim h1
    | [a, b], h1 => cases a <;> cases b <;> first | exact ⟨_, _, rfl⟩ | exact False.elim h1
    | a :: b :: c :: d, h1 => cases a <;> cases b <;> exact False.elim h1
  obtain ⟨i, j, rfl⟩ := two
  obtain ⟨v, u, rfl, hv, hu⟩ := rps2 r1
  cases hv.intE; cases hu.intE
  unfold mkIt at h1
  simp only [wpx_bind, wpx_guard, wpx_ret, Bool.and_eq_true, decide_eq_true_eq] at h1
  exact ⟨i, j, rfl, ⟨h1.1.1.1.1, h1.1.1.1.2, h1.1.1.2, h1.1.2⟩, h1.2 H1 ρ1 _ p1 e1 s1 (.inl ⟨rfl, rfl⟩)⟩
theorem si_rng3 (G : Good X C sc N names) (hg : isGl sc "range" = true) (ha : PA X [a, b, c] (tDA X.w X.K C ies)) (hs : [a, b, c].all notStar = true) : PI X tg (.Call (.Name "range" p) [a, b, c] [] pos) (tDI X.w X.K C .rng3 ies) := by
  have hs' := hs
  rw [List.all_cons, Bool.and_eq_true] at hs'
  refine pi_imp (pi_range3 (G.glo hg) (G.bt _ (by decide +kernel)) ha (star_one hs'.1) (plain_args hs'.2)) fun σ H R ⟨ρ, S, env, hS, hE, h⟩ => ?_
  replace h := wpx_bind.mp h
  refine tDA_of hS hE h fun ds S1 vs H1 ρ1 h1 p1 e1 s1 E1 r1 => ?_
  have three : ∃ i j k, ds = [.int i, .int j, .int k] := by
    match ds, h1 with
    | [], h1 => exact False.elim h1
    | [a], h1 => cases a <;> exact False.elim h1
    | [a, b], h1 => cases a <;> cases b <;> exact False.elim h1
    | [a, b, c], h1 => cases a <;> cases b <;> cases c <;> first | exact ⟨_, _, _, rfl⟩ | exact False.elim h1
    | a :: b :: c :: d :: e, h1 => cases a <;> cases b <;> cases c <;> exact False.elim h1
  obtain ⟨i, j, k, rfl⟩ := three
  obtain ⟨v, u, w, rfl, hv, hu, hw⟩ := rps3 r1
  cases hv.intE; cases hu.intE; cases hw.intE
  unfold mkIt at h1
  simp only [wpx_bind, wpx_guard, wpx_ret, Bool.and_eq_true, decide_eq_true_eq] at h1
  obtain ⟨⟨⟨⟨c0, c1⟩, c2⟩, c3⟩, h1⟩ := h1
  exact ⟨i, j, k, _, rfl, ⟨c0, c1, c2, (Int.toNat_of_nonneg c3).symm⟩, h1 H1 ρ1 _ p1 e1 s1 (.inr rfl)⟩
theorem seq_run {σ : L2.St} {H : Hp} {R : It → Hp → Prop} (h : tDI X.w X.K C .seq (.cons ia .nil) σ H R) : iList X.K (tD X.w X.K C ia) σ H R ∨ iTup X.K (tD X.w X.K C ia) σ H R ∨ iStr (tD X.w X.K C ia) σ H R := by
  obtain ⟨ρ, S, env, hS, hE, h⟩ := h
  replace h := wpx_bind.mp h
  unfold evEs evEs at h
  replace h := wpx_bind.mp h
  cases hr : evE C.c ia env S with
  | bad => unfold wpx at h; rw [hr] at h; exact h.elim
  | exc x S1 =>
    have h2 : EQ X.w X.K C env ρ H x S1 := by unfold wpx at h; rw [hr] at h; exact h
    have only : wpx (evE C.c ia env) (fun _ _ => False) (fun x' S' => x' = x ∧ S' = S1) S := by unfold wpx; rw [hr]; exact ⟨rfl, rfl⟩
    exact .inl (tD_of hS hE only (fun _ _ _ _ _ z => False.elim z) fun _ _ ⟨a, b⟩ => by subst a; subst b; exact h2)
  | ok d S1 =>
    have only : wpx (evE C.c ia env) (fun d' S' => d' = d ∧ S' = S1) E0x S := by unfold wpx; rw [hr]; exact ⟨rfl, rfl⟩
    have h2 : wpx (mkIt .seq [d]) (fun J S' => ∀ H' ρ' T, ρ <+: ρ' → Ex X.K H H' → SR X.w X.K H' ρ' S' → ItR X.K H' ρ' J T → R T H') (EQ X.w X.K C env ρ H) S1 := by
      unfold wpx at h; rw [hr] at h; exact h
    cases d with
    | loc n =>
      refine .inl (tD_of hS hE only fun d' S' v H1 ρ1 h1 p1 e1 s1 E1 r1 => ?_)
      obtain ⟨rfl, rfl⟩ := h1
      unfold mkIt at h2
      replace h2 := wpx_bind.mp h2
      obtain ⟨xs, hx, h2⟩ := wx_rdL.mp h2
      obtain ⟨a, vs, rfl, hq, hr2⟩ := sql_of s1 r1 hx
      unfold Rp at r1
      obtain ⟨a', e2, e3⟩ := r1
      cases e3
      exact ⟨a, rfl, ⟨vs, hq⟩, h2 H1 ρ1 _ p1 e1 s1 ⟨a, e2, rfl⟩⟩
    | tup xs =>
      refine .inr (.inl (tD_of hS hE only fun d' S' v H1 ρ1 h1 p1 e1 s1 E1 r1 => ?_))
      obtain ⟨rfl, rfl⟩ := h1
      obtain ⟨a, vs, rfl, hq, hr2⟩ := r1.tupE
      exact ⟨a, rfl, ⟨vs, hq⟩, h2 H1 ρ1 _ p1 e1 s1 ⟨a, vs, rfl, hq, hr2⟩⟩
    | str z =>
      refine .inr (.inr (tD_of hS hE only fun d' S' v H1 ρ1 h1 p1 e1 s1 E1 r1 => ?_))
      obtain ⟨rfl, rfl⟩ := h1
      cases r1.strE
      exact ⟨z, rfl, h2 H1 ρ1 _ p1 e1 s1 rfl⟩
    | _ => exact False.elim h2
theorem si_seq (ha : PE X a (tD X.w X.K C ia)) : PI X tg a (tDI X.w X.K C .seq (.cons ia .nil)) :=
  pi_imp (pi_or (pi_list ha) (pi_or (pi_tup ha) (pi_str ha))) fun σ H R h => seq_run h
theorem si_rev (G : Good X C sc N names) (hg : isGl sc "reversed" = true) (ha : PE X a (tD X.w X.K C ia)) (hs : notStar a = true) : PI X tg (.Call (.Name "reversed" p) [a] [] pos) (tDI X.w X.K C .rev (.cons ia .nil)) := by
  refine pi_imp (RT.pi_revA (G.glo hg) (G.bt _ (by decide +kernel)) ha (star_one hs)) fun σ H R ⟨ρ, S, env, hS, hE, h⟩ => ?_
  replace h := wpx_bind.mp h
  unfold evEs evEs at h
  replace h := wpx_bind.mp h
  refine tD_of hS hE h fun d S1 v H1 ρ1 h1 p1 e1 s1 E1 r1 => ?_
  replace h1 := wpx_bind.mp h1
  cases d with
  | loc n =>
    replace h1 := wpx_bind.mp (show wpx (M.bind (rdL n) fun xs => M.ret (ItV.rev n xs.length)) _ _ S1 from h1)
    obtain ⟨xs, hx, h1⟩ := wx_rdL.mp h1
    obtain ⟨a, vs, rfl, hq, hr2⟩ := sql_of s1 r1 hx
    unfold Rp at r1
    obtain ⟨a', e2, e3⟩ := r1
    cases e3
    refine ⟨a, vs, rfl, .inl ⟨hq, ?_⟩⟩
    rw [← hr2.length]
    exact h1 H1 ρ1 _ p1 e1 s1 ⟨a, e2, rfl⟩
  | tup xs =>
    obtain ⟨a, vs, rfl, hq, hr2⟩ := r1.tupE
    refine ⟨a, vs, rfl, .inr ⟨hq, ?_⟩⟩
    rw [← hr2.length]
    exact h1 H1 ρ1 _ p1 e1 s1 ⟨a, vs, rfl, hq, hr2⟩
  | _ => exact False.elim h1
/-! ### targets -/
def LE' (w : World) (K : PySem.W.Frag) (Q : L2.St → Hp → Prop) (ρ : List Addr) (H : Hp) : Nv → Store → Prop := fun env S => ∀ σ H' ρ', ρ <+: ρ' → Ex K H H' → SR w K H' ρ' S → EnvR K H' ρ' env σ → Q σ H'
theorem nox_nx {α : Type} {m : M α} : NoX (nx m) := fun S x S' h => by unfold nx at h; split at h <;> cases h
mutual
theorem nox_evP {C : Ctx} : ∀ (p : Pat) (d : D) (env : Nv), NoX (evP C p d env)
  | .nm i, d, env => NoX.ret
  | .tup ps, d, env => by
    unfold evP
    cases d <;> first | exact NoX.bad | exact nox_evPs ps _ env | exact NoX.bind nox_rdL fun _ => nox_evPs ps _ env
  | .sub o i, d, env => by
    unfold evP
    refine NoX.bind nox_nx fun x => NoX.bind nox_nx fun y => ?_
    cases x <;> first | exact NoX.bad | exact NoX.bind nox_getC fun _ => NoX.bind nox_putC fun _ => NoX.bind nox_wrC fun _ => NoX.ret
  | .fld o c f, d, env => by
    unfold evP
    exact NoX.bind nox_nx fun x => NoX.bind nox_sfdD fun _ => NoX.ret
theorem nox_evPs {C : Ctx} : ∀ (ps : Pats) (ds : List D) (env : Nv), NoX (evPs C ps ds env)
  | .nil, [], env => NoX.ret
  | .nil, d :: ds, env => NoX.bad
  | .cons p r, [], env => NoX.bad
  | .cons p r, d :: ds, env => by unfold evPs; exact NoX.bind (nox_evP p d env) fun _ => nox_evPs r ds _
end
def tDG (w : World) (K : PySem.W.Frag) (C : CtxW) (pt : Pat) : TG := fun v σ H Q => ∃ ρ S env d, SR w K H ρ S ∧ EnvR K H ρ env σ ∧ Rp K H ρ d v ∧ wp (evP C.c pt d env) (LE' w K Q ρ H) S
def tDGs (w : World) (K : PySem.W.Frag) (C : CtxW) (ps : Pats) : TGs := fun vs σ H Q => ∃ ρ S env ds, SR w K H ρ S ∧ EnvR K H ρ env σ ∧ Rps K H ρ ds vs ∧ wp (evPs C.c ps ds env) (LE' w K Q ρ H) S
theorem LE'.later {w : World} {K : PySem.W.Frag} {Q : L2.St → Hp → Prop} {ρ ρ' : List Addr} {H H' : Hp} {env : Nv} {S : Store} (h : LE' w K Q ρ H env S) (p : ρ <+: ρ') (e : Ex K H H') : LE' w K Q ρ' H' env S := fun σ H2 ρ2 p2 e2 => h σ H2 ρ2 (p.trans p2) (e.trans e2)
theorem pg_imp {t u : TG} (h : PG X tg t) (k : ∀ v σ H Q, u v σ H Q → t v σ H Q) : PG X tg u := ⟨fun pins s σ H v w Q I r q => h.run pins s σ H v w Q I r (k v σ H Q q)⟩
theorem pgs_imp {tgs : List Expr} {t u : TGs} (h : PGs X tgs t) (k : ∀ v σ H Q, u v σ H Q → t v σ H Q) : PGs X tgs u := ⟨fun pins s σ H v w Q I r q => h.run pins s σ H v w Q I r (k v σ H Q q)⟩
theorem Good.lo (G : Good X C sc N names) (h : isLoc sc x = true) : Loc X.env.scope x ∧ (X.fn x = true ∨ X.env.scope.names.lookup x = some .local) := by
  unfold isLoc at h
  split at h
  · rename_i q; exact ⟨.inl (G.lcl _ q), .inr (G.lcl _ q)⟩
  · rename_i q; exact ⟨.inr (G.cll _ q), .inl (G.fnc _ q)⟩
  · cases h
theorem sg_nm (G : Good X C sc N names) (hN : N[i]? = some x) (hx : isLoc sc x = true) : PG X (.Name x pos) (tDG X.w X.K C (.nm i)) := by
  obtain ⟨h1, h2⟩ := G.lo hx
  refine pg_imp (pg_name (by rw [G.N_eq]; exact G.nd) (by rw [G.N_eq]; exact hN) h1 h2) fun v σ H Q ⟨ρ, S, env, d, hS, hE, r, h⟩ => ?_
  exact h _ H ρ List.prefix_rfl Ex.refl hS (hE.set r i)
theorem sgs_nil : PGs X [] (tDGs X.w X.K C .nil) := pgs_imp pgs_nil fun vs σ H Q ⟨ρ, S, env, ds, hS, hE, r, h⟩ => by
  cases ds with
  | nil => unfold Rps at r; exact ⟨r, h σ H ρ List.prefix_rfl Ex.refl hS hE⟩
  | cons d ds => exact False.elim h
theorem each_one {env : PySem.Env} (h : notStar a = true) : (assignEach (a :: es) env).map (·.2) = assign a env :: (assignEach es env).map (·.2) := by
  cases a <;> first | rfl | cases h
theorem each_no {env : PySem.Env} : ∀ {es : List Expr}, es.all notStar = true → (assignEach es env).findIdx? (·.1) = none ∧ (assignEach es env).length = es.length
  | [], _ => ⟨rfl, rfl⟩
  | a :: es, h => by
    rw [List.all_cons, Bool.and_eq_true] at h
    obtain ⟨h1, h2⟩ := each_no (env := env) h.2
    have e : assignEach (a :: es) env = (false, assign a env) :: assignEach es env := by
      cases a <;> first | rfl | cases h.1
    rw [e]
    refine ⟨?_, by simp [h2]⟩
    rw [List.findIdx?_cons]
    simp [h1]
theorem sgs_cons {pa : Pat} {ps : Pats} (h1 : PG X a (tDG X.w X.K C pa)) (h2 : PGs X es (tDGs X.w X.K C ps)) (hs : notStar a = true) : PGs X (a :: es) (tDGs X.w X.K C (.cons pa ps)) :=
  pgs_imp (pgs_cons h1 h2 (each_one hs)) fun vs σ H Q ⟨ρ, S, env, ds, hS, hE, r, h⟩ => by
    cases ds with
    | nil => exact False.elim h
    | cons d ds =>
      unfold Rps at r
      obtain ⟨v, us, rfl, r1, r2⟩ := r
      replace h := wpx_bind.mp h
      refine ⟨v, us, rfl, ρ, S, env, d, hS, hE, r1, wp_mono h fun env' S' q σ' H' ρ' p' e' s' E' => ?_⟩
      exact ⟨ρ', S', env', ds, s', E', r2.mono p' e', wp_mono q fun _ _ z => z.later p' e'⟩
def patLen : Pats → Nat
  | .nil => 0
  | .cons _ r => patLen r + 1
theorem pats_len : ∀ {ps : Pats} {ds : List D} {env : Nv} {R : Nv → Store → Prop} {S : Store}, wp (evPs C.c ps ds env) R S → ds.length = patLen ps
  | .nil, [], _, _, _, _ => rfl
  | .nil, d :: ds, _, _, _, h => False.elim h
  | .cons p r, [], _, _, _, h => False.elim h
  | .cons p r, d :: ds, env, R, S, h => by
    replace h := wpx_bind.mp h
    unfold wpx at h
    cases q : evP C.c p d env S with
    | ok env' S' =>
      rw [q] at h
      simp only [List.length_cons, patLen]
      rw [pats_len h]
    | exc _ _ => rw [q] at h; exact h.elim
    | bad => rw [q] at h; exact h.elim
theorem pg_or {t u : TG} (h1 : PG X tg t) (h2 : PG X tg u) : PG X tg (fun v σ H Q => t v σ H Q ∨ u v σ H Q) := ⟨fun pins s σ H v w Q I r q => q.elim (h1.run pins s σ H v w Q I r) (h2.run pins s σ H v w Q I r)⟩
theorem sg_tup {k : Nat} {ps : Pats} (G : Good X C sc N names) (h : PGs X es (tDGs X.w X.K C ps)) (hs : es.all notStar = true) (hl : es.length = patLen ps) : PG X (.Tuple es k pos) (tDG X.w X.K C (.tup ps)) := by
  obtain ⟨h1, h2⟩ := each_no (env := X.env) hs
  refine pg_imp (pg_or (pg_tup G.calm h h2 h1) (pg_unl G.calm h h2 h1)) fun v σ H Q ⟨ρ, S, env, d, hS, hE, r, q⟩ => ?_
  cases d with
  | tup xs =>
    obtain ⟨a, vs, rfl, hq, hr⟩ := r.tupE
    exact .inl ⟨a, vs, rfl, hq, by rw [← hr.length, pats_len (show wp (evPs C.c ps xs env) _ S from q), hl], ρ, S, env, xs, hS, hE, hr, q⟩
  | loc n =>
    replace q := wpx_bind.mp (show wp (M.bind (rdL n) fun xs => evPs C.c ps xs env) _ S from q)
    obtain ⟨xs, hx, q⟩ := wx_rdL.mp q
    obtain ⟨a, vs, rfl, hq, hr⟩ := sql_of hS r hx
    exact .inr ⟨a, vs, rfl, hq, by rw [← hr.length, pats_len (show wp (evPs C.c ps xs env) _ S from q), hl], ρ, S, env, xs, hS, hE, hr, q⟩
  | _ => exact False.elim q
theorem ixN_len {xs : List D} {vs : List V} {w : World} {K : PySem.W.Frag} {H : Hp} {ρ : List Addr} (h : Rps K H ρ xs vs) : xs.length = vs.length := h.length
theorem assign_sub {env : PySem.Env} (hp : plainIx b = true) : ∀ v, assign (.Subscript a b pos) env v = (do
      let ov ← holding [v] (eval a env)
      let iv ← holding [v, ov] (eval b env)
      standAt pos
      holding [v, ov, iv] (setItem ov iv v)
      release [v, ov, iv] []) := by
  intro v
  cases b <;> try rfl
  rename_i lo hi st p
  cases st
  · cases hp
  · rfl
/-- o[i] = v, o a list or a dict -/
def rPut (X : Cx) : TSet := fun o i v H Q => rSetL o i v H Q ∨ ∃ a ρ kvs kvs' d e z, o = .ref a ∧ CellR X.w X.K H ρ (.dct kvs) a ∧ Rp X.K H ρ d i ∧ Rp X.K H ρ e v ∧ dSet kvs d e = some kvs' ∧ z = true ∧
  ∀ b, CellR X.w X.K (upd H a b) ρ (.dct kvs') a → Ex X.K H (upd H a b) → Q (upd H a b)
theorem set_put (hu : X.A.units + 20 < cLine) : PSet X (rPut X) := by
  intro pins s σ H o i v ov iv u Q I ro ri rv h
  rcases h with h | ⟨a, ρ, kvs, kvs', d, e, z, rfl, c, rd, re, g, _, k⟩
  · exact set_list pins s σ H o i v ov iv u Q I ro ri rv h
  · cases (show ov = Value.ref a from ro)
    exact dd_set hu I c rd ri re rv g fun b s' I' c' e' => ⟨_, I', k b c' e'⟩
theorem sg_sub (G : Good X C sc N names) (ha : PE X a (tD X.w X.K C ia)) (hb : PE X b (tD X.w X.K C ib)) (hp : plainIx b = true) : PG X (.Subscript a b pos) (tDG X.w X.K C (.sub ia ib)) :=
  pg_imp (pg_sub ha hb (set_put (by have := G.un; omega)) (assign_sub hp)) fun v σ H Q ⟨ρ, S, env, d, hS, hE, r, h⟩ => by
    replace h := wpx_nx.mp (wpx_bind.mp h)
    refine tD_of hS hE h fun d1 S1 v1 H1 ρ1 h1 p1 e1 s1 E1 r1 => ?_
    replace h1 := wpx_nx.mp (wpx_bind.mp h1)
    refine tD_of s1 E1 h1 fun d2 S2 v2 H2 ρ2 h2 p2 e2 s2 E2 r2 => ?_
    cases d1 with
    | loc n =>
      obtain ⟨c, hc, h2⟩ := wx_getC.mp (wpx_bind.mp h2)
      replace h2 := wpx_bind.mp h2
      have rr := (r.mono p1 e1).mono p2 e2
      obtain ⟨a, rfl, ep, cr⟩ := s2.loc (r1.mono p2 e2) hc
      cases c with
      | lst xs => cases d2 with
        | int k =>
          cases r2.intE
          obtain ⟨j, hj, h2⟩ := wpx_opt.mp (wpx_bind.mp h2)
          have h2 := wx_wrC.mp (wpx_bind.mp (show wpx (M.bind (wrC n (.lst (xs.set j d))) fun _ => M.ret env) (LE' X.w X.K Q ρ H) E0x S2 from h2))
          obtain ⟨vs, hp, hr⟩ := cr
          refine .inl ⟨a, vs, k, j, rfl, rfl, hp, by rw [← hr.length]; exact hj, ?_⟩
          have h3 := (LE'.later (wpx_ret.mp h2) p1 e1).later p2 e2
          exact h3 σ _ ρ2 List.prefix_rfl (ex_put hp) (s2.put hc ep hp (hr.set j rr)) (E2.mono List.prefix_rfl (ex_put hp))
        | _ => exact False.elim h2
      | ro xs => exact False.elim h2
      | obj _ _ => exact False.elim h2
      | dct kvs =>
        obtain ⟨kvs', g, h2⟩ := wpx_opt.mp (show wpx (opt (dSet kvs d2 d)) _ _ _ from wpx_bind.mp h2)
        have h2 := wx_wrC.mp (wpx_bind.mp (show wpx (M.bind (wrC n (.dct kvs')) fun _ => M.ret env) (LE' X.w X.K Q ρ H) E0x S2 from h2))
        refine .inr ⟨a, ρ2, kvs, kvs', d2, d, true, rfl, cr, r2, rr, g, rfl, fun b c' ex => ?_⟩
        have h3 := (LE'.later (wpx_ret.mp h2) p1 e1).later p2 e2
        exact h3 σ _ ρ2 List.prefix_rfl ex (s2.putC hc ep rfl rfl c') (E2.mono List.prefix_rfl ex)
    | _ => exact False.elim h2
end
end Mn
/-! Mn, part 11: comprehensions, statements. -/
namespace Mn
open PySem PySem.Spec PyProof.Rows L2
theorem wipe_at (σ : L2.St) (j : Nat) : ∀ vs : List Nat, (wipe σ vs)[j]? = if j ∈ vs then σ[j]?.map (fun _ => none) else σ[j]?
  | [] => by simp [wipe]
  | v :: vs => by
    unfold wipe
    rw [List.getElem?_set, wipe_length]
    have ih := wipe_at σ j vs
    by_cases hv : v = j
    · subst hv
      rw [if_pos rfl]
      by_cases hl : v < σ.length
      · rw [if_pos hl, if_pos (by simp), List.getElem?_eq_getElem hl]; rfl
      · rw [if_neg hl, if_pos (by simp), List.getElem?_eq_none (by omega)]; rfl
    · rw [if_neg hv, ih]
      by_cases hm : j ∈ vs
      · rw [if_pos hm, if_pos (List.mem_cons_of_mem _ hm)]
      · rw [if_neg hm, if_neg (by simp [hm]; exact fun z => hv z.symm)]
theorem wipe_set {σ : L2.St} {vs : List Nat} {i : Nat} {y : Option V} (h : i ∈ vs) : wipe ((wipe σ vs).set i y) vs = wipe σ vs := by
  apply List.ext_getElem?
  intro j
  rw [wipe_at, wipe_at]
  by_cases hj : j ∈ vs
  · rw [if_pos hj, if_pos hj, List.getElem?_set, wipe_length, wipe_at, if_pos hj]
    by_cases hi : i = j
    · subst hi
      rw [if_pos rfl]
      by_cases hl : i < σ.length
      · rw [if_pos hl, List.getElem?_eq_getElem hl] <;> rfl
      · rw [if_neg hl, List.getElem?_eq_none (by omega)] <;> rfl
    · rw [if_neg hi]
      cases σ[j]? <;> rfl
  · rw [if_neg hj, if_neg hj, List.getElem?_set_ne (by intro z; subst z; exact hj h), wipe_at, if_neg hj]
section
variable {X : Cx} {C : CtxW} {sc scope : Scope} {N names : List Str} {own : List (Str × Nat)} {elt iter : Expr} {ifs : List Expr} {x y : Str} {tpos pos spos py' : Pos} {i sl : Nat} {ie ic : E} {ies : Es} {k : IK}
theorem relS_free {sc : Scope} : ∀ {names : List (Str × NameKind)} {x : Str}, names.lookup x = some .free →
    (names.map fun (n, k) => if (k == NameKind.free && sc.kind == .function && sc.names.lookup n == some .cell) then (n, NameKind.cell) else (n, k)).lookup x = some .cell ∨
    (names.map fun (n, k) => if (k == NameKind.free && sc.kind == .function && sc.names.lookup n == some .cell) then (n, NameKind.cell) else (n, k)).lookup x = some .free
  | [], _, h => by simp at h
  | (n, k₀) :: r, x, h => by
    have ih := @relS_free sc r x
    rw [List.map_cons]
    by_cases hx : x = n
    · subst hx
      have : k₀ = .free := by simpa using h
      subst this
      by_cases hc : (NameKind.free == NameKind.free && sc.kind == .function && sc.names.lookup x == some .cell) = true
      · left; simp only [hc, if_true]; simp
      · right; simp only [hc]; simp
    · have hb : (x == n) = false := by simpa using hx
      have h' : r.lookup x = some .free := by simpa [List.lookup_cons, hb] using h
      rcases ih h' with q | q
      · left
        show List.lookup x ((if (k₀ == NameKind.free && sc.kind == .function && sc.names.lookup n == some .cell) = true then (n, NameKind.cell) else (n, k₀)) :: _) = _
        split
        · rw [List.lookup_cons, hb]; exact q
        · rw [List.lookup_cons, hb]; exact q
      · right
        show List.lookup x ((if (k₀ == NameKind.free && sc.kind == .function && sc.names.lookup n == some .cell) = true then (n, NameKind.cell) else (n, k₀)) :: _) = _
        split
        · rw [List.lookup_cons, hb]; exact q
        · rw [List.lookup_cons, hb]; exact q
/-- within a comprehension's block -/
theorem Good.blk (G : Good X C sc N names) (hk : scope.kind = .function) (s : Shared) (H : Hp) (A : Addr) (cl : List (Str × Addr)) (fp : List Addr) : Good (X.blk s H scope (compEnvC scope cl A X.env) fp) C.nv scope N names where
  N_eq := G.N_eq
  nd := G.nd
  calm := G.calm
  gd := G.gd
  un := G.un
  kind := hk
  lcl := fun x h => lookup_relS_keep (sc := X.env.scope) (by decide) h
  cll := fun x h => lookup_relS_keep (sc := X.env.scope) (by decide) h
  fre := fun x h => relS_free (sc := X.env.scope) h
  gl := fun x h => lookup_relS_keep (sc := X.env.scope) (by decide) h
  fnc := fun x h => by show (scope.names.lookup x == some .cell) = true; rw [h]; rfl
  bt := G.bt
  gb := G.gb
  fns := fun f hf => G.fns f hf
  tk := ⟨fun _ _ ⟨_, _, _, _, _, _, _, _, _, _, _, _, _, _, _, _, w⟩ => w.elim, G.tk.mg⟩
  po := PassesOwn.never
theorem Good.blkOk (G : Good X C sc N names) (h : blkC N sc scope own = true) : BlkOk X.N X.env.scope scope own := by
  have B := blkOk_by h
  refine ⟨B.kind, B.uniq, by rw [G.N_eq]; exact B.ix, fun y hy e => ?_, by rw [G.N_eq]; exact B.own⟩
  rcases B.free y hy e with q | q
  · exact .inl (G.cll _ q)
  · exact G.fre _ q
theorem pts_imp {t u : TT} (h : PTs X ifs t) (k : ∀ σ H Q, u σ H Q → t σ H Q) : PTs X ifs u := ⟨fun pins s σ H Q I q => h.run pins s σ H Q I (k σ H Q q)⟩
theorem sts_nil : PTs X [] (tDB X.w X.K C (.c (.bl true))) := pts_imp pts_nil fun σ H Q ⟨ρ, S, env, hS, hE, h⟩ => by
  obtain ⟨b, e, q⟩ := (show LB X.w X.K Q ρ H (.bl true) S from h)
  cases e
  exact q H ρ List.prefix_rfl Ex.refl hS
theorem nox_compF {J : ItV} {p : D → Nv → Nv} {c e : Nv → M D} {env : Nv} {n : Nat} : ∀ {f i : Nat}, NoX (compF J p c e env n f i)
  | 0, _ => NoX.bad
  | f + 1, i => by
    unfold compF
    refine NoX.bind nox_itAt fun o => ?_
    cases o with
    | none => exact NoX.ret
    | some d =>
      refine NoX.bind nox_nx fun b => NoX.bind nox_asB fun b => ?_
      cases b with
      | true => exact NoX.bind nox_nx fun y => NoX.bind nox_owL fun xs => NoX.bind NoX.guard fun _ => NoX.bind nox_wrL fun _ => nox_compF
      | false => exact nox_compF
theorem nox_dcompF {J : ItV} {p : D → Nv → Nv} {c e g : Nv → M D} {env : Nv} {n : Nat} : ∀ {f i : Nat}, NoX (dcompF J p c e g env n f i)
  | 0, _ => NoX.bad
  | f + 1, i => by
    unfold dcompF
    refine NoX.bind nox_itAt fun o => ?_
    cases o with
    | none => exact NoX.ret
    | some d =>
      refine NoX.bind nox_nx fun b => NoX.bind nox_asB fun b => ?_
      cases b with
      | true => exact NoX.bind nox_nx fun y => NoX.bind NoX.guard fun _ => NoX.bind nox_nx fun z => NoX.bind nox_getC fun c => NoX.bind nox_putE fun c' => NoX.bind nox_wrC fun _ => nox_dcompF
      | false => exact nox_dcompF
theorem comp_go {σ : L2.St} {H : Hp} {Q : VK} (hsl : sl ∈ own.map (·.2)) (h : tD X.w X.K C (.comp ie sl (own.map (·.2)) k ies ic) σ H Q) :
    tLc (tDI X.w X.K C k ies) (gName sl) (tDB X.w X.K C.nv ic) (tD X.w X.K C.nv ie) (own.map (·.2)) σ H Q := by
  obtain ⟨ρ, S, env, hS, hE, h⟩ := h
  replace h := wpx_bind.mp h
  refine ⟨ρ, S, env, hS, hE, wpx_bind.mpr (wpx_mono h (fun ds S1 h1 => wpx_mono (wpx_bind.mp h1) (fun J S2 h2 H1 ρ1 T p1 e1 s1 it1 D hD => ?_) fun _ _ z => z) fun _ _ z => z)⟩
  have al := s1.alloc (p := D) (xs := []) (vs := []) hD .nil
  have exD := ex_new (K := X.K) (o := .lst []) hD
  have ED := (hE.mono p1 e1).mono (List.prefix_append ρ1 [D]) exD
  have itD := it1.mono (List.prefix_append ρ1 [D]) exD
  have hlen : S2.length = ρ1.length := s1.len.symm
  have atD : ∀ {ρ' : List Addr}, ρ1 ++ [D] <+: ρ' → ρ'[S2.length]? = some D := fun p => pre_get p (by rw [hlen]; simp)
  refine ⟨fun i m H' => ∃ ρ' S', ρ1 ++ [D] <+: ρ' ∧ Ex X.K (upd H1 D (.lst [])) H' ∧ SR X.w X.K H' ρ' S' ∧ wp (compF J (putD sl) (evE C.c ic) (evE C.c ie) (wipeD env (own.map (·.2))) S2.length m i) (LQ X.w X.K Q ρ' H') S',
    ⟨FUEL, ρ1 ++ [D], _, List.prefix_rfl, Ex.refl, al, wp_mono (nox_compF.wp h2) fun _ _ q => (q.later p1 e1).later (List.prefix_append _ _) exD⟩, ?_⟩
  rintro i m H' ⟨ρ', S', p', e', s', h3⟩
  cases m with
  | zero => exact h3.elim
  | succ f =>
    unfold compF at h3
    replace h3 := wpx_bind.mp h3
    obtain ⟨o, eo, h3⟩ := wp_itAt.mp (nox_itAt.wp h3)
    have it' := itD.mono p' e'
    cases o with
    | none => exact .inl ⟨it_stop it' s' eo, LQ.here h3 s' (by unfold Rp; exact ⟨D, atD p', rfl⟩)⟩
    | some d =>
      obtain ⟨go, yl⟩ := it_item it' s' eo
      refine .inr ⟨go, fun H' => ∃ ρ' S', ρ1 ++ [D] <+: ρ' ∧ Ex X.K (upd H1 D (.lst [])) H' ∧ SR X.w X.K H' ρ' S' ∧ wp (compF J (putD sl) (evE C.c ic) (evE C.c ie) (wipeD env (own.map (·.2))) S2.length f (i + 1)) (LQ X.w X.K Q ρ' H') S', fun H2 q => ⟨f, Nat.lt_succ_self f, q⟩, fun x H2 y => ?_⟩
      obtain ⟨rfl, rd⟩ := yl x H2 y
      refine ⟨wipe_set hsl, ?_⟩
      have E2 : EnvR X.K H2 ρ' (putD sl d (wipeD env (own.map (·.2)))) ((wipe σ (own.map (·.2))).set sl (some x)) := by
        have := ((ED.mono p' e').wipe (own.map (·.2))).set rd sl
        exact this
      replace h3 := wpx_nx.mp (wpx_bind.mp h3)
      refine tDB_of s' E2 h3 fun b S4 h4 => ?_
      replace h4 := wpx_bind.mp h4
      obtain ⟨c, rfl, h4⟩ := wx_asB.mp h4
      refine ⟨c, rfl, fun H4 ρ4 p4 e4 s4 E4 => ?_⟩
      cases c with
      | false =>
        rw [if_neg Bool.false_ne_true]
        exact ⟨ρ4, S4, p'.trans p4, e'.trans e4, s4, wp_mono h4 fun _ _ q => q.later p4 e4⟩
      | true =>
        rw [if_pos rfl]
        replace h4 := wpx_nx.mp (wpx_bind.mp h4)
        refine tD_of s4 E4 h4 fun yv S5 v H5 ρ5 h5 p5 e5 s5 E5 r5 => ?_
        replace h5 := wpx_bind.mp h5
        obtain ⟨acc, ha, h5⟩ := wx_owL.mp h5
        simp only [wpx_bind, wpx_guard, decide_eq_true_eq] at h5
        obtain ⟨hz, h5⟩ := h5
        have h5 := wx_wrL.mp h5
        have hp5 := atD ((p'.trans p4).trans p5)
        obtain ⟨vs, hD5, hr5⟩ := s5.cell _ _ _ ha hp5
        refine ⟨vs, hD5, by rw [← hr5.length]; exact hz, ρ5, _, (p'.trans p4).trans p5, ((e'.trans e4).trans e5).trans (ex_put hD5), s5.put ha hp5 hD5 (hr5.append (.cons r5 .nil)), wp_mono h5 fun _ _ q => ((q.later p4 e4).later p5 e5).later List.prefix_rfl (ex_put hD5)⟩
theorem dcomp_go {ik iv : E} {σ : L2.St} {H : Hp} {Q : VK} (hsl : sl ∈ own.map (·.2)) (h : tD X.w X.K C (.dcomp ik iv sl (own.map (·.2)) k ies ic) σ H Q) :
    tDc (tDI X.w X.K C k ies) (gName sl) (tDB X.w X.K C.nv ic) (tD X.w X.K C.nv ik) (tD X.w X.K C.nv iv) (own.map (·.2)) σ H Q := by
  obtain ⟨ρ, S, env, hS, hE, h⟩ := h
  replace h := wpx_bind.mp h
  refine ⟨ρ, S, env, hS, hE, wpx_bind.mpr (wpx_mono h (fun ds S1 h1 => wpx_mono (wpx_bind.mp h1) (fun J S2 h2 H1 ρ1 T p1 e1 s1 it1 D hD => ?_) fun _ _ z => z) fun _ _ z => z)⟩
  have al := s1.allocC (p := D) (c0 := .dct []) (o := .dK []) hD (.inl ⟨[], upd_same, rfl, .nil⟩)
  have exD := ex_new (K := X.K) (o := .dK []) hD
  have ED := (hE.mono p1 e1).mono (List.prefix_append ρ1 [D]) exD
  have itD := it1.mono (List.prefix_append ρ1 [D]) exD
  have hlen : S2.length = ρ1.length := s1.len.symm
  have atD : ∀ {ρ' : List Addr}, ρ1 ++ [D] <+: ρ' → ρ'[S2.length]? = some D := fun p => pre_get p (by rw [hlen]; simp)
  refine ⟨fun i m H' => ∃ ρ' S', ρ1 ++ [D] <+: ρ' ∧ Ex X.K (upd H1 D (.dK [])) H' ∧ SR X.w X.K H' ρ' S' ∧ wp (dcompF J (putD sl) (evE C.c ic) (evE C.c ik) (evE C.c iv) (wipeD env (own.map (·.2))) S2.length m i) (LQ X.w X.K Q ρ' H') S',
    ⟨FUEL, ρ1 ++ [D], _, List.prefix_rfl, Ex.refl, al, wp_mono (nox_dcompF.wp h2) fun _ _ q => (q.later p1 e1).later (List.prefix_append _ _) exD⟩, ?_⟩
  rintro i m H' ⟨ρ', S', p', e', s', h3⟩
  cases m with
  | zero => exact h3.elim
  | succ f =>
    unfold dcompF at h3
    replace h3 := wpx_bind.mp h3
    obtain ⟨o, eo, h3⟩ := wp_itAt.mp (nox_itAt.wp h3)
    have it' := itD.mono p' e'
    cases o with
    | none => exact .inl ⟨it_stop it' s' eo, LQ.here h3 s' (by unfold Rp; exact ⟨D, atD p', rfl⟩)⟩
    | some d =>
      obtain ⟨go, yl⟩ := it_item it' s' eo
      refine .inr ⟨go, fun H' => ∃ ρ' S', ρ1 ++ [D] <+: ρ' ∧ Ex X.K (upd H1 D (.dK [])) H' ∧ SR X.w X.K H' ρ' S' ∧ wp (dcompF J (putD sl) (evE C.c ic) (evE C.c ik) (evE C.c iv) (wipeD env (own.map (·.2))) S2.length f (i + 1)) (LQ X.w X.K Q ρ' H') S', fun H2 q => ⟨f, Nat.lt_succ_self f, q⟩, fun x H2 y => ?_⟩
      obtain ⟨rfl, rd⟩ := yl x H2 y
      refine ⟨wipe_set hsl, ?_⟩
      have E2 : EnvR X.K H2 ρ' (putD sl d (wipeD env (own.map (·.2)))) ((wipe σ (own.map (·.2))).set sl (some x)) := by
        have := ((ED.mono p' e').wipe (own.map (·.2))).set rd sl
        exact this
      replace h3 := wpx_nx.mp (wpx_bind.mp h3)
      refine tDB_of s' E2 h3 fun b S4 h4 => ?_
      replace h4 := wpx_bind.mp h4
      obtain ⟨c, rfl, h4⟩ := wx_asB.mp h4
      refine ⟨c, rfl, fun H4 ρ4 p4 e4 s4 E4 => ?_⟩
      cases c with
      | false =>
        rw [if_neg Bool.false_ne_true]
        exact ⟨ρ4, S4, p'.trans p4, e'.trans e4, s4, wp_mono h4 fun _ _ q => q.later p4 e4⟩
      | true =>
        rw [if_pos rfl]
        replace h4 := wpx_nx.mp (wpx_bind.mp h4)
        refine tD_of s4 E4 h4 fun yv S5 v H5 ρ5 h5 p5 e5 s5 E5 r5 => ?_
        replace h5 := wpx_bind.mp h5
        simp only [wpx_guard] at h5
        obtain ⟨hsc, h5⟩ := h5
        replace h5 := wpx_nx.mp (wpx_bind.mp h5)
        refine tD_of s5 E5 h5 fun zv S6 z H6 ρ6 h6 p6 e6 s6 E6 r6 => ?_
        obtain ⟨cc, hc, h6⟩ := wx_getC.mp (wpx_bind.mp h6)
        replace h6 := wpx_bind.mp h6
        have hp6 := atD (((p'.trans p4).trans p5).trans p6)
        have cr := s6.cell _ _ _ hc hp6
        cases cc with
        | lst _ => exact False.elim h6
        | ro _ => exact False.elim h6
        | obj _ _ => exact False.elim h6
        | dct kvs =>
          obtain ⟨kvs', g, h6⟩ := wpx_opt.mp (show wpx (opt (dSet kvs yv zv)) _ _ _ from wpx_bind.mp h6)
          have h6 := wx_wrC.mp (wpx_bind.mp (show wpx (M.bind (wrC S2.length (.dct kvs')) fun _ => dcompF J (putD sl) (evE C.c ic) (evE C.c ik) (evE C.c iv) (wipeD env (own.map (·.2))) S2.length f (i + 1)) (LQ X.w X.K Q ρ' H2) E0x S6 from h6))
          obtain ⟨k, hk, hf, hz, rfl⟩ := dset_some g
          have r5' := r5.mono p6 e6
          have hk2 : isTK k = false ∧ ∃ q : Key, v = kV q ∧ k = toK q := by
            rcases dkey_sc r5' hk with ⟨_, xs0, rfl⟩ | q
            · cases hsc
            · exact q
          obtain ⟨ht, q, rfl, rfl⟩ := hk2
          rcases cr with ⟨ks, g1, g2, g3⟩ | ⟨xs, g0, g1, g2, g3, g4⟩
          · have e2 := congrArg List.length g2
            simp only [List.length_map] at e2
            obtain ⟨e', r'⟩ := putK_rel (q := q) (v := z) r6 g2 g3
            have ex : Ex X.K H6 (upd H6 D (.dK (putK ks q z))) := ex_wr g1 rfl
            refine ⟨ks, q, rfl, g1, by omega, ρ6, _, ((p'.trans p4).trans p5).trans p6, ?_, s6.putC (c1 := .dct (dPut kvs (toK q) zv)) hc hp6 rfl rfl (.inl ⟨_, upd_same, e', r'.mono List.prefix_rfl ex⟩), wp_mono h6 fun _ _ q => (((q.later p4 e4).later p5 e5).later p6 e6).later List.prefix_rfl ex⟩
            rename_i e0 _ _ _
            exact (((‹Ex X.K (upd H1 D (.dK [])) H2›.trans e4).trans e5).trans e6).trans ex
          · exact absurd (nil_xs hf ht g2 g4).2 g0
def notSet : Expr → Bool
  | .Set _ _ _ => false
  | _ => true
theorem notSet_ok {env : PySem.Env} (h : notSet iter = true) : ∀ x, foldedSetIterable iter env x = pure x := by
  intro x
  cases iter <;> first | rfl | cases h
theorem se_comp (G : Good X C sc N names) (hi : PI X (.Name x tpos) iter (tDI X.w X.K C k ies)) (ok : blkC N sc scope own = true) (hsl : sl ∈ own.map (·.2)) (hN : N[sl]? = some x) (hx : isLoc scope x = true) (hset : notSet iter = true)
    (ht : ∀ (s : Shared) (H : Hp) (A : Addr) (cl : List (Str × Addr)) (fp : List Addr), PTs (X.blk s H scope (compEnvC scope cl A X.env) fp) ifs (tDB X.w X.K C.nv ic))
    (he : ∀ (s : Shared) (H : Hp) (A : Addr) (cl : List (Str × Addr)) (fp : List Addr), PE (X.blk s H scope (compEnvC scope cl A X.env) fp) elt (tD X.w X.K C.nv ie)) :
    PE X (.ListComp elt [⟨.Name x tpos, iter, ifs, 0⟩] scope pos) (tD X.w X.K C (.comp ie sl (own.map (·.2)) k ies ic)) := by
  have B := G.blkOk ok
  refine pe_imp (pe_lc (g := gName sl) G.calm (by rw [G.N_eq]; exact G.nd) hi B (fun s H A cl fp => ?_) ht he (notSet_ok hset)) fun σ H Q h => comp_go hsl h
  have G' := G.blk B.kind s H A cl fp
  obtain ⟨h1, h2⟩ := G'.lo hx
  exact pg_name (by rw [G.N_eq]; exact G.nd) (by rw [G.N_eq]; exact hN) h1 h2
theorem se_dcomp {ek ev : Expr} {ik iv : E} (G : Good X C sc N names) (hi : PI X (.Name x tpos) iter (tDI X.w X.K C k ies)) (ok : blkC N sc scope own = true) (hsl : sl ∈ own.map (·.2)) (hN : N[sl]? = some x) (hx : isLoc scope x = true) (hset : notSet iter = true)
    (ht : ∀ (s : Shared) (H : Hp) (A : Addr) (cl : List (Str × Addr)) (fp : List Addr), PTs (X.blk s H scope (compEnvC scope cl A X.env) fp) ifs (tDB X.w X.K C.nv ic))
    (hk : ∀ (s : Shared) (H : Hp) (A : Addr) (cl : List (Str × Addr)) (fp : List Addr), PE (X.blk s H scope (compEnvC scope cl A X.env) fp) ek (tD X.w X.K C.nv ik))
    (hv : ∀ (s : Shared) (H : Hp) (A : Addr) (cl : List (Str × Addr)) (fp : List Addr), PE (X.blk s H scope (compEnvC scope cl A X.env) fp) ev (tD X.w X.K C.nv iv)) :
    PE X (.DictComp ek ev [⟨.Name x tpos, iter, ifs, 0⟩] scope pos) (tD X.w X.K C (.dcomp ik iv sl (own.map (·.2)) k ies ic)) := by
  have B := G.blkOk ok
  refine pe_imp (pe_dc (g := gName sl) G.calm (by rw [G.N_eq]; exact G.nd) hi B (fun s H A cl fp => ?_) ht hk hv (notSet_ok hset)) fun σ H Q h => dcomp_go hsl h
  have G' := G.blk B.kind s H A cl fp
  obtain ⟨h1, h2⟩ := G'.lo hx
  exact pg_name (by rw [G.N_eq]; exact G.nd) (by rw [G.N_eq]; exact hN) h1 h2
/-! ### statements -/
def LS (w : World) (K : PySem.W.Frag) (D : Ends) (ρ : List Addr) (H : Hp) : Flow × Nv → Store → Prop := fun r S => ∀ H' ρ', ρ <+: ρ' → Ex K H H' → SR w K H' ρ' S → match r.1 with
  | .nx => ∀ σ, EnvR K H' ρ' r.2 σ → D.nx σ H'
  | .bk => ∀ σ, EnvR K H' ρ' r.2 σ → D.bk σ H'
  | .ct => ∀ σ, EnvR K H' ρ' r.2 σ → D.ct σ H'
  | .rt d => ∀ v, Rp K H' ρ' d v → D.rt v H'
theorem LS.later {w : World} {K : PySem.W.Frag} {D : Ends} {ρ ρ' : List Addr} {H H' : Hp} {r : Flow × Nv} {S : Store} (h : LS w K D ρ H r S) (p : ρ <+: ρ') (e : Ex K H H') : LS w K D ρ' H' r S := fun H2 ρ2 p2 e2 => h H2 ρ2 (p.trans p2) (e.trans e2)
def tDS (w : World) (K : PySem.W.Frag) (C : CtxW) (ir : Sm) : TS := fun D σ H => ∃ ρ S env, SR w K H ρ S ∧ EnvR K H ρ env σ ∧ wpx (evS C.c ir env) (LS w K D ρ H) (EQ w K C env ρ H) S
def tDSs (w : World) (K : PySem.W.Frag) (C : CtxW) (ir : Sms) : TS := fun D σ H => ∃ ρ S env, SR w K H ρ S ∧ EnvR K H ρ env σ ∧ wpx (evSs C.c ir env) (LS w K D ρ H) (EQ w K C env ρ H) S
variable {st : Stmt} {sts : List Stmt} {is : Sm} {iss iss2 : Sms} {e tg c : Expr} {b1 b2 : List Stmt} {pt : Pat}
theorem ss_nil : PSs X [] (tDSs X.w X.K C .nil) := pss_imp pss_nil fun D σ H ⟨ρ, S, env, hS, hE, h⟩ => h H ρ List.prefix_rfl Ex.refl hS σ hE
theorem ss_cons (hi : Ind C) (h1 : PS X st (tDS X.w X.K C is)) (h2 : PSs X sts (tDSs X.w X.K C iss)) : PSs X (st :: sts) (tDSs X.w X.K C (.cons is iss)) :=
  pss_imp (pss_cons h1 h2) fun D σ H ⟨ρ, S, env, hS, hE, h⟩ => by
    replace h := wpx_bind.mp h
    refine ⟨ρ, S, env, hS, hE, wpx_mono h (fun r S1 q H1 ρ1 p1 e1 s1 => ?_) fun _ _ z => z⟩
    obtain ⟨fl, env1⟩ := r
    cases fl with
    | nx => exact fun σ1 E1 => ⟨ρ1, S1, env1, s1, E1, wpx_mono q (fun _ _ z => z.later p1 e1) fun _ _ z => z.env hi (hE.mono p1 e1) p1 e1⟩
    | bk => exact q H1 ρ1 p1 e1 s1
    | ct => exact q H1 ρ1 p1 e1 s1
    | rt d => exact q H1 ρ1 p1 e1 s1
def isComp : Expr → Bool
  | .ListComp _ _ _ _ => true
  | .SetComp _ _ _ _ => true
  | .DictComp _ _ _ _ _ => true
  | _ => false
theorem sw_no {e : Expr} {t : Option Expr} {l : Nat} {env : PySem.Env} (h : isComp e = false) : swapsWith e t l env = pure false := by
  cases e <;> first | rfl | cases h
theorem ss_expr (he : PE X e (tD X.w X.K C ie)) (hc : isComp e = false) : PS X (.Expr e pos) (tDS X.w X.K C (.expr ie)) :=
  ps_imp (ps_expr he (sw_no hc)) fun D σ H ⟨ρ, S, env, hS, hE, h⟩ => by
    replace h := wpx_bind.mp h
    exact tD_of hS hE h fun d S1 v H1 ρ1 q p1 e1 s1 E1 r1 => q H1 ρ1 p1 e1 s1 σ E1
theorem ss_ret (he : PE X e (tD X.w X.K C ie)) : PS X (.Return (some e) pos) (tDS X.w X.K C (.ret ie)) :=
  ps_imp (ps_ret he) fun D σ H ⟨ρ, S, env, hS, hE, h⟩ => by
    replace h := wpx_bind.mp h
    exact tD_of hS hE h fun d S1 v H1 ρ1 q p1 e1 s1 E1 r1 => q H1 ρ1 p1 e1 s1 v r1
theorem ss_retN : PS X (.Return none pos) (tDS X.w X.K C (.ret (.c .non))) :=
  ps_imp ps_retN fun D σ H ⟨ρ, S, env, hS, hE, h⟩ => h H ρ List.prefix_rfl Ex.refl hS .non .non
theorem ss_pass : PS X (.Pass pos) (tDS X.w X.K C .pass) := ps_imp ps_pass fun D σ H ⟨ρ, S, env, hS, hE, h⟩ => h H ρ List.prefix_rfl Ex.refl hS σ hE
theorem ss_brk : PS X (.Break pos) (tDS X.w X.K C .brk) := ps_imp ps_break fun D σ H ⟨ρ, S, env, hS, hE, h⟩ => h H ρ List.prefix_rfl Ex.refl hS σ hE
theorem ss_cnt : PS X (.Continue pos) (tDS X.w X.K C .cnt) := ps_imp ps_continue fun D σ H ⟨ρ, S, env, hS, hE, h⟩ => h H ρ List.prefix_rfl Ex.refl hS σ hE
theorem ss_if (hc : PT X c (tDB X.w X.K C ic)) (h1 : PSs X b1 (tDSs X.w X.K C iss)) (h2 : PSs X b2 (tDSs X.w X.K C iss2)) : PS X (.If c b1 b2 pos) (tDS X.w X.K C (.ife ic iss iss2)) :=
  ps_imp (ps_if hc h1 h2) fun D σ H ⟨ρ, S, env, hS, hE, h⟩ => by
    replace h := wpx_bind.mp h
    refine tDB_of hS hE h fun d S1 q => ?_
    replace q := wpx_bind.mp q
    obtain ⟨k, rfl, q⟩ := wx_asB.mp q
    refine ⟨k, rfl, fun H1 ρ1 p1 e1 s1 E1 => ?_⟩
    cases k with
    | true => rw [if_pos rfl]; exact ⟨ρ1, S1, env, s1, E1, wpx_mono q (fun _ _ z => z.later p1 e1) fun _ _ z => z.later p1 e1⟩
    | false => rw [if_neg Bool.false_ne_true]; exact ⟨ρ1, S1, env, s1, E1, wpx_mono q (fun _ _ z => z.later p1 e1) fun _ _ z => z.later p1 e1⟩
theorem ss_while (hi : Ind C) (hp : PassesOwn (model X.prog X.w) X.A X.env X.xe) (hc : PT X c (tDB X.w X.K C ic)) (h1 : PSs X b1 (tDSs X.w X.K C iss)) : PS X (.While c b1 [] pos) (tDS X.w X.K C (.whl ic iss)) :=
  ps_imp (ps_while hp hc h1) fun D σ H ⟨ρ, S, env, hS, hE, h⟩ => by
    refine ⟨fun m σ' H' => ∃ ρ' S' env', SR X.w X.K H' ρ' S' ∧ EnvR X.K H' ρ' env' σ' ∧ wpx (whileF (evE C.c ic) (evSs C.c iss) m env') (LS X.w X.K D ρ' H') (EQ X.w X.K C env' ρ' H') S', ⟨FUEL, ρ, S, env, hS, hE, h⟩, ?_⟩
    rintro m σ' H' ⟨ρ', S', env', s', E', h'⟩
    cases m with
    | zero => exact h'.elim
    | succ f =>
      unfold whileF at h'
      replace h' := wpx_bind.mp h'
      refine tDB_of s' E' h' fun d S1 q => ?_
      replace q := wpx_bind.mp q
      obtain ⟨k, rfl, q⟩ := wx_asB.mp q
      refine ⟨k, rfl, fun H1 ρ1 p1 e1 s1 E1 => ?_⟩
      cases k with
      | false =>
        rw [if_neg Bool.false_ne_true]
        exact (show LS X.w X.K D ρ' H' (.nx, env') S1 from q) H1 ρ1 p1 e1 s1 σ' E1
      | true =>
        rw [if_pos rfl]
        replace q := wpx_bind.mp q
        refine ⟨fun σ2 H2 => ∃ ρ' S' env', SR X.w X.K H2 ρ' S' ∧ EnvR X.K H2 ρ' env' σ2 ∧ wpx (whileF (evE C.c ic) (evSs C.c iss) f env') (LS X.w X.K D ρ' H2) (EQ X.w X.K C env' ρ' H2) S', fun σ2 H2 z => ⟨f, Nat.lt_succ_self f, z⟩, ρ1, S1, env', s1, E1, wpx_mono q (fun r S2 z H2 ρ2 p2 e2 s2 => ?_) fun _ _ z => z.later p1 e1⟩
        obtain ⟨fl, env2⟩ := r
        cases fl with
        | nx => exact fun σ2 E2 => ⟨ρ2, S2, env2, s2, E2, wpx_mono z (fun _ _ y => (y.later p1 e1).later p2 e2) fun _ _ y => y.env hi (E1.mono p2 e2) (p1.trans p2) (e1.trans e2)⟩
        | ct => exact fun σ2 E2 => ⟨ρ2, S2, env2, s2, E2, wpx_mono z (fun _ _ y => (y.later p1 e1).later p2 e2) fun _ _ y => y.env hi (E1.mono p2 e2) (p1.trans p2) (e1.trans e2)⟩
        | bk => exact fun σ2 E2 => (LS.later (show LS X.w X.K D ρ' H' (.nx, env2) S2 from z) p1 e1) H2 ρ2 p2 e2 s2 σ2 E2
        | rt d => exact fun v r => (LS.later (show LS X.w X.K D ρ' H' (.rt d, env2) S2 from z) p1 e1) H2 ρ2 p2 e2 s2 v r
theorem ss_for (hI : Ind C) (G : Good X C sc N names) (hi : PI X tg iter (tDI X.w X.K C k ies)) (hg : PG X tg (tDG X.w X.K C pt)) (h1 : PSs X b1 (tDSs X.w X.K C iss)) (hset : notSet iter = true) : PS X (.For tg iter b1 [] pos) (tDS X.w X.K C (.fr pt k ies iss)) :=
  ps_imp (ps_for G.po G.calm hi hg h1 (notSet_ok hset)) fun D σ H ⟨ρ, S, env, hS, hE, h⟩ => by
    replace h := wpx_bind.mp h
    refine ⟨ρ, S, env, hS, hE, wpx_bind.mpr (wpx_mono h (fun ds S1 q => wpx_mono (wpx_bind.mp q) (fun J S2 q2 H1 ρ1 T p1 e1 s1 it1 => ?_) fun _ _ z => z) fun _ _ z => z)⟩
    refine ⟨fun i m σ' H' => ∃ ρ' S' env', ρ1 <+: ρ' ∧ Ex X.K H1 H' ∧ SR X.w X.K H' ρ' S' ∧ EnvR X.K H' ρ' env' σ' ∧ wpx (forF J (evP C.c pt) (evSs C.c iss) m i env') (LS X.w X.K D ρ' H') (EQ X.w X.K C env' ρ' H') S',
      ⟨FUEL, ρ1, S2, env, List.prefix_rfl, Ex.refl, s1, hE.mono p1 e1, wpx_mono q2 (fun _ _ z => z.later p1 e1) fun _ _ z => z.later p1 e1⟩, ?_⟩
    rintro i m σ' H' ⟨ρ', S', env', p', e', s', E', h'⟩
    cases m with
    | zero => exact h'.elim
    | succ f =>
      unfold forF at h'
      replace h' := wpx_bind.mp h'
      obtain ⟨o, eo, h'⟩ := wp_itAt.mp (nox_itAt.wp h')
      have it' := it1.mono p' e'
      cases o with
      | none => exact .inl ⟨it_stop it' s' eo, (show LS X.w X.K D ρ' H' (.nx, env') S' from h') H' ρ' List.prefix_rfl Ex.refl s' σ' E'⟩
      | some d =>
        obtain ⟨go, yl⟩ := it_item it' s' eo
        refine .inr ⟨go, fun σ2 H2 => ∃ ρ' S' env', ρ1 <+: ρ' ∧ Ex X.K H1 H2 ∧ SR X.w X.K H2 ρ' S' ∧ EnvR X.K H2 ρ' env' σ2 ∧ wpx (forF J (evP C.c pt) (evSs C.c iss) f (i + 1) env') (LS X.w X.K D ρ' H2) (EQ X.w X.K C env' ρ' H2) S', fun σ2 H2 z => ⟨f, Nat.lt_succ_self f, z⟩, fun x H2 y => ?_⟩
        obtain ⟨rfl, rd⟩ := yl x H2 y
        replace h' := wpx_bind.mp h'
        refine ⟨ρ', S', env', d, s', E', rd, wp_mono ((nox_evP _ _ _).wp h') fun env3 S3 z σ3 H3 ρ3 p3 e3 s3 E3 => ?_⟩
        replace z := wpx_bind.mp z
        refine ⟨ρ3, S3, env3, s3, E3, wpx_mono z (fun r S4 z H4 ρ4 p4 e4 s4 => ?_) fun _ _ z => z.env hI (E'.mono p3 e3) p3 e3⟩
        obtain ⟨fl, env4⟩ := r
        cases fl with
        | nx => exact fun σ4 E4 => ⟨ρ4, S4, env4, (p'.trans p3).trans p4, (e'.trans e3).trans e4, s4, E4, wpx_mono z (fun _ _ y => (y.later p3 e3).later p4 e4) fun _ _ y => y.env hI (E'.mono (p3.trans p4) (e3.trans e4)) (p3.trans p4) (e3.trans e4)⟩
        | ct => exact fun σ4 E4 => ⟨ρ4, S4, env4, (p'.trans p3).trans p4, (e'.trans e3).trans e4, s4, E4, wpx_mono z (fun _ _ y => (y.later p3 e3).later p4 e4) fun _ _ y => y.env hI (E'.mono (p3.trans p4) (e3.trans e4)) (p3.trans p4) (e3.trans e4)⟩
        | bk => exact fun σ4 E4 => (LS.later (show LS X.w X.K D ρ' H2 (.nx, env4) S4 from z) p3 e3) H4 ρ4 p4 e4 s4 σ4 E4
        | rt d => exact fun v r => (LS.later (show LS X.w X.K D ρ' H2 (.rt d, env4) S4 from z) p3 e3) H4 ρ4 p4 e4 s4 v r
theorem set_go {σ : L2.St} {H : Hp} {D : Ends} (h : tDS X.w X.K C (.set pt ie) D σ H) : tAsg (tD X.w X.K C ie) (tDG X.w X.K C pt) D σ H := by
  obtain ⟨ρ, S, env, hS, hE, h⟩ := h
  replace h := wpx_bind.mp h
  refine tD_of hS hE h fun d S1 v H1 ρ1 q p1 e1 s1 E1 r1 => ?_
  replace q := wpx_bind.mp q
  exact ⟨ρ1, S1, env, d, s1, E1, r1, wp_mono ((nox_evP _ _ _).wp q) fun env2 S2 z σ2 H2 ρ2 p2 e2 s2 E2 => (LS.later (show LS X.w X.K D ρ H (.nx, env2) S2 from z) p1 e1) H2 ρ2 p2 e2 s2 σ2 E2⟩
/-- is the pair of targets stored from the right -/
def swapFree : Expr → Expr → Bool
  | .Tuple ts _ _, .Tuple _ _ _ => ts.all fun t => match t with
    | .Subscript _ _ _ => true
    | _ => false
  | .List _ _, .Tuple _ _ _ => false
  | _, _ => true
theorem swapped_no {env : PySem.Env} (h : swapFree tg e = true) : swappedStores [tg] e env = pure none := by
  cases tg with
  | Tuple ts k p =>
    cases e with
    | Tuple vs k2 p2 =>
      have h : (ts.all fun t => match t with | .Subscript _ _ _ => true | _ => false) = true := h
      unfold swappedStores
      simp only [pure_bind]
      split
      · rfl
      · rename_i h1
        split
        · rfl
        · split
          · rfl
          · rename_i h2
            refine absurd ?_ h2
            rw [List.filterMap_eq_nil_iff.mpr (by
              intro t ht
              have := List.all_eq_true.mp h t ht
              cases t <;> first | rfl | (simp at this))]
            simp at h1 ⊢
            omega
    | _ => rfl
  | List ts p =>
    cases e with
    | Tuple vs k2 p2 => cases h
    | _ => rfl
  | _ => cases e <;> rfl
/-- the store does not happen within the block: no comprehension, or a name that is a cell -/
def swOk (sc : Scope) (tg e : Expr) : Bool := !isComp e || (match tg with
  | .Name y _ => decide (sc.names.lookup y = some .cell)
  | _ => true)
theorem sw_cell {e : Expr} {y : Str} {py : Pos} {l : Nat} {env : PySem.Env} (h : env.scope.names.lookup y = some .cell) : swapsWith e (some (.Name y py)) l env = pure false := by
  have ky : env.kindOf y = some .cell := h
  unfold swapsWith
  have kk : (NameKind.cell == NameKind.local) = false := rfl
  cases e <;> first | rfl | (simp only [ky]; simp [kk])
theorem swOk_no (G : Good X C sc N names) {tg e : Expr} {l : Nat} (h : swOk sc tg e = true) : swapsWith e (some tg) l X.env = pure false := by
  unfold swOk at h
  rw [Bool.or_eq_true] at h
  rcases h with h | h
  · exact sw_no (by cases hc : isComp e with | false => rfl | true => rw [hc] at h; cases h)
  · cases tg with
    | Name y py => exact sw_cell (G.cll _ (of_decide_eq_true h))
    | _ => unfold swapsWith; cases e <;> rfl
theorem ss_set (G : Good X C sc N names) (he : PE X e (tD X.w X.K C ie)) (hg : PG X tg (tDG X.w X.K C pt)) (hc : swOk sc tg e = true) (hs : notStar tg = true) (hw : swapFree tg e = true) : PS X (.Assign [tg] e pos) (tDS X.w X.K C (.set pt ie)) :=
  ps_imp (ps_asg he hg (swOk_no G hc) (swapped_no hw) (by rw [each_one hs]; rfl)) fun D σ H h => set_go h
/-- name = [..] -/
theorem ss_setC (G : Good X C sc N names) (hi : PI X (.Name x tpos) iter (tDI X.w X.K C k ies)) (ok : blkC N sc scope own = true) (hsl : sl ∈ own.map (·.2)) (hN : N[sl]? = some x) (hx : isLoc scope x = true) (hset : notSet iter = true)
    (ht : ∀ (s : Shared) (H : Hp) (A : Addr) (cl : List (Str × Addr)) (fp : List Addr), PTs (X.blk s H scope (compEnvC scope cl A X.env) fp) ifs (tDB X.w X.K C.nv ic))
    (he : ∀ (s : Shared) (H : Hp) (A : Addr) (cl : List (Str × Addr)) (fp : List Addr), PE (X.blk s H scope (compEnvC scope cl A X.env) fp) elt (tD X.w X.K C.nv ie))
    (hy : N[i]? = some y) (hyl : sc.names.lookup y = some .local) (hl : (py'.line == pos.line) = true) (ha : (scope.names.any fun (n, k) => n == y && (k == .local || k == .cell)) = false) :
    PS X (.Assign [.Name y py'] (.ListComp elt [⟨.Name x tpos, iter, ifs, 0⟩] scope pos) spos) (tDS X.w X.K C (.set (.nm i) (.comp ie sl (own.map (·.2)) k ies ic))) := by
  have B := G.blkOk ok
  have hyl' := G.lcl _ hyl
  refine ps_imp (ps_setLc (i := i) (g := gName sl) G.calm (by rw [G.N_eq]; exact G.nd) (by rw [G.N_eq]; exact hy) hyl' (sw_true G.kind hyl' hl ha) hi B (fun s H A cl fp => ?_) ht he (notSet_ok hset)) fun D σ H ⟨ρ, S, env, hS, hE, h⟩ => ?_
  · have G' := G.blk B.kind s H A cl fp
    obtain ⟨h1, h2⟩ := G'.lo hx
    exact pg_name (by rw [G.N_eq]; exact G.nd) (by rw [G.N_eq]; exact hN) h1 h2
  · replace h := wpx_bind.mp h
    refine comp_go hsl (tD_of hS hE h fun d S1 v H1 ρ1 q p1 e1 s1 E1 r1 => ?_)
    exact q H1 ρ1 p1 e1 s1 _ (E1.set r1 i)
/-- name = {..: .. for ..}, the name's store within the block -/
theorem ps_setDc {i : Nat} {y : Str} {py : Pos} {kx vx tg iter : Expr} {ifs : List Expr} {scope : Scope} {own : List (Str × Nat)} {pos spos : Pos} {wi : TI} {g : TG} {tt : TT} {tk tv : TE} (hc : X.calm = true) (hN : X.N.Nodup) (hy : X.N[i]? = some y) (hyl : X.env.scope.names.lookup y = some .local)
    (hsw : swapsWith (.DictComp kx vx [⟨tg, iter, ifs, 0⟩] scope pos) (some (.Name y py)) spos.line X.env = pure true) (hi : PI X tg iter wi) (ok : BlkOk X.N X.env.scope scope own)
    (hg : ∀ (s : Shared) (H : Hp) (C : Addr) (cl : List (Str × Addr)) (fp : List Addr), PG (X.blk s H scope (compEnvC scope cl C X.env) fp) tg g) (ht : ∀ (s : Shared) (H : Hp) (C : Addr) (cl : List (Str × Addr)) (fp : List Addr), PTs (X.blk s H scope (compEnvC scope cl C X.env) fp) ifs tt)
    (hk : ∀ (s : Shared) (H : Hp) (C : Addr) (cl : List (Str × Addr)) (fp : List Addr), PE (X.blk s H scope (compEnvC scope cl C X.env) fp) kx tk) (hv : ∀ (s : Shared) (H : Hp) (C : Addr) (cl : List (Str × Addr)) (fp : List Addr), PE (X.blk s H scope (compEnvC scope cl C X.env) fp) vx tv)
    (hs : ∀ x, foldedSetIterable iter X.env x = pure x) : PS X (.Assign [.Name y py] (.DictComp kx vx [⟨tg, iter, ifs, 0⟩] scope pos) spos) (tAsg (tDc wi g tt tk tv (own.map (·.2))) (gName i)) := by
  refine ⟨fun pins s σ H D I h => ?_⟩
  rw [exec_Assign_Name_used _ _ _ _ hsw]
  refine wpAny_bind (wpAny_standAt (wpAny_bind ?_))
  show wpAny _ X.A (do let _ ← comprehension (.DictComp kx vx [⟨tg, iter, ifs, 0⟩] scope pos) scope X.env (firstIterPos [⟨tg, iter, ifs, 0⟩] pos) newDict false (eval iter X.env) (some (assign (.Name y py) X.env))) _ _ s
  have h : tDc wi g tt tk tv (own.map (·.2)) σ H (fun x H1 => gName i x σ H1 D.nx) := h
  refine wpAny_bind (thn (dc_core (Qf := fun _ s' => SP X pins D .next s') hc hN I hi ok hg ht hk hv hs h fun L C s' m H' I' q hn f => ?_) fun _ s' hq => wpAny_pure (wpAny_pure hq))
  refine wpAny_assign_Name (store_ok2 (v := V.ref L) I' hN hy (.inl hyl) rfl (fun s2 I2 ⟨a, sb, ha⟩ => ?_) (.inr hyl))
  obtain ⟨f0, f1, f2, f3, f4, f5⟩ := f
  have haC : C ≠ a := by
    rcases ha with z | z
    · rw [z]; exact f1
    · exact fun e => f4 y a z e.symm
  exact ⟨m, hn.sameBut sb haC, fun h3 sb3 => ⟨_, H', I2.turned (t' := s2.toks) (fun b o hb e => (sb3.2 b hb).trans e) f0 f1 f3 f4 f5, q⟩⟩
theorem swd_true {kx vx : Expr} {gs : List Comprehension} {scope : Scope} {pos py : Pos} {y : Str} {l : Nat} {env : PySem.Env} (hk : env.scope.kind = .function) (hy : env.scope.names.lookup y = some .local) (hl : (py.line == pos.line) = true)
    (ha : (scope.names.any fun (n, k) => n == y && (k == .local || k == .cell)) = false) : swapsWith (.DictComp kx vx gs scope pos) (some (.Name y py)) l env = pure true := by
  have ky : env.kindOf y = some .local := hy
  have hb : env.blockKind = .function := by unfold Env.blockKind; rw [hk]; rfl
  unfold swapsWith
  simp only [hb, ky, ha, Expr.pos, hl]
  rfl
theorem ss_setDc {ek ev : Expr} {ik iv : E} (G : Good X C sc N names) (hi : PI X (.Name x tpos) iter (tDI X.w X.K C k ies)) (ok : blkC N sc scope own = true) (hsl : sl ∈ own.map (·.2)) (hN : N[sl]? = some x) (hx : isLoc scope x = true) (hset : notSet iter = true)
    (ht : ∀ (s : Shared) (H : Hp) (A : Addr) (cl : List (Str × Addr)) (fp : List Addr), PTs (X.blk s H scope (compEnvC scope cl A X.env) fp) ifs (tDB X.w X.K C.nv ic))
    (hek : ∀ (s : Shared) (H : Hp) (A : Addr) (cl : List (Str × Addr)) (fp : List Addr), PE (X.blk s H scope (compEnvC scope cl A X.env) fp) ek (tD X.w X.K C.nv ik))
    (hev : ∀ (s : Shared) (H : Hp) (A : Addr) (cl : List (Str × Addr)) (fp : List Addr), PE (X.blk s H scope (compEnvC scope cl A X.env) fp) ev (tD X.w X.K C.nv iv))
    (hy : N[i]? = some y) (hyl : sc.names.lookup y = some .local) (hl : (py'.line == pos.line) = true) (ha : (scope.names.any fun (n, k) => n == y && (k == .local || k == .cell)) = false) :
    PS X (.Assign [.Name y py'] (.DictComp ek ev [⟨.Name x tpos, iter, ifs, 0⟩] scope pos) spos) (tDS X.w X.K C (.set (.nm i) (.dcomp ik iv sl (own.map (·.2)) k ies ic))) := by
  have B := G.blkOk ok
  have hyl' := G.lcl _ hyl
  refine ps_imp (ps_setDc (i := i) (g := gName sl) G.calm (by rw [G.N_eq]; exact G.nd) (by rw [G.N_eq]; exact hy) hyl' (swd_true G.kind hyl' hl ha) hi B (fun s H A cl fp => ?_) ht hek hev (notSet_ok hset)) fun D σ H ⟨ρ, S, env, hS, hE, h⟩ => ?_
  · have G' := G.blk B.kind s H A cl fp
    obtain ⟨h1, h2⟩ := G'.lo hx
    exact pg_name (by rw [G.N_eq]; exact G.nd) (by rw [G.N_eq]; exact hN) h1 h2
  · replace h := wpx_bind.mp h
    refine dcomp_go hsl (tD_of hS hE h fun d S1 v H1 ρ1 q p1 e1 s1 E1 r1 => ?_)
    exact q H1 ρ1 p1 e1 s1 _ (E1.set r1 i)
theorem ss_aug {op : Operator} {o : BOp} (G : Good X C sc N names) (ho : opOf op = some o) (hN : N[i]? = some x) (hx : isLoc sc x = true) (he : PE X e (tD X.w X.K C ie)) : PS X (.AugAssign (.Name x tpos) op e pos) (tDS X.w X.K C (.aug i o ie)) := by
  obtain ⟨h1, h2⟩ := G.lo hx
  have hop : PIp X op (fun x y H Q => ∃ ρ S d e, SR X.w X.K H ρ S ∧ Rp X.K H ρ d x ∧ Rp X.K H ρ e y ∧ wp (augop o d e) (LQ X.w X.K Q ρ H) S) := by
    intro pins s σ H x y v u Q I rx ry ⟨ρ, S, d, e, hS, hd, he, h⟩
    cases d with
    | int i => cases e with
      | int j =>
        cases hd.intE; cases he.intE
        cases op <;> cases ho <;> first | exact False.elim h | skip
        · exact iop_add pins s σ H _ _ v u Q I rx ry ⟨i, j, rfl, rfl, LQ.here h hS .int⟩
        · exact iop_sub pins s σ H _ _ v u Q I rx ry ⟨i, j, rfl, rfl, LQ.here h hS .int⟩
      | _ => cases o <;> exact False.elim h
    | str i => cases e with
      | str j =>
        cases hd.strE; cases he.strE
        cases op <;> cases ho <;> first | exact False.elim h | skip
        unfold augop at h
        simp only [wpx_bind, wpx_guard, wpx_ret, ok2, decide_eq_true_eq] at h
        exact iop_add_str pins s σ H _ _ v u Q I rx ry ⟨i, j, rfl, rfl, h.1, LQ.here h.2 hS .str⟩
      | _ => cases o <;> exact False.elim h
    | _ => cases o <;> exact False.elim h
  refine ps_imp (ps_aug (by rw [G.N_eq]; exact G.nd) (by rw [G.N_eq]; exact hN) h1 he hop h2) fun D σ H ⟨ρ, S, env, hS, hE, h⟩ => ?_
  unfold evS at h
  cases q : env[i]? with
  | none => simp only [q] at h; exact h.elim
  | some od =>
    cases od with
    | none => simp only [q] at h; exact h.elim
    | some d =>
      simp only [q] at h
      obtain ⟨v, h3, r⟩ := hE.val i d q
      refine ⟨v, h3, ?_⟩
      replace h := wpx_bind.mp h
      refine tD_of hS hE h fun d2 S1 v1 H1 ρ1 z p1 e1 s1 E1 r1 => ?_
      replace z := wpx_bind.mp z
      exact ⟨ρ1, S1, d, d2, s1, r.mono p1 e1, r1, wp_mono (nox_augop.wp z) fun d3 S2 y v3 H3 ρ3 p3 e3 s3 r3 => (LS.later (show LS X.w X.K D ρ H (.nx, env.set i (some d3)) S2 from y) p1 e1) H3 ρ3 p3 e3 s3 _ ((E1.mono p3 e3).set r3 i)⟩
theorem ss_doc {z : Str} {j : Nat} {p2 : Pos} : PS X (.Expr (.Constant (.str z) j pos) p2) (tDS X.w X.K C .pass) := ps_imp ps_doc fun D σ H ⟨ρ, S, env, hS, hE, h⟩ => h H ρ List.prefix_rfl Ex.refl hS σ hE
end
end Mn
set_option maxHeartbeats 2000000
/-! Mn, part 11b: several except clauses, some with a name. -/
namespace L2
open PySem PySem.Spec PyProof.Rows
abbrev ClT := Value × Option Nat × (Addr → Value → Option Addr → TS)
/-- the ends of a suite whose name's slot is sl -/
def Ends.gone (D : Ends) : Option Nat → Ends
  | none => D
  | some i => { nx := fun σ' H' => D.nx (σ'.set i none) H', rt := D.rt, bk := fun σ' H' => D.bk (σ'.set i none) H', ct := fun σ' H' => D.ct (σ'.set i none) H' }
def setO (σ : St) (a : Addr) : Option Nat → St
  | none => σ
  | some i => σ.set i (some (.ref a))
/-- what the clauses wish of an exception of the body, one after the other -/
def wMix (K : PySem.W.Frag) (Wout : WX) (D : Ends) : List ClT → WX
  | [] => Wout
  | (c, sl, ts) :: r => fun cls d σ H => ∃ b, PySem.W.exmOne K cls c = some b ∧ (b = true → ∀ a, H a = none → ts a cls d (D.gone sl) (setO σ a sl) H) ∧ (b = false → wMix K Wout D r cls d σ H)
inductive HdsMix (X : Cx) : List ExceptHandler → List ClT → Prop
  | nil : HdsMix X [] []
  | plain {x : Str} {c : Value} {ts : Addr → Value → Option Addr → TS} {b₀ : Stmt} {suite : List Stmt} {np pos' : Pos} {hds : List ExceptHandler} {l : List ClT} (hc : Names X x c)
      (hsu : ∀ (a : Addr) (oe : Obj) (cls : Value) (d : Option Addr) (pn : List (Addr × Obj)), Zc cls d oe → (∃ vs, oe.data = .fields vs) → PSs (X.suite a ((a, oe) :: pn)) (b₀ :: suite) (ts a cls d)) (r : HdsMix X hds l) :
      HdsMix X (.ExceptHandler (some (.Name x np)) none (b₀ :: suite) pos' :: hds) ((c, none, ts) :: l)
  | named {x n : Str} {i : Nat} {c : Value} {ts : Addr → Value → Option Addr → TS} {b₀ : Stmt} {suite : List Stmt} {np pos' : Pos} {hds : List ExceptHandler} {l : List ClT} (hi : X.N[i]? = some n) (hln : X.env.kindOf n = some .local) (hc : Names X x c)
      (hsu : ∀ (a : Addr) (oe : Obj) (cls : Value) (d : Option Addr) (pn : List (Addr × Obj)), Zc cls d oe → (∃ vs, oe.data = .fields vs) → PSs (X.suite a ((a, oe) :: pn)) (b₀ :: suite) (ts a cls d)) (r : HdsMix X hds l) :
      HdsMix X (.ExceptHandler (some (.Name x np)) (some n) (b₀ :: suite) pos' :: hds) ((c, some i, ts) :: l)
section
variable {X : Cx} {body : List Stmt} {h₀ : ExceptHandler} {hds : List ExceptHandler} {l : List ClT} {pos : Pos} {tb : WX → TS} {Wout : WX}
theorem ps_try_mix (hs : X.stack = X.env :: X.outer) (hf : X.env.frame = some X.env.locals) (hN : X.N.Nodup) (tk : Takes X Wout)
    (hb : ∀ (W : WX) (pn : List (Addr × Obj)) (xe : Value → Shared → Prop), Takes (X.tr pn xe) W → PassesOwn (model X.prog X.w) X.A X.env xe → PSs (X.tr pn xe) body (tb W))
    (hh : HdsMix X (h₀ :: hds) l) : PS X (.Try body (h₀ :: hds) [] [] pos) (fun D σ H => tb (wMix X.K Wout D l) D σ H) := by
  refine ⟨fun pins s σ H D I h => ?_⟩
  have ok := I.ok
  have hfr : X.A.frames = some (X.env :: X.outer) := by rw [ok.frames, hs]
  refine wpAny_Try_except ?_
  refine wpAny_mono ((hb (wMix X.K Wout D l) (X.pn ++ pins) (fun e s₁ => wpAny (model X.prog X.w) X.A (noteFrame e X.env) (fun _ s₂ => wpAny (model X.prog X.w) X.A (setFlight e none) (fun _ s₃ =>
    wpAny (model X.prog X.w) X.A (handleBy e X.env (h₀ :: hds)) (SP X pins D) X.xe s₃) X.xe s₂) X.xe s₁) (fun u s' xx => ?_) PassesOwn.looking).run [] s σ H D (I.toTry _) h) (fun f s1 hsp => ?_) (fun e s1 he => he)
  · -- the catch
    obtain ⟨a, B, sI, pins', σ', H', cls, d, rfl, J', nb, up, sky, na, os, ag, w⟩ := xx
    have J : Inv X pins σ' H' sI := J'.ofTry ok
    have sky' : Sky B (X.env :: X.outer) a (Zc cls d) X.env.locals s'.heap := by rw [← hs]; exact sky
    show wpAny (model X.prog X.w) X.A (noteFrame (.ref a) X.env) _ _ _
    refine Sky.land Zc.steady hfr hf sky' fun h3 fl3 up3 => ?_
    have J3 : Inv X pins σ' H' { s' with heap := h3 } := J.landed nb fl3.1 (up.trans up3) os ag
    obtain ⟨oe3, vs3, he3, hz3, hd3⟩ := fl3.there
    have notFr : ∀ {h : Heap} {o : Obj} {vs : Array Value}, h.FunFrames B (X.env :: X.outer) → h.get? a = some o → o.data = .fields vs → a ∉ frs (X.env :: X.outer) := fun {h o vs} ff e dd hm => by
      obtain ⟨_, o', e', hnf⟩ := ff.mem hm
      rw [e] at e'; cases e'
      exact hnf _ dd
    have nfr := notFr fl3.2.2.1 he3 hd3
    have nL : a ≠ X.env.locals := fun z => nfr (List.mem_filterMap.mpr ⟨X.env, List.mem_cons_self, by rw [hf, z]⟩)
    have nF : a ∉ X.fs := fun hm => by
      obtain ⟨e, he, q⟩ := List.mem_filterMap.mp hm
      exact nfr (List.mem_filterMap.mpr ⟨e, List.mem_cons_of_mem _ he, q⟩)
    have S3 := J3.suite he3 hd3 na nL nF
    have test : ∀ {x : Str} {np : Pos} {c : Value} {Q : Value → Shared → Prop} {E : Value → Shared → Prop}, Names X x c → Q c { s' with heap := h3 } → wpAny (model X.prog X.w) (X.A.mark (some (.ref a))) (eval (.Name x np) X.env) Q E { s' with heap := h3 } := fun {x np c Q E} hc q => by
      obtain ⟨hg, hdbg, hm | ⟨hm, hv, hnn⟩⟩ := hc
      · exact ld_glob (X := X.suite a ((a, oe3) :: (X.pn ++ pins))) S3 hg hm q hdbg
      · exact ld_blt (X := X.suite a ((a, oe3) :: (X.pn ++ pins))) S3 hg hm hv q hnn hdbg
    have go : ∀ {hds' : List ExceptHandler} {l' : List ClT}, HdsMix X hds' l' → wMix X.K Wout D l' cls d σ' H' →
        wpAny (model X.prog X.w) X.A (handleBy (.ref a) X.env hds') (SP X pins D) X.xe { s' with heap := h3 } := by
      intro hds' l' hk
      induction hk with
      | nil =>
        intro w
        refine wpAny_handleBy_nil ?_
        obtain ⟨k1, k2, k3, oe, vs, T, oT, ts', he, hz, hd, h1, hr⟩ := id fl3
        unfold PySem.passOn
        refine wpAny_bind (wpAny_field he hd h1 ?_)
        rw [if_neg (show ¬ ((Value.ref T == Value.none) = true) from by simp)]
        have fin : wpAny (model X.prog X.w) X.A (setFlight (.ref a) X.env.frame) (fun _ s4 => wpAny (model X.prog X.w) X.A (throw (.ref a) : Sem Flow) (SP X pins D) X.xe s4) X.xe { s' with heap := h3 } := by
          rw [hf]
          refine HandSPX.setFlight_upZ fl3 fun h4 hh4 up4 => wpAny_throw (tk _ _ ?_)
          exact ⟨a, B, sI, pins, σ', H', cls, d, rfl, J, nb, (up.trans up3).trans up4, .inr (.inr (by rw [hs]; exact hh4)), na, os, ag, w⟩
        first
          | exact wpAny_bind (wpAny_pure (wpAny_bind fin))
          | exact wpAny_bind fin
      | @plain x c ts b₀ suite np pos' hds2 l2 hc hsu r ih =>
        intro w
        obtain ⟨b, hb1, hyes, hno⟩ := w
        refine wpAny_handleBy_cons (codeAny_handlers_test ?_) (by intro q; cases q)
        have LT : PySem.W.Looks (model X.prog X.w) h3 (typeOf (.ref a)) cls := fun A Q E s k q => wpAny_typeOf_ref (k _ _ he3) (by rw [hz3.1]; exact q)
        have LM := PySem.W.exm_one (M := model X.prog X.w) (J3.kIn) LT hb1
        refine test hc (LM.here ?_)
        cases b with
        | true =>
          refine codeAny_handlers_suite ?_
          refine HandSPX.lands_againZ fl3 fun h4 fl4 up4 => ?_
          have J4 : Inv X pins σ' H' { s' with heap := h4 } := J.landed nb fl4.1 ((up.trans up3).trans up4) os ag
          obtain ⟨oe4, vs4, he4, hz4, hd4⟩ := fl4.there
          have S4 := J4.suite he4 hd4 na nL nF
          refine wpAny_mono ((hsu a oe4 cls d (X.pn ++ pins) hz4 ⟨_, hd4⟩).run [] _ _ H' _ S4 (hyes rfl a na)) (fun f s6 hsp => ?_) (fun _ _ z => False.elim z)
          cases f with
          | next =>
            obtain ⟨σ6, H6, S6, q6⟩ := hsp
            exact ⟨_, _, S6.unsuite ok, q6⟩
          | brk =>
            obtain ⟨σ6, H6, S6, q6⟩ := hsp
            exact ⟨_, _, S6.unsuite ok, q6⟩
          | cont =>
            obtain ⟨σ6, H6, S6, q6⟩ := hsp
            exact ⟨_, _, S6.unsuite ok, q6⟩
          | ret u =>
            obtain ⟨v6, σ6, H6, S6, r6, q6⟩ := hsp
            exact ⟨_, _, _, S6.unsuite ok, r6, q6⟩
        | false =>
          show wpAny _ X.A (handleBy (.ref a) X.env hds2) _ _ _
          exact ih (hno rfl)
      | @named x n i c ts b₀ suite np pos' hds2 l2 hi hln hc hsu r ih =>
        intro w
        obtain ⟨b, hb1, hyes, hno⟩ := w
        have hloc : Loc X.env.scope n := .inl hln
        refine wpAny_handleBy_cons (codeAny_handlers_test ?_) (by intro q; cases q)
        have LT : PySem.W.Looks (model X.prog X.w) h3 (typeOf (.ref a)) cls := fun A Q E s k q => wpAny_typeOf_ref (k _ _ he3) (by rw [hz3.1]; exact q)
        have LM := PySem.W.exm_one (M := model X.prog X.w) (J3.kIn) LT hb1
        refine test hc (LM.here ?_)
        cases b with
        | true =>
          refine codeAny_handlers_suite_as ?_
          refine HandSPX.lands_againZ fl3 fun h4 fl4 up4 => ?_
          have J4 : Inv X pins σ' H' { s' with heap := h4 } := J.landed nb fl4.1 ((up.trans up3).trans up4) os ag
          obtain ⟨oe4, vs4, he4, hz4, hd4⟩ := fl4.there
          have S4 := J4.suite he4 hd4 na nL nF
          refine store_ok (X := X.suite a ((a, oe4) :: (X.pn ++ pins))) (v := .ref a) S4 hN hi hloc rfl (fun s5 S5 => ?_) (.inr hln)
          refine wpAny_mono ((hsu a oe4 cls d (X.pn ++ pins) hz4 ⟨_, hd4⟩).run [] s5 _ H' _ S5 (hyes rfl a na)) (fun f s6 hsp => ?_) (fun _ _ z => False.elim z)
          have end_ : ∀ {σ6 : St} {H6 : Hp} {Q : Shared → Prop}, Inv (X.suite a ((a, oe4) :: (X.pn ++ pins))) [] σ6 H6 s6 → (∀ s7, Inv X pins (σ6.set i none) H6 s7 → Q s7) →
              wpAny (model X.prog X.w) X.A (do bindName X.env n .none; unbindBehindTheSuite X.env n pos') (fun _ s7 => Q s7) X.xe s6 := fun {σ6 H6 Q} S6 hq => gone_ok (S6.unsuite ok) hN hi hln hq
          cases f with
          | next =>
            obtain ⟨σ6, H6, S6, q6⟩ := hsp
            exact end_ S6 fun s7 J7 => ⟨_, _, J7, q6⟩
          | brk =>
            obtain ⟨σ6, H6, S6, q6⟩ := hsp
            exact end_ S6 fun s7 J7 => ⟨_, _, J7, q6⟩
          | cont =>
            obtain ⟨σ6, H6, S6, q6⟩ := hsp
            exact end_ S6 fun s7 J7 => ⟨_, _, J7, q6⟩
          | ret u =>
            obtain ⟨v6, σ6, H6, S6, r6, q6⟩ := hsp
            exact end_ S6 fun s7 J7 => ⟨_, _, _, J7, r6, q6⟩
        | false =>
          show wpAny _ X.A (handleBy (.ref a) X.env hds2) _ _ _
          exact ih (hno rfl)
    exact go hh w
  · cases f with
    | next =>
      obtain ⟨σ', H', J', q⟩ := hsp
      exact wpAny_execs_nil ⟨σ', H', J'.ofTry ok, q⟩
    | brk =>
      obtain ⟨σ', H', J', q⟩ := hsp
      exact ⟨σ', H', J'.ofTry ok, q⟩
    | cont =>
      obtain ⟨σ', H', J', q⟩ := hsp
      exact ⟨σ', H', J'.ofTry ok, q⟩
    | ret u =>
      obtain ⟨v, σ', H', J', r, q⟩ := hsp
      exact ⟨v, σ', H', J'.ofTry ok, r, q⟩
end
end L2
/-! Mn: objects of the program's own classes: fields, methods, making. -/
namespace Mn
open PySem PySem.Spec PyProof.Rows L2
/-- the class of that name, with what it must have -/
structure ClsAt (K : PySem.W.Frag) (c : Str) (Ca : Addr) : Prop where
  at_ : PySem.W.nsIn K mainGlobals c = some (some (.ref Ca))
  cl : Cls K Ca
/-- f is no name of the class -/
def FldOk (K : PySem.W.Frag) (c f : Str) : Prop := ∃ Ca, ClsAt K c Ca ∧ NoAttr K Ca f
def CalleeM (X : Cx) (C : CtxW) (c m g : Str) : Prop := ∃ (Ca fa : Addr) (fd : FuncData) (ps : List Str) (k : Nat), ClsAt X.K c Ca ∧ Meth X.K Ca m fa ∧ Binds X.K fd ps [] ∧ Rm k X.A ∧
  (∀ ds Q E S, wpx (C.c.call g ds) Q E S → ds.length = ps.length) ∧ FnG X.prog X.w X.K X.mg X.base k fa fd ps (spOf X.w X.K C.mg (C.c.call g) ps.length)
def CalleeN (X : Cx) (C : CtxW) (c g : Str) : Prop := ∃ (Ca fa : Addr) (fd : FuncData) (ps : List Str) (k : Nat), ClsAt X.K c Ca ∧ X.mg c = some (.ref Ca) ∧ Mk X.K Ca fa ∧ Binds X.K fd ps [] ∧ Rm (k + 1) X.A ∧
  (∀ ds Q E S, wpx (C.c.call g ds) Q E S → ds.length = ps.length) ∧ FnG X.prog X.w X.K X.mg X.base k fa fd ps (spOf X.w X.K C.mg (C.c.call g) ps.length)
section
variable {w : World} {K : PySem.W.Frag} {H : Hp} {ρ : List Addr} {S : Store} {c f : Str} {Q : D → Store → Prop}
theorem kv_some : ∀ {fs : List (Str × D)} {gs : List (Str × V)} {d : D}, fs.map (·.1) = gs.map (·.1) → Rps K H ρ (fs.map (·.2)) (gs.map (·.2)) → fs.lookup f = some d → ∃ v, gs.lookup f = some v ∧ Rp K H ρ d v
  | [], _, _, _, _, h => by cases h
  | (k, x) :: fs, [], _, e, _, _ => by simp at e
  | (k, x) :: fs, (k2, y) :: gs, d, e, r, h => by
    simp only [List.map_cons, List.cons.injEq] at e
    obtain ⟨rfl, e⟩ := e
    unfold Rps at r
    obtain ⟨v, us, e1, r1, r2⟩ := r
    simp only [List.map_cons, List.cons.injEq] at e1
    obtain ⟨rfl, rfl⟩ := e1
    rw [List.lookup_cons] at h ⊢
    cases hb : f == k with
    | true => rw [hb] at h; cases h; exact ⟨_, rfl, r1⟩
    | false => rw [hb] at h; exact kv_some e r2 h
theorem kv_none : ∀ {fs : List (Str × D)} {gs : List (Str × V)}, fs.map (·.1) = gs.map (·.1) → fs.lookup f = none → gs.lookup f = none
  | [], [], _, _ => rfl
  | [], _ :: _, e, _ => by simp at e
  | (k, x) :: fs, [], e, _ => by simp at e
  | (k, x) :: fs, (k2, y) :: gs, e, h => by
    simp only [List.map_cons, List.cons.injEq] at e
    obtain ⟨rfl, e⟩ := e
    rw [List.lookup_cons] at h ⊢
    cases hb : f == k with
    | true => rw [hb] at h; cases h
    | false => rw [hb] at h; exact kv_none e h
theorem kv_put {d : D} {v : V} (rd : Rp K H ρ d v) : ∀ {fs : List (Str × D)} {gs : List (Str × V)}, fs.map (·.1) = gs.map (·.1) → Rps K H ρ (fs.map (·.2)) (gs.map (·.2)) → (fPut f d fs).map (·.1) = (putF f v gs).map (·.1) ∧ Rps K H ρ ((fPut f d fs).map (·.2)) ((putF f v gs).map (·.2))
  | [], [], _, _ => ⟨rfl, .cons rd .nil⟩
  | [], _ :: _, e, _ => by simp at e
  | (k, x) :: fs, [], e, _ => by simp at e
  | (k, x) :: fs, (k2, y) :: gs, e, r => by
    simp only [List.map_cons, List.cons.injEq] at e
    obtain ⟨rfl, e⟩ := e
    unfold Rps at r
    obtain ⟨v', us, e1, r1, r2⟩ := r
    simp only [List.map_cons, List.cons.injEq] at e1
    obtain ⟨rfl, rfl⟩ := e1
    unfold fPut putF
    by_cases hk : k = f
    · rw [if_pos hk, if_pos hk]
      exact ⟨by simp [e], .cons rd r2⟩
    · rw [if_neg hk, if_neg hk]
      obtain ⟨i1, i2⟩ := kv_put rd e r2
      exact ⟨by simp [i1], .cons r1 i2⟩
theorem cls_uniq {Ca Cb : Addr} (h : ClsAt K c Ca) (h2 : PySem.W.nsIn K mainGlobals c = some (some (.ref Cb))) : Cb = Ca := by
  have := h.at_.symm.trans h2
  simpa using this.symm
theorem wp_fldD {d : D} (h : wp (fldD c f d) Q S) : ∃ n fs v, d = .loc n ∧ S[n]? = some (.obj c fs) ∧ fs.lookup f = some v ∧ Q v S := by
  unfold fldD at h
  cases d with
  | loc n =>
    obtain ⟨cl, hc, h1⟩ := wp_getC.mp (wpx_bind.mp h)
    cases cl with
    | obj c' fs =>
      unfold fldC at h1
      simp only [wpx_bind, wpx_guard, decide_eq_true_eq] at h1
      obtain ⟨h2, h3⟩ := h1
      obtain ⟨v, hv, q⟩ := wpx_opt.mp h3
      exact ⟨n, fs, v, rfl, h2 ▸ hc, hv, q⟩
    | _ => exact False.elim h1
  | _ => exact False.elim h
theorem wp_recD {d : D} {m : Str} {Q : Unit → Store → Prop} (h : wp (recD c m d) Q S) : ∃ n fs, d = .loc n ∧ S[n]? = some (.obj c fs) ∧ fs.lookup m = none ∧ Q () S := by
  unfold recD at h
  cases d with
  | loc n =>
    obtain ⟨cl, hc, h1⟩ := wp_getC.mp (wpx_bind.mp h)
    cases cl with
    | obj c' fs =>
      unfold recC at h1
      simp only [wpx_guard, Bool.and_eq_true, decide_eq_true_eq, Option.isNone_iff_eq_none] at h1
      obtain ⟨⟨h3, h2⟩, q⟩ := h1
      exact ⟨n, fs, rfl, h3 ▸ hc, h2, q⟩
    | _ => exact False.elim h1
  | _ => exact False.elim h
theorem wp_setD {d e : D} {Q : Unit → Store → Prop} (h : wp (sfdD c f e d) Q S) : ∃ n fs, d = .loc n ∧ S[n]? = some (.obj c fs) ∧ few fs = true ∧ Q () (S.set n (.obj c (fPut f e fs))) := by
  unfold sfdD at h
  cases d with
  | loc n =>
    obtain ⟨cl, hc, h1⟩ := wp_getC.mp (wpx_bind.mp h)
    cases cl with
    | obj c' fs =>
      unfold setC at h1
      simp only [wpx_bind, wpx_guard, Bool.and_eq_true, decide_eq_true_eq] at h1
      obtain ⟨⟨h3, h2⟩, h4⟩ := h1
      exact ⟨n, fs, rfl, h3 ▸ hc, h2, wp_wrC.mp h4⟩
    | _ => exact False.elim h1
  | _ => exact False.elim h
/-- an object's cell is written -/
theorem SR.fld {n : Nat} {fs : List (Str × D)} {a Ca dx : Addr} {gs : List (Str × V)} {d : D} {v : V} (hS : SR w K H ρ S) (hc : S[n]? = some (.obj c fs)) (ep : ρ[n]? = some a) (h1 : PySem.W.nsIn K mainGlobals c = some (some (.ref Ca))) (h2 : H a = some (.ins Ca dx gs))
    (h3 : fs.map (·.1) = gs.map (·.1)) (h4 : Rps K H ρ (fs.map (·.2)) (gs.map (·.2))) (rd : Rp K H ρ d v) : Ex K H (upd H a (.ins Ca dx (putF f v gs))) ∧ SR w K (upd H a (.ins Ca dx (putF f v gs))) ρ (S.set n (.obj c (fPut f d fs))) := by
  have ex : Ex K H (upd H a (.ins Ca dx (putF f v gs))) := ex_wr h2 rfl
  obtain ⟨i1, i2⟩ := kv_put (f := f) rd h3 h4
  exact ⟨ex, hS.putC hc ep rfl rfl ⟨Ca, dx, _, h1, upd_same, i1, i2.mono List.prefix_rfl ex⟩⟩
end
section
variable {X : Cx} {C : CtxW} {o e value : Expr} {es : List Expr} {io ie iv : E} {ies : Es} {c f m g : Str} {pos apos tpos : Pos}
/-- e.f -/
theorem se_fld (F : FldOk X.K c f) (he : PE X e (tD X.w X.K C ie)) (hb : plainBase e = true) : PE X (.Attribute e f pos) (tD X.w X.K C (.fld ie c f)) := by
  obtain ⟨Ca, ca, na⟩ := F
  refine pe_imp (pe_fld he (base_ok hb)) fun σ H Q ⟨ρ, S, env, hS, hE, h⟩ => ?_
  replace h := wpx_bind.mp h
  refine tD_of hS hE h fun d S1 v H1 ρ1 h1 p1 e1 s1 E1 r1 => ?_
  obtain ⟨n, fs, x, rfl, hc, hl, q⟩ := wp_fldD (nox_fldD.wp h1)
  obtain ⟨a, rfl, ep, C', dx, gs, g1, g2, g3, g4⟩ := s1.loc r1 hc
  obtain rfl := cls_uniq ca g1
  obtain ⟨y, hy, ry⟩ := kv_some g3 g4 hl
  exact ⟨a, _, dx, gs, y, rfl, g2, ca.cl, na, hy, LQ.here (LQ.later q p1 e1) s1 ry⟩
/-- o.f = value -/
theorem ss_setF (F : FldOk X.K c f) (ho : PE X o (tD X.w X.K C io)) (hv : PE X value (tD X.w X.K C iv)) : PS X (.Assign [.Attribute o f tpos] value pos) (tDS X.w X.K C (.set (.fld io c f) iv)) := by
  obtain ⟨Ca, ca, na⟩ := F
  refine ps_imp (ps_fld ho hv (by unfold swapsWith; cases value <;> rfl)) fun D σ H ⟨ρ, S, env, hS, hE, h⟩ => ?_
  replace h := wpx_bind.mp h
  refine tD_of hS hE h fun d S1 v H1 ρ1 h1 p1 e1 s1 E1 r1 => ?_
  replace h1 := (nox_evP _ _ _).wp (wpx_bind.mp h1)
  unfold evP at h1
  replace h1 := wpx_nx.mp (wpx_bind.mp h1)
  refine tD_of s1 E1 h1 fun d2 S2 v2 H2 ρ2 h2 p2 e2 s2 E2 r2 => ?_
  obtain ⟨n, fs, rfl, hc, hl, q⟩ := wp_setD (wpx_bind.mp h2)
  obtain ⟨a, rfl, ep, C', dx, gs, g1, g2, g3, g4⟩ := s2.loc r2 hc
  obtain rfl := cls_uniq ca g1
  have hl2 : gs.length < 1000 := by
    have := congrArg List.length g3
    simp only [List.length_map] at this
    have : fs.length ≤ 12 := of_decide_eq_true hl
    omega
  refine ⟨a, _, dx, gs, rfl, g2, ca.cl, na, hl2, ?_⟩
  obtain ⟨ex, s3⟩ := s2.fld (f := f) hc ep g1 g2 g3 g4 (r1.mono p2 e2)
  have q2 : LS X.w X.K D ρ H (.nx, env) (S2.set n (.obj c (fPut f d fs))) := q
  exact q2 _ ρ2 (p1.trans p2) ((e1.trans e2).trans ex) s3 σ (E2.mono List.prefix_rfl ex)
/-- o.f op= e -/
theorem ss_afld {op : Operator} {b : BOp} (hop' : opOf op = some b) (F : FldOk X.K c f) (ho : PE X o (tD X.w X.K C io)) (hv : PE X value (tD X.w X.K C iv)) : PS X (.AugAssign (.Attribute o f tpos) op value pos) (tDS X.w X.K C (.afld io c f b iv)) := by
  obtain ⟨Ca, ca, na⟩ := F
  have hop : InOp X op (fun x y H Q => ∃ i j, x = .int i ∧ y = .int j ∧ ((b = .add ∧ Q (.int (i + j)) H) ∨ (b = .sub ∧ Q (.int (i - j)) H))) := by
    intro pins s σ H x y u v Q I rx ry ⟨i, j, e1, e2, h⟩
    rcases h with ⟨rfl, q⟩ | ⟨rfl, q⟩
    · cases op <;> cases hop'
      exact in_add pins s σ H x y u v Q I rx ry ⟨i, j, e1, e2, q⟩
    · cases op <;> cases hop'
      exact in_sub pins s σ H x y u v Q I rx ry ⟨i, j, e1, e2, q⟩
  refine ps_imp (ps_fldaug ho hv hop) fun D σ H ⟨ρ, S, env, hS, hE, h⟩ => ?_
  replace h := wpx_bind.mp h
  refine tD_of hS hE h fun d S1 v H1 ρ1 h1 p1 e1 s1 E1 r1 => ?_
  replace h1 := wpx_bind.mp h1
  obtain ⟨n, fs, x, rfl, hc, hl, h1⟩ := wp_fldD (nox_fldD.wp h1)
  obtain ⟨a, rfl, ep, C', dx, gs, g1, g2, g3, g4⟩ := s1.loc r1 hc
  obtain rfl := cls_uniq ca g1
  obtain ⟨y, hy, ry⟩ := kv_some g3 g4 hl
  refine ⟨a, _, dx, gs, y, rfl, g2, ca.cl, na, hy, ?_⟩
  replace h1 := wpx_bind.mp h1
  refine tD_of s1 E1 h1 fun d2 S2 v2 H2 ρ2 h2 p2 e2 s2 E2 r2 => ?_
  replace h2 := nox_augI.wp (wpx_bind.mp h2)
  have ry2 := ry.mono p2 e2
  have go : ∀ (z : Int), wpx (M.bind (sfdD c f (.int z) (.loc n)) fun _ => M.ret (Flow.nx, env)) (LS X.w X.K D ρ H) (EQ X.w X.K C env ρ H) S2 → ∃ dx' fs', H2 a = some (.ins C' dx' fs') ∧ fs'.length < 1000 ∧ D.nx σ (upd H2 a (.ins C' dx' (putF f (.int z) fs'))) := by
    intro z hz
    obtain ⟨n', fs', e', hc', hl', q⟩ := wp_setD (nox_sfdD.wp (wpx_bind.mp hz))
    cases e'
    obtain ⟨a', ea, ep', C'', dx', gs', k1, k2, k3, k4⟩ := s2.loc (v := .ref a) (by unfold Rp; exact ⟨a, pre_get p2 ep, rfl⟩) hc'
    cases ea
    obtain rfl := cls_uniq ca k1
    have hl2 : gs'.length < 1000 := by
      have := congrArg List.length k3
      simp only [List.length_map] at this
      have : fs'.length ≤ 12 := of_decide_eq_true hl'
      omega
    refine ⟨dx', gs', k2, hl2, ?_⟩
    obtain ⟨ex, s3⟩ := s2.fld (f := f) (d := .int z) hc' (pre_get p2 ep) k1 k2 k3 k4 .int
    have q2 : LS X.w X.K D ρ H (.nx, env) (S2.set n (.obj c (fPut f (.int z) fs'))) := q
    exact q2 _ ρ2 (p1.trans p2) ((e1.trans e2).trans ex) s3 σ (E2.mono List.prefix_rfl ex)
  cases x with
  | int i => cases d2 with
    | int j =>
      cases ry2.intE; cases r2.intE
      cases b with
      | add => exact ⟨i, j, rfl, rfl, .inl ⟨rfl, go _ h2⟩⟩
      | sub => exact ⟨i, j, rfl, rfl, .inr ⟨rfl, go _ h2⟩⟩
      | _ => exact False.elim h2
    | _ => cases b <;> exact False.elim h2
  | _ => cases b <;> exact False.elim h2
/-! ### methods, making -/
theorem mcall_tree {args : List Expr} (hb : plainBase o = true) (hs : args.all notStar = true) (hn : args.length < 30) (hl : (apos.endLine == pos.line) = true) :
    eval (.Call (.Attribute o m apos) args [] pos) X.env = (do
      let ov ← eval o X.env
      standAt apos.atName
      let (f, first) ← holding [ov] (getMethod ov m (do return (← importBound o X.env).getD true))
      callWith pos f first (backTo pos (starEach args X.env)) (backToKw pos (keywordEach [] X.env))) := by
  refine mcall_of (t := fun ov => do
      let (f, first) ← holding [ov] (getMethod ov m (do return (← importBound o X.env).getD true))
      callWith pos f first (backTo pos (starEach args X.env)) (backToKw pos (keywordEach [] X.env))) (base_ok hb) fun ov => ?_
  have hf : methodCallForm (args.length + ([] : List Keyword).length) (backTo pos (starEach args X.env)) (backToKw pos (keywordEach [] X.env)) = true := by
    have := few_ok (cpos := pos) (env := X.env) hs hn
    unfold methodCallForm
    simp only [Bool.and_eq_true, decide_eq_true_eq] at this ⊢
    refine ⟨⟨?_, ?_⟩, ?_⟩
    · simpa using this.1.1
    · simpa using this.1.2
    · simpa [backToKw, keywordEach] using this.2
  have hp : methodCallPos true o X.env apos pos = pure pos := by unfold methodCallPos; simp [hl]
  unfold methodCall
  rw [hf, hp]
  unfold calleeOf
  simp only [if_true, pure_bind]
/-- o.m(e, ..) -/
theorem se_mcall (T : Tk X C) (hc : CalleeM X C c m g) (ho : PE X o (tD X.w X.K C io)) (ha : PA X (e :: es) (tDA X.w X.K C ies)) (hs : (e :: es).all notStar = true) (hn : (e :: es).length < 30) (hb : plainBase o = true) (hl : (apos.endLine == pos.line) = true) :
    PE X (.Call (.Attribute o m apos) (e :: es) [] pos) (tD X.w X.K C (.mcall c m g io ies)) := by
  obtain ⟨Ca, fa, fd, ps, k, ca, hm, bd, room, har, G⟩ := hc
  have hs' := hs
  rw [List.all_cons, Bool.and_eq_true] at hs'
  refine ⟨fun pins s σ H Q I h => ?_⟩
  obtain ⟨ρ, S, env, hS, hE, h⟩ := h
  unfold evE at h
  replace h := wpx_bind.mp h
  refine PySem.W.methodCall_KW (thn (ho.run pins s σ H (fun x H1 => ∃ a dx fs, x = .ref a ∧ H1 a = some (.ins Ca dx fs) ∧ fs.lookup m = none ∧ tDA X.w X.K C ies σ H1 (fun vs H2 => spOf X.w X.K C.mg (C.c.call g) ps.length (x :: vs) H2 Q (WE C.ex σ))) I
    (tD_of hS hE h fun d S1 v H1 ρ1 h1 p1 e1 s1 E1 r1 => ?_)) fun u s1 ⟨x, H1, I1, rx, a, dx, fs, ex, ea, l, q⟩ => ?_) (mcall_tree hb hs hn hl)
  · obtain ⟨n, fs, rfl, hcl, hno, h1⟩ := wp_recD (nox_recD.wp (wpx_bind.mp h1))
    have h1 := wpx_bind.mp h1
    obtain ⟨a, rfl, ep, C', dx, gs, g1, g2, g3, g4⟩ := s1.loc r1 hcl
    obtain rfl := cls_uniq ca g1
    refine ⟨a, dx, gs, rfl, g2, kv_none g3 hno, tDA_of s1 E1 h1 fun ds S2 vs H2 ρ2 h2 p2 e2 s2 E2 r2 => ?_⟩
    have r3 : Rps X.K H2 ρ2 (.loc n :: ds) (.ref a :: vs) := .cons (r1.mono p2 e2) r2
    exact ⟨by rw [← r3.length]; exact har _ _ _ _ h2, ρ2, S2, _, s2, r3, wpx_mono h2 (fun d S3 q => (q.later p1 e1).later p2 e2) fun x S3 q => ex_of q (p1.trans p2) (e1.trans e2) E2⟩
  · subst ex
    obtain rfl : u = Value.ref a := rx
    refine getmeth_ok I1 ea ca.cl hm l ?_
    refine PySem.W.callWith_K (first := [.ref a]) (h₀ := X.base) I.ok.mod.kin hm.kp (thn (ha.run pos pins s1 σ H1 _ I1 q) fun us s2 ⟨vs, H2, I2, r, q2⟩ => ⟨I2.kIn, ?_⟩) (star_one hs'.1) (plain_args hs'.2)
    exact callee_run (us := .ref a :: us) (vs := .ref a :: vs) G room bd (passAt T.tk σ) I2 (.cons rfl r) q2
/-- o.m() -/
theorem se_mcall0 (T : Tk X C) (hc : CalleeM X C c m g) (ho : PE X o (tD X.w X.K C io)) (hb : plainBase o = true) (hl : (apos.endLine == pos.line) = true) :
    PE X (.Call (.Attribute o m apos) [] [] pos) (tD X.w X.K C (.mcall c m g io .nil)) := by
  obtain ⟨Ca, fa, fd, ps, k, ca, hm, bd, room, har, G⟩ := hc
  refine ⟨fun pins s σ H Q I h => ?_⟩
  obtain ⟨ρ, S, env, hS, hE, h⟩ := h
  unfold evE at h
  replace h := wpx_bind.mp h
  refine PySem.W.methodCall_KW (thn (ho.run pins s σ H (fun x H1 => ∃ a dx fs, x = .ref a ∧ H1 a = some (.ins Ca dx fs) ∧ fs.lookup m = none ∧ spOf X.w X.K C.mg (C.c.call g) ps.length [x] H1 Q (WE C.ex σ)) I
    (tD_of hS hE h fun d S1 v H1 ρ1 h1 p1 e1 s1 E1 r1 => ?_)) fun u s1 ⟨x, H1, I1, rx, a, dx, fs, ex, ea, l, q⟩ => ?_) (mcall_tree (args := []) hb rfl (by decide) hl)
  · obtain ⟨n, fs, rfl, hcl, hno, h1⟩ := wp_recD (nox_recD.wp (wpx_bind.mp h1))
    have h1 : wpx (C.c.call g [.loc n]) (LQ X.w X.K Q ρ H) (EQ X.w X.K C env ρ H) S1 := h1
    obtain ⟨a, rfl, ep, C', dx, gs, g1, g2, g3, g4⟩ := s1.loc r1 hcl
    obtain rfl := cls_uniq ca g1
    have r3 : Rps X.K H1 ρ1 [.loc n] [.ref a] := .cons r1 .nil
    exact ⟨a, dx, gs, rfl, g2, kv_none g3 hno, by have := har _ _ _ _ h1; rw [← this]; rfl, ρ1, S1, _, s1, r3, wpx_mono h1 (fun d S3 q => q.later p1 e1) fun x S3 q => ex_of q p1 e1 E1⟩
  · subst ex
    obtain rfl : u = Value.ref a := rx
    refine getmeth_ok I1 ea ca.cl hm l ?_
    exact PySem.W.callWith_K0 (first := [.ref a]) I1.kIn hm.kp (callee_run (us := [.ref a]) (vs := [.ref a]) G room bd (passAt T.tk σ) I1 (.cons rfl .nil) q)
theorem make_run {pins : List (Addr × Obj)} {σ : L2.St} {H : Hp} {s : Shared} {Q : VK} {us : List Value} {vs : List V} {Ca fa : Addr} {fd : FuncData} {ps : List Str} {k : Nat} {sp : Sp} {E : XK}
    (M : Mk X.K Ca fa) (G : FnG X.prog X.w X.K X.mg X.base k fa fd ps sp) (room : Rm (k + 1) X.A) (hb : Binds X.K fd ps []) (hx : PassesAt (L2.CX X.prog X.w) X σ E) (I : Inv X pins σ H s) (r : Vals vs us)
    (h : ∀ x dx, H x = none → H dx = none → dx ≠ x → sp (.ref x :: vs) (upd (upd H dx (.own x)) x (.ins Ca dx [])) (fun v H2 => v = .non ∧ Q (.ref x) H2) E) :
    wpAny (model X.prog X.w) X.A (call (.ref Ca) us) (EP X pins σ Q) X.xe s := by
  have hq := h (s.heap.objs.size + 1) s.heap.objs.size (I.hok.fresh (Nat.le_succ _)) (I.hok.fresh (Nat.le_refl _)) (Nat.ne_of_lt (Nat.lt_succ_self _))
  have I2 := Inv.made (C := Ca) I
  have r2 : Vals (V.ref (s.heap.objs.size + 1) :: vs) (Value.ref (s.heap.objs.size + 1) :: us) := .cons rfl r
  have hl : (Value.ref (s.heap.objs.size + 1) :: us).length = ps.length := by
    have e := r2.length
    rw [G.ar _ _ _ _ hq] at e
    exact e.symm
  have bind := hb _ (Value.ref (s.heap.objs.size + 1) :: us) I2.kIn (by simpa using hl)
  rw [List.append_nil] at bind
  refine wpAny_call (make_map (f := fa) I.kIn M.makes M.init (beq_iff_eq.mp M.fn) (codeAny_mono (G.go _ X.stack _ _ ⟨Value.ref (s.heap.objs.size + 1) :: us, []⟩ (Value.ref (s.heap.objs.size + 1) :: us) _ _ _ ⟨room.rm.make Ca us [], room.gd⟩
    (I2.env0.make Ca us []) bind r2 hq) fun res s' hq' => ?_))
  match res, hq' with
  | .ok (.ret u), hq' =>
    obtain ⟨v, H', I3, rv, ev, q3⟩ := I2.after hq'
    subst ev
    exact ⟨rv, ⟨V.ref (s.heap.objs.size + 1), H', I3, rfl, q3⟩⟩
  | .ok .next, hq' => exact False.elim hq'
  | .ok .brk, hq' => exact False.elim hq'
  | .ok .cont, hq' => exact False.elim hq'
  | .error e, hq' => exact hx pins _ _ e s' I2 hq'
theorem new_go {env : Nv} {σ : L2.St} {H : Hp} {Q : VK} {vs : List V} {H1 : Hp} {ρ ρ1 : List Addr} {S S1 : Store} {ds : List D} {Ca : Addr} {n : Nat} (ca : ClsAt X.K c Ca) (har : ∀ ds Q E S, wpx (C.c.call g ds) Q E S → ds.length = n) (E1 : EnvR X.K H1 ρ1 env σ)
    (h : wpx (fun S => M.bind (C.c.call g (.loc S.length :: ds)) (fun v => match v with | .non => M.ret (.loc S.length) | _ => M.bad) (S ++ [.obj c []])) (LQ X.w X.K Q ρ H) (EQ X.w X.K C env ρ H) S1) (p1 : ρ <+: ρ1) (e1 : Ex X.K H H1) (s1 : SR X.w X.K H1 ρ1 S1) (r1 : Rps X.K H1 ρ1 ds vs) :
    ∀ x dx, H1 x = none → H1 dx = none → dx ≠ x → spOf X.w X.K C.mg (C.c.call g) n (.ref x :: vs) (upd (upd H1 dx (.own x)) x (.ins Ca dx [])) (fun v H2 => v = .non ∧ Q (.ref x) H2) (WE C.ex σ) := by
  intro x dx hx hdx ne
  have h : wpx (M.bind (C.c.call g (.loc S1.length :: ds)) (fun v => match v with | .non => M.ret (.loc S1.length) | _ => M.bad)) (LQ X.w X.K Q ρ H) (EQ X.w X.K C env ρ H) (S1 ++ [.obj c []]) := h
  have h := wpx_bind.mp h
  have hx' : upd H1 dx (.own x) x = none := by rw [upd_ne (fun z => ne z.symm)]; exact hx
  have ex1 : Ex X.K H1 (upd H1 dx (.own x)) := ex_new hdx
  have ex2 : Ex X.K (upd H1 dx (.own x)) (upd (upd H1 dx (.own x)) x (.ins Ca dx [])) := ex_new hx'
  have s2 := (s1.tup (o := .own x) hdx).allocC (c0 := .obj c []) (o := .ins Ca dx []) hx' ⟨Ca, dx, [], ca.at_, upd_same, rfl, .nil⟩
  have hat : (ρ1 ++ [x])[S1.length]? = some x := by rw [← s1.len]; simp
  have r3 : Rps X.K (upd (upd H1 dx (.own x)) x (.ins Ca dx [])) (ρ1 ++ [x]) (.loc S1.length :: ds) (.ref x :: vs) := .cons (by unfold Rp; exact ⟨x, hat, rfl⟩) (r1.mono (List.prefix_append _ _) (ex1.trans ex2))
  refine ⟨by rw [← r3.length]; exact har _ _ _ _ h, ρ1 ++ [x], _, _, s2, r3, wpx_mono h (fun v S3 q => ?_) fun y S3 q => ex_of q (p1.trans (List.prefix_append _ _)) (e1.trans (ex1.trans ex2)) (E1.mono (List.prefix_append _ _) (ex1.trans ex2))⟩
  intro v' H3 ρ3 p3 e3 s3 r4
  cases v with
  | non => exact ⟨r4.nonE, (show LQ X.w X.K Q ρ H (.loc S1.length) S3 from q) _ H3 ρ3 ((p1.trans (List.prefix_append _ _)).trans p3) ((e1.trans (ex1.trans ex2)).trans e3) s3 (by unfold Rp; exact ⟨x, pre_get p3 hat, rfl⟩)⟩
  | _ => exact False.elim q
variable {p : Pos}
theorem se_new (T : Tk X C) (hc : CalleeN X C c g) (hg : Gl X c) (ha : PA X (e :: es) (tDA X.w X.K C ies)) (hs : (e :: es).all notStar = true) (hd : (c == ("__debug__" : Str)) = false) : PE X (.Call (.Name c p) (e :: es) [] pos) (tD X.w X.K C (.new c g ies)) := by
  obtain ⟨Ca, fa, fd, ps, k, ca, mc, mk, bd, room, har, G⟩ := hc
  have hs' := hs
  rw [List.all_cons, Bool.and_eq_true] at hs'
  refine ⟨fun pins s σ H Q I h => ?_⟩
  refine wpAny_Call_Name_kw (ld_glob I hg mc ?_ hd)
  obtain ⟨ρ, S, env, hS, hE, h⟩ := h
  unfold evE at h
  replace h := wpx_bind.mp h
  refine PySem.W.callWith_K (h₀ := X.base) I.ok.mod.kin mk.kp (thn (ha.run pos pins s σ H (fun vs H1 => ∀ x dx, H1 x = none → H1 dx = none → dx ≠ x → spOf X.w X.K C.mg (C.c.call g) ps.length (.ref x :: vs) (upd (upd H1 dx (.own x)) x (.ins Ca dx [])) (fun v H2 => v = .non ∧ Q (.ref x) H2) (WE C.ex σ)) I
    (tDA_of hS hE h fun ds S1 vs H1 ρ1 h1 p1 e1 s1 E1 r1 => new_go (σ := σ) (S := S1) ca har E1 h1 p1 e1 s1 r1))
    fun us s1 ⟨vs, H1, I1, r, q⟩ => ⟨I1.kIn, make_run mk G room bd (passAt T.tk σ) I1 r q⟩) (star_one hs'.1) (plain_args hs'.2)
theorem se_new0 (T : Tk X C) (hc : CalleeN X C c g) (hg : Gl X c) (hd : (c == ("__debug__" : Str)) = false) : PE X (.Call (.Name c p) [] [] pos) (tD X.w X.K C (.new c g .nil)) := by
  obtain ⟨Ca, fa, fd, ps, k, ca, mc, mk, bd, room, har, G⟩ := hc
  refine ⟨fun pins s σ H Q I h => ?_⟩
  refine wpAny_Call_Name_kw (ld_glob I hg mc ?_ hd)
  obtain ⟨ρ, S, env, hS, hE, h⟩ := h
  exact PySem.W.callWith_K0 I.kIn mk.kp (make_run (us := []) (vs := []) mk G room bd (passAt T.tk σ) I .nil (new_go (σ := σ) (S := S) (ds := []) ca har hE h List.prefix_rfl Ex.refl hS .nil))
end
end Mn
/-! Mn, part 11c: except suites: a small language, read where the caught exception is in hand. -/
namespace Mn
open PySem PySem.Spec PyProof.Rows L2
/-- all stands -/
def Xt (H H' : Hp) : Prop := ∀ b o, H b = some o → H' b = some o
section
variable {w : World} {K : PySem.W.Frag} {H H' H2 : Hp} {ρ : List Addr} {S : Store} {env : Nv} {σ : L2.St}
theorem Xt.refl : Xt H H := fun _ _ h => h
theorem Xt.trans (a : Xt H H') (b : Xt H' H2) : Xt H H2 := fun _ _ h => b _ _ (a _ _ h)
theorem Xt.ex (t : Xt H H') : Ex K H H' := by
  intro a xs q
  rcases q with (q | ⟨ob, q⟩) | q
  · exact .inl (.inl (t _ _ q))
  · exact .inl (.inr ⟨ob, t _ _ q⟩)
  · exact .inr q
theorem Xt.new {p : Addr} {o : HO} (h : H p = none) : Xt H (upd H p o) := fun b u q => by rw [upd_ne (ne_of_none q h)]; exact q
theorem SR.xt (h : SR w K H ρ S) (t : Xt H H') : SR w K H' ρ S := ⟨h.len, fun n c a e1 e2 => (h.cell n c a e1 e2).mono List.prefix_rfl t.ex (fun o q => t a o q), h.dis⟩
theorem XR.xt {mg : XT} {x : Exn} {cls : Value} {d : Option Addr} (h : XR K mg H x cls d) (t : Xt H H') : XR K mg H' x cls d := by
  obtain ⟨h1, h2, h3, h4⟩ := h
  refine ⟨h1, h2, h3, ?_⟩
  rcases h4 with h4 | ⟨dd, vs, e, h5, h6, h7⟩
  · exact .inl h4
  · exact .inr ⟨dd, vs, e, t _ _ h5, h6, h7.mono List.prefix_rfl t.ex⟩
end
/-- what a suite's reading starts from -/
structure Sx (K : PySem.W.Frag) (C : CtxW) (sl : Option Nat) (a : Addr) (cls : Value) (d : Option Addr) (ρ : List Addr) (env : Nv) (x : Exn) (σ : L2.St) (H : Hp) : Prop where
  E : EnvR K H ρ env σ
  xr : XR K C.mg H x cls d
  at_ : ∀ i, sl = some i → σ[i]? = some (some (.ref a))
theorem Sx.xt {K : PySem.W.Frag} {C : CtxW} {sl : Option Nat} {a : Addr} {cls : Value} {d : Option Addr} {ρ : List Addr} {env : Nv} {x : Exn} {σ : L2.St} {H H' : Hp} (h : Sx K C sl a cls d ρ env x σ H) (t : Xt H H') : Sx K C sl a cls d ρ env x σ H' := ⟨h.E.mono List.prefix_rfl t.ex, h.xr.xt t, h.at_⟩
def tX (K : PySem.W.Frag) (C : CtxW) (sl : Option Nat) (a : Addr) (cls : Value) (d : Option Addr) (e : Hx) : TE := fun σ H Q => ∃ ρ env x r, Sx K C sl a cls d ρ env x σ H ∧ evX x env e = some r ∧ ∀ v H', Xt H H' → Rp K H' ρ r v → Q v H'
def tXs (K : PySem.W.Frag) (C : CtxW) (sl : Option Nat) (a : Addr) (cls : Value) (d : Option Addr) (e : Hx) : TA := fun σ H Q => ∃ ρ env x ds, Sx K C sl a cls d ρ env x σ H ∧ evX x env e = some (.tup ds) ∧ ∀ vs H', Xt H H' → Rps K H' ρ ds vs → Q vs H'
def tXB (K : PySem.W.Frag) (C : CtxW) (sl : Option Nat) (a : Addr) (cls : Value) (d : Option Addr) (e : Hx) : TT := fun σ H Q => ∃ ρ env x b, Sx K C sl a cls d ρ env x σ H ∧ evX x env e = some (.bl b) ∧ ∀ H', Xt H H' → Q b H'
def hxl : Hx → Option Nat
  | .tup0 => some 0
  | .tupC _ r => (hxl r).map (· + 1)
  | _ => none
theorem hxl_len {x : Exn} {env : Nv} : ∀ {e : Hx} {n : Nat} {ds : List D}, hxl e = some n → evX x env e = some (.tup ds) → ds.length = n
  | .tup0, n, ds, h, e => by cases h; cases e; rfl
  | .tupC a r, n, ds, h, e => by
    rw [hxl] at h
    cases hr : hxl r with
    | none => rw [hr] at h; cases h
    | some m =>
      rw [hr] at h
      cases h
      rw [evX] at e
      split at e
      · rename_i d ds' e1 e2
        cases e
        rw [List.length_cons, hxl_len hr e2]
      · cases e
  | .c _, _, _, h, _ => by cases h
  | .v _, _, _, h, _ => by cases h
  | .f _, _, _, h, _ => by cases h
  | .is _, _, _, h, _ => by cases h
  | .and _ _, _, _, h, _ => by cases h
  | .or _ _, _, _, h, _ => by cases h
  | .not _, _, _, h, _ => by cases h
  | .add _ _, _, _, h, _ => by cases h
  | .sb _, _, _, h, _ => by cases h
  | .eq _ _, _, _, h, _ => by cases h
section
variable {X : Cx} {C : CtxW} {sl : Option Nat} {a : Addr} {cls : Value} {d : Option Addr} {oe : Obj} {pn : List (Addr × Obj)} {e e1 e2 : Expr} {es : List Expr} {he h1 h2 : Hx} {pos p : Pos} {i : Nat} {x : Str}
theorem hx_int {z : Int} {k : Nat} : PE X (.Constant (.int z) k pos) (tX X.K C sl a cls d (.c (.int z))) := pe_imp pe_int fun σ H Q ⟨ρ, env, x, r, s, e, k⟩ => by cases e; exact k _ H .refl .int
theorem hx_str {z : Str} {k : Nat} : PE X (.Constant (.str z) k pos) (tX X.K C sl a cls d (.c (.str z))) := pe_imp pe_str fun σ H Q ⟨ρ, env, x, r, s, e, k⟩ => by cases e; exact k _ H .refl .str
theorem hx_bl {z : Bool} {k : Nat} : PE X (.Constant (.bool z) k pos) (tX X.K C sl a cls d (.c (.bl z))) := pe_imp pe_bl fun σ H Q ⟨ρ, env, x, r, s, e, k⟩ => by cases e; exact k _ H .refl .bl
theorem hx_non {k : Nat} : PE X (.Constant .none k pos) (tX X.K C sl a cls d (.c .non)) := pe_imp pe_non fun σ H Q ⟨ρ, env, x, r, s, e, k⟩ => by cases e; exact k _ H .refl .non
theorem hx_var (hN : X.N[i]? = some x) (hv : Vis X.env.scope x) (d1 : (x == ("__debug__" : Str)) = false) (d2 : (x == ("__classdict__" : Str)) = false) : PE X (.Name x pos) (tX X.K C sl a cls d (.v i)) :=
  pe_imp (pe_var hN hv d1 d2) fun σ H Q ⟨ρ, env, x, r, s, e, k⟩ => by
    rw [evX] at e
    split at e
    · rename_i d' q
      cases e
      obtain ⟨v, h3, h4⟩ := s.E.val i _ q
      exact ⟨v, h3, k v H .refl h4⟩
    · cases e
theorem hx_nil : PA X [] (tXs X.K C sl a cls d .tup0) := pa_imp pa_nil fun σ H Q ⟨ρ, env, x, ds, s, e, k⟩ => by cases e; exact k [] H .refl .nil
theorem hx_cons (g1 : PE X e (tX X.K C sl a cls d h1)) (g2 : PA X es (tXs X.K C sl a cls d h2)) (hs : notStar e = true) : PA X (e :: es) (tXs X.K C sl a cls d (.tupC h1 h2)) :=
  pa_imp (pa_cons g1 g2 (star_one hs)) fun σ H Q ⟨ρ, env, x, ds, s, e, k⟩ => by
    rw [evX] at e
    split at e
    · rename_i d1 ds1 q1 q2
      cases e
      exact ⟨ρ, env, x, d1, s, q1, fun v H1 t1 r1 => ⟨ρ, env, x, ds1, s.xt t1, q2, fun vs H2 t2 r2 => k (v :: vs) H2 (t1.trans t2) (.cons (r1.mono List.prefix_rfl t2.ex) r2)⟩⟩
    · cases e
theorem hx_tup {n k : Nat} (g : PA X es (tXs X.K C sl a cls d he)) (hl : hxl he = some n) (hn : n ≤ 30) : PE X (.Tuple es k pos) (tX X.K C sl a cls d he) :=
  pe_imp (pe_tup g) fun σ H Q ⟨ρ, env, x, r, s, e, k⟩ => by
    have ht : ∃ ds, r = .tup ds := by
      cases he <;> first | (cases hl; done) | skip
      · cases e; exact ⟨_, rfl⟩
      · rw [evX] at e
        split at e
        · cases e; exact ⟨_, rfl⟩
        · cases e
    obtain ⟨ds, rfl⟩ := ht
    have hlen := hxl_len hl e
    refine ⟨ρ, env, x, ds, s, e, fun vs H1 t1 r1 => ⟨?_, fun p hp => ?_⟩⟩
    · rw [← r1.length, hlen]
      exact Nat.le_trans hn (by decide)
    · have t2 : Xt H1 (upd H1 p (.tup vs)) := .new hp
      exact k _ _ (t1.trans t2) (by unfold Rp; exact ⟨p, vs, rfl, .inl (.inl upd_same), r1.mono List.prefix_rfl t2.ex⟩)
theorem hx_one {op : BoolOp} {t : TE} (g : PE X e t) : PE X (.BoolOp op [e] pos) t := pe_one g
theorem hx_and (g1 : PE X e (tX X.K C sl a cls d h1)) (g2 : PE X (.BoolOp .And (e2 :: es) pos) (tX X.K C sl a cls d h2)) : PE X (.BoolOp .And (e :: e2 :: es) pos) (tX X.K C sl a cls d (.and h1 h2)) :=
  pe_imp (pe_andT g1 g2) fun σ H Q ⟨ρ, env, x, r, s, e, k⟩ => by
    rw [evX] at e
    split at e
    · rename_i q1
      split at e
      · rename_i b q2
        cases e
        refine ⟨ρ, env, x, _, s, q1, fun v H1 t1 r1 => ?_⟩
        cases r1.blE
        exact ⟨true, rfl, by rw [if_pos rfl]; exact ⟨ρ, env, x, _, s.xt t1, q2, fun v H2 t2 r2 => k v H2 (t1.trans t2) r2⟩⟩
      · cases e
    · rename_i q1
      cases e
      refine ⟨ρ, env, x, _, s, q1, fun v H1 t1 r1 => ?_⟩
      have r1' := r1
      cases r1.blE
      exact ⟨false, rfl, by rw [if_neg Bool.false_ne_true]; exact k _ H1 t1 r1'⟩
    · cases e
theorem hx_or (g1 : PE X e (tX X.K C sl a cls d h1)) (g2 : PE X (.BoolOp .Or (e2 :: es) pos) (tX X.K C sl a cls d h2)) : PE X (.BoolOp .Or (e :: e2 :: es) pos) (tX X.K C sl a cls d (.or h1 h2)) :=
  pe_imp (pe_orT g1 g2) fun σ H Q ⟨ρ, env, x, r, s, e, k⟩ => by
    rw [evX] at e
    split at e
    · rename_i q1
      split at e
      · rename_i b q2
        cases e
        refine ⟨ρ, env, x, _, s, q1, fun v H1 t1 r1 => ?_⟩
        cases r1.blE
        exact ⟨false, rfl, by rw [if_neg Bool.false_ne_true]; exact ⟨ρ, env, x, _, s.xt t1, q2, fun v H2 t2 r2 => k v H2 (t1.trans t2) r2⟩⟩
      · cases e
    · rename_i q1
      cases e
      refine ⟨ρ, env, x, _, s, q1, fun v H1 t1 r1 => ?_⟩
      have r1' := r1
      cases r1.blE
      exact ⟨true, rfl, by rw [if_pos rfl]; exact k _ H1 t1 r1'⟩
    · cases e
theorem hx_not (g1 : PE X e (tX X.K C sl a cls d h1)) : PE X (.UnaryOp .Not e pos) (tX X.K C sl a cls d (.not h1)) :=
  pe_imp (pe_notT g1) fun σ H Q ⟨ρ, env, x, r, s, e, k⟩ => by
    rw [evX] at e
    split at e
    · rename_i b q1
      cases e
      refine ⟨ρ, env, x, _, s, q1, fun v H1 t1 r1 => ?_⟩
      cases r1.blE
      exact ⟨b, rfl, k _ H1 t1 .bl⟩
    · cases e
/-! tests -/
theorem ht_atom (g : PE X e (tX X.K C sl a cls d he)) (ht : ∀ whole, isTrue e X.env whole = (do let v ← whole; standAt e.pos; holding [v] (truthy v))) : PT X e (tXB X.K C sl a cls d he) :=
  pt_imp (pt_truth g ht) fun σ H Q ⟨ρ, env, x, b, s, e, k⟩ => ⟨ρ, env, x, _, s, e, fun v H1 t1 r1 => by cases r1.blE; exact ⟨b, rfl, k H1 t1⟩⟩
theorem ht_not (g : PT X e (tXB X.K C sl a cls d h1)) : PT X (.UnaryOp .Not e pos) (tXB X.K C sl a cls d (.not h1)) :=
  pt_imp (pt_not g) fun σ H Q ⟨ρ, env, x, b, s, e, k⟩ => by
    rw [evX] at e
    split at e
    · rename_i b' q1
      cases e
      exact ⟨ρ, env, x, _, s, q1, fun H1 t1 => k H1 t1⟩
    · cases e
theorem hw_one {op : BoolOp} (g : PT X e (tXB X.K C sl a cls d h1)) : PW X (.BoolOp op [e] pos) (tXB X.K C sl a cls d h1) := by
  cases op
  · exact pw_and1 g
  · exact pw_or1 g
theorem hw_and (g1 : PT X e (tXB X.K C sl a cls d h1)) (g2 : PW X (.BoolOp .And (e2 :: es) pos) (tXB X.K C sl a cls d h2)) : PW X (.BoolOp .And (e :: e2 :: es) pos) (tXB X.K C sl a cls d (.and h1 h2)) :=
  pw_imp (pw_and g1 g2) fun σ H Q ⟨ρ, env, x, b, s, e, k⟩ => by
    rw [evX] at e
    split at e
    · rename_i q1
      split at e
      · rename_i b' q2
        cases e
        exact ⟨ρ, env, x, _, s, q1, fun H1 t1 => by show (if true = true then _ else _); rw [if_pos rfl]; exact ⟨ρ, env, x, _, s.xt t1, q2, fun H2 t2 => k H2 (t1.trans t2)⟩⟩
      · cases e
    · rename_i q1
      cases e
      exact ⟨ρ, env, x, _, s, q1, fun H1 t1 => by show (if false = true then _ else _); rw [if_neg Bool.false_ne_true]; exact k H1 t1⟩
    · cases e
end
/-! the caught exception -/
/-- what the exception classes must say -/
structure EcOk (K : PySem.W.Frag) (xt : XT) : Prop where
  ok : ∀ p ∈ xt.2, ∃ Ca : Addr, xt.1 p.1 = some (.ref Ca) ∧ ExcC K Ca ∧ ∀ f ∈ p.2, PySem.W.findIn K (.ref Ca) f = some none
/-- the class at tv: those of the table that are of it -/
def IsT (K : PySem.W.Frag) (xt : XT) (tv : Value) (cs : List Str) : Prop := ∀ p ∈ xt.2, ∃ Ca : Addr, xt.1 p.1 = some (.ref Ca) ∧ PySem.W.kitOne K (.ref Ca) tv = some (cs.contains p.1)
theorem pe_vac {X : Cx} {e : Expr} {t : TE} (h : ∀ σ H Q, ¬ t σ H Q) : PE X e t := ⟨fun _ _ σ H Q _ q => absurd q (h σ H Q)⟩
theorem pt_vac {X : Cx} {e : Expr} {t : TT} (h : ∀ σ H Q, ¬ t σ H Q) : PT X e t := ⟨fun _ _ σ H Q _ q => absurd q (h σ H Q)⟩
theorem lookup_key : ∀ {fs : List (Str × D)} {f : Str} {r : D}, fs.lookup f = some r → f ∈ fs.map (·.1)
  | [], _, _, h => by cases h
  | (g, d) :: fs, f, r, h => by
    by_cases e : f = g
    · subst e; simp
    · have hb : (f == g) = false := by simpa using e
      rw [List.lookup_cons, hb] at h
      rw [List.map_cons]
      exact List.mem_cons_of_mem _ (lookup_key h)
section
variable {X : Cx} {C : CtxW} {sl : Option Nat} {a : Addr} {cls : Value} {d : Option Addr} {oe : Obj} {pn : List (Addr × Obj)} {e e1 e2 : Expr} {es : List Expr} {he h1 h2 : Hx} {pos p p2 p3 : Pos} {i : Nat} {x n t : Str}
theorem xr_cls {K : PySem.W.Frag} {xt : XT} {H : Hp} {x : Exn} (W : EcOk K xt) (h : XR K xt H x cls d) : ∃ Ca : Addr, cls = .ref Ca ∧ ExcC K Ca ∧ ∀ f ∈ x.fs.map (·.1), PySem.W.findIn K (.ref Ca) f = some none := by
  obtain ⟨h1, h2, _, _⟩ := h
  obtain ⟨Ca, k1, k2, k3⟩ := W.ok _ h1
  have k1 : xt.1 x.cls = some (.ref Ca) := k1
  rw [h2] at k1
  exact ⟨Ca, Option.some.inj k1, k2, k3⟩
/-- e.f -/
theorem hx_f (W : EcOk X.K C.mg) (hN : X.N[i]? = some x) (hv : Vis X.env.scope x) (d1 : (x == ("__debug__" : Str)) = false) (d2 : (x == ("__classdict__" : Str)) = false) (hsl : sl = some i) (hz : Zc cls d oe) (hf : ∃ vs, oe.data = .fields vs) :
    PE (X.suite a ((a, oe) :: pn)) (.Attribute (.Name x p) n pos) (tX X.K C sl a cls d (.f n)) := by
  by_cases hC : ∃ Ca : Addr, cls = .ref Ca ∧ ExcC X.K Ca ∧ PySem.W.findIn X.K (.ref Ca) n = some none
  · obtain ⟨Ca, ec, T, hno⟩ := hC
    refine pe_imp (pe_xf (X := X) (C := Ca) (a := a) (oe := oe) (pn := pn) (cls := cls) (d := d) (te := tVar i) ⟨T.hg, T.hk, T.hs, T.hd⟩ hno hz hf (pe_var (X := X.suite a ((a, oe) :: pn)) hN hv d1 d2)) fun σ H Q ⟨ρ, env, x, r, s, e, k⟩ => ?_
    have e : x.fs.lookup n = some r := e
    obtain ⟨h1, h2, h3, h4⟩ := s.xr
    rcases h4 with ⟨hn, _⟩ | ⟨dd, vs, e1, e2, e3, e4⟩
    · rw [hn] at e; cases e
    · obtain ⟨v, g1, g2⟩ := kv_some e3 e4 e
      exact ⟨.ref a, s.at_ i hsl, rfl, ec, dd, vs, v, e1, e2, g1, k v H .refl (g2.mono (List.nil_prefix) Ex.refl)⟩
  · refine pe_vac fun σ H Q ⟨ρ, env, x, r, s, e, k⟩ => hC ?_
    obtain ⟨Ca, k1, k2, k3⟩ := xr_cls W s.xr
    exact ⟨Ca, k1, k2, k3 n (lookup_key e)⟩
/-- isinstance of the caught exception: one class, a tuple of classes -/
def rIsX (K : PySem.W.Frag) (cls : Value) (d : Option Addr) (a : Addr) : List V → Hp → VK → Prop := fun xs H Q => ∃ (c : V) (b : Bool), xs = [.ref a, c] ∧ (d = none ∨ ∃ dd vs, d = some dd ∧ H dd = some (.xd vs)) ∧
  ((∃ cv, (∀ u, RelV c u → u = cv) ∧ PySem.W.kitOne K cls cv = some b) ∨ ∃ tp ts cvs, c = .ref tp ∧ H tp = some (.tup ts) ∧ (∀ us, Vals ts us → us = cvs) ∧ PySem.W.kitAny K cls cvs = some b) ∧ Q (.bl b) H
theorem call_isX {Ca : Addr} (T : ExcC X.K Ca) (hz : Zc (.ref Ca) d oe) (hf : ∃ vs, oe.data = .fields vs) : CallR (X.suite a ((a, oe) :: pn)) (.builtin "isinstance") (rIsX X.K (.ref Ca) d a) := by
  intro pins s σ H xs us Q I r h
  obtain ⟨c, b, rfl, hd, hcv, q⟩ := h
  obtain ⟨u1, u2, rfl, rx, rt⟩ := vals2 r
  obtain rfl : u1 = Value.ref a := rx
  obtain ⟨hget, _⟩ := I.pin (a, oe) (List.mem_append.mpr (.inl List.mem_cons_self))
  obtain ⟨vs, hv⟩ := hf
  have J : ∃ od, PySem.W.InstAt s.heap a oe Ca od := by
    rcases hd with hd | ⟨dd, fs, hd, hx⟩
    · exact ⟨none, hget, hz.1, by unfold PySem.W.notCls; rw [hv] <;> rfl, by rw [hz.2, hd]; trivial⟩
    · have hx : ObjOk X.prog X.w H s.heap dd (.xd fs) := I.hok dd _ hx
      obtain ⟨mA, hns, hr⟩ := hx
      obtain ⟨od, ho, hl⟩ := lookIn_ns hns
      exact ⟨some od, hget, hz.1, by unfold PySem.W.notCls; rw [hv] <;> rfl, by rw [hz.2, hd]; exact ho⟩
  obtain ⟨od, J⟩ := J
  have hcl : (PySem.W.clsIn X.K Ca).isSome = true := by
    obtain ⟨cd, hc, _⟩ := PySem.W.any_some T.hd
    rw [hc]; rfl
  have Z := PySem.W.kitx_exc (x := a) (ox := oe) (od := od) hcl T.hg T.hk T.hs T.ha T.hn T.ht T.hm
  rcases hcv with ⟨cv, hcv, e⟩ | ⟨tp, ts, cvs, rfl, ht, hcv, e⟩
  · have ec := hcv _ rt
    subst ec
    exact PySem.W.kia_one Z I.kIn J e (fun z => nomatch z) fun tk => ⟨.bl b, H, I.kept (t' := tk) fun _ _ z => z, rfl, q⟩
  · obtain rfl : u2 = Value.ref tp := rt
    have hx : ObjOk X.prog X.w H s.heap tp (.tup ts) := I.hok tp _ ht
    obtain ⟨z, us, rr, o, g1, g2, nn, g3⟩ := hx
    have eu := hcv _ rr
    subst eu
    obtain ⟨oc, od2, oda, osl⟩ := o
    dsimp only at g2 g3
    subst g2
    subst g3
    exact PySem.W.kia_tup Z I.kIn J g1 e (fun z => nomatch z) fun tk => ⟨.bl b, H, I.kept (t' := tk) fun _ _ z => z, rfl, q⟩
/-- a class's name and value -/
def Cln (X : Cx) (t : Str) (v : V) (tv : Value) : Prop := (∀ u, RelV v u → u = tv) ∧ RelV v tv ∧ Gl X t ∧ (t == ("__debug__" : Str)) = false ∧ (X.mg t = some tv ∨ (X.mg t = none ∧ bootBuiltins t = some tv ∧ t ≠ "__name__"))
theorem cln_pe {v : V} {tv : Value} (h : Cln X t v tv) : PE (X.suite a ((a, oe) :: pn)) (.Name t p) (tC v) := by
  obtain ⟨_, h1, h2, h3, h4 | ⟨h4, h5, h6⟩⟩ := h
  · exact pe_glob (X := X.suite a ((a, oe) :: pn)) h2 h4 h1 h3
  · exact pe_bltn (X := X.suite a ((a, oe) :: pn)) h2 h4 h5 h1 h6 h3
theorem xr_dict {K : PySem.W.Frag} {xt : XT} {H : Hp} {x : Exn} (h : XR K xt H x cls d) : d = none ∨ ∃ dd vs, d = some dd ∧ H dd = some (.xd vs) := by
  obtain ⟨_, _, _, h4 | ⟨dd, vs, e1, e2, _⟩⟩ := h
  · exact .inl h4.2
  · exact .inr ⟨dd, vs, e1, e2⟩
/-- isinstance(e, T) -/
theorem hx_is1 {v : V} {tv : Value} {cs : List Str} (W : EcOk X.K C.mg) (hg : Gl X "isinstance") (hm : X.mg "isinstance" = none) (hN : X.N[i]? = some x) (hv : Vis X.env.scope x) (d1 : (x == ("__debug__" : Str)) = false) (d2 : (x == ("__classdict__" : Str)) = false) (hsl : sl = some i)
    (hz : Zc cls d oe) (hf : ∃ vs, oe.data = .fields vs) (ht : Cln X t v tv) (hT : IsT X.K C.mg tv cs) :
    PE (X.suite a ((a, oe) :: pn)) (.Call (.Name "isinstance" p) [.Name x p2, .Name t p3] [] pos) (tX X.K C sl a cls d (.is cs)) := by
  by_cases hC : ∃ Ca : Addr, cls = .ref Ca ∧ ExcC X.K Ca
  · obtain ⟨Ca, ec, T⟩ := hC
    subst ec
    have hpa : PA (X.suite a ((a, oe) :: pn)) [.Name x p2, .Name t p3] (tCons (tVar i) (tCons (tC v) tNil)) := pa_cons (pe_var (X := X.suite a ((a, oe) :: pn)) hN hv d1 d2) (pa_cons (cln_pe ht) pa_nil rfl) rfl
    refine pe_imp (pe_callB (X := X.suite a ((a, oe) :: pn)) (call_isX T hz hf) hg hm boot_isinstance hpa (by decide +kernel) (by decide +kernel) rfl (plain_args rfl)) fun σ H Q ⟨ρ, env, x, r, s, e, k⟩ => ?_
    cases e
    obtain ⟨Cb, k1, k2⟩ := hT _ s.xr.1
    have k1 : C.mg.1 x.cls = some (.ref Cb) := k1
    rw [s.xr.2.1] at k1
    cases k1
    exact ⟨.ref a, s.at_ i hsl, v, _, rfl, xr_dict s.xr, .inl ⟨tv, ht.1, k2⟩, k _ H .refl .bl⟩
  · refine pe_vac fun σ H Q ⟨ρ, env, x, r, s, e, k⟩ => hC ?_
    obtain ⟨Ca, k1, k2, _⟩ := xr_cls W s.xr
    exact ⟨Ca, k1, k2⟩
/-! the suite's statements -/
def tH (w : World) (K : PySem.W.Frag) (C : CtxW) (sl : Option Nat) (a : Addr) (cls : Value) (d : Option Addr) (h : Hs) : TS := fun D σ H => ∃ ρ S env x, SR w K H ρ S ∧ Sx K C sl a cls d ρ env x σ H ∧ wp (evH C.c x h env) (LS w K D ρ H) S
theorem hs_nil : PSs X [] (tH X.w X.K C sl a cls d .nil) := pss_imp pss_nil fun D σ H ⟨ρ, S, env, x, hS, s, h⟩ => by
  rw [evH] at h
  exact (show LS X.w X.K D ρ H (.nx, env) S from h) H ρ List.prefix_rfl Ex.refl hS σ s.E
theorem hs_ret {hds : List Stmt} (g : PE X e (tX X.K C sl a cls d he)) : PSs X [.Return (some e) pos] (tH X.w X.K C sl a cls d (.ret he)) :=
  pss_imp (pss_cons (ps_ret g) pss_nil) fun D σ H ⟨ρ, S, env, x, hS, s, h⟩ => by
    rw [evH] at h
    obtain ⟨r, e, h⟩ := wpx_opt.mp (wpx_bind.mp h)
    have h : LS X.w X.K D ρ H (.rt r, env) S := h
    refine ⟨ρ, env, x, r, s, e, fun v H' t rv => ?_⟩
    exact h H' ρ List.prefix_rfl t.ex (hS.xt t) v rv
theorem hs_ife {hr : Hs} {c : Expr} {rest : List Stmt} (gc : PT X c (tXB X.K C sl a cls d h1)) (g : PE X e (tX X.K C sl a cls d he)) (gr : PSs X rest (tH X.w X.K C sl a cls d hr)) :
    PSs X (.If c [.Return (some e) pos] [] p :: rest) (tH X.w X.K C sl a cls d (.ife h1 he hr)) :=
  pss_imp (pss_cons (ps_if gc (pss_cons (ps_ret g) pss_nil) pss_nil) gr) fun D σ H ⟨ρ, S, env, x, hS, s, h⟩ => by
    rw [evH] at h
    obtain ⟨b, e, h⟩ := wpx_opt.mp (wpx_bind.mp h)
    obtain ⟨k, rfl, h⟩ := wp_asB.mp (wpx_bind.mp h)
    refine ⟨ρ, env, x, k, s, e, fun H' t => ?_⟩
    cases k with
    | true =>
      obtain ⟨r, e2, h⟩ := wpx_opt.mp (wpx_bind.mp h)
      have h : LS X.w X.K D ρ H (.rt r, env) S := h
      show (if true = true then _ else _)
      rw [if_pos rfl]
      exact ⟨ρ, env, x, r, s.xt t, e2, fun v H2 t2 rv => h H2 ρ List.prefix_rfl (t.trans t2).ex (hS.xt (t.trans t2)) v rv⟩
    | false =>
      show (if false = true then _ else _)
      rw [if_neg Bool.false_ne_true]
      exact ⟨ρ, S, env, x, hS.xt t, s.xt t, wp_mono h fun _ _ z => z.later List.prefix_rfl t.ex⟩
theorem hs_set {hr : Hs} {rest : List Stmt} {j : Nat} {y : Str} (hnd : X.N.Nodup) (hj : X.N[j]? = some y) (hl : Loc X.env.scope y) (hfn : X.fn y = true ∨ X.env.scope.names.lookup y = some .local) (hne : sl ≠ some j) (hc : isComp e = false)
    (g : PE X e (tX X.K C sl a cls d he)) (gr : PSs X rest (tH X.w X.K C sl a cls d hr)) : PSs X (.Assign [.Name y p2] e pos :: rest) (tH X.w X.K C sl a cls d (.set j he hr)) :=
  pss_imp (pss_cons (ps_asg g (pg_name hnd hj hl hfn) (show swapsWith e (some (.Name y p2)) pos.line X.env = pure false from sw_no hc) (by cases e <;> rfl) rfl) gr) fun D σ H ⟨ρ, S, env, x, hS, s, h⟩ => by
    rw [evH] at h
    obtain ⟨r, e, h⟩ := wpx_opt.mp (wpx_bind.mp h)
    refine ⟨ρ, env, x, r, s, e, fun v H' t rv => ?_⟩
    refine ⟨ρ, S, env.set j (some r), x, hS.xt t, ⟨(s.xt t).E.set rv j, (s.xt t).xr, fun i hi => ?_⟩, wp_mono h fun _ _ z => z.later List.prefix_rfl t.ex⟩
    rw [List.getElem?_set_ne (fun z => hne (by rw [hi, z]))]
    exact s.at_ i hi
/-- class names in a row -/
inductive ClnS (X : Cx) : List Expr → List V → List Value → Prop
  | nil : ClnS X [] [] []
  | cons {t : Str} {p : Pos} {v : V} {tv : Value} {es : List Expr} {vs : List V} {tvs : List Value} (h : Cln X t v tv) (r : ClnS X es vs tvs) : ClnS X (.Name t p :: es) (v :: vs) (tv :: tvs)
theorem clns_pa {vs : List V} {tvs : List Value} (h : ClnS X es vs tvs) : PA (X.suite a ((a, oe) :: pn)) es (fun _ H Q => Q vs H) := by
  induction h with
  | nil => exact pa_nil
  | cons h r ih => exact pa_imp (pa_cons (cln_pe h) ih rfl) fun σ H Q q => q
theorem clns_uq {vs : List V} {tvs : List Value} (h : ClnS X es vs tvs) : ∀ us, Vals vs us → us = tvs := by
  induction h with
  | nil => intro us r; cases r; rfl
  | cons h r ih =>
    intro us q
    cases q with
    | cons q1 q2 => rw [h.1 _ q1, ih _ q2]
theorem clns_len {vs : List V} {tvs : List Value} (h : ClnS X es vs tvs) : vs.length = es.length := by
  induction h with
  | nil => rfl
  | cons h r ih => simp [ih]
/-- a tuple of classes -/
def IsTs (K : PySem.W.Frag) (xt : XT) (tvs : List Value) (cs : List Str) : Prop := ∀ p ∈ xt.2, ∃ Ca : Addr, xt.1 p.1 = some (.ref Ca) ∧ PySem.W.kitAny K (.ref Ca) tvs = some (cs.contains p.1)
theorem hx_isT {vs : List V} {tvs : List Value} {cs : List Str} {k0 : Nat} (W : EcOk X.K C.mg) (hg : Gl X "isinstance") (hm : X.mg "isinstance" = none) (hN : X.N[i]? = some x) (hv : Vis X.env.scope x) (d1 : (x == ("__debug__" : Str)) = false) (d2 : (x == ("__classdict__" : Str)) = false) (hsl : sl = some i)
    (hz : Zc cls d oe) (hf : ∃ vs, oe.data = .fields vs) (ht : ClnS X es vs tvs) (hl : es.length ≤ 1000) (hT : IsTs X.K C.mg tvs cs) :
    PE (X.suite a ((a, oe) :: pn)) (.Call (.Name "isinstance" p) [.Name x p2, .Tuple es k0 p3] [] pos) (tX X.K C sl a cls d (.is cs)) := by
  by_cases hC : ∃ Ca : Addr, cls = .ref Ca ∧ ExcC X.K Ca
  · obtain ⟨Ca, ec, T⟩ := hC
    subst ec
    have hpa : PA (X.suite a ((a, oe) :: pn)) [.Name x p2, .Tuple es k0 p3] (tCons (tVar i) (tCons (tTup fun _ H Q => Q vs H) tNil)) := pa_cons (pe_var (X := X.suite a ((a, oe) :: pn)) hN hv d1 d2) (pa_cons (pe_tup (clns_pa ht)) pa_nil rfl) rfl
    refine pe_imp (pe_callB (X := X.suite a ((a, oe) :: pn)) (call_isX T hz hf) hg hm boot_isinstance hpa (by decide +kernel) (by decide +kernel) rfl (plain_args rfl)) fun σ H Q ⟨ρ, env, x, r, s, e, k⟩ => ?_
    cases e
    obtain ⟨Cb, k1, k2⟩ := hT _ s.xr.1
    have k1 : C.mg.1 x.cls = some (.ref Cb) := k1
    rw [s.xr.2.1] at k1
    cases k1
    refine ⟨.ref a, s.at_ i hsl, ?_⟩
    refine ⟨by rw [clns_len ht]; exact Nat.le_trans hl (by decide), fun q hq => ?_⟩
    have t1 : Xt H (upd H q (.tup vs)) := .new hq
    exact ⟨.ref q, _, rfl, xr_dict (s.xr.xt t1), .inr ⟨q, vs, tvs, rfl, upd_same, clns_uq ht, k2⟩, k _ _ t1 .bl⟩
  · refine pe_vac fun σ H Q ⟨ρ, env, x, r, s, e, k⟩ => hC ?_
    obtain ⟨Ca, k1, k2, _⟩ := xr_cls W s.xr
    exact ⟨Ca, k1, k2⟩
end
/-! ### try -/
/-- a suite without other code -/
def hsOk : Hs → Bool
  | .nil => true
  | .ret _ => true
  | .set _ _ r => hsOk r
  | .ife _ _ r => hsOk r
  | .gen _ => false
theorem nox_evH {C : Ctx} {x : Exn} : ∀ (h : Hs) (env : Nv), hsOk h = true → NoX (evH C x h env)
  | .nil, env, _ => by rw [evH]; exact NoX.ret
  | .ret e, env, _ => by rw [evH]; exact NoX.bind NoX.opt fun _ => NoX.ret
  | .set i e r, env, h => by rw [evH]; exact NoX.bind NoX.opt fun _ => nox_evH r _ h
  | .ife c a r, env, h => by
    rw [evH]
    refine NoX.bind NoX.opt fun _ => NoX.bind nox_asB fun b => ?_
    cases b with
    | true => exact NoX.bind NoX.opt fun _ => NoX.ret
    | false => exact nox_evH r _ h
  | .gen b, env, h => by cases h
/-- the clauses and their terms -/
inductive HdR (w : World) (K : PySem.W.Frag) (C : CtxW) : List ClT → Hds → Prop
  | nil : HdR w K C [] .nil
  | cons {c : Value} {sl : Option Nat} {cs : List Str} {h : Hs} {l : List ClT} {r : Hds} (hc : ∀ p ∈ C.mg.2, ∃ Ca : Addr, C.mg.1 p.1 = some (.ref Ca) ∧ PySem.W.exmOne K (.ref Ca) c = some (cs.contains p.1)) (hp : hsOk h = true) (q : HdR w K C l r) :
      HdR w K C ((c, sl, fun a cls d => tH w K C sl a cls d h) :: l) (.cons cs sl h r)
def slW (σ : L2.St) (o : Option V) : Option Nat → L2.St
  | none => σ
  | some i => σ.set i o
theorem wipeO_set {K : PySem.W.Frag} {H : Hp} {ρ : List Addr} {env : Nv} {σ : L2.St} {sl : Option Nat} (E : EnvR K H ρ env σ) (o : Option V) : EnvR K H ρ (wipeO env sl) (slW σ o sl) := by
  cases sl with
  | none => exact E
  | some i =>
    refine ⟨by simp [wipeO, slW, E.len], fun j d e => ?_⟩
    rw [wipeO, List.getElem?_set] at e
    by_cases hj : i = j
    · rw [if_pos hj] at e
      split at e <;> cases e
    · rw [if_neg hj] at e
      obtain ⟨v, h1, h2⟩ := E.val j d e
      exact ⟨v, by rw [slW, List.getElem?_set_ne hj]; exact h1, h2⟩
section
variable {X : Cx} {C : CtxW}
theorem tri_go {D : Ends} {env : Nv} {ρ ρ' : List Addr} {H H' : Hp} {x : Exn} {S : Store} {cls : Value} {d : Option Addr} {σ : L2.St} (p : ρ <+: ρ') (e : Ex X.K H H') (s : SR X.w X.K H' ρ' S) (E : EnvR X.K H' ρ' env σ) (xr : XR X.K C.mg H' x cls d) :
    ∀ {l : List ClT} {ih : Hds}, HdR X.w X.K C l ih → wpx (evHds C.c x ih env) (LS X.w X.K D ρ H) (EQ X.w X.K C env ρ H) S → wMix X.K C.ex D l cls d σ H'
  | _, _, .nil, h => by
    rw [evHds] at h
    exact (show EQ X.w X.K C env ρ H x S from h) cls d H' ρ' σ p e s E xr
  | _, _, @HdR.cons _ _ _ c sl cs hb l r hc hp q, h => by
    obtain ⟨Ca, k1, k2⟩ := hc _ xr.1
    have k1 : C.mg.1 x.cls = some (.ref Ca) := k1
    rw [xr.2.1] at k1
    cases k1
    have k2 : PySem.W.exmOne X.K (.ref Ca) c = some (cs.contains x.cls) := k2
    rw [evHds] at h
    refine ⟨cs.contains x.cls, k2, fun hb1 a na => ?_, fun hb0 => ?_⟩
    · simp only [hb1] at h
      obtain ⟨g1, h⟩ := wpx_guard.mp (wpx_bind.mp h)
      have h := (nox_evH hb (wipeO env sl) hp).wp (wpx_bind.mp h)
      have E1 : EnvR X.K H' ρ' (wipeO env sl) (setO σ a sl) := by
        have := wipeO_set (sl := sl) E (some (.ref a))
        cases sl <;> exact this
      refine ⟨ρ', S, wipeO env sl, x, s, ⟨E1, xr, fun i hi => ?_⟩, wp_mono h fun r S1 z => ?_⟩
      · subst hi
        have hl : i < σ.length := by rw [← E.len]; simpa [slOk] using g1
        exact List.getElem?_set_self hl
      · have z : LS X.w X.K D ρ H (r.1, wipeO r.2 sl) S1 := z
        intro H2 ρ2 p2 e2 s2
        have z2 := z H2 ρ2 (p.trans p2) (e.trans e2) s2
        obtain ⟨fl, env2⟩ := r
        have go : ∀ {σ2 : L2.St}, EnvR X.K H2 ρ2 env2 σ2 → EnvR X.K H2 ρ2 (wipeO env2 sl) (slW σ2 none sl) := fun E2 => wipeO_set E2 none
        cases fl with
        | nx => intro σ2 E2; cases sl <;> exact z2 _ (go E2)
        | bk => intro σ2 E2; cases sl <;> exact z2 _ (go E2)
        | ct => intro σ2 E2; cases sl <;> exact z2 _ (go E2)
        | rt v => cases sl <;> exact z2
    · simp only [hb0] at h
      exact tri_go p e s E xr q h
/-- try: body; except ..: suites -/
theorem ss_tri {body : List Stmt} {h₀ : ExceptHandler} {hds : List ExceptHandler} {l : List ClT} {pos : Pos} {ib : Sms} {ih : Hds} (hs : X.stack = X.env :: X.outer) (hf : X.env.frame = some X.env.locals) (hN : X.N.Nodup) (tk : Takes X C.ex)
    (hb : ∀ (W : WX) (pn : List (Addr × Obj)) (xe : Value → Shared → Prop), Takes (X.tr pn xe) W → PassesOwn (model X.prog X.w) X.A X.env xe → PSs (X.tr pn xe) body (tDSs X.w X.K ⟨C.c, C.mg, W⟩ ib))
    (hh : HdsMix X (h₀ :: hds) l) (hr : HdR X.w X.K C l ih) : PS X (.Try body (h₀ :: hds) [] [] pos) (tDS X.w X.K C (.tri ib ih)) :=
  ps_imp (ps_try_mix hs hf hN tk hb hh) fun D σ H ⟨ρ, S, env, hS, hE, h⟩ => by
    rw [evS] at h
    have h := wpx_trapM.mp h
    exact ⟨ρ, S, env, hS, hE, wpx_mono h (fun _ _ z => z) fun x S1 z cls d H1 ρ1 σ1 p1 e1 s1 E1 xr => tri_go (C := C) p1 e1 s1 E1 xr hr z⟩
end
end Mn
set_option maxHeartbeats 2000000
/-! Mn, part 11d: exceptions are made: a class's own __init__ that says super().__init__(..) and stores its parameters. -/
namespace Mn
open PySem PySem.Spec PyProof.Rows L2 NdefX
section
open PySem.W
variable {prog : Program} {w : World} {A : Around} {E : Value → Shared → Prop} {h : Heap} {g : Array GenState} {d : Drawn} {t : Nat} {os : OsState}
variable {nm q : Str} {C N : Addr} {bs bm : List Value} {hdct : Bool} {sn : List Str} {sub : List Value} {ab : Bool} {col : Option Bool} {dd : Option Addr} {k0 k1 k2 k3 k5 : Option Value}
/-- the bound __init__ called -/
theorem call_mw {u e t0 : Addr} {rest : List Value} {Q : Value → Shared → Prop}
    (hC : h.get? C = some (excClassObj nm q C N bs bm hdct sn sub ab col dd k0 k1 k2 k3 k5 "ValueError.__new__")) (he : h.get? e = some (HandSPX.excO C t0)) (hu : h.get? u = some (kxs_mw "ValueError.__init__" e)) (hrest : rest.length ≤ sizeLine)
    (hq : ∀ h' t1, (∀ b o, b ≠ e → h.get? b = some o → h'.get? b = some o) → h'.get? e = some (HandSPX.excO C t1) → Q .none ⟨h', g, d, t, os⟩) :
    wpAny (model prog w) A (call (.ref u) rest) Q E ⟨h, g, d, t, os⟩ := by
  refine wpAny_call (codeAny_of_tree ?_)
  show wpAny _ A.in1 (callAny (.ref u) ⟨rest, []⟩) _ _ _
  simp only [callAny]
  refine wpAny_bind (wpAny_load hu ?_)
  simp only [kxs_mw, show (Value.type "method-wrapper" == Value.type "method" || Value.type "method-wrapper" == Value.type "builtin_function_or_method" || Value.type "method-wrapper" == Value.type "method-wrapper") = true by decide, if_true]
  refine W.KFB.if_so (by decide) ?_
  refine wpAny_bind (check_bound_init F.excBase_ValueError.toExcCallFacts hC he rfl ?_)
  refine wpAny_bind (wpAny_pure (wpAny_pure ?_))
  refine ⟨Code.quiet_builtin _ (by decide +kernel), codeAny_builtin F.excBase_ValueError.initEntry ?_⟩
  rw [Around.under_plainId F.excBase_ValueError.init.plain _]
  wp_walk
  refine hq _ h.objs.size (fun b o hb ho => ?_) ?_
  · rw [Heap.get?_update_other _ _ (Ne.symm hb)]
    exact Heap.get?_push_of_some _ ho
  · rw [Heap.get?_update_self _ (Heap.get?_push_of_some _ he) rfl]
    rfl
end
section
variable {X : Cx} {pins : List (Addr × Obj)} {σ : L2.St} {H : Hp} {s : Shared} {a C u : Addr} {Q : Value → Shared → Prop} {E : Value → Shared → Prop} {A : Around} {us : List Value}
theorem mw_ok (T : OexC X.K C) (I : Inv X pins σ H s) (e : H a = some (exo a C none)) (hu : s.heap.get? u = some (PySem.W.kxs_mw "ValueError.__init__" a)) (hl : us.length ≤ sizeLine) (h : ∀ s', Inv X pins σ H s' → Q .none s') :
    wpAny (model X.prog X.w) A (call (.ref u) us) Q E s := by
  obtain ⟨nm, q, N, bs, bm, sn, sub, ab, col, dd, k0, k1, k2, k3, k5, hC, hbm⟩ := T.cls
  obtain ⟨t1, ho⟩ := exo_at I.hok e
  obtain ⟨hp, g, d, t, os⟩ := s
  refine call_mw (I.kIn _ _ hC) ho hu hl fun h' t2 k hx => ?_
  have J := I.write (t' := t) (x := a) (e := a) (o := exo a C none) (by rw [e]; exact True.intro) (.inl rfl) k ⟨_, hx⟩ (exo_ok hx)
  have eu : upd H a (exo a C none) = H := by
    funext b
    by_cases hb : b = a
    · rw [hb, upd_same, e]
    · rw [upd_ne hb]
  rw [eu] at J
  exact h _ J
end
/-! ### the stores -/
def iniA (s : Str) : List Str → List Stmt → Option (List Str)
  | [], [] => some []
  | x :: xs, .Assign [.Attribute (.Name s' _) f _] (.Name x' _) _ :: r => if s' = s ∧ x' = x then (iniA s xs r).map (f :: ·) else none
  | _, _ => none
/-- their reading; the parameters from i on -/
def tIni (K : PySem.W.Frag) : Nat → List Str → TS
  | _, [] => tNext
  | i, f :: r => tSeq (tOst K f (tVar 0) (tVar i)) (tIni K (i + 1) r)
theorem ini_pss {X : Cx} {s : Str} (hs : X.N[0]? = some s) (vs : Vis X.env.scope s) (d1 : (s == ("__debug__" : Str)) = false) (d2 : (s == ("__classdict__" : Str)) = false) : ∀ (xs : List Str) (body : List Stmt) (i : Nat) (fs : List Str), iniA s xs body = some fs →
    (∀ (j : Nat) (x : Str), xs[j]? = some x → X.N[i + j]? = some x ∧ Vis X.env.scope x ∧ (x == ("__debug__" : Str)) = false ∧ (x == ("__classdict__" : Str)) = false) → PSs X body (tIni X.K i fs)
  | xs, body, i, fs, h, hx => by
    unfold iniA at h
    split at h
    · cases h
      exact pss_nil
    · rename_i x xs' s' q1 f q2 x' q3 q4 r
      split at h
      · rename_i e
        obtain ⟨rfl, rfl⟩ := e
        cases hr : iniA s' xs' r with
        | none => rw [hr] at h; cases h
        | some fs' =>
          rw [hr] at h
          cases h
          obtain ⟨h1, h2, h3, h4⟩ := hx 0 x' rfl
          refine pss_cons (ps_ost (pe_var hs vs d1 d2) (pe_var h1 h2 h3 h4) rfl) (ini_pss hs vs d1 d2 xs' r (i + 1) fs' hr fun j x hj => ?_)
          have := hx (j + 1) x hj
          rw [show i + (j + 1) = i + 1 + j by omega] at this
          exact this
      · cases h
    · cases h
termination_by xs body _ _ _ _ => body.length
end Mn
set_option maxHeartbeats 2000000
/-! Mn, part 11e: the promise of an exception's __init__. -/
namespace Mn
open PySem PySem.Spec PyProof.Rows L2 NdefX
theorem exd_congr {dx : Addr} {l l' : List (Str × V)} (h : ∀ f, l.lookup f = l'.lookup f) : exd dx l = exd dx l' := by
  unfold exd
  simp only [h]
theorem lookup_snoc {f g : Str} {y : V} : ∀ {l : List (Str × V)}, f ∉ l.map (·.1) → (l ++ [(f, y)]).lookup g = ((f, y) :: l).lookup g
  | [], _ => rfl
  | (k, z) :: l, h => by
    have h1 : f ≠ k := fun e => h (by rw [e]; exact List.mem_cons_self ..)
    have ih := lookup_snoc (f := f) (g := g) (y := y) (l := l) fun m => h (List.mem_cons_of_mem _ m)
    rw [List.cons_append, lookup_put, ih, lookup_put, lookup_put, lookup_put]
    by_cases e1 : g = k
    · rw [if_pos e1, if_neg (fun e : g = f => h1 (e.symm.trans e1)), if_pos e1]
    · rw [if_neg e1, if_neg e1]
/-- the fields done, the further ones -/
theorem ini_sem {K : PySem.W.Frag} {a C : Addr} {D : Ends} {σ : L2.St} (T : OexC K C) (ha : σ[0]? = some (some (.ref a))) : ∀ (fs : List Str) (ds : List V) (i : Nat) (H : Hp) (dx : Addr) (done : List (Str × V)),
    fs.length = ds.length → (∀ (j : Nat) (v : V), ds[j]? = some v → σ[i + j]? = some (some v)) → (∀ f ∈ fs, PySem.W.findIn K (.ref C) f = some none) → (done.map (·.1) ++ fs).Nodup → done.length + fs.length ≤ 900 → dx ≠ a →
    H a = some (exo a C (some dx)) → H dx = some (exd dx done) →
    (∀ H2, H2 a = some (exo a C (some dx)) → H2 dx = some (exd dx (done ++ fs.zip ds)) → (∀ b, b ≠ a → b ≠ dx → H2 b = H b) → D.nx σ H2) → tIni K i fs D σ H
  | [], ds, i, H, dx, done, hl, hs, hn, nd, sz, ne, e1, e2, h => by
    exact h H e1 (by simpa using e2) fun _ _ _ => rfl
  | f :: fs, [], i, H, dx, done, hl, hs, hn, nd, sz, ne, e1, e2, h => by cases hl
  | f :: fs, y :: ds, i, H, dx, done, hl, hs, hn, nd, sz, ne, e1, e2, h => by
    have nf : f ∉ done.map (·.1) := fun m => (List.nodup_append.mp nd).2.2 f m f (List.mem_cons_self ..) rfl
    have ee : exd dx ((f, y) :: done) = exd dx (done ++ [(f, y)]) := exd_congr fun g => (lookup_snoc nf).symm
    have szd : done.length ≤ 900 := by omega
    refine ⟨y, hs 0 y rfl, .ref a, ha, a, C, rfl, T, hn f (List.mem_cons_self ..), .inr ⟨dx, done, e1, e2, szd, ?_⟩⟩
    rw [ee]
    refine ini_sem T ha fs ds (i + 1) _ dx (done ++ [(f, y)]) (by simpa using hl) (fun j v e => ?_) (fun g m => hn g (List.mem_cons_of_mem _ m)) (by simpa using nd) (by simpa using (by simp at sz; omega)) ne (by rw [upd_ne (Ne.symm ne)]; exact e1) upd_same fun H2 q1 q2 q3 => ?_
    · have := hs (j + 1) v (by simpa using e)
      rw [show i + (j + 1) = i + 1 + j by omega] at this
      exact this
    · refine h H2 q1 (by simpa using q2) fun b h1 h2 => ?_
      rw [q3 b h1 h2, upd_ne h2]
theorem ini_sem0 {K : PySem.W.Frag} {a C : Addr} {D : Ends} {σ : L2.St} (T : OexC K C) (ha : σ[0]? = some (some (.ref a))) {f : Str} {fs : List Str} {y : V} {ds : List V} {H : Hp}
    (hl : fs.length = ds.length) (hs : ∀ (j : Nat) (v : V), (y :: ds)[j]? = some v → σ[1 + j]? = some (some v)) (hn : ∀ g ∈ f :: fs, PySem.W.findIn K (.ref C) g = some none) (nd : (f :: fs).Nodup) (sz : (f :: fs).length ≤ 900) (e1 : H a = some (exo a C none))
    (h : ∀ dx H2, H2 a = some (exo a C (some dx)) → H2 dx = some (exd dx ((f :: fs).zip (y :: ds))) → (∀ b, b ≠ a → b ≠ dx → H2 b = H b) → H dx = none → dx ≠ a → D.nx σ H2) : tIni K 1 (f :: fs) D σ H := by
  refine ⟨y, hs 0 y rfl, .ref a, ha, a, C, rfl, T, hn f (List.mem_cons_self ..), .inl ⟨e1, fun dx n ne => ?_⟩⟩
  refine ini_sem T ha fs ds 2 _ dx [(f, y)] hl (fun j v e => ?_) (fun g m => hn g (List.mem_cons_of_mem _ m)) (by simpa using nd) (by simpa using (by simp at sz; omega)) ne upd_same (by rw [upd_ne ne]; exact upd_same) fun H2 q1 q2 q3 => ?_
  · have := hs (j + 1) v (by simpa using e)
    rw [show 1 + (j + 1) = 2 + j by omega] at this
    exact this
  · refine h dx H2 q1 q2 (fun b h1 h2 => ?_) n ne
    rw [q3 b h1 h2, upd_ne h1, upd_ne h2]
end Mn
set_option maxHeartbeats 2000000
/-! Mn, part 11f: the rule of an exception's __init__. -/
namespace Mn
open PySem PySem.Spec PyProof.Rows L2 NdefX
theorem iniA_len {s : Str} : ∀ (xs : List Str) (body : List Stmt) (fs : List Str), iniA s xs body = some fs → xs.length = fs.length
  | xs, body, fs, h => by
    unfold iniA at h
    split at h
    · cases h; rfl
    · rename_i x xs' s' q1 f q2 x' q3 q4 r
      split at h
      · cases hr : iniA s xs' r with
        | none => rw [hr] at h; cases h
        | some fs' =>
          rw [hr] at h
          cases h
          rw [List.length_cons, List.length_cons, iniA_len xs' r fs' hr]
      · cases h
    · cases h
termination_by xs body _ _ => body.length
/-- what an exception's __init__ promises: it stores its parameters, in order -/
def spXi (C : Addr) (fs : List Str) : Sp := fun vs H Q _ => ∃ a ds, vs = .ref a :: ds ∧ fs.length = ds.length ∧ H a = some (exo a C none) ∧
  ∀ d H2, H2 a = some (exo a C (some d)) → H2 d = some (exd d (fs.zip ds)) → (∀ b, b ≠ a → b ≠ d → H2 b = H b) → H d = none → d ≠ a → Q .non H2
theorem add_pin {X : Cx} {pins : List (Addr × Obj)} {σ : L2.St} {H : Hp} {s : Shared} {u : Addr} {o : Obj} (I : Inv X pins σ H s) (hu : s.heap.get? u = some o) (hn : H u = none) (hL : u ≠ X.env.locals) (hf : u ∉ X.fs) (hc : ∀ v, o.data ≠ .cell v) : Inv X ((u, o) :: pins) σ H s :=
  I.pins_of fun p hp => by
    rcases List.mem_cons.mp hp with rfl | hp
    · exact ⟨hu, hn, hL, hf, hc⟩
    · exact I.pin p (List.mem_append_right _ hp)
def okA : Expr → List Str → Bool
  | .Constant (.str _) _ _, _ => true
  | .Name x _, ps => ps.contains x
  | _, _ => false
theorem okA_star {e : Expr} {ps : List Str} (h : okA e ps = true) : notStar e = true := by
  cases e <;> first | rfl | cases h
theorem meth_ev {env : PySem.Env} {e : Expr} {ps : List Str} {p0 p1 p2 p3 : Pos} (h : okA e ps = true) (hl : (p2.endLine == p3.line) = true) : ∃ pl : Sem Bool, eval (.Call (.Attribute (.Call (.Name "super" p0) [] [] p1) "__init__" p2) [e] [] p3) env = (do
      let ov ← attributeBase (.Call (.Name "super" p0) [] [] p1) "__init__" env (eval (.Call (.Name "super" p0) [] [] p1) env)
      standAt p2.atName
      let (f, first) ← holding [ov] (getMethod ov "__init__" pl)
      callWith p3 f first (backTo p3 (starEach [e] env)) []) := by
  have hf : methodCallForm ([e].length + ([] : List Keyword).length) (backTo p3 (starEach [e] env)) (backToKw p3 (keywordEach [] env)) = true := by
    have := few_ok (cpos := p3) (env := env) (es := [e]) (by rw [List.all_cons, okA_star h]; rfl) (show 1 < 30 by decide)
    unfold methodCallForm
    simp only [Bool.and_eq_true, decide_eq_true_eq] at this ⊢
    refine ⟨⟨?_, ?_⟩, ?_⟩
    · simpa using this.1.1
    · simpa using this.1.2
    · simpa [backToKw, keywordEach] using this.2
  have hp : methodCallPos true (.Call (.Name "super" p0) [] [] p1) env p2 p3 = pure p3 := by unfold methodCallPos; simp [hl]
  refine ⟨do return (← importBound (.Call (.Name "super" p0) [] [] p1) env).getD true, ?_⟩
  show (do
      let ov ← attributeBase (.Call (.Name "super" p0) [] [] p1) "__init__" env (eval (.Call (.Name "super" p0) [] [] p1) env)
      standAt p2.atName
      methodCall (.Call (.Name "super" p0) [] [] p1) "__init__" p2 p3 env ov ([e].length + ([] : List Keyword).length) (backTo p3 (starEach [e] env)) (backToKw p3 (keywordEach [] env))) = _
  unfold methodCall
  rw [hf, hp]
  unfold calleeOf
  simp only [if_true, pure_bind]
  rfl
theorem okA_pa {X : Cx} {e : Expr} {ps : List Str} {σ : L2.St} {H : Hp} (h : okA e ps = true) (hN : ∀ (i : Nat) (x : Str), ps[i]? = some x → X.N[i]? = some x ∧ Vis X.env.scope x ∧ (x == ("__debug__" : Str)) = false ∧ (x == ("__classdict__" : Str)) = false)
    (hσ : ∀ (i : Nat) (x : Str), ps[i]? = some x → ∃ v, σ[i]? = some (some v)) : ∃ t, PA X [e] t ∧ ∀ Q : List V → Hp → Prop, (∀ v, Q [v] H) → t σ H Q := by
  unfold okA at h
  split at h
  · exact ⟨_, pa_cons pe_str pa_nil, fun Q q => q _⟩
  · rename_i ps x pos
    obtain ⟨i, hi⟩ := List.mem_iff_getElem?.mp (List.contains_iff_mem.mp h)
    obtain ⟨h1, h2, h3, h4⟩ := hN i x hi
    obtain ⟨v, hv⟩ := hσ i x hi
    exact ⟨_, pa_cons (pe_var h1 h2 h3 h4) pa_nil, fun Q q => ⟨v, hv, q v⟩⟩
  · cases h
section
variable {P : Program} {w : World} {K : PySem.W.Frag} {mg : Str → Option Value} {base : Heap} {k : Nat} {fI C cc c : Addr} {nm qual s0 file : Str} {params : Arguments} {r : List Stmt} {scope : Scope} {oc cl ccl dV kV doc pm ct : Value} {an od cld cdd : Option Addr}
  {osl csl ccs : Array (Option Value)} {vs : Array Value} {tf : Tok} {ar : Arg} {xs fs : List Str} {e : Expr} {p0 p1 p2 p3 p4 : Pos}
theorem xin_ok {body : List Stmt} (hbd : body = .Expr (.Call (.Attribute (.Call (.Name "super" p0) [] [] p1) "__init__" p2) [e] [] p3) p4 :: r)
    (look : K.lookup fI = some ⟨oc, od, .func (PySem.W.fnX nm qual params body scope [("__class__", cc)] dV kV doc pm an (.ref c) ct), osl⟩) (code : PySem.W.codeIn K (.ref c) qual = true)
    (lcc : K.lookup cc = some ⟨cl, cld, .cell (some (.ref C)), csl⟩) (lc : K.lookup c = some ⟨ccl, cdd, .fields vs, ccs⟩) (hvs : vs[2]? = some (.str file tf)) (hfile : ((P.main.file : Str) == file) = true) (htop : (P.main.scope.names.lookup ("super" : Str)).isSome = false)
    (S : NScope ((s0 :: xs) ++ [("__class__" : Str)]) (s0 :: xs) [("__class__" : Str)] scope) (hsup : scope.names.lookup ("super" : Str) = some .globalImplicit) (hmg : mg "super" = none) (hhead : (params.posonlyargs ++ params.args).head? = some ar) (har : ar.arg = s0)
    (he : okA e (s0 :: xs) = true) (hline : (p2.endLine == p3.line) = true) (hi : iniA s0 xs r = some fs) (hfs : fs ≠ []) (hdb : (s0 :: xs).all (fun x => !(x == ("__debug__" : Str)) && !(x == ("__classdict__" : Str))) = true)
    (T : OexC K C) (hno : ∀ f ∈ fs, PySem.W.findIn K (.ref C) f = some none) (nd : fs.Nodup) (sz : fs.length ≤ 900)
    (hsu : PySem.W.ks_superIn K C C "__init__" = some (some (.builtin "ValueError.__init__"))) (hVE : PySem.W.subIn K (.ref C) (.type "ValueError") = some true) (hself : PySem.W.mroIn K C (.ref C) = some true) (hop : PySem.W.nsIn K cStatics "thirdparty.any" = some none) :
    FnOk P w K mg base (L2.CX P w) (k + 1) fI (PySem.W.fnX nm qual params body scope [("__class__", cc)] dV kV doc pm an (.ref c) ct) (s0 :: xs) (spXi C fs) := by
  have hxl := iniA_len xs r fs hi
  refine ⟨fun ws H Q E ⟨a, ds, ev, hl, _, _⟩ => by rw [ev, List.length_cons, List.length_cons, hxl, hl], fun A outer s H args us vs0 Q E hr e0 bind rel hsp => ?_⟩
  obtain ⟨a, ds, ev, hl, e1, hq⟩ := hsp
  subst ev
  have inK : K.In s.heap := e0.mod.kin.keeps fun b o z => (e0.bs b o z).1
  have noLim : s.heap.NoLimit := e0.mod.nolimit.keeps fun b o z => (e0.bs b o z).1
  let F : NF := ⟨nm, qual, params, body, scope, [("__class__", cc)], c⟩
  obtain ⟨u0, ur, rfl, ra, rr⟩ : ∃ u0 ur, us = u0 :: ur ∧ RelV (.ref a) u0 ∧ Vals ds ur := by
    cases rel with
    | cons h1 h2 => exact ⟨_, _, rfl, h1, h2⟩
  obtain rfl : u0 = Value.ref a := ra
  refine codeAny_call_function hr.depth (inK _ _ look) rfl S.co S.gen rfl (PySem.W.codeRec_of inK code) (bind _ _ _ _ ?_)
  refine wpAny_newFunctionEnv S.nocell (fun ⟨n, _⟩ hy => S.par n (List.of_mem_zip hy).1) (fun h₁ hns hsb => ⟨noLim.fresh _ hsb, ?_⟩) S.kind
  show codeAny _ _ (.func body (envF F fI s.heap.objs.size)) _ _
  have kp : ∀ b o, s.heap.get? b = some o → h₁.get? b = some o := fun b o z => hsb.extBut b o (Nat.ne_of_lt (Heap.lt_size z)) (Heap.get?_push_of_some _ z)
  have base_none : ∀ b o, base.get? b = some o → H b = none := fun b o z => (e0.bs b o z).2
  have CA : CellsAt F.cl [("__class__" : Str)] [none] s.heap H := by
    refine ⟨rfl, fun y b z => ?_, fun x y b z1 z2 => ?_, fun i y z => ?_⟩
    · have z : ([("__class__", cc)] : List (Str × Addr)).lookup y = some b := z
      rw [List.lookup_cons] at z
      split at z
      · cases z
        exact ⟨base_none _ _ (e0.mod.kin _ _ lcc), _, _, inK _ _ lcc, rfl⟩
      · cases z
    · have z1 : ([("__class__", cc)] : List (Str × Addr)).lookup x = some b := z1
      have z2 : ([("__class__", cc)] : List (Str × Addr)).lookup y = some b := z2
      rw [List.lookup_cons] at z1 z2
      split at z1
      · rename_i b1
        split at z2
        · rename_i b2
          exact (eq_of_beq b1).trans (eq_of_beq b2).symm
        · cases z2
      · cases z1
    · cases i with
      | zero =>
        cases z
        exact ⟨cc, by show ([("__class__", cc)] : List (Str × Addr)).lookup _ = _; rw [List.lookup_cons, beq_self_eq_true], fun v ev => by cases ev⟩
      | succ i => cases z
  have I : Inv (ncx (L2.CX P w) P w K mg base ((s0 :: xs) ++ [("__class__" : Str)]) F fI A outer s H E) [] (startF ((s0 :: xs) ++ [("__class__" : Str)]) (.ref a :: ds) [none]) H { s with heap := h₁, toks := s.toks + ((s0 :: xs).zip (Value.ref a :: ur)).length } :=
    inv_startN S hr.hd e0 (by rw [List.length_cons, List.length_cons, hxl, hl]) rel CA hns kp
  refine PySem.ks_codeAny_funcAt ?_
  subst hbd
  refine PySem.ks_wpAt_execs_cons ?_
  have tk0 : ∃ t0, t0 = s.toks + ((s0 :: xs).zip (Value.ref a :: ur)).length := ⟨_, rfl⟩
  obtain ⟨t0, et0⟩ := tk0
  rw [← et0] at I ⊢
  obtain ⟨nmC, qC, NC, bs, bm, sn, sub, ab, col, dd, k0, k1, k2, k3, k5, hC, hbm⟩ := T.cls
  have hcl : PySem.W.clsIn K C = some { name := nmC, bases := bs, mro := .ref C :: bm, ns := NC, qualname := qC, hasDict := true, slotNames := sn, subclasses := sub, abstract := ab, collection := col, hasDel := false } := by unfold PySem.W.clsIn; rw [hC] <;> rfl
  have hkc : scope.names.lookup ("__class__" : Str) = some .free := S.frk _ (List.mem_cons_self ..)
  have hk0 : scope.names.lookup s0 = some .local := S.par s0 (List.mem_cons_self ..)
  have ndp : (s0 :: xs).Nodup := (List.nodup_append.mp S.nd).1
  have inK1 : K.In h₁ := I.kIn
  obtain ⟨pl, hev⟩ := meth_ev (p0 := p0) (p1 := p1) (p2 := p2) (p3 := p3) (env := envF F fI s.heap.objs.size) he hline
  refine PySem.ks_wpAt_Expr_any (PySem.ks_wpAt_MethodCall (pl := pl) ?_ hev) I.quiet rfl
  refine PySem.ks_wpAt_super_base (env := envF F fI s.heap.objs.size) hsup hkc (by decide) rfl (inK1 _ _ look) rfl hhead rfl (inK1 _ _ lc) rfl hvs hfile htop ?_
  obtain ⟨mb, b1, b2⟩ := I.mod.blt
  refine PySem.W.ks_loadName_global S.kind hsup (Calls.loadGlobal_builtin (I.mod.glob.keeps I.bk) hmg (b1.keeps I.bk) ((b2 "super" (by decide)).trans (by rfl)) ⟨rfl, ?_⟩)
  refine wpAny_loadName_free S.kind hkc (by show ([("__class__", cc)] : List (Str × Addr)).lookup _ = _; rw [List.lookup_cons, beq_self_eq_true]) ⟨_, inK1 _ _ lcc, rfl⟩ ?_
  rw [har]
  refine wpAny_loadName_local S.kind hk0 hns (zip_look (i := 0) ndp rfl rfl) ?_
  have hD1 := inK1 _ _ hC
  obtain ⟨t1, ho⟩ := exo_at I.hok e1
  refine PySem.ks_wpAny_isType_cls hD1 rfl ⟨rfl, ?_⟩
  refine PySem.ks_wpAny_call_super hD1 rfl ho rfl (fun c z => by cases z) (PySem.W.looks_mroIn inK1 hself) (fun h2 so2 k2 => ?_)
  have I2 := I.kept (t' := t0) k2
  obtain ⟨t2, ho2⟩ := exo_at I2.hok e1
  have inK2 : K.In h2 := I2.kIn
  have IA : PySem.W.InstAt h2 a _ C none := ⟨ho2, rfl, rfl, trivial⟩
  have drop : ((Value.ref C :: bm).dropWhile (· != .ref C)).drop 1 = bm := by simp [List.dropWhile_cons]
  have hf : PySem.W.alongIn K "__init__" bm = some (some (.builtin "ValueError.__init__")) := by
    have z := hsu
    unfold PySem.W.ks_superIn at z
    rw [hcl, Option.bind_some] at z
    dsimp only at z
    rw [drop] at z
    exact z
  refine PySem.W.kxs_getMethod (l := bm) PySem.W.kxs_ValueError so2 (PySem.W.looks_opaque inK2 hop) (l₀ := .ref C :: bm) ((PySem.W.looks_clsIn inK2 hcl).andThen .now) drop inK2 hf (IA.type.andThen (PySem.W.looks_subIn inK2 hVE)) (PySem.W.ks_ne inK2 IA hcl) (by decide) ?_
  have I3 := I2.kept (h' := h2.push (PySem.W.kxs_mw "ValueError.__init__" a)) (t' := t0 + 1) fun b o z => Heap.get?_push_of_some _ z
  have hu : (h2.push (PySem.W.kxs_mw "ValueError.__init__" a)).get? h2.objs.size = some (PySem.W.kxs_mw "ValueError.__init__" a) := Heap.get?_push_at rfl rfl
  have I4 := add_pin I3 hu (I2.hok.fresh (Nat.le_refl _)) (Nat.ne_of_gt I2.lt) (I2.nofs (Nat.le_refl _)) (fun v z => by cases z)
  have hvis : ∀ (i : Nat) (x : Str), (s0 :: xs)[i]? = some x → ((s0 :: xs) ++ [("__class__" : Str)])[i]? = some x ∧ Vis scope x ∧ (x == ("__debug__" : Str)) = false ∧ (x == ("__classdict__" : Str)) = false := fun i x hx => by
    have hm := List.mem_of_getElem? hx
    have hlt : i < (s0 :: xs).length := (List.getElem?_eq_some_iff.mp hx).1
    have hd := List.all_eq_true.mp hdb x hm
    simp only [Bool.and_eq_true, Bool.not_eq_true'] at hd
    exact ⟨by rw [List.getElem?_append_left hlt]; exact hx, .inl (S.par x hm), hd.1, hd.2⟩
  have hsl : ∀ (i : Nat) (v : V), (V.ref a :: ds)[i]? = some v → (startF ((s0 :: xs) ++ [("__class__" : Str)]) (.ref a :: ds) [none])[i]? = some (some v) := fun i v hx => by
    have hlt : i < (V.ref a :: ds).length := (List.getElem?_eq_some_iff.mp hx).1
    unfold startF
    rw [List.getElem?_append_left (by rw [List.length_map]; exact hlt), List.getElem?_map, hx]
    rfl
  obtain ⟨t, hpa, hq0⟩ := okA_pa (X := ncx (L2.CX P w) P w K mg base ((s0 :: xs) ++ [("__class__" : Str)]) F fI A outer s H E) (σ := startF ((s0 :: xs) ++ [("__class__" : Str)]) (.ref a :: ds) [none]) (H := H) he hvis fun i x hx => by
    have hlt : i < (s0 :: xs).length := (List.getElem?_eq_some_iff.mp hx).1
    have hlt2 : i < (V.ref a :: ds).length := by rw [List.length_cons, ← hl, ← hxl]; exact hlt
    exact ⟨_, hsl i _ (List.getElem?_eq_getElem hlt2)⟩
  have run := hpa.run p3 _ _ _ H (fun vs H1 => vs.length ≤ 1 ∧ H1 = H) I4 (hq0 _ fun v => ⟨by simp, rfl⟩)
  have e' : starEach [e] (envF F fI s.heap.objs.size) = (false, eval e (envF F fI s.heap.objs.size)) :: starEach [] (envF F fI s.heap.objs.size) := star_one (okA_star he)
  replace run : wpAny _ _ (spliced (backTo p3 (starEach [e] (envF F fI s.heap.objs.size)))) _ _ _ := run
  rw [e'] at run
  show wpAny _ _ (callWith p3 (.ref h2.objs.size) [] (backTo p3 (starEach [e] (envF F fI s.heap.objs.size))) []) _ _ _
  rw [e']
  refine PySem.W.kxs_callWith (i := "ValueError.__init__") (x := a) rfl (PySem.Calls.evalArgs_plain (wpAny_mono run (fun us s1 hh => ?_) fun _ _ z => z))
  obtain ⟨vsV, H1, I5, r1, hlen, rfl⟩ := hh
  have pu := (I5.pin (h2.objs.size, PySem.W.kxs_mw "ValueError.__init__" a) (by simp)).1
  refine ⟨pu, mw_ok T I5 e1 pu (Nat.le_trans (m := 1) (show us.length ≤ 1 by rw [← r1.length]; exact hlen) (by rw [sizeLine_eq]; omega)) fun s' J => ?_⟩
  have J0 := J.pins_of (pins' := []) (fun p hp => absurd hp (by simp))
  refine wpAt_of_wpAny ?_
  have wish : tIni K 1 fs { nx := fun _ H' => Q .non H', rt := Q } (startF ((s0 :: xs) ++ [("__class__" : Str)]) (.ref a :: ds) [none]) H1 := by
    cases fs with
    | nil => exact absurd rfl hfs
    | cons f fs =>
      cases ds with
      | nil => cases hl
      | cons y ds =>
        exact ini_sem0 T (hsl 0 _ rfl) (by simpa using hl) (fun j v q => by rw [Nat.add_comm]; exact hsl (j + 1) v q) hno nd sz e1 hq
  have fin : ∀ {σ' : L2.St} {H' : Hp} {v : V} {u : Value} {s2 : Shared}, Inv (ncx (L2.CX P w) P w K mg base ((s0 :: xs) ++ [("__class__" : Str)]) F fI A outer s H1 E) [] σ' H' s2 → L2.RelV v u → Q v H' → CE outer P w H1 s Q u s2 :=
    fun {σ' H' v u s2} J rv q => ⟨v, H', J.os, J.bare, J.base, J.hok, rv, q⟩
  refine wpAny_mono ((ini_pss (X := ncx (L2.CX P w) P w K mg base ((s0 :: xs) ++ [("__class__" : Str)]) F fI A outer s H1 E) rfl (.inl hk0) (hvis 0 s0 rfl).2.2.1 (hvis 0 s0 rfl).2.2.2 xs r 1 fs hi (fun j x hj => by have := hvis (j + 1) x hj; rw [Nat.add_comm 1 j]; exact this)).run [] s' _ H1 { nx := fun _ H' => Q .non H', rt := Q } J0 wish) (fun fl s2 hs => ?_) fun _ _ z => z
  cases fl with
  | ret u =>
    obtain ⟨v, σ', H', J, rv, q⟩ := hs
    exact fin J rv q
  | next =>
    obtain ⟨σ', H', J, q⟩ := hs
    exact fin (v := V.non) (u := Value.none) J rfl q
  | brk =>
    obtain ⟨_, _, _, q⟩ := hs
    exact False.elim q
  | cont =>
    obtain ⟨_, _, _, q⟩ := hs
    exact False.elim q
end
end Mn
set_option maxHeartbeats 2000000
/-! Mn, part 11g: raise. -/
namespace Mn
open PySem PySem.Spec PyProof.Rows L2 NdefX
/-- a class of exceptions with its own __init__ may be called at X -/
structure XcI (X : Cx) (c : Str) (fs : List Str) : Prop where
  ex : ∃ (C fI : Addr) (fd : FuncData) (ps : List Str) (k : Nat), X.mg c = some (.ref C) ∧ OexC X.K C ∧ PySem.W.findIn X.K (.ref C) "__init__" = some (some (.ref fI)) ∧ PySem.W.typeIn X.K (.ref fI) = some (.type "function") ∧
    FnOk X.prog X.w X.K X.mg X.base (L2.CX X.prog X.w) k fI fd ps (spXi C fs) ∧ Room (k + 1) X.A ∧ Binds X.K fd ps []
  sz : fs.length ≤ 900
theorem no_pass {X : Cx} : Passes (L2.CX X.prog X.w) X (fun _ _ _ => False) := fun _ _ _ _ _ _ _ z => by
  obtain ⟨_, _, _, _, _, _, _, _, _, _, _, _, z⟩ := z
  exact z.elim
theorem scal_rp {K : PySem.W.Frag} {H H' : Hp} {ρ ρ' : List Addr} : ∀ {d : D} {v : V}, scal d = true → Rp K H ρ d v → Rp K H' ρ' d v
  | .non, _, _, r => by unfold Rp at r ⊢; exact r
  | .bl _, _, _, r => by unfold Rp at r ⊢; exact r
  | .int _, _, _, r => by unfold Rp at r ⊢; exact r
  | .str _, _, _, r => by unfold Rp at r ⊢; exact r
  | .tup _, _, h, _ => by cases h
  | .loc _, _, h, _ => by cases h
  | .lst _, _, h, _ => by cases h
  | .dct _ _, _, h, _ => by cases h
theorem scal_rps {K : PySem.W.Frag} {H H' : Hp} {ρ ρ' : List Addr} : ∀ {ds : List D} {vs : List V}, ds.all scal = true → Rps K H ρ ds vs → Rps K H' ρ' ds vs
  | [], _, _, r => by unfold Rps at r ⊢; exact r
  | d :: ds, _, h, r => by
    rw [List.all_cons, Bool.and_eq_true] at h
    unfold Rps at r ⊢
    obtain ⟨v, l, e, r1, r2⟩ := r
    exact ⟨v, l, e, scal_rp h.1 r1, scal_rps h.2 r2⟩
section
variable {X : Cx} {C : CtxW} {c : Str} {fs : List Str} {e : Expr} {es : List Expr} {ies : Es} {p pos pos' : Pos}
theorem ss_raiI (T : Tk X C) (hc : X.calm = true) (xc : XcI X c fs) (hin : (c, fs) ∈ C.mg.2) (hg : Gl X c) (ha : PA X (e :: es) (tDA X.w X.K C ies)) (hs : (e :: es).all notStar = true) (hd : (c == ("__debug__" : Str)) = false) :
    PS X (.Raise (some (.Call (.Name c p) (e :: es) [] pos)) none pos') (tDS X.w X.K C (.rai c fs ies)) := by
  obtain ⟨C0, fI, fd, ps, k, hm, To, iC, tI, F1, hr, hb⟩ := xc.ex
  have hs' := hs
  rw [List.all_cons, Bool.and_eq_true] at hs'
  refine ps_imp (ps_raise hc T.tk (pmk_oex (CX := L2.CX X.prog X.w) (dvs := []) To iC tI F1 hr hb .nil no_pass hg hm ha hd (star_one hs'.1) (plain_args hs'.2))) fun D σ H h => ?_
  obtain ⟨ρ, S, env, hS, hE, h⟩ := h
  rw [evS] at h
  replace h := wpx_bind.mp h
  refine tDA_of hS hE h fun ds S1 vs H1 ρ1 h1 p1 e1 s1 E1 r1 => ?_
  obtain ⟨g1, h1⟩ := wpx_guard.mp (wpx_bind.mp h1)
  simp only [Bool.and_eq_true, decide_eq_true_eq] at g1
  have hvl : vs.length = fs.length := by rw [← r1.length]; exact g1.1
  have h1 : EQ X.w X.K C env ρ H ⟨c, fs.zip ds⟩ S1 := h1
  refine ⟨by have := xc.sz; omega, fun a na => ⟨a, vs, by rw [List.append_nil], hvl.symm, upd_same, fun d H2 q1 q2 q3 q4 q5 => ⟨rfl, d, fs.zip vs, q1, q2, by rw [upd_ne q5] at q4; exact q4, ?_⟩⟩⟩
  have nd : H1 d = none := by rw [upd_ne q5] at q4; exact q4
  have xt : Xt H1 (upd (del H2 a) d (.xd (fs.zip vs))) := fun b o q => by
    have ba : b ≠ a := ne_of_none q na
    have bd : b ≠ d := ne_of_none q nd
    rw [upd_ne bd, del_ne ba, q3 b ba bd, upd_ne ba]
    exact q
  refine h1 (.ref C0) (some d) _ ρ1 σ p1 (e1.trans xt.ex) (s1.xt xt) (E1.mono List.prefix_rfl xt.ex) ⟨?_, ?_, ?_, .inr ⟨d, fs.zip vs, rfl, upd_same, ?_, ?_⟩⟩
  · rw [show (fs.zip ds).map (·.1) = fs from List.map_fst_zip (by omega)]
    exact hin
  · rw [T.mg]; exact hm
  · have : ((fs.zip ds).map (·.2)).all scal = true := by rw [show (fs.zip ds).map (·.2) = ds from List.map_snd_zip (by omega)]; exact g1.2
    rw [List.all_map] at this
    exact this
  · rw [show (fs.zip ds).map (·.1) = fs from List.map_fst_zip (by omega), show (fs.zip vs).map (·.1) = fs from List.map_fst_zip (by omega)]
  · rw [show (fs.zip ds).map (·.2) = ds from List.map_snd_zip (by omega), show (fs.zip vs).map (·.2) = vs from List.map_snd_zip (by omega)]
    exact scal_rps g1.2 r1
/-- a class of exceptions without an __init__ may be called at X with a text -/
structure Xc0 (X : Cx) (c : Str) : Prop where
  ex : ∃ C : Addr, X.mg c = some (.ref C) ∧ PySem.W.excIn X.K C [.type "ValueError", .type "Exception", .type "BaseException", .type "object"] "ValueError.__new__" = true ∧ PySem.W.keepIn X.K (.ref C) = true ∧
    PySem.W.subIn X.K (.ref C) (.type "BaseException") = some true ∧ PySem.W.typeIn X.K (.ref C) = some (.type "type")
theorem ss_rai0 {m : Str} {j : Nat} {p2 : Pos} (T : Tk X C) (hc : X.calm = true) (xc : Xc0 X c) (hin : (c, []) ∈ C.mg.2) (hg : Gl X c) (hd : (c == ("__debug__" : Str)) = false) :
    PS X (.Raise (some (.Call (.Name c p) [.Constant (.str m) j p2] [] pos)) none pos') (tDS X.w X.K C (.rai c [] .nil)) := by
  obtain ⟨C0, hm, q, kp, h1, h2⟩ := xc.ex
  refine ps_imp (ps_raise hc T.tk (pmk_own F.excBase_ValueError q hm kp (raises_own h1 h2) hg hd)) fun D σ H h => ?_
  obtain ⟨ρ, S, env, hS, hE, h⟩ := h
  have h : EQ X.w X.K C env ρ H ⟨c, []⟩ S := by
    rw [evS] at h
    exact h
  exact h (.ref C0) none H ρ σ List.prefix_rfl Ex.refl hS hE ⟨hin, by rw [T.mg]; exact hm, rfl, .inl ⟨rfl, rfl⟩⟩
end
end Mn
/-! Mn, part 12: from the text to the evaluator's terms, and that this is sound. -/
namespace Mn
open PySem PySem.Spec PyProof.Rows L2
/-- the program's own classes: the class of self, of names and attributes; methods, classes, fields -/
structure ObT where
  self : Str
  vt : List (Str × Str)
  mt : List (Str × Str × Str)
  cs : List (Str × Str)
  fl : List (Str × Str)
  et : List (Str × List Str) := []
  eh : List (Str × List Str) := []
structure Tab where
  N : List Str
  names : List Str
  glob : Str → Option D
  ob : ObT
/-- a class that an except clause or isinstance names; cs: the classes of the table that are of it -/
def EhOk (X : Cx) (C : CtxW) (t : Str) (cs : List Str) : Prop := ∃ (v : V) (tv : Value), (∀ u, RelV v u → u = tv) ∧ RelV v tv ∧ (t == ("__debug__" : Str)) = false ∧ (X.mg t = some tv ∨ (X.mg t = none ∧ bootBuiltins t = some tv ∧ t ≠ "__name__")) ∧ IsT X.K C.mg tv cs ∧
  ∀ p ∈ C.mg.2, ∃ Ca : Addr, C.mg.1 p.1 = some (.ref Ca) ∧ PySem.W.exmOne X.K (.ref Ca) tv = some (cs.contains p.1)
structure GoodT (X : Cx) (C : CtxW) (sc : Scope) (T : Tab) : Prop extends Good X C sc T.N T.names where
  glb : C.c.glob = T.glob
  flk : ∀ p ∈ T.ob.fl, FldOk X.K p.1 p.2
  mts : ∀ p ∈ T.ob.mt, CalleeM X C p.1 p.2.1 p.2.2
  nws : ∀ p ∈ T.ob.cs, CalleeN X C p.1 p.2
  met : C.mg.2 = T.ob.et
  eco : EcOk X.K C.mg
  ecl : ∀ p ∈ T.ob.eh, EhOk X C p.1 p.2
  exi : ∀ p ∈ T.ob.et, p.2 ≠ [] → XcI X p.1 p.2
  ex0 : ∀ p ∈ T.ob.et, p.2 = [] → Xc0 X p.1
theorem GoodT.blk {X : Cx} {C : CtxW} {sc scope : Scope} {T : Tab} (G : GoodT X C sc T) (hk : scope.kind = .function) (s : Shared) (H : Hp) (A : Addr) (cl : List (Str × Addr)) (fp : List Addr) : GoodT (X.blk s H scope (compEnvC scope cl A X.env) fp) C.nv scope T :=
  { toGood := G.toGood.blk hk s H A cl fp, glb := G.glb, flk := G.flk, mts := fun p hp => G.mts p hp, nws := fun p hp => G.nws p hp, met := G.met, eco := G.eco, ecl := fun p hp => G.ecl p hp, exi := fun p hp q => ⟨(G.exi p hp q).ex, (G.exi p hp q).sz⟩, ex0 := fun p hp q => ⟨(G.ex0 p hp q).ex⟩ }
def clsOf (T : Tab) : Expr → Option Str
  | .Name x _ => if x = "self" then some T.ob.self else T.ob.vt.lookup x
  | .Attribute _ f _ => T.ob.vt.lookup f
  | .Call (.Name c _) _ _ _ => if (T.ob.cs.lookup c).isSome then some c else none
  | _ => none
/-- a method of an own class -/
def ownM (T : Tab) (o : Expr) (m : Str) : Option (Str × Str × Str) := match clsOf T o with
  | some c => T.ob.mt.find? fun p => decide (p.1 = c) && decide (p.2.1 = m)
  | none => none
theorem ownM_ok {T : Tab} {o : Expr} {m : Str} {p : Str × Str × Str} (h : ownM T o m = some p) : p ∈ T.ob.mt ∧ p.2.1 = m := by
  unfold ownM at h
  split at h
  · have := List.find?_some h
    simp only [Bool.and_eq_true, decide_eq_true_eq] at this
    exact ⟨List.mem_of_find?_eq_some h, this.2⟩
  · cases h
def ownC (T : Tab) (c : Str) : Option (Str × Str) := T.ob.cs.find? fun p => decide (p.1 = c)
theorem ownC_ok {T : Tab} {c : Str} {p : Str × Str} (h : ownC T c = some p) : p ∈ T.ob.cs ∧ p.1 = c := by
  have := List.find?_some h
  exact ⟨List.mem_of_find?_eq_some h, by simpa using this⟩
def slotOf (N : List Str) (x : Str) : Option Nat :=
  match N.findIdx? (fun y => decide (y = x)) with
  | some i => if N[i]? = some x then some i else none
  | none => none
theorem slot_ok {N : List Str} {x : Str} {i : Nat} (h : slotOf N x = some i) : N[i]? = some x := by
  unfold slotOf at h
  split at h
  · split at h
    · rename_i q; cases h; exact q
    · cases h
  · cases h
def req (c : Bool) : Option Unit := match c with
  | true => some ()
  | false => none
theorem req_some {c : Bool} {u : Unit} (h : req c = some u) : c = true := by cases c <;> first | rfl | cases h
def plainTest : Expr → Bool
  | .UnaryOp .Not _ _ => false
  | .BoolOp _ _ _ => false
  | .IfExp _ _ _ _ => false
  | .Compare _ _ _ _ => false
  | _ => true
theorem plainTest_ok {a : Expr} {env : PySem.Env} (h : plainTest a = true) : ∀ whole, isTrue a env whole = (do let v ← whole; standAt a.pos; holding [v] (truthy v)) := by
  intro whole
  cases a with
  | UnaryOp op x p => cases op <;> first | rfl | cases h
  | BoolOp _ _ _ => cases h
  | IfExp _ _ _ _ => cases h
  | Compare _ _ _ _ => cases h
  | _ => rfl
def okDbg (x : Str) : Bool := !(x == ("__debug__" : Str)) && !(x == ("__classdict__" : Str))
theorem okDbg_1 {x : Str} (h : okDbg x = true) : (x == ("__debug__" : Str)) = false := by
  unfold okDbg at h
  rw [Bool.and_eq_true] at h
  simpa using h.1
theorem okDbg_2 {x : Str} (h : okDbg x = true) : (x == ("__classdict__" : Str)) = false := by
  unfold okDbg at h
  rw [Bool.and_eq_true] at h
  simpa using h.2
/-- the places of a block's own names -/
def ownOf (N : List Str) (scope : Scope) : List (Str × Nat) := scope.names.filterMap fun (y, k) => match k with
  | .local => (slotOf N y).map (y, ·)
  | .cell => (slotOf N y).map (y, ·)
  | _ => none
def coName (T : Tab) (sc : Scope) (x : Str) : Option E :=
  if isVis sc x && okDbg x then (slotOf T.N x).map E.v
  else if isGl sc x && okDbg x && (T.glob x).isSome then some (.g x) else none
def coConst : Const → Option E
  | .none => some (.c .non)
  | .bool b => some (.c (.bl b))
  | .int i => some (.c (.int i))
  | .str s => some (.c (.str s))
  | _ => none
def callOf : Expr → Option (Str × List Expr)
  | .Call (.Name f _) es [] _ => some (f, es)
  | _ => none
theorem callOf_ok {e : Expr} {f : Str} {es : List Expr} (h : callOf e = some (f, es)) : ∃ p q, e = .Call (.Name f p) es [] q := by
  unfold callOf at h
  split at h
  · cases h; exact ⟨_, _, rfl⟩
  · cases h
mutual
def coE (T : Tab) : Nat → Scope → Expr → Option E
  | 0, _, _ => none
  | n + 1, sc, e => match e with
    | .Name x _ => coName T sc x
    | .Constant c _ _ => coConst c
    | .BinOp a op b _ => do
      let o ← opOf op
      let x ← coE T n sc a
      let y ← coE T n sc b
      pure (.bin o x y)
    | .UnaryOp .USub a _ => (coE T n sc a).map E.neg
    | .UnaryOp .Not a _ => (coE T n sc a).map fun x => .not (.tr x)
    | .Compare a [op] [b] _ => do
      let o ← cmpOf op
      let x ← coE T n sc a
      let y ← coE T n sc b
      let _ ← req (!behindInMarks op b)
      pure (.cmp o x y)
    | .Compare a [op, op2] [b, c] _ => do
      let o ← cmpOf op
      let o2 ← cmpOf op2
      let x ← coE T n sc a
      let y ← coE T n sc b
      let z ← coE T n sc c
      let _ ← req (!lastMarks [op, op2] [b, c])
      pure (.cmp3 o o2 x y z)
    | .BoolOp op es _ => coV T n sc op es
    | .IfExp c a b _ => do
      let z ← coT T n sc c
      let x ← coE T n sc a
      let y ← coE T n sc b
      pure (.ite z x y)
    | .Tuple es _ _ => (coEs T n sc es).map E.tup
    | .List es _ => (coEs T n sc es).map E.lst
    | .Subscript a (.Slice lo hi none _) _ => do
      let x ← coE T n sc a
      match lo, hi with
      | none, none => pure (.slc0 x)
      | some l, none => do
        let y ← coE T n sc l
        pure (.slcL x y)
      | none, some h => do
        let z ← coE T n sc h
        pure (.slcH x z)
      | some l, some h => do
        let y ← coE T n sc l
        let z ← coE T n sc h
        pure (.slcB x y z)
    | .Subscript a b _ => do
      let x ← coE T n sc a
      let y ← coE T n sc b
      let _ ← req (plainIx b)
      pure (.idx x y)
    | .Call (.Name f _) es [] _ => coCall T n sc f es
    | .Attribute e f _ => do
      let c ← clsOf T e
      let x ← coE T n sc e
      let _ ← req (plainBase e && decide ((c, f) ∈ T.ob.fl))
      pure (.fld x c f)
    | .Call (.Attribute o nm apos) es [] cpos => if (ownM T o nm).isSome then (do
      let p ← ownM T o nm
      let x ← coE T n sc o
      let ys ← coEs T n sc es
      let _ ← req (plainBase o && (apos.endLine == cpos.line) && decide (es.length < 30))
      pure (.mcall p.1 nm p.2.2 x ys))
      else do
      let x ← coE T n sc o
      let bi ← mtOf nm es.length
      let ys ← coEs T n sc es
      let _ ← req (plainBase o && (apos.endLine == cpos.line) && decide (es.length < 30))
      pure (.meth bi x ys)
    | .ListComp elt [⟨.Name x _, iter, ifs, 0⟩] scope _ => coLc T n sc elt x iter ifs scope
    | .Dict [] [] _ => some .dnew
    | .Dict [some a] [b] _ => do
      let x ← coE T n sc a
      let y ← coE T n sc b
      pure (.dnew1 x y)
    | .DictComp ek ev [⟨.Name x _, iter, ifs, 0⟩] scope _ => coDc T n sc ek ev x iter ifs scope
    | _ => none
def coV (T : Tab) : Nat → Scope → BoolOp → List Expr → Option E
  | 0, _, _, _ => none
  | n + 1, sc, _, [a] => coE T n sc a
  | n + 1, sc, op, a :: b :: rest => do
    let x ← coE T n sc a
    let y ← coV T n sc op (b :: rest)
    match op with
    | .And => pure (.vand x y)
    | .Or => pure (.vor x y)
  | _ + 1, _, _, [] => none
def coW (T : Tab) : Nat → Scope → BoolOp → List Expr → Option E
  | 0, _, _, _ => none
  | n + 1, sc, _, [a] => coT T n sc a
  | n + 1, sc, op, a :: b :: rest => do
    let x ← coT T n sc a
    let y ← coW T n sc op (b :: rest)
    match op with
    | .And => pure (.and x y)
    | .Or => pure (.or x y)
  | _ + 1, _, _, [] => none
def coT (T : Tab) : Nat → Scope → Expr → Option E
  | 0, _, _ => none
  | n + 1, sc, e => match e with
    | .UnaryOp .Not a _ => (coT T n sc a).map E.not
    | .BoolOp op es _ => coW T n sc op es
    | .Compare a [op] [b] _ => do
      let o ← cmpOf op
      let x ← coE T n sc a
      let y ← coE T n sc b
      let _ ← req (!behindInMarks op b)
      pure (.cmp o x y)
    | .Compare a [op, op2] [b, c] _ => do
      let o ← cmpOf op
      let o2 ← cmpOf op2
      let x ← coE T n sc a
      let y ← coE T n sc b
      let z ← coE T n sc c
      let _ ← req (!lastMarks [op, op2] [b, c])
      pure (.cmp3 o o2 x y z)
    | e => do
      let x ← coE T n sc e
      let _ ← req (plainTest e)
      pure (.tr x)
def coEs (T : Tab) : Nat → Scope → List Expr → Option Es
  | 0, _, _ => none
  | _ + 1, _, [] => some .nil
  | n + 1, sc, a :: es => do
    let x ← coE T n sc a
    let ys ← coEs T n sc es
    let _ ← req (notStar a)
    pure (.cons x ys)
def coCall (T : Tab) : Nat → Scope → Str → List Expr → Option E
  | 0, _, _, _ => none
  | n + 1, sc, f, es => (req (isGl sc f && okDbg f)).bind fun _ =>
    if f ∈ T.names then (coEs T n sc es).map (E.call f)
    else if (ownC T f).isSome then (ownC T f).bind fun p => (coEs T n sc es).map (E.new f p.2)
    else if f = "isinstance" then coIsi T n sc es
    else match es with
      | [] => none
      | e :: r => (coEs T n sc (e :: r)).bind fun ys => match fnOf f (e :: r).length with
        | some bi => some (.bi bi ys)
        | none => (tyOf f (e :: r).length).map fun bi => .bi bi ys
def coIsi (T : Tab) : Nat → Scope → List Expr → Option E
  | 0, _, _ => none
  | n + 1, sc, es => match es with
    | [a, .Name t _] => do
      let bi ← isOf t
      let x ← coE T n sc a
      let _ ← req (isGl sc t && notStar a)
      pure (.bi bi (.cons x .nil))
    | _ => none
def coI (T : Tab) : Nat → Scope → Expr → Option (IK × Es)
  | 0, _, _ => none
  | n + 1, sc, e => match callOf e with
    | some (f, es) => if decide (f = "range") then (do
        let ys ← coEs T n sc es
        let _ ← req (isGl sc "range")
        match es with
        | [_] => pure (.rng1, ys)
        | [_, _] => pure (.rng2, ys)
        | [_, _, _] => pure (.rng3, ys)
        | _ => none)
      else if decide (f = "reversed") then (match es with
        | [a] => do
          let y ← coE T n sc a
          let _ ← req (isGl sc "reversed" && notStar a)
          pure (.rev, .cons y .nil)
        | _ => none)
      else (coE T n sc e).map fun y => (.seq, .cons y .nil)
    | none => (coE T n sc e).map fun y => (.seq, .cons y .nil)
def coLc (T : Tab) : Nat → Scope → Expr → Str → Expr → List Expr → Scope → Option E
  | 0, _, _, _, _, _, _ => none
  | n + 1, sc, elt, x, iter, ifs, scope => do
    let (k, ys) ← coI T n sc iter
    let sl ← slotOf T.N x
    let y ← coE T n scope elt
    let c ← (match ifs with
      | [] => some (.c (.bl true))
      | [c] => coT T n scope c
      | _ => none)
    let own := ownOf T.N scope
    let _ ← req (blkC T.N sc scope own && decide (sl ∈ own.map (·.2)) && isLoc scope x && notSet iter)
    pure (.comp y sl (own.map (·.2)) k ys c)
def coDc (T : Tab) : Nat → Scope → Expr → Expr → Str → Expr → List Expr → Scope → Option E
  | 0, _, _, _, _, _, _, _ => none
  | n + 1, sc, ek, ev, x, iter, ifs, scope => do
    let (k, ys) ← coI T n sc iter
    let sl ← slotOf T.N x
    let y ← coE T n scope ek
    let z ← coE T n scope ev
    let c ← (match ifs with
      | [] => some (.c (.bl true))
      | [c] => coT T n scope c
      | _ => none)
    let own := ownOf T.N scope
    let _ ← req (blkC T.N sc scope own && decide (sl ∈ own.map (·.2)) && isLoc scope x && notSet iter)
    pure (.dcomp y z sl (own.map (·.2)) k ys c)
end
theorem map_some {α β : Type} {o : Option α} {f : α → β} {b : β} (h : o.map f = some b) : ∃ a, o = some a ∧ f a = b := by
  cases o with
  | none => cases h
  | some a => exact ⟨a, rfl, Option.some.inj h⟩
structure Snd (T : Tab) (n : Nat) : Prop where
  e : ∀ X C sc e ir, GoodT X C sc T → coE T n sc e = some ir → PE X e (tD X.w X.K C ir)
  v : ∀ X C sc op es ir pos, GoodT X C sc T → coV T n sc op es = some ir → PE X (.BoolOp op es pos) (tD X.w X.K C ir)
  w : ∀ X C sc op es ir pos, GoodT X C sc T → coW T n sc op es = some ir → PW X (.BoolOp op es pos) (tDB X.w X.K C ir)
  t : ∀ X C sc e ir, GoodT X C sc T → coT T n sc e = some ir → PT X e (tDB X.w X.K C ir)
  a : ∀ X C sc es ir, GoodT X C sc T → coEs T n sc es = some ir → PA X es (tDA X.w X.K C ir) ∧ es.all notStar = true
  f : ∀ X C sc f es ir p pos, GoodT X C sc T → coCall T n sc f es = some ir → PE X (.Call (.Name f p) es [] pos) (tD X.w X.K C ir)
  s : ∀ X C sc es ir p pos, GoodT X C sc T → isGl sc "isinstance" = true → coIsi T n sc es = some ir → PE X (.Call (.Name "isinstance" p) es [] pos) (tD X.w X.K C ir)
  i : ∀ X C sc tg e k ir, GoodT X C sc T → coI T n sc e = some (k, ir) → PI X tg e (tDI X.w X.K C k ir)
  l : ∀ X C sc elt x iter ifs scope ir, GoodT X C sc T → coLc T n sc elt x iter ifs scope = some ir → ∃ ie sl k ies ic, ir = .comp ie sl ((ownOf T.N scope).map (·.2)) k ies ic ∧
    (∀ tpos, PI X (.Name x tpos) iter (tDI X.w X.K C k ies)) ∧ blkC T.N sc scope (ownOf T.N scope) = true ∧ sl ∈ (ownOf T.N scope).map (·.2) ∧ T.N[sl]? = some x ∧ isLoc scope x = true ∧ notSet iter = true ∧
    (∀ (s : Shared) (H : Hp) (A : Addr) (cl : List (Str × Addr)) (fp : List Addr), PTs (X.blk s H scope (compEnvC scope cl A X.env) fp) ifs (tDB X.w X.K C.nv ic)) ∧
    (∀ (s : Shared) (H : Hp) (A : Addr) (cl : List (Str × Addr)) (fp : List Addr), PE (X.blk s H scope (compEnvC scope cl A X.env) fp) elt (tD X.w X.K C.nv ie))
  d : ∀ X C sc ek ev x iter ifs scope ir, GoodT X C sc T → coDc T n sc ek ev x iter ifs scope = some ir → ∃ ik iv sl k ies ic, ir = .dcomp ik iv sl ((ownOf T.N scope).map (·.2)) k ies ic ∧
    (∀ tpos, PI X (.Name x tpos) iter (tDI X.w X.K C k ies)) ∧ blkC T.N sc scope (ownOf T.N scope) = true ∧ sl ∈ (ownOf T.N scope).map (·.2) ∧ T.N[sl]? = some x ∧ isLoc scope x = true ∧ notSet iter = true ∧
    (∀ (s : Shared) (H : Hp) (A : Addr) (cl : List (Str × Addr)) (fp : List Addr), PTs (X.blk s H scope (compEnvC scope cl A X.env) fp) ifs (tDB X.w X.K C.nv ic)) ∧
    (∀ (s : Shared) (H : Hp) (A : Addr) (cl : List (Str × Addr)) (fp : List Addr), PE (X.blk s H scope (compEnvC scope cl A X.env) fp) ek (tD X.w X.K C.nv ik)) ∧
    (∀ (s : Shared) (H : Hp) (A : Addr) (cl : List (Str × Addr)) (fp : List Addr), PE (X.blk s H scope (compEnvC scope cl A X.env) fp) ev (tD X.w X.K C.nv iv))
theorem bnd {α β : Type} {o : Option α} {f : α → Option β} {b : β} (h : (o >>= f) = some b) : ∃ a, o = some a ∧ f a = some b := Option.bind_eq_some_iff.mp h
theorem not_true {b : Bool} (h : (!b) = true) : b = false := by cases b <;> first | rfl | cases h
theorem snd_e {T : Tab} {n : Nat} (I : Snd T n) : ∀ X C sc e ir, GoodT X C sc T → coE T (n + 1) sc e = some ir → PE X e (tD X.w X.K C ir) := by
  intro X C sc e ir G h
  unfold coE at h
  split at h
  · rename_i x p
    unfold coName at h
    split at h
    · rename_i q
      rw [Bool.and_eq_true] at q
      obtain ⟨i, h1, rfl⟩ := map_some h
      exact se_var G.toGood (slot_ok h1) q.1 (okDbg_1 q.2) (okDbg_2 q.2)
    · split at h
      · rename_i q
        simp only [Bool.and_eq_true] at q
        cases h
        obtain ⟨d, hd⟩ := Option.isSome_iff_exists.mp q.2
        exact se_glob G.toGood q.1.1 (by rw [G.glb]; exact hd) (okDbg_1 q.1.2)
      · cases h
  · rename_i c k p
    unfold coConst at h
    split at h <;> cases h
    · exact se_non
    · exact se_bl
    · exact se_int
    · exact se_str
  · obtain ⟨o, h1, h⟩ := bnd h
    obtain ⟨x, h2, h⟩ := bnd h
    obtain ⟨y, h3, h⟩ := bnd h
    cases h
    exact se_bin h1 (I.e _ _ _ _ _ G h2) (I.e _ _ _ _ _ G h3)
  · obtain ⟨x, h1, rfl⟩ := map_some h
    exact se_neg (I.e _ _ _ _ _ G h1)
  · obtain ⟨x, h1, rfl⟩ := map_some h
    exact se_vnot (I.e _ _ _ _ _ G h1)
  · obtain ⟨o, h1, h⟩ := bnd h
    obtain ⟨x, h2, h⟩ := bnd h
    obtain ⟨y, h3, h⟩ := bnd h
    obtain ⟨u, h4, h⟩ := bnd h
    cases h
    exact se_cmp G.toGood h1 (I.e _ _ _ _ _ G h2) (I.e _ _ _ _ _ G h3) (not_true (req_some h4))
  · obtain ⟨o, h1, h⟩ := bnd h
    obtain ⟨o2, h2, h⟩ := bnd h
    obtain ⟨x, h3, h⟩ := bnd h
    obtain ⟨y, h4, h⟩ := bnd h
    obtain ⟨z, h5, h⟩ := bnd h
    obtain ⟨u, h6, h⟩ := bnd h
    cases h
    exact se_cmp3 G.toGood h1 h2 (I.e _ _ _ _ _ G h3) (I.e _ _ _ _ _ G h4) (I.e _ _ _ _ _ G h5) (not_true (req_some h6))
  · exact I.v _ _ _ _ _ _ _ G h
  · obtain ⟨z, h1, h⟩ := bnd h
    obtain ⟨x, h2, h⟩ := bnd h
    obtain ⟨y, h3, h⟩ := bnd h
    cases h
    exact se_ite (I.t _ _ _ _ _ G h1) (I.e _ _ _ _ _ G h2) (I.e _ _ _ _ _ G h3)
  · obtain ⟨x, h1, rfl⟩ := map_some h
    exact se_tup (I.a _ _ _ _ _ G h1).1
  · obtain ⟨x, h1, rfl⟩ := map_some h
    exact se_lst (I.a _ _ _ _ _ G h1).1
  · rename_i a lo hi p2 p
    obtain ⟨x, h1, h⟩ := bnd h
    have ha := I.e _ _ _ _ _ G h1
    split at h
    · cases h; exact se_slc0 ha
    · obtain ⟨y, h2, h⟩ := bnd h
      cases h; exact se_slcL ha (I.e _ _ _ _ _ G h2)
    · obtain ⟨y, h2, h⟩ := bnd h
      cases h; exact se_slcH ha (I.e _ _ _ _ _ G h2)
    · obtain ⟨y, h2, h⟩ := bnd h
      obtain ⟨z, h3, h⟩ := bnd h
      cases h; exact se_slcB ha (I.e _ _ _ _ _ G h2) (I.e _ _ _ _ _ G h3)
  · obtain ⟨x, h1, h⟩ := bnd h
    obtain ⟨y, h2, h⟩ := bnd h
    obtain ⟨u, h3, h⟩ := bnd h
    cases h
    exact se_idx G.toGood (I.e _ _ _ _ _ G h1) (I.e _ _ _ _ _ G h2) (req_some h3)
  · exact I.f _ _ _ _ _ _ _ _ G h
  · obtain ⟨c, h0, h⟩ := bnd h
    obtain ⟨x, h1, h⟩ := bnd h
    obtain ⟨u, h2, h⟩ := bnd h
    cases h
    have q := req_some h2
    simp only [Bool.and_eq_true, decide_eq_true_eq] at q
    exact se_fld (G.flk _ q.2) (I.e _ _ _ _ _ G h1) q.1
  · rename_i o nm apos es cpos
    split at h
    · obtain ⟨p, h0, h⟩ := bnd h
      obtain ⟨x, h1, h⟩ := bnd h
      obtain ⟨ys, h3, h⟩ := bnd h
      obtain ⟨u, h4, h⟩ := bnd h
      cases h
      have q := req_some h4
      simp only [Bool.and_eq_true, decide_eq_true_eq] at q
      obtain ⟨h5, h6⟩ := I.a _ _ _ _ _ G h3
      obtain ⟨g1, g2⟩ := ownM_ok h0
      have cm := G.mts p g1
      rw [g2] at cm
      cases es with
      | nil =>
        have : ys = .nil := by
          cases n with
          | zero => cases h3
          | succ n => unfold coEs at h3; cases h3; rfl
        subst this
        exact se_mcall0 G.tk cm (I.e _ _ _ _ _ G h1) q.1.1 q.1.2
      | cons e es => exact se_mcall G.tk cm (I.e _ _ _ _ _ G h1) h5 h6 q.2 q.1.1 q.1.2
    obtain ⟨x, h1, h⟩ := bnd h
    obtain ⟨bi, h2, h⟩ := bnd h
    obtain ⟨ys, h3, h⟩ := bnd h
    obtain ⟨u, h4, h⟩ := bnd h
    cases h
    have q := req_some h4
    simp only [Bool.and_eq_true, decide_eq_true_eq] at q
    obtain ⟨h5, h6⟩ := I.a _ _ _ _ _ G h3
    cases es with
    | nil =>
      have : ys = .nil := by
        cases n with
        | zero => cases h3
        | succ n => unfold coEs at h3; cases h3; rfl
      subst this
      exact se_meth0 h2 (I.e _ _ _ _ _ G h1) q.1.1 q.1.2
    | cons e es => exact se_meth h2 (I.e _ _ _ _ _ G h1) h5 h6 q.2 q.1.1 q.1.2
  · obtain ⟨ie, sl, k, ies, ic, rfl, h1, h2, h3, h4, h5, h6, h7, h8⟩ := I.l _ _ _ _ _ _ _ _ _ G h
    exact se_comp G.toGood (h1 _) h2 h3 h4 h5 h6 h7 h8
  · cases h; exact se_dnew
  · obtain ⟨x, h1, h⟩ := bnd h
    obtain ⟨y, h2, h⟩ := bnd h
    cases h
    exact se_dnew1 G.toGood (I.e _ _ _ _ _ G h1) (I.e _ _ _ _ _ G h2)
  · obtain ⟨ik, iv, sl, k, ies, ic, rfl, h1, h2, h3, h4, h5, h6, h7, h8, h9⟩ := I.d _ _ _ _ _ _ _ _ _ _ G h
    exact se_dcomp G.toGood (h1 _) h2 h3 h4 h5 h6 h7 h8 h9
  · cases h
theorem snd_all {T : Tab} : ∀ n, Snd T n
  | 0 => ⟨fun _ _ _ _ _ _ h => (by cases h), fun _ _ _ _ _ _ _ _ h => (by cases h), fun _ _ _ _ _ _ _ _ h => (by cases h), fun _ _ _ _ _ _ h => (by cases h), fun _ _ _ _ _ _ h => (by cases h), fun _ _ _ _ _ _ _ _ _ h => (by cases h), fun _ _ _ _ _ _ _ _ _ h => (by cases h), fun _ _ _ _ _ _ _ _ h => (by cases h), fun _ _ _ _ _ _ _ _ _ _ h => (by cases h), fun _ _ _ _ _ _ _ _ _ _ _ h => (by cases h)⟩
  | n + 1 => by
    have I := snd_all (T := T) n
    refine ⟨snd_e I, ?_, ?_, ?_, ?_, ?_, ?_, ?_, ?_, ?_⟩
    · intro X C sc op es ir pos G h
      unfold coV at h
      split at h
      · rename_i q; cases q
      · rename_i q; cases q; exact se_one (I.e _ _ _ _ _ G h)
      · rename_i q
        cases q
        obtain ⟨x, h1, h⟩ := bnd h
        obtain ⟨y, h2, h⟩ := bnd h
        split at h
        · cases h; exact se_vand (I.e _ _ _ _ _ G h1) (I.v _ _ _ _ _ _ _ G h2)
        · cases h; exact se_vor (I.e _ _ _ _ _ G h1) (I.v _ _ _ _ _ _ _ G h2)
      · cases h
    · intro X C sc op es ir pos G h
      unfold coW at h
      split at h
      · rename_i q; cases q
      · rename_i q; cases q; exact sw_one (I.t _ _ _ _ _ G h)
      · rename_i q
        cases q
        obtain ⟨x, h1, h⟩ := bnd h
        obtain ⟨y, h2, h⟩ := bnd h
        split at h
        · cases h; exact sw_and (I.t _ _ _ _ _ G h1) (I.w _ _ _ _ _ _ _ G h2)
        · cases h; exact sw_or (I.t _ _ _ _ _ G h1) (I.w _ _ _ _ _ _ _ G h2)
      · cases h
    · intro X C sc e ir G h
      unfold coT at h
      split at h
      · obtain ⟨x, h1, rfl⟩ := map_some h
        exact st_not (I.t _ _ _ _ _ G h1)
      · exact (I.w _ _ _ _ _ _ _ G h).pt
      · obtain ⟨o, h1, h⟩ := bnd h
        obtain ⟨x, h2, h⟩ := bnd h
        obtain ⟨y, h3, h⟩ := bnd h
        obtain ⟨u, h4, h⟩ := bnd h
        cases h
        exact st_cmp G.toGood h1 (I.e _ _ _ _ _ G h2) (I.e _ _ _ _ _ G h3) (not_true (req_some h4))
      · obtain ⟨o, h1, h⟩ := bnd h
        obtain ⟨o2, h2, h⟩ := bnd h
        obtain ⟨x, h3, h⟩ := bnd h
        obtain ⟨y, h4, h⟩ := bnd h
        obtain ⟨z, h5, h⟩ := bnd h
        obtain ⟨u, h6, h⟩ := bnd h
        cases h
        exact st_cmp3 G.toGood h1 h2 (I.e _ _ _ _ _ G h3) (I.e _ _ _ _ _ G h4) (I.e _ _ _ _ _ G h5) (not_true (req_some h6))
      · obtain ⟨x, h1, h⟩ := bnd h
        obtain ⟨u, h2, h⟩ := bnd h
        cases h
        exact st_tr (I.e _ _ _ _ _ G h1) (plainTest_ok (req_some h2))
    · intro X C sc es ir G h
      unfold coEs at h
      split at h
      · rename_i q; cases q
      · cases h; exact ⟨sa_nil, rfl⟩
      · rename_i q
        cases q
        obtain ⟨x, h1, h⟩ := bnd h
        obtain ⟨ys, h2, h⟩ := bnd h
        obtain ⟨u, h3, h⟩ := bnd h
        cases h
        obtain ⟨h4, h5⟩ := I.a _ _ _ _ _ G h2
        have h3 := req_some h3
        exact ⟨sa_cons (I.e _ _ _ _ _ G h1) h4 h3, by rw [List.all_cons, h3, h5]; rfl⟩
    · intro X C sc f es ir p pos G h
      unfold coCall at h
      obtain ⟨u, h1, h⟩ := bnd h
      have q := req_some h1
      rw [Bool.and_eq_true] at q
      by_cases hf : f ∈ T.names
      · rw [if_pos hf] at h
        obtain ⟨ys, h2, rfl⟩ := map_some h
        obtain ⟨h3, h4⟩ := I.a _ _ _ _ _ G h2
        have hc := G.fns f hf
        cases es with
        | nil =>
          have : ys = .nil := by
            cases n with
            | zero => cases h2
            | succ n => unfold coEs at h2; cases h2; rfl
          subst this
          exact se_call0 G.tk hc (G.glo q.1) (okDbg_1 q.2)
        | cons e es => exact se_call G.tk hc (G.glo q.1) h3 h4 (okDbg_1 q.2)
      · rw [if_neg hf] at h
        by_cases hcs : (ownC T f).isSome = true
        · rw [if_pos hcs] at h
          obtain ⟨p, h0, h⟩ := bnd h
          obtain ⟨ys, h2, rfl⟩ := map_some h
          obtain ⟨h3, h4⟩ := I.a _ _ _ _ _ G h2
          obtain ⟨g1, g2⟩ := ownC_ok h0
          have cn := G.nws p g1
          rw [g2] at cn
          cases es with
          | nil =>
            have : ys = .nil := by
              cases n with
              | zero => cases h2
              | succ n => unfold coEs at h2; cases h2; rfl
            subst this
            exact se_new0 G.tk cn (G.glo q.1) (okDbg_1 q.2)
          | cons e es => exact se_new G.tk cn (G.glo q.1) h3 h4 (okDbg_1 q.2)
        rw [if_neg hcs] at h
        by_cases hi : f = "isinstance"
        · have h6 : coIsi T n sc es = some ir := by rw [if_pos hi] at h; exact h
          subst hi
          exact I.s _ _ _ _ _ _ _ G q.1 h6
        · rw [if_neg hi] at h
          cases es with
          | nil => cases h
          | cons e r =>
            obtain ⟨ys, h2, h⟩ := bnd h
            obtain ⟨h3, h4⟩ := I.a _ _ _ _ _ G h2
            cases hb : fnOf f (e :: r).length with
            | some bi =>
              rw [hb] at h
              cases h
              exact se_fn G.toGood hb q.1 h3 h4
            | none =>
              rw [hb] at h
              obtain ⟨bi, h5, rfl⟩ := map_some h
              exact se_tyf G.toGood h5 q.1 h3 h4
    · intro X C sc es ir p pos G hg h
      unfold coIsi at h
      split at h
      · obtain ⟨bi, h2, h⟩ := bnd h
        obtain ⟨x, h3, h⟩ := bnd h
        obtain ⟨u, h4, h⟩ := bnd h
        cases h
        have q4 := req_some h4
        rw [Bool.and_eq_true] at q4
        exact se_isi G.toGood h2 hg q4.1 (I.e _ _ _ _ _ G h3) q4.2
      · cases h
    · intro X C sc tg e k ir G h
      unfold coI at h
      split at h
      · rename_i f es hc
        obtain ⟨p, r, rfl⟩ := callOf_ok hc
        split at h
        · rename_i hf
          have hf : f = "range" := by simpa using hf
          subst hf
          obtain ⟨ys, h1, h⟩ := bnd h
          obtain ⟨u, h2, h⟩ := bnd h
          obtain ⟨h3, h4⟩ := I.a _ _ _ _ _ G h1
          split at h
          · cases h; exact si_rng1 G.toGood (req_some h2) h3 h4
          · cases h; exact si_rng2 G.toGood (req_some h2) h3 h4
          · cases h; exact si_rng3 G.toGood (req_some h2) h3 h4
          · cases h
        · split at h
          · rename_i hf
            have hf : f = "reversed" := by simpa using hf
            subst hf
            split at h
            · obtain ⟨y, h1, h⟩ := bnd h
              obtain ⟨u, h2, h⟩ := bnd h
              cases h
              have q := req_some h2
              rw [Bool.and_eq_true] at q
              exact si_rev G.toGood q.1 (I.e _ _ _ _ _ G h1) q.2
            · cases h
          · obtain ⟨y, h1, h2⟩ := map_some h
            cases h2
            exact si_seq (I.e _ _ _ _ _ G h1)
      · obtain ⟨y, h1, h2⟩ := map_some h
        cases h2
        exact si_seq (I.e _ _ _ _ _ G h1)
    · intro X C sc elt x iter ifs scope ir G h
      unfold coLc at h
      obtain ⟨⟨k, ys⟩, h1, h⟩ := bnd h
      obtain ⟨sl, h2, h⟩ := bnd h
      obtain ⟨y, h3, h⟩ := bnd h
      obtain ⟨c, h4, h⟩ := bnd h
      obtain ⟨u, h5, h⟩ := bnd h
      cases h
      have q := req_some h5
      simp only [Bool.and_eq_true, decide_eq_true_eq] at q
      have hk := (blkOk_by q.1.1.1).kind
      refine ⟨y, sl, k, ys, c, rfl, fun tpos => I.i _ _ _ _ _ _ _ G h1, q.1.1.1, q.1.1.2, slot_ok h2, q.1.2, q.2, fun s H A cl fp => ?_, fun s H A cl fp => I.e _ _ _ _ _ (G.blk hk s H A cl fp) h3⟩
      split at h4
      · cases h4; exact sts_nil
      · exact pts_one (I.t _ _ _ _ _ (G.blk hk s H A cl fp) h4)
      · cases h4
    · intro X C sc ek ev x iter ifs scope ir G h
      unfold coDc at h
      obtain ⟨⟨k, ys⟩, h1, h⟩ := bnd h
      obtain ⟨sl, h2, h⟩ := bnd h
      obtain ⟨y, h3, h⟩ := bnd h
      obtain ⟨z, h6, h⟩ := bnd h
      obtain ⟨c, h4, h⟩ := bnd h
      obtain ⟨u, h5, h⟩ := bnd h
      cases h
      have q := req_some h5
      simp only [Bool.and_eq_true, decide_eq_true_eq] at q
      have hk := (blkOk_by q.1.1.1).kind
      refine ⟨y, z, sl, k, ys, c, rfl, fun tpos => I.i _ _ _ _ _ _ _ G h1, q.1.1.1, q.1.1.2, slot_ok h2, q.1.2, q.2, fun s H A cl fp => ?_, fun s H A cl fp => I.e _ _ _ _ _ (G.blk hk s H A cl fp) h3, fun s H A cl fp => I.e _ _ _ _ _ (G.blk hk s H A cl fp) h6⟩
      split at h4
      · cases h4; exact sts_nil
      · exact pts_one (I.t _ _ _ _ _ (G.blk hk s H A cl fp) h4)
      · cases h4
/-! ### targets, statements -/
mutual
def coP (T : Tab) : Nat → Scope → Expr → Option Pat
  | 0, _, _ => none
  | n + 1, sc, e => match e with
    | .Name x _ => (req (isLoc sc x)).bind fun _ => (slotOf T.N x).map Pat.nm
    | .Tuple es _ _ => (coPs T n sc es).bind fun ps => (req (decide (es.length = patLen ps))).map fun _ => .tup ps
    | .Subscript a b _ => (coE T n sc a).bind fun x => (coE T n sc b).bind fun y => (req (plainIx b)).map fun _ => .sub x y
    | _ => none
def coPs (T : Tab) : Nat → Scope → List Expr → Option Pats
  | 0, _, _ => none
  | _ + 1, _, [] => some .nil
  | n + 1, sc, e :: es => (coP T n sc e).bind fun p => (coPs T n sc es).bind fun ps => (req (notStar e)).map fun _ => .cons p ps
end
/-- a name that gets a comprehension's list within the block -/
def lcOf (sc : Scope) (tg e : Expr) : Option (Str × Expr × Str × Expr × List Expr × Scope) := match tg, e with
  | .Name y py, .ListComp elt [⟨.Name x _, iter, ifs, 0⟩] scope pos =>
    if decide (sc.names.lookup y = some .local) && (py.line == pos.line) && !(scope.names.any fun (n, k) => n == y && (k == .local || k == .cell)) then some (y, elt, x, iter, ifs, scope) else none
  | _, _ => none
def dcOf (sc : Scope) (tg e : Expr) : Option (Str × Expr × Expr × Str × Expr × List Expr × Scope) := match tg, e with
  | .Name y py, .DictComp ek ev [⟨.Name x _, iter, ifs, 0⟩] scope pos =>
    if decide (sc.names.lookup y = some .local) && (py.line == pos.line) && !(scope.names.any fun (n, k) => n == y && (k == .local || k == .cell)) then some (y, ek, ev, x, iter, ifs, scope) else none
  | _, _ => none
theorem lc_ok {sc : Scope} {tg e : Expr} {y x : Str} {elt iter : Expr} {ifs : List Expr} {scope : Scope} (h : lcOf sc tg e = some (y, elt, x, iter, ifs, scope)) :
    ∃ py tpos pos, tg = .Name y py ∧ e = .ListComp elt [⟨.Name x tpos, iter, ifs, 0⟩] scope pos ∧ sc.names.lookup y = some .local ∧ (py.line == pos.line) = true ∧ (scope.names.any fun (n, k) => n == y && (k == .local || k == .cell)) = false := by
  unfold lcOf at h
  split at h
  · split at h
    · rename_i q
      cases h
      simp only [Bool.and_eq_true, decide_eq_true_eq] at q
      exact ⟨_, _, _, rfl, rfl, q.1.1, q.1.2, not_true q.2⟩
    · cases h
  · cases h
theorem dc_ok {sc : Scope} {tg e : Expr} {y x : Str} {ek ev iter : Expr} {ifs : List Expr} {scope : Scope} (h : dcOf sc tg e = some (y, ek, ev, x, iter, ifs, scope)) :
    ∃ py tpos pos, tg = .Name y py ∧ e = .DictComp ek ev [⟨.Name x tpos, iter, ifs, 0⟩] scope pos ∧ sc.names.lookup y = some .local ∧ (py.line == pos.line) = true ∧ (scope.names.any fun (n, k) => n == y && (k == .local || k == .cell)) = false := by
  unfold dcOf at h
  split at h
  · split at h
    · rename_i q
      cases h
      simp only [Bool.and_eq_true, decide_eq_true_eq] at q
      exact ⟨_, _, _, rfl, rfl, q.1.1, q.1.2, not_true q.2⟩
    · cases h
  · cases h
structure SndP (T : Tab) (n : Nat) : Prop where
  p : ∀ X C sc e ir, GoodT X C sc T → coP T n sc e = some ir → PG X e (tDG X.w X.K C ir)
  ps : ∀ X C sc es ir, GoodT X C sc T → coPs T n sc es = some ir → PGs X es (tDGs X.w X.K C ir) ∧ es.all notStar = true
theorem sndp_all {T : Tab} : ∀ n, SndP T n
  | 0 => ⟨fun _ _ _ _ _ _ h => (by cases h), fun _ _ _ _ _ _ h => (by cases h)⟩
  | n + 1 => by
    have I := sndp_all (T := T) n
    have J := snd_all (T := T) n
    refine ⟨?_, ?_⟩
    · intro X C sc e ir G h
      unfold coP at h
      split at h
      · obtain ⟨u, h1, h⟩ := bnd h
        obtain ⟨i, h2, rfl⟩ := map_some h
        exact sg_nm G.toGood (slot_ok h2) (req_some h1)
      · obtain ⟨ps, h1, h⟩ := bnd h
        obtain ⟨u, h2, rfl⟩ := map_some h
        obtain ⟨h3, h4⟩ := I.ps _ _ _ _ _ G h1
        exact sg_tup G.toGood h3 h4 (by simpa using req_some h2)
      · obtain ⟨x, h1, h⟩ := bnd h
        obtain ⟨y, h2, h⟩ := bnd h
        obtain ⟨u, h3, rfl⟩ := map_some h
        exact sg_sub G.toGood (J.e _ _ _ _ _ G h1) (J.e _ _ _ _ _ G h2) (req_some h3)
      · cases h
    · intro X C sc es ir G h
      unfold coPs at h
      split at h
      · rename_i q; cases q
      · cases h; exact ⟨sgs_nil, rfl⟩
      · rename_i q
        cases q
        obtain ⟨p, h1, h⟩ := bnd h
        obtain ⟨ps, h2, h⟩ := bnd h
        obtain ⟨u, h3, rfl⟩ := map_some h
        have h3 := req_some h3
        obtain ⟨h4, h5⟩ := I.ps _ _ _ _ _ G h2
        exact ⟨sgs_cons (I.p _ _ _ _ _ G h1) h4 h3, by rw [List.all_cons, h3, h5]; rfl⟩
end Mn
/-! Mn, part 12a: except suites, from the text. -/
namespace Mn
open PySem PySem.Spec PyProof.Rows L2
def ehOf (T : Tab) (sc : Scope) (t : Str) : Option (List Str) := if isGl sc t then (T.ob.eh.find? fun p => decide (p.1 = t)).map (·.2) else none
def ehsOf (T : Tab) (sc : Scope) : List Expr → Option (List Str)
  | [] => some []
  | .Name t _ :: r => (ehOf T sc t).bind fun cs => (ehsOf T sc r).map fun ds => cs ++ ds
  | _ => none
/-- isinstance(e, ..) of the caught exception -/
def coIs (T : Tab) (sl : Option Nat) (sc : Scope) : Expr → Option (List Str)
  | .Call (.Name f _) [.Name x _, c] [] _ =>
    if decide (f = "isinstance") && isGl sc "isinstance" && isVis sc x && okDbg x && sl.isSome && decide (slotOf T.N x = sl) then
      match c with
      | .Name t _ => ehOf T sc t
      | .Tuple es _ _ => if decide (es.length ≤ 1000) then ehsOf T sc es else none
      | _ => none
    else none
  | _ => none
mutual
def coX (T : Tab) (sl : Option Nat) (sc : Scope) : Nat → Expr → Option Hx
  | 0, _ => none
  | n + 1, e => match e with
    | .Constant (.int z) _ _ => some (.c (.int z))
    | .Constant (.str z) _ _ => some (.c (.str z))
    | .Constant (.bool z) _ _ => some (.c (.bl z))
    | .Constant .none _ _ => some (.c .non)
    | .Name x _ => if isVis sc x && okDbg x then (slotOf T.N x).map Hx.v else none
    | .Attribute (.Name x _) f _ => if isVis sc x && okDbg x && sl.isSome && decide (slotOf T.N x = sl) then some (.f f) else none
    | .Tuple es _ _ => (coXs T sl sc n es).bind fun h => (hxl h).bind fun k => if decide (k ≤ 30) then some h else none
    | .BoolOp .And es _ => coXw T sl sc n es
    | .UnaryOp .Not a _ => (coX T sl sc n a).map Hx.not
    | .Call f as ks p => (coIs T sl sc (.Call f as ks p)).map Hx.is
    | _ => none
def coXs (T : Tab) (sl : Option Nat) (sc : Scope) : Nat → List Expr → Option Hx
  | 0, _ => none
  | _ + 1, [] => some .tup0
  | n + 1, e :: es => if notStar e then (coX T sl sc n e).bind fun h => (coXs T sl sc n es).map fun r => .tupC h r else none
def coXw (T : Tab) (sl : Option Nat) (sc : Scope) : Nat → List Expr → Option Hx
  | 0, _ => none
  | _ + 1, [] => none
  | n + 1, [e] => coX T sl sc n e
  | n + 1, e :: e2 :: es => (coX T sl sc n e).bind fun h => (coXw T sl sc n (e2 :: es)).map fun r => .and h r
end
mutual
def coXt (T : Tab) (sl : Option Nat) (sc : Scope) : Nat → Expr → Option Hx
  | 0, _ => none
  | n + 1, e => match e with
    | .UnaryOp .Not a _ => (coXt T sl sc n a).map Hx.not
    | .BoolOp .And es _ => coXu T sl sc n es
    | .Name x p => coX T sl sc (n + 1) (.Name x p)
    | .Call f as ks p => coX T sl sc (n + 1) (.Call f as ks p)
    | _ => none
def coXu (T : Tab) (sl : Option Nat) (sc : Scope) : Nat → List Expr → Option Hx
  | 0, _ => none
  | _ + 1, [] => none
  | n + 1, [e] => coXt T sl sc n e
  | n + 1, e :: e2 :: es => (coXt T sl sc n e).bind fun h => (coXu T sl sc n (e2 :: es)).map fun r => .and h r
end
/-- a suite -/
def coH (T : Tab) (sl : Option Nat) (sc : Scope) : Nat → List Stmt → Option Hs
  | 0, _ => none
  | _ + 1, [] => some .nil
  | n + 1, s :: r => match s, r with
    | .Return (some e) _, [] => (coX T sl sc (n + 1) e).map Hs.ret
    | .If c [.Return (some e) _] [] _, r => (coXt T sl sc (n + 1) c).bind fun x => (coX T sl sc (n + 1) e).bind fun y => (coH T sl sc n r).map fun z => .ife x y z
    | .Assign [.Name y _] e _, r => (slotOf T.N y).bind fun j => if isLoc sc y && !isComp e && decide (sl ≠ some j) then (coX T sl sc (n + 1) e).bind fun x => (coH T sl sc n r).map fun z => .set j x z else none
    | _, _ => none
section
variable {X : Cx} {C : CtxW} {sc : Scope} {T : Tab} {sl : Option Nat} {a : Addr} {cls : Value} {d : Option Addr} {oe : Obj} {pn : List (Addr × Obj)}
theorem ehOf_ok (G : GoodT X C sc T) {t : Str} {cs : List Str} (h : ehOf T sc t = some cs) : ∃ v tv, Cln X t v tv ∧ IsT X.K C.mg tv cs := by
  unfold ehOf at h
  split at h
  · rename_i hg
    cases hf : T.ob.eh.find? (fun p => decide (p.1 = t)) with
    | none => rw [hf] at h; cases h
    | some p =>
      rw [hf] at h
      cases h
      have e : p.1 = t := by simpa using List.find?_some hf
      obtain ⟨v, tv, h1, h2, h3, h4, h5, _⟩ := G.ecl p (List.mem_of_find?_eq_some hf)
      rw [e] at h3 h4
      exact ⟨v, tv, ⟨h1, h2, G.toGood.glo hg, h3, h4⟩, h5⟩
  · cases h
theorem ehsOf_ok (G : GoodT X C sc T) : ∀ {es : List Expr} {cs : List Str}, ehsOf T sc es = some cs → ∃ vs tvs, ClnS X es vs tvs ∧ IsTs X.K C.mg tvs cs
  | [], cs, h => by
    cases h
    refine ⟨[], [], .nil, fun p hp => ?_⟩
    obtain ⟨Ca, k1, _, _⟩ := G.eco.ok p hp
    exact ⟨Ca, k1, rfl⟩
  | e :: es, cs, h => by
    unfold ehsOf at h
    split at h
    · rename_i q; cases q
    · rename_i t p r q
      cases q
      cases h1 : ehOf T sc t with
      | none => rw [h1] at h; cases h
      | some c1 =>
        rw [h1] at h
        cases h2 : ehsOf T sc es with
        | none => rw [h2] at h; cases h
        | some c2 =>
          rw [h2] at h
          cases h
          obtain ⟨v, tv, g1, g2⟩ := ehOf_ok G h1
          obtain ⟨vs, tvs, g3, g4⟩ := ehsOf_ok G h2
          refine ⟨v :: vs, tv :: tvs, .cons g1 g3, fun p hp => ?_⟩
          obtain ⟨Ca, k1, k2⟩ := g2 p hp
          obtain ⟨Cb, k3, k4⟩ := g4 p hp
          rw [k1] at k3
          cases k3
          refine ⟨Ca, k1, ?_⟩
          unfold PySem.W.kitAny
          rw [k2]
          cases hb : c1.contains p.1 with
          | true => simp_all
          | false => simp_all
    · cases h
/-- what the slot test says -/
theorem slT {x : Str} (h : (isVis sc x && okDbg x && sl.isSome && decide (slotOf T.N x = sl)) = true) : isVis sc x = true ∧ okDbg x = true ∧ ∃ i, sl = some i ∧ T.N[i]? = some x := by
  simp only [Bool.and_eq_true, decide_eq_true_eq] at h
  obtain ⟨⟨⟨h1, h2⟩, h3⟩, h4⟩ := h
  obtain ⟨i, hi⟩ := Option.isSome_iff_exists.mp h3
  exact ⟨h1, h2, i, hi, slot_ok (h4.trans hi)⟩
theorem coIs_ok (G : GoodT X C sc T) (hz : Zc cls d oe) (hf : ∃ vs, oe.data = .fields vs) {e : Expr} {cs : List Str} (h : coIs T sl sc e = some cs) : PE (X.suite a ((a, oe) :: pn)) e (tX X.K C sl a cls d (.is cs)) := by
  unfold coIs at h
  split at h
  · rename_i f p x p2 c pos
    split at h
    · rename_i q
      simp only [Bool.and_eq_true, decide_eq_true_eq] at q
      obtain ⟨⟨⟨⟨⟨q1, q2⟩, q3⟩, q4⟩, q5⟩, q6⟩ := q
      obtain ⟨i, hi⟩ := Option.isSome_iff_exists.mp q5
      have hN : X.N[i]? = some x := by rw [G.N_eq]; exact slot_ok (q6.trans hi)
      subst q1
      split at h
      · obtain ⟨v, tv, g1, g2⟩ := ehOf_ok G h
        exact hx_is1 G.eco (G.toGood.glo q2) (G.bt _ (by decide)) hN (G.toGood.vis q3) (okDbg_1 q4) (okDbg_2 q4) hi hz hf g1 g2
      · split at h
        · rename_i hl
          obtain ⟨vs, tvs, g1, g2⟩ := ehsOf_ok G h
          exact hx_isT G.eco (G.toGood.glo q2) (G.bt _ (by decide)) hN (G.toGood.vis q3) (okDbg_1 q4) (okDbg_2 q4) hi hz hf g1 (of_decide_eq_true hl) g2
        · cases h
      · cases h
    · cases h
  · cases h
theorem coX_ok (G : GoodT X C sc T) (hz : Zc cls d oe) (hf : ∃ vs, oe.data = .fields vs) : ∀ n : Nat,
    (∀ e he, coX T sl sc n e = some he → PE (X.suite a ((a, oe) :: pn)) e (tX X.K C sl a cls d he)) ∧ (∀ es he, coXs T sl sc n es = some he → PA (X.suite a ((a, oe) :: pn)) es (tXs X.K C sl a cls d he)) ∧
    (∀ es he pos, coXw T sl sc n es = some he → PE (X.suite a ((a, oe) :: pn)) (.BoolOp .And es pos) (tX X.K C sl a cls d he))
  | 0 => ⟨fun _ _ h => (by cases h), fun _ _ h => (by cases h), fun _ _ _ h => (by cases h)⟩
  | n + 1 => by
    obtain ⟨I1, I2, I3⟩ := coX_ok G hz hf n
    refine ⟨fun e he h => ?_, fun es he h => ?_, fun es he pos h => ?_⟩
    · unfold coX at h
      split at h
      · cases h; exact hx_int (X := X.suite a ((a, oe) :: pn))
      · cases h; exact hx_str (X := X.suite a ((a, oe) :: pn))
      · cases h; exact hx_bl (X := X.suite a ((a, oe) :: pn))
      · cases h; exact hx_non (X := X.suite a ((a, oe) :: pn))
      · split at h
        · rename_i q
          simp only [Bool.and_eq_true] at q
          obtain ⟨i, h1, rfl⟩ := map_some h
          exact hx_var (X := X.suite a ((a, oe) :: pn)) (show X.N[i]? = _ by rw [G.N_eq]; exact slot_ok h1) (G.toGood.vis q.1) (okDbg_1 q.2) (okDbg_2 q.2)
        · cases h
      · split at h
        · rename_i q
          cases h
          obtain ⟨q1, q2, i, q3, q4⟩ := slT q
          exact hx_f G.eco (by rw [G.N_eq]; exact q4) (G.toGood.vis q1) (okDbg_1 q2) (okDbg_2 q2) q3 hz hf
        · cases h
      · obtain ⟨y, h1, h⟩ := bnd h
        obtain ⟨k, h2, h⟩ := bnd h
        split at h
        · rename_i q
          cases h
          exact hx_tup (X := X.suite a ((a, oe) :: pn)) (I2 _ _ h1) h2 (of_decide_eq_true q)
        · cases h
      · exact I3 _ _ _ h
      · obtain ⟨y, h1, rfl⟩ := map_some h
        exact hx_not (X := X.suite a ((a, oe) :: pn)) (I1 _ _ h1)
      · obtain ⟨y, h1, rfl⟩ := map_some h
        exact coIs_ok G hz hf h1
      · cases h
    · unfold coXs at h
      split at h
      · rename_i q; cases q
      · cases h; exact hx_nil (X := X.suite a ((a, oe) :: pn))
      · rename_i q
        cases q
        split at h
        · rename_i hs
          obtain ⟨y, h1, h⟩ := bnd h
          obtain ⟨z, h2, rfl⟩ := map_some h
          exact hx_cons (X := X.suite a ((a, oe) :: pn)) (I1 _ _ h1) (I2 _ _ h2) hs
        · cases h
    · unfold coXw at h
      split at h
      · rename_i q; cases q
      · cases h
      · rename_i q
        cases q
        exact hx_one (X := X.suite a ((a, oe) :: pn)) (I1 _ _ h)
      · rename_i q
        cases q
        obtain ⟨y, h1, h⟩ := bnd h
        obtain ⟨z, h2, rfl⟩ := map_some h
        exact hx_and (X := X.suite a ((a, oe) :: pn)) (I1 _ _ h1) (I3 _ _ _ h2)
theorem coXt_ok (G : GoodT X C sc T) (hz : Zc cls d oe) (hf : ∃ vs, oe.data = .fields vs) : ∀ n : Nat,
    (∀ e he, coXt T sl sc n e = some he → PT (X.suite a ((a, oe) :: pn)) e (tXB X.K C sl a cls d he)) ∧ (∀ es he pos, coXu T sl sc n es = some he → PW (X.suite a ((a, oe) :: pn)) (.BoolOp .And es pos) (tXB X.K C sl a cls d he))
  | 0 => ⟨fun _ _ h => (by cases h), fun _ _ _ h => (by cases h)⟩
  | n + 1 => by
    obtain ⟨I1, I3⟩ := coXt_ok G hz hf n
    refine ⟨fun e he h => ?_, fun es he pos h => ?_⟩
    · unfold coXt at h
      split at h
      · obtain ⟨y, h1, rfl⟩ := map_some h
        exact ht_not (X := X.suite a ((a, oe) :: pn)) (I1 _ _ h1)
      · exact (I3 _ _ _ h).pt
      · exact ht_atom (X := X.suite a ((a, oe) :: pn)) ((coX_ok G hz hf (n + 1)).1 _ _ h) fun _ => rfl
      · exact ht_atom (X := X.suite a ((a, oe) :: pn)) ((coX_ok G hz hf (n + 1)).1 _ _ h) fun _ => rfl
      · cases h
    · unfold coXu at h
      split at h
      · rename_i q; cases q
      · cases h
      · rename_i q
        cases q
        exact hw_one (X := X.suite a ((a, oe) :: pn)) (I1 _ _ h)
      · rename_i q
        cases q
        obtain ⟨y, h1, h⟩ := bnd h
        obtain ⟨z, h2, rfl⟩ := map_some h
        exact hw_and (X := X.suite a ((a, oe) :: pn)) (I1 _ _ h1) (I3 _ _ _ h2)
theorem coH_ok (G : GoodT X C sc T) (hz : Zc cls d oe) (hf : ∃ vs, oe.data = .fields vs) : ∀ (n : Nat) (sts : List Stmt) (h : Hs), coH T sl sc n sts = some h → PSs (X.suite a ((a, oe) :: pn)) sts (tH X.w X.K C sl a cls d h) ∧ hsOk h = true
  | 0, _, _, h => by cases h
  | n + 1, sts, h, e => by
    unfold coH at e
    split at e
    · rename_i q; cases q
    · cases e; exact ⟨hs_nil (X := X.suite a ((a, oe) :: pn)), rfl⟩
    · rename_i q
      cases q
      split at e
      · obtain ⟨y, h1, rfl⟩ := map_some e
        exact ⟨hs_ret (X := X.suite a ((a, oe) :: pn)) (hds := []) ((coX_ok G hz hf (n + 1)).1 _ _ h1), rfl⟩
      · obtain ⟨x, h1, e⟩ := bnd e
        obtain ⟨y, h2, e⟩ := bnd e
        obtain ⟨z, h3, rfl⟩ := map_some e
        obtain ⟨g1, g2⟩ := coH_ok G hz hf n _ _ h3
        exact ⟨hs_ife (X := X.suite a ((a, oe) :: pn)) ((coXt_ok G hz hf (n + 1)).1 _ _ h1) ((coX_ok G hz hf (n + 1)).1 _ _ h2) g1, g2⟩
      · obtain ⟨j, h1, e⟩ := bnd e
        split at e
        · rename_i q
          simp only [Bool.and_eq_true, decide_eq_true_eq, Bool.not_eq_true'] at q
          obtain ⟨x, h2, e⟩ := bnd e
          obtain ⟨z, h3, rfl⟩ := map_some e
          obtain ⟨g1, g2⟩ := coH_ok G hz hf n _ _ h3
          exact ⟨hs_set (X := X.suite a ((a, oe) :: pn)) (show X.N.Nodup by rw [G.N_eq]; exact G.nd) (by rw [G.N_eq]; exact slot_ok h1) (G.toGood.lo q.1.1).1 (G.toGood.lo q.1.1).2 q.2 q.1.2 ((coX_ok G hz hf (n + 1)).1 _ _ h2) g1, g2⟩
        · cases e
      · cases e
end
theorem coH_hs {T : Tab} {sl : Option Nat} {sc : Scope} : ∀ (n : Nat) (sts : List Stmt) (h : Hs), coH T sl sc n sts = some h → hsOk h = true
  | 0, _, _, h => by cases h
  | n + 1, sts, h, e => by
    unfold coH at e
    split at e
    · rename_i q; cases q
    · cases e; rfl
    · split at e
      · obtain ⟨y, h1, rfl⟩ := map_some e
        rfl
      · obtain ⟨x, h1, e⟩ := bnd e
        obtain ⟨y, h2, e⟩ := bnd e
        obtain ⟨z, h3, rfl⟩ := map_some e
        have g := coH_hs _ _ _ h3
        exact g
      · obtain ⟨j, h1, e⟩ := bnd e
        split at e
        · obtain ⟨x, h2, e⟩ := bnd e
          obtain ⟨z, h3, rfl⟩ := map_some e
          have g := coH_hs _ _ _ h3
          exact g
        · cases e
      · cases e
end Mn
/-! Mn, part 12b: statements: from the text to the evaluator's terms, and that this is sound. -/
namespace Mn
open PySem PySem.Spec PyProof.Rows L2
/-! ### raise, try -/
/-- the first of a row is a text -/
def isText : List Expr → Bool
  | [.Constant (.str _) _ _] => true
  | _ => false
theorem isText_ok {es : List Expr} (h : isText es = true) : ∃ m j p, es = [.Constant (.str m) j p] := by
  unfold isText at h
  split at h
  · exact ⟨_, _, _, rfl⟩
  · cases h
def raiOf : Stmt → Option (Str × List Expr)
  | .Raise (some (.Call (.Name c _) es [] _)) none _ => some (c, es)
  | _ => none
theorem raiOf_ok {s : Stmt} {c : Str} {es : List Expr} (h : raiOf s = some (c, es)) : ∃ p q r, s = .Raise (some (.Call (.Name c p) es [] q)) none r := by
  unfold raiOf at h
  split at h
  · cases h; exact ⟨_, _, _, rfl⟩
  · cases h
def coRai (T : Tab) (n : Nat) (sc : Scope) (s : Stmt) : Option Sm := match raiOf s with
  | none => some .bad
  | some (c, es) => match T.ob.et.find? fun p => decide (p.1 = c) with
    | none => some .bad
    | some p => (req (isGl sc c && okDbg c)).bind fun _ => match p.2 with
      | [] => (req (isText es)).map fun _ => .rai c [] .nil
      | f :: fs => match es with
        | [] => none
        | e :: r => (coEs T n sc (e :: r)).map fun ys => .rai c (f :: fs) ys
def coTb (T : Tab) (n : Nat) (sc : Scope) : List Stmt → Option Sms
  | [.Return (some e) _] => (coE T n sc e).map fun y => .cons (.ret y) .nil
  | [.Expr e _] => (req (!isComp e)).bind fun _ => (coE T n sc e).map fun y => .cons (.expr y) .nil
  | [.Assign [tg] e _] => (coP T n sc tg).bind fun p => (coE T n sc e).bind fun y => (req (swOk sc tg e && notStar tg && swapFree tg e)).map fun _ => .cons (.set p y) .nil
  | [.If c [.Return (some a) _] [] _, .Return (some b) _] => (coT T n sc c).bind fun x => (coE T n sc a).bind fun y => (coE T n sc b).map fun z => .cons (.ife x (.cons (.ret y) .nil) (.cons (.ret z) .nil)) .nil
  | _ => none
def nmSl (T : Tab) (sc : Scope) : Option Str → Option (Option Nat)
  | none => some none
  | some n => if decide (sc.names.lookup n = some .local) then (slotOf T.N n).map some else none
def coHds (T : Tab) (n : Nat) (sc : Scope) : List ExceptHandler → Option Hds
  | [] => some .nil
  | .ExceptHandler (some (.Name x _)) nm (b :: su) _ :: r => (ehOf T sc x).bind fun cs => (nmSl T sc nm).bind fun sl => (coH T sl sc n (b :: su)).bind fun h => (coHds T n sc r).map fun q => .cons cs sl h q
  | _ => none
/-- what a try needs of the place -/
structure Frm (X : Cx) : Prop where
  st : X.stack = X.env :: X.outer
  fr : X.env.frame = some X.env.locals
theorem GoodT.tr {X : Cx} {C : CtxW} {sc : Scope} {T : Tab} (G : GoodT X C sc T) (pn : List (Addr × Obj)) (xe : Value → Shared → Prop) (W : WX) (tk : Takes (X.tr pn xe) W) (po : PassesOwn (model X.prog X.w) X.A X.env xe) : GoodT (X.tr pn xe) ⟨C.c, C.mg, W⟩ sc T :=
  { N_eq := G.N_eq, nd := G.nd, calm := G.calm, gd := G.gd, un := G.un, kind := G.kind, lcl := G.lcl, cll := G.cll, fre := G.fre, gl := fun x hx => G.gl x hx, fnc := G.fnc, bt := G.bt, gb := G.gb, fns := fun f hf => G.fns f hf, tk := ⟨tk, G.tk.mg⟩, po := po,
    glb := G.glb, flk := G.flk, mts := fun p hp => G.mts p hp, nws := fun p hp => G.nws p hp, met := G.met, eco := G.eco, ecl := fun p hp => G.ecl p hp, exi := fun p hp q => ⟨(G.exi p hp q).ex, (G.exi p hp q).sz⟩, ex0 := fun p hp q => ⟨(G.ex0 p hp q).ex⟩ }
section
variable {X : Cx} {C : CtxW} {sc : Scope} {T : Tab}
theorem ss_one {st : Stmt} {is : Sm} (h1 : PS X st (tDS X.w X.K C is)) : PSs X [st] (tDSs X.w X.K C (.cons is .nil)) :=
  pss_imp (pss_cons h1 pss_nil) fun D σ H ⟨ρ, S, env, hS, hE, h⟩ => by
    replace h := wpx_bind.mp h
    refine ⟨ρ, S, env, hS, hE, wpx_mono h (fun r S1 q H1 ρ1 p1 e1 s1 => ?_) fun _ _ z => z⟩
    obtain ⟨fl, env1⟩ := r
    cases fl with
    | nx => exact fun σ1 E1 => q H1 ρ1 p1 e1 s1 σ1 E1
    | bk => exact q H1 ρ1 p1 e1 s1
    | ct => exact q H1 ρ1 p1 e1 s1
    | rt d => exact q H1 ρ1 p1 e1 s1
theorem ret1 {c : Ctx} {ia : E} {env : Nv} {Q : Flow × Nv → Store → Prop} {E : Exn → Store → Prop} {S : Store} : wpx (evSs c (.cons (.ret ia) .nil) env) Q E S ↔ wpx (evE c ia env) (fun d S' => Q (.rt d, env) S') E S := by
  show wpx (M.bind (M.bind (evE c ia env) fun d => M.ret (Flow.rt d, env)) fun q => match q with | (.nx, env') => evSs c .nil env' | (f, env') => M.ret (f, env')) Q E S ↔ _
  rw [wpx_bind, wpx_bind]
  exact Iff.rfl
theorem ss_ifr {c a b : Expr} {ic ia ib : E} {p1 p2 p3 : Pos} (gc : PT X c (tDB X.w X.K C ic)) (ga : PE X a (tD X.w X.K C ia)) (gb : PE X b (tD X.w X.K C ib)) :
    PSs X [.If c [.Return (some a) p1] [] p2, .Return (some b) p3] (tDSs X.w X.K C (.cons (.ife ic (.cons (.ret ia) .nil) (.cons (.ret ib) .nil)) .nil)) :=
  pss_imp (pss_cons (ps_if gc (ss_one (ss_ret ga)) (ss_nil (C := C))) (ss_one (ss_ret gb))) fun D σ H ⟨ρ, S, env, hS, hE, h⟩ => by
    replace h := wpx_bind.mp (wpx_bind.mp h)
    refine tDB_of hS hE h fun d S1 q => ?_
    replace q := wpx_bind.mp q
    obtain ⟨k, rfl, q⟩ := wx_asB.mp q
    refine ⟨k, rfl, fun H1 ρ1 p1 e1 s1 E1 => ?_⟩
    cases k with
    | true =>
      rw [if_pos rfl]
      replace q := ret1.mp q
      exact ⟨ρ1, S1, env, s1, E1, ret1.mpr (wpx_mono q (fun _ _ z => LS.later z p1 e1) fun _ _ z => EQ.later z p1 e1)⟩
    | false =>
      rw [if_neg Bool.false_ne_true]
      replace q := ret1.mp q
      exact ⟨ρ1, S1, env, s1, E1, fun H2 ρ2 p2 e2 s2 σ2 E2 => ⟨ρ2, S1, env, s2, E2, ret1.mpr (wpx_mono q (fun _ _ z => LS.later z (p1.trans p2) (e1.trans e2)) fun _ _ z => EQ.later z (p1.trans p2) (e1.trans e2))⟩⟩
theorem coTb_ok (G : GoodT X C sc T) {n : Nat} {sts : List Stmt} {ir : Sms} (h : coTb T n sc sts = some ir) : PSs X sts (tDSs X.w X.K C ir) := by
  have J := snd_all (T := T) n
  have P := sndp_all (T := T) n
  unfold coTb at h
  split at h
  · obtain ⟨y, h2, rfl⟩ := map_some h
    exact ss_one (ss_ret (J.e _ _ _ _ _ G h2))
  · obtain ⟨u, h1, h⟩ := bnd h
    obtain ⟨y, h2, rfl⟩ := map_some h
    exact ss_one (ss_expr (J.e _ _ _ _ _ G h2) (not_true (req_some h1)))
  · obtain ⟨p, h1, h⟩ := bnd h
    obtain ⟨y, h2, h⟩ := bnd h
    obtain ⟨u, h3, rfl⟩ := map_some h
    have q := req_some h3
    simp only [Bool.and_eq_true] at q
    exact ss_one (ss_set G.toGood (J.e _ _ _ _ _ G h2) (P.p _ _ _ _ _ G h1) q.1.1 q.1.2 q.2)
  · obtain ⟨x, h1, h⟩ := bnd h
    obtain ⟨y, h2, h⟩ := bnd h
    obtain ⟨z, h3, rfl⟩ := map_some h
    exact ss_ifr (J.t _ _ _ _ _ G h1) (J.e _ _ _ _ _ G h2) (J.e _ _ _ _ _ G h3)
  · cases h
theorem coHds_ok (G : GoodT X C sc T) {n : Nat} : ∀ {hds : List ExceptHandler} {ih : Hds}, coHds T n sc hds = some ih → ∃ l, HdsMix X hds l ∧ HdR X.w X.K C l ih
  | [], ih, h => by cases h; exact ⟨[], .nil, .nil⟩
  | hd :: r, ih, h => by
    unfold coHds at h
    split at h
    · rename_i q; cases q
    · rename_i x p nm b su pos r' q
      cases q
      obtain ⟨cs, h1, h⟩ := bnd h
      obtain ⟨sl, h2, h⟩ := bnd h
      obtain ⟨hh, h3, h⟩ := bnd h
      obtain ⟨q, h4, rfl⟩ := map_some h
      obtain ⟨l, g1, g2⟩ := coHds_ok G h4
      unfold ehOf at h1
      split at h1
      · rename_i hg
        cases hf : T.ob.eh.find? (fun p => decide (p.1 = x)) with
        | none => rw [hf] at h1; cases h1
        | some p =>
          rw [hf] at h1
          cases h1
          have e : p.1 = x := by simpa using List.find?_some hf
          obtain ⟨v, tv, k1, k2, k3, k4, k5, k6⟩ := G.ecl p (List.mem_of_find?_eq_some hf)
          rw [e] at k3 k4
          have hok : hsOk hh = true := coH_hs n _ _ h3
          refine ⟨(tv, sl, fun a cls d => tH X.w X.K C sl a cls d hh) :: l, ?_, .cons k6 hok g2⟩
          have su_ok : ∀ (a : Addr) (oe : Obj) (cls : Value) (d : Option Addr) (pn : List (Addr × Obj)), Zc cls d oe → (∃ vs, oe.data = .fields vs) → PSs (X.suite a ((a, oe) :: pn)) (b :: su) (tH X.w X.K C sl a cls d hh) := fun a oe cls d pn hz hf => (coH_ok G hz hf n _ _ h3).1
          unfold nmSl at h2
          split at h2
          · cases h2
            exact .plain ⟨G.toGood.glo hg, k3, k4⟩ su_ok g1
          · split at h2
            · rename_i hl
              obtain ⟨i, h5, rfl⟩ := map_some h2
              exact .named (by rw [G.N_eq]; exact slot_ok h5) (G.lcl _ (of_decide_eq_true hl)) ⟨G.toGood.glo hg, k3, k4⟩ su_ok g1
            · cases h2
      · cases h1
    · cases h
theorem coRai_ok (G : GoodT X C sc T) {n : Nat} {s : Stmt} {ir : Sm} (h : coRai T n sc s = some ir) : PS X s (tDS X.w X.K C ir) := by
  have bad : ∀ {s : Stmt}, PS X s (tDS X.w X.K C .bad) := ⟨fun _ _ _ _ _ _ ⟨_, _, _, _, _, z⟩ => z.elim⟩
  unfold coRai at h
  split at h
  · cases h; exact bad
  · rename_i c es hr
    obtain ⟨p, q, r, rfl⟩ := raiOf_ok hr
    cases hf : T.ob.et.find? (fun p => decide (p.1 = c)) with
    | none => rw [hf] at h; cases h; exact bad
    | some p =>
      rw [hf] at h
      obtain ⟨u, h1, h⟩ := bnd h
      have q1 := req_some h1
      rw [Bool.and_eq_true] at q1
      have e : p.1 = c := by simpa using List.find?_some hf
      have hm := List.mem_of_find?_eq_some hf
      obtain ⟨pc, pf⟩ := p
      have e : pc = c := e
      subst e
      have hin : (pc, pf) ∈ C.mg.2 := by rw [G.met]; exact hm
      cases pf with
      | nil =>
        obtain ⟨u, h2, rfl⟩ := map_some h
        obtain ⟨m, j, p2, rfl⟩ := isText_ok (req_some h2)
        exact ss_rai0 G.tk G.calm (G.ex0 _ hm rfl) hin (G.toGood.glo q1.1) (okDbg_1 q1.2)
      | cons f fs =>
        cases es with
        | nil => cases h
        | cons e r =>
          obtain ⟨ys, h2, rfl⟩ := map_some h
          obtain ⟨h3, h4⟩ := (snd_all (T := T) n).a _ _ _ _ _ G h2
          exact ss_raiI G.tk G.calm (G.exi _ hm (by simp)) hin (G.toGood.glo q1.1) h3 h4 (okDbg_1 q1.2)
end
mutual
def coS (T : Tab) : Nat → Scope → Stmt → Option Sm
  | 0, _, _ => none
  | n + 1, sc, s => match s with
    | .Expr (.Constant (.str _) _ _) _ => some .pass
    | .Expr e _ => (req (!isComp e)).bind fun _ => (coE T n sc e).map Sm.expr
    | .Return none _ => some (.ret (.c .non))
    | .Return (some e) _ => (coE T n sc e).map Sm.ret
    | .Pass _ => some .pass
    | .Raise a b p => coRai T n sc (.Raise a b p)
    | .Try body (h :: hs) [] [] _ => (coTb T n sc body).bind fun x => (coHds T n sc (h :: hs)).map fun y => .tri x y
    | .Break _ => some .brk
    | .Continue _ => some .cnt
    | .If c a b _ => (coT T n sc c).bind fun x => (coSs T n sc a).bind fun y => (coSs T n sc b).map fun z => .ife x y z
    | .While c a [] _ => (coT T n sc c).bind fun x => (coSs T n sc a).map fun y => .whl x y
    | .For tg it a [] _ => (coI T n sc it).bind fun k => (coP T n sc tg).bind fun p => (coSs T n sc a).bind fun y => (req (notSet it)).map fun _ => .fr p k.1 k.2 y
    | .AugAssign (.Name x _) op e _ => (opOf op).bind fun o => (slotOf T.N x).bind fun i => (req (isLoc sc x)).bind fun _ => (coE T n sc e).map fun y => .aug i o y
    | .AugAssign (.Attribute o f _) op e _ => (opOf op).bind fun b => (clsOf T o).bind fun c => (req (decide ((c, f) ∈ T.ob.fl))).bind fun _ => (coE T n sc o).bind fun x => (coE T n sc e).map fun y => .afld x c f b y
    | .Assign [.Attribute o f _] e _ => (clsOf T o).bind fun c => (req (decide ((c, f) ∈ T.ob.fl))).bind fun _ => (coE T n sc o).bind fun x => (coE T n sc e).map fun y => .set (.fld x c f) y
    | .Assign [tg] e _ => match lcOf sc tg e with
      | some (y, elt, x, iter, ifs, scope) => (slotOf T.N y).bind fun i => (coLc T n sc elt x iter ifs scope).map fun z => .set (.nm i) z
      | none => match dcOf sc tg e with
        | some (y, ek, ev, x, iter, ifs, scope) => (slotOf T.N y).bind fun i => (coDc T n sc ek ev x iter ifs scope).map fun z => .set (.nm i) z
        | none => (coP T n sc tg).bind fun p => (coE T n sc e).bind fun y => (req (swOk sc tg e && notStar tg && swapFree tg e)).map fun _ => .set p y
    | _ => none
def coSs (T : Tab) : Nat → Scope → List Stmt → Option Sms
  | 0, _, _ => none
  | _ + 1, _, [] => some .nil
  | n + 1, sc, s :: ss => (coS T n sc s).bind fun x => (coSs T n sc ss).map fun y => .cons x y
end
structure SndS (T : Tab) (n : Nat) : Prop where
  s : ∀ X C sc st ir, GoodT X C sc T → Frm X → Ind C → coS T n sc st = some ir → PS X st (tDS X.w X.K C ir)
  ss : ∀ X C sc sts ir, GoodT X C sc T → Frm X → Ind C → coSs T n sc sts = some ir → PSs X sts (tDSs X.w X.K C ir)
theorem snds_all {T : Tab} : ∀ n, SndS T n
  | 0 => ⟨fun _ _ _ _ _ _ _ _ h => (by cases h), fun _ _ _ _ _ _ _ _ h => (by cases h)⟩
  | n + 1 => by
    have I := snds_all (T := T) n
    have J := snd_all (T := T) n
    have P := sndp_all (T := T) n
    refine ⟨?_, ?_⟩
    · intro X C sc st ir G fm hx h
      unfold coS at h
      split at h
      · cases h; exact ss_doc
      · obtain ⟨u, h1, h⟩ := bnd h
        obtain ⟨y, h2, rfl⟩ := map_some h
        exact ss_expr (J.e _ _ _ _ _ G h2) (not_true (req_some h1))
      · cases h; exact ss_retN
      · obtain ⟨y, h2, rfl⟩ := map_some h
        exact ss_ret (J.e _ _ _ _ _ G h2)
      · cases h; exact ss_pass
      · exact coRai_ok G h
      · obtain ⟨x, h1, h⟩ := bnd h
        obtain ⟨y, h2, rfl⟩ := map_some h
        obtain ⟨l, g1, g2⟩ := coHds_ok G h2
        exact ss_tri fm.st fm.fr (by rw [G.N_eq]; exact G.nd) G.tk.tk (fun W pn xe tk po => coTb_ok (G.tr pn xe W tk po) h1) g1 g2
      · cases h; exact ss_brk
      · cases h; exact ss_cnt
      · obtain ⟨x, h1, h⟩ := bnd h
        obtain ⟨y, h2, h⟩ := bnd h
        obtain ⟨z, h3, rfl⟩ := map_some h
        exact ss_if (J.t _ _ _ _ _ G h1) (I.ss _ _ _ _ _ G fm hx h2) (I.ss _ _ _ _ _ G fm hx h3)
      · obtain ⟨x, h1, h⟩ := bnd h
        obtain ⟨y, h2, rfl⟩ := map_some h
        exact ss_while hx G.po (J.t _ _ _ _ _ G h1) (I.ss _ _ _ _ _ G fm hx h2)
      · obtain ⟨⟨k, ys⟩, h1, h⟩ := bnd h
        obtain ⟨p, h2, h⟩ := bnd h
        obtain ⟨y, h3, h⟩ := bnd h
        obtain ⟨u, h4, rfl⟩ := map_some h
        exact ss_for hx G.toGood (J.i _ _ _ _ _ _ _ G h1) (P.p _ _ _ _ _ G h2) (I.ss _ _ _ _ _ G fm hx h3) (req_some h4)
      · obtain ⟨o, h1, h⟩ := bnd h
        obtain ⟨i, h2, h⟩ := bnd h
        obtain ⟨u, h3, h⟩ := bnd h
        obtain ⟨y, h4, rfl⟩ := map_some h
        exact ss_aug G.toGood h1 (slot_ok h2) (req_some h3) (J.e _ _ _ _ _ G h4)
      · obtain ⟨b, h1, h⟩ := bnd h
        obtain ⟨c, h2, h⟩ := bnd h
        obtain ⟨u, h3, h⟩ := bnd h
        obtain ⟨x, h4, h⟩ := bnd h
        obtain ⟨y, h5, rfl⟩ := map_some h
        exact ss_afld h1 (G.flk _ (of_decide_eq_true (req_some h3))) (J.e _ _ _ _ _ G h4) (J.e _ _ _ _ _ G h5)
      · obtain ⟨c, h2, h⟩ := bnd h
        obtain ⟨u, h3, h⟩ := bnd h
        obtain ⟨x, h4, h⟩ := bnd h
        obtain ⟨y, h5, rfl⟩ := map_some h
        exact ss_setF (G.flk _ (of_decide_eq_true (req_some h3))) (J.e _ _ _ _ _ G h4) (J.e _ _ _ _ _ G h5)
      · split at h
        · rename_i y elt x iter ifs scope hq
          obtain ⟨py, tpos, pos, rfl, rfl, h1, h2, h3⟩ := lc_ok hq
          obtain ⟨i, h4, h⟩ := bnd h
          obtain ⟨z, h5, rfl⟩ := map_some h
          obtain ⟨ie, sl, k, ies, ic, rfl, g1, g2, g3, g4, g5, g6, g7, g8⟩ := J.l _ _ _ _ _ _ _ _ _ G h5
          exact ss_setC G.toGood (g1 _) g2 g3 g4 g5 g6 g7 g8 (slot_ok h4) h1 h2 h3
        · split at h
          · rename_i y ek ev x iter ifs scope hq
            obtain ⟨py, tpos, pos, rfl, rfl, h1, h2, h3⟩ := dc_ok hq
            obtain ⟨i, h4, h⟩ := bnd h
            obtain ⟨z, h5, rfl⟩ := map_some h
            obtain ⟨ik, iv, sl, k, ies, ic, rfl, g1, g2, g3, g4, g5, g6, g7, g8, g9⟩ := J.d _ _ _ _ _ _ _ _ _ _ G h5
            exact ss_setDc G.toGood (g1 _) g2 g3 g4 g5 g6 g7 g8 g9 (slot_ok h4) h1 h2 h3
          · obtain ⟨p, h1, h⟩ := bnd h
            obtain ⟨y, h2, h⟩ := bnd h
            obtain ⟨u, h3, rfl⟩ := map_some h
            have q := req_some h3
            simp only [Bool.and_eq_true] at q
            exact ss_set G.toGood (J.e _ _ _ _ _ G h2) (P.p _ _ _ _ _ G h1) q.1.1 q.1.2 q.2
      · cases h
    · intro X C sc sts ir G fm hx h
      unfold coSs at h
      split at h
      · rename_i q; cases q
      · cases h; exact ss_nil
      · rename_i q
        cases q
        obtain ⟨x, h1, h⟩ := bnd h
        obtain ⟨y, h2, rfl⟩ := map_some h
        exact ss_cons hx (I.s _ _ _ _ _ G fm hx h1) (I.ss _ _ _ _ _ G fm hx h2)
end Mn
/-! Mn, part 13: whole programs, and the law's end. -/
namespace Mn
open PySem PySem.Spec PyProof.Rows L2
/-- a def as the head has left it, and its term -/
structure DefT (K : PySem.W.Frag) (names : List Str) (glob : Str → Option D) (ob : ObT) (g : Str) (d : Def) (fa : Addr) (fd : FuncData) (ps : List Str) : Prop where
  ex : ∃ (nm sf : Str) (st : Stmt) (N : List Str) (n : Nat), Fun K nm g st fa fd ∧ FnScope N ps (defScope st) ∧ d.slots = N.length ∧ coSs ⟨N, names, glob, { ob with self := sf }⟩ n (defScope st) (defBody st) = some d.body
  ar : d.arity = ps.length
  bd : Binds K fd ps []
/-- the same, standing in the module -/
structure DefOk (K : PySem.W.Frag) (mg : Str → Option Value) (names : List Str) (glob : Str → Option D) (ob : ObT) (f : Str) (d : Def) (fa : Addr) (fd : FuncData) (ps : List Str) : Prop extends DefT K names glob ob f d fa fd ps where
  at_ : mg f = some (.ref fa)
/-- the first k names' values, from i on -/
def varsF : Nat → Nat → Es
  | _, 0 => .nil
  | i, k + 1 => .cons (.v i) (varsF (i + 1) k)
/-- a call handed on -/
def thru (g : Str) (k : Nat) : Def := ⟨k, k, .cons (.ret (.call g (varsF 0 k))) .nil⟩
/-- a class of exceptions with its own __init__ -/
structure ExI (P : Program) (K : PySem.W.Frag) (mg : Str → Option Value) (c : Str) (fs : List Str) : Prop where
  ex : ∃ (C fI : Addr) (fd : FuncData) (ps : List Str), mg c = some (.ref C) ∧ OexC K C ∧ PySem.W.findIn K (.ref C) "__init__" = some (some (.ref fI)) ∧ PySem.W.typeIn K (.ref fI) = some (.type "function") ∧ Binds K fd ps [] ∧
    ∀ (w : World) (base : Heap) (k : Nat), FnOk P w K mg base (L2.CX P w) (k + 1) fI fd ps (spXi C fs)
  sz : fs.length ≤ 900
/-- one without -/
def Ex0 (K : PySem.W.Frag) (mg : Str → Option Value) (c : Str) : Prop := ∃ C : Addr, mg c = some (.ref C) ∧ PySem.W.excIn K C [.type "ValueError", .type "Exception", .type "BaseException", .type "object"] "ValueError.__new__" = true ∧ PySem.W.keepIn K (.ref C) = true ∧
    PySem.W.subIn K (.ref C) (.type "BaseException") = some true ∧ PySem.W.typeIn K (.ref C) = some (.type "type")
/-- a class that is named -/
def EhK (K : PySem.W.Frag) (xt : XT) (t : Str) (cs : List Str) : Prop := ∃ (v : V) (tv : Value), (∀ u, RelV v u → u = tv) ∧ RelV v tv ∧ (t == ("__debug__" : Str)) = false ∧ (xt.1 t = some tv ∨ (xt.1 t = none ∧ bootBuiltins t = some tv ∧ t ≠ "__name__")) ∧ IsT K xt tv cs ∧
  ∀ p ∈ xt.2, ∃ Ca : Addr, xt.1 p.1 = some (.ref Ca) ∧ PySem.W.exmOne K (.ref Ca) tv = some (cs.contains p.1)
/-- all that the head tells of exceptions -/
structure PrX (P : Program) (K : PySem.W.Frag) (mg : Str → Option Value) (ob : ObT) : Prop where
  eco : EcOk K (mg, ob.et)
  exi : ∀ p ∈ ob.et, p.2 ≠ [] → ExI P K mg p.1 p.2
  ex0 : ∀ p ∈ ob.et, p.2 = [] → Ex0 K mg p.1
  ecl : ∀ p ∈ ob.eh, EhK K (mg, ob.et) p.1 p.2
/-- all that the head tells -/
structure PrOk (P : Program) (K : PySem.W.Frag) (mg : Str → Option Value) (defs : List (Str × Def)) (names : List Str) (glob : Str → Option D) (ob : ObT) : Prop where
  df : ∀ f ∈ names, ∃ d fa fd ps, defs.lookup f = some d ∧ DefOk K mg names glob ob f d fa fd ps
  mt : ∀ p ∈ ob.mt, ∃ Ca d fa fd ps, ClsAt K p.1 Ca ∧ Meth K Ca p.2.1 fa ∧ defs.lookup p.2.2 = some d ∧ DefT K names glob ob p.2.2 d fa fd ps
  nw : ∀ p ∈ ob.cs, ∃ Ca gi d fa fd ps, ClsAt K p.1 Ca ∧ mg p.1 = some (.ref Ca) ∧ Mk K Ca fa ∧ defs.lookup gi = some d ∧ DefT K names glob ob gi d fa fd ps ∧ defs.lookup p.2 = some (thru gi ps.length)
  fl : ∀ p ∈ ob.fl, FldOk K p.1 p.2
  bt : ∀ x ∈ btNames, mg x = none
  gb : ∀ x d, glob x = some d → ∃ u v, mg x = some u ∧ RelV v u ∧ ∀ H ρ, Rp K H ρ d v
  xc : PrX P K mg ob
theorem callN_len {defs : List (Str × Def)} {glob : Str → Option D} {f : Str} {d : Def} (hd : defs.lookup f = some d) : ∀ {n ds Q E S}, wpx (callN defs glob n f ds) Q E S → ds.length = d.arity
  | 0, _, _, _, _, h => h.elim
  | n + 1, ds, Q, E, S, h => by
    unfold callN at h
    simp only [hd] at h
    unfold callD at h
    simp only [wpx_bind, wpx_guard] at h
    simpa using h.1
theorem env_start {K : PySem.W.Frag} {H : Hp} {ρ : List Addr} {ds : List D} {vs : List V} {N : List Str} (h : Rps K H ρ ds vs) : EnvR K H ρ (startD N.length ds) (L2.start N vs) := by
  have hl := h.length
  unfold startD L2.start
  refine ⟨by simp [hl], fun i d e => ?_⟩
  by_cases hi : i < ds.length
  · rw [List.getElem?_append_left (by simpa using hi), List.getElem?_map] at e
    cases q : ds[i]? with
    | none => rw [q] at e; cases e
    | some d' =>
      rw [q] at e
      cases e
      obtain ⟨v, h1, h2⟩ := h.at q
      refine ⟨v, ?_, h2⟩
      rw [List.getElem?_append_left (by simp; omega), List.getElem?_map, h1]; rfl
  · rw [List.getElem?_append_right (by simp; omega), List.getElem?_replicate] at e
    split at e <;> cases e
theorem lookup_mem : ∀ {defs : List (Str × Def)} {f : Str}, f ∈ defs.map (·.1) → ∃ d, defs.lookup f = some d
  | [], f, h => by simp at h
  | (g, d) :: r, f, h => by
    by_cases hf : f = g
    · subst hf; exact ⟨d, by simp⟩
    · have hb : (f == g) = false := by simpa using hf
      rw [List.map_cons] at h
      rcases List.mem_cons.mp h with q | q
      · exact absurd q hf
      · obtain ⟨d', e⟩ := lookup_mem q
        exact ⟨d', by rw [List.lookup_cons, hb]; exact e⟩
theorem vars_ev {C : Ctx} {env : Nv} {S : Store} : ∀ (ds : List D) (i : Nat), (∀ j, j < ds.length → env[i + j]? = some ds[j]?) → evEs C (varsF i ds.length) env S = .ok ds S
  | [], i, _ => rfl
  | d :: ds, i, h => by
    have h0 := h 0 (by simp)
    have ih := vars_ev (C := C) (S := S) ds (i + 1) fun j hj => by
      have := h (j + 1) (by simpa using hj)
      rw [show i + 1 + j = i + (j + 1) by omega, this]; simp
    show evEs C (.cons (.v i) (varsF (i + 1) ds.length)) env S = _
    rw [evEs]
    unfold M.bind
    have e1 : evE C (.v i) env S = .ok d S := by
      rw [evE]
      simp only [Nat.add_zero, List.getElem?_cons_zero] at h0
      rw [h0]; rfl
    rw [e1]
    simp only []
    rw [ih]; rfl
theorem thru_go {defs : List (Str × Def)} {glob : Str → Option D} {n k : Nat} {f g : Str} {ds : List D} {Q : D → Store → Prop} {E : Exn → Store → Prop} {S : Store} (h : defs.lookup f = some (thru g k)) (q : wpx (callN defs glob (n + 1) f ds) Q E S) : wpx (callN defs glob n g ds) Q E S := by
  unfold callN at q
  simp only [h] at q
  unfold callD at q
  simp only [wpx_bind, wpx_guard] at q
  obtain ⟨q1, q⟩ := q
  have hl : ds.length = k := by simpa [thru] using q1
  subst hl
  have e := vars_ev (C := ⟨glob, callN defs glob n⟩) (env := startD ds.length ds) (S := S) ds 0 fun j hj => by
    unfold startD
    rw [Nat.zero_add, List.getElem?_append_left (by simpa using hj), List.getElem?_map]
    simp [List.getElem?_eq_getElem hj]
  have q : wpx (M.bind (M.bind (M.bind (evEs ⟨glob, callN defs glob n⟩ (varsF 0 ds.length) (startD ds.length ds)) fun xs => callN defs glob n g xs) fun d => M.ret (Flow.rt d, startD ds.length ds)) fun q => match q with | (.nx, env') => evSs ⟨glob, callN defs glob n⟩ .nil env' | (f, env') => M.ret (f, env')) (fun b S' => wpx (retOf b) Q E S') E S := by
    have := q
    simp only [thru, evSs, evS, evE] at this
    exact this
  simp only [wpx_bind] at q
  unfold wpx at q
  rw [e] at q
  simp only [] at q
  exact q
section
variable {P : Program} {w : World} {K : PySem.W.Frag} {mg : Str → Option Value} {base : Heap} {defs : List (Str × Def)} {names : List Str} {glob : Str → Option D} {ob : ObT}
theorem fng_bad {xt : XT} {k : Nat} {fa : Addr} {fd : FuncData} {ps : List Str} {m : List D → M D} {n : Nat} (hn : n = ps.length) (h : ∀ ds Q E S, ¬ wpx (m ds) Q E S) : FnG P w K mg base k fa fd ps (spOf w K xt m n) :=
  ⟨fun _ _ _ _ h => hn ▸ h.1, fun _ _ _ _ _ _ _ _ _ _ _ _ _ z => by obtain ⟨_, _, _, _, _, _, z⟩ := z; exact (h _ _ _ _ z).elim⟩
theorem fng_imp {xt : XT} {k : Nat} {fa : Addr} {fd : FuncData} {ps : List Str} {m m' : List D → M D} {n : Nat} (F : FnG P w K mg base k fa fd ps (spOf w K xt m n)) (h : ∀ ds Q E S, wpx (m' ds) Q E S → wpx (m ds) Q E S) : FnG P w K mg base k fa fd ps (spOf w K xt m' n) :=
  ⟨fun vs H Q E z => F.ar vs H Q E (by obtain ⟨a, ρ, S, ds, b, c, d⟩ := z; exact ⟨a, ρ, S, ds, b, c, h _ _ _ _ d⟩), fun A outer s H args us vs Q E r e b v z => F.go A outer s H args us vs Q E r e b v (by obtain ⟨a, ρ, S, ds, b, c, d⟩ := z; exact ⟨a, ρ, S, ds, b, c, h _ _ _ _ d⟩)⟩
theorem def_ok (W : PrOk P K mg defs names glob ob) : ∀ (n : Nat) (f : Str) (d : Def), defs.lookup f = some d → ∀ (fa : Addr) (fd : FuncData) (ps : List Str), DefT K names glob ob f d fa fd ps →
    FnG P w K mg base (n + 10) fa fd ps (spOf w K (mg, ob.et) (callN defs glob n f) ps.length)
  | 0, f, d, hd, fa, fd, ps, E => fng_bad rfl fun _ _ _ _ z => z
  | n + 1, f, d, hd, fa, fd, ps, E0 => by
    obtain ⟨nm, sf, st, N, m, F, sco, hsl, hco⟩ := E0.ex
    obtain ⟨oc, od, kV, doc, pm, an, cdv, ct, osl, rfl, look, code⟩ := F.ex
    refine fng_of (k := n + 10) look code sco (fun _ _ _ _ h => h.1) fun A outer s H vs Q E room ⟨hlen, ρ, S, ds, hS, hr, h⟩ => ?_
    let C : CtxW := ⟨⟨glob, callN defs glob n⟩, (mg, ob.et), fun cls d _ H => E cls d H⟩
    have G0 : Good (cxOf (L2.CX P w) P w K mg base N f (defScope st) fa cdv A outer s H E) C (defScope st) N names :=
      { N_eq := rfl, nd := sco.nd, calm := rfl, gd := room.gd
        un := by have := room.rm.un; show (A.deeper _).units + 300 < cLine; omega
        kind := sco.kind, lcl := fun _ h => h, cll := fun _ h => h, fre := fun _ h => .inr h, gl := fun _ h => h, fnc := fun _ _ => rfl
        bt := W.bt, gb := W.gb
        tk := ⟨takes_of (X := cxOf (L2.CX P w) P w K mg base N f (defScope st) fa cdv A outer s H E) (E := E) rfl rfl rfl rfl, rfl⟩
        po := passes_of (X := cxOf (L2.CX P w) P w K mg base N f (defScope st) fa cdv A outer s H E) (K := fun e s'' => L2.CX P w outer H s E e s'') rfl
        fns := fun g hg => by
          obtain ⟨dg, ga, gd, gs, hdg, Eg⟩ := W.df g hg
          obtain ⟨_, _, _, _, _, Fg, _⟩ := Eg.ex
          exact ⟨ga, gd, gs, n + 10, Eg.at_, Fg.kp, Eg.bd, room, fun ds' Q' E' S' q => by rw [← Eg.ar]; exact callN_len hdg q, def_ok W n g dg hdg ga gd gs Eg.toDefT⟩ }
    have G : GoodT (cxOf (L2.CX P w) P w K mg base N f (defScope st) fa cdv A outer s H E) C (defScope st) ⟨N, names, glob, { ob with self := sf }⟩ :=
      { toGood := G0, glb := rfl, flk := W.fl
        mts := fun p hp => by
          obtain ⟨Ca, dg, ga, gd, gs, ca, cm, hdg, Eg⟩ := W.mt p hp
          exact ⟨Ca, ga, gd, gs, n + 10, ca, cm, Eg.bd, room, fun ds' Q' E' S' q => by rw [← Eg.ar]; exact callN_len hdg q, def_ok W n _ dg hdg ga gd gs Eg⟩
        nws := fun p hp => by
          obtain ⟨Ca, gi, dg, ga, gd, gs, ca, mc, mk, hdg, Eg, ht⟩ := W.nw p hp
          have hlen : ∀ ds Q E S, wpx (callN defs glob n p.2 ds) Q E S → ds.length = gs.length := fun ds' Q' E' S' q => callN_len ht q
          refine ⟨Ca, ga, gd, gs, n + 9, ca, mc, mk, Eg.bd, room, hlen, ?_⟩
          cases n with
          | zero => exact fng_bad rfl fun _ _ _ _ z => z
          | succ k => exact fng_imp (def_ok W k gi dg hdg ga gd gs Eg) fun _ _ _ _ q => thru_go ht q
        met := rfl, eco := W.xc.eco, ecl := fun p hp => W.xc.ecl p hp
        exi := fun p hp q => by
          obtain ⟨⟨Ca, fI, fd, ps, h1, h2, h3, h4, h5, h6⟩, h7⟩ := W.xc.exi p hp q
          exact ⟨⟨Ca, fI, fd, ps, n + 9, h1, h2, h3, h4, h6 w base (n + 8), room.rm, h5⟩, h7⟩
        ex0 := fun p hp q => ⟨W.xc.ex0 p hp q⟩ }
    refine ⟨_, (snds_all (T := ⟨N, names, glob, { ob with self := sf }⟩) m).ss _ C _ _ _ G ⟨rfl, rfl⟩ (fun _ _ _ _ _ h => h) hco, ?_⟩
    unfold callN at h
    simp only [hd] at h
    unfold callD at h
    simp only [wpx_bind, wpx_guard] at h
    rw [hsl] at h
    refine ⟨ρ, S, _, hS, env_start hr, wpx_mono h.2 (fun r S1 q H1 ρ1 p1 e1 s1 => ?_) fun x S1 q cls d H1 ρ1 σ1 p1 e1 s1 _ xr => q cls d H1 ρ1 p1 e1 s1 xr⟩
    obtain ⟨fl, env1⟩ := r
    cases fl with
    | nx => exact fun _ _ => LQ.here (LQ.later (show LQ w K Q ρ H .non S1 from q) p1 e1) s1 .non
    | bk => exact q.elim
    | ct => exact q.elim
    | rt z => exact fun v r => LQ.here (LQ.later (show LQ w K Q ρ H z S1 from q) p1 e1) s1 r
end
/-! ### the law -/
theorem law_end {et : List (Str × List Str)} {P : Program} {w : World} {K : PySem.W.Frag} {mg mb : Str → Option Value} {k : Nat} {fa a : Addr} {fd : FuncData} {x : Str} {s₁ : Shared} {vs : List Value} {ns : List Int} {m : List D → M D}
    (inK : K.In s₁.heap) (nsG : s₁.heap.Ns mainGlobals mg) (nsB : s₁.heap.Ns builtinsNs mb) (same : ∀ x : Str, x ≠ "__name__" → mb x = bootBuiltins x) (lim : s₁.heap.NoLimit) (gens : s₁.gens = #[])
    (obj : s₁.heap.get? a = some { cls := .type "list", data := .seq vs.toArray }) (hi : IntsAre vs ns) (hl : ns.length ≤ sizeLine) (room : Rm k callerA)
    (F : ∀ base : Heap, K.In base → base.Ns mainGlobals mg → FnG P w K mg base k fa fd [x] (spOf w K (mg, et) m 1)) (bind : ∀ (s : Shared) (u : Value), BindsTo s fd ⟨[u], []⟩ [(x, u)])
    (law : wp (m [.loc 0]) (fun d _ => d = .bl true) [.ro (ns.map D.int)]) :
    codeAny (model P w) callerA (.call (.ref fa) ⟨[.ref a], []⟩) (fun r s' => r = .ok (.ret (.bool true)) ∧ OldK s₁.heap s'.heap ∧ s'.os = s₁.os ∧ AllBare s'.gens) s₁ := by
  have rel := vals_ints hi
  have len := hi.length
  have main : ∀ H : Hp, (∀ b, H b = none ∨ (b = a ∧ K.lookup a = none ∧ H b = some (.frz { cls := .type "list", data := .seq vs.toArray } (.lst (ns.map V.int))))) →
      ((∃ o, H a = some (.frz o (.lst (ns.map V.int)))) ∨ KL K a (ns.map V.int)) →
      codeAny (model P w) callerA (.call (.ref fa) ⟨[.ref a], []⟩) (fun r s' => r = .ok (.ret (.bool true)) ∧ OldK s₁.heap s'.heap ∧ s'.os = s₁.os ∧ AllBare s'.gens) s₁ := by
    intro H only seen
    have hok : HOk P w H s₁.heap := fun b o e => by
      rcases only b with z | ⟨rfl, _, z⟩
      · rw [z] at e; cases e
      · rw [z] at e
        cases e
        exact ⟨obj, by rw [List.length_map]; exact hl, vs, _, rel, obj⟩
    have kept : ∀ {b : Addr} {o : Obj}, s₁.heap.get? b = some o → H b = none → (hidT s₁.heap H).get? b = some o := fun e n => hidT_get e n
    have noDict : ∀ {b : Addr} {o : Obj} {es : Array DictEntry} {ep : Nat}, s₁.heap.get? b = some o → o.data = .dict es ep → H b = none := fun {b o es ep} e d => by
      rcases only b with z | ⟨rfl, _, _⟩
      · exact z
      · rw [obj] at e
        cases e
        exact nomatch (show Data.seq vs.toArray _ = Data.dict es ep from d)
    have ns' : ∀ {b : Addr} {m' : Str → Option Value}, s₁.heap.Ns b m' → (hidT s₁.heap H).Ns b m' := fun ⟨o, es, ep, e, d, r⟩ => ⟨o, es, ep, kept e (noDict e d), d, r⟩
    have inK' : K.In (hidT s₁.heap H) := fun b o e => kept (inK b o e) (by
      rcases only b with z | ⟨rfl, q, _⟩
      · exact z
      · rw [q] at e; cases e)
    have md : Mod K mg (hidT s₁.heap H) := ⟨inK', ns' nsG, ⟨mb, ns' nsB, same⟩, by obtain ⟨mc, q1, q2⟩ := lim; exact ⟨mc, ns' q1, q2⟩⟩
    have st : Env0 P w K mg (hidT s₁.heap H) callerA [] s₁ H :=
      { frames := rfl, mod := md, bs := fun b o e => of_hidT e, bsz := Nat.le_of_eq (hidT_size _ _), funs := trivial, frf := fun b z => absurd (show b ∈ ([] : List Addr) from z) (by simp), hok := hok, bare := .of_eq gens }
    have sr : SR w K H [a] [.ro (ns.map D.int)] := by
      refine ⟨rfl, fun n c b e1 e2 => ?_, fun n m' b xs ys hnm e1 e2 z1 _ _ => ?_⟩
      · cases n with
        | zero => simp at e1 e2; subst e1; subst e2; exact ⟨_, seen, .of_ints _⟩
        | succ n => simp at e1
      · cases n with
        | zero => simp at e1; subst e1; cases z1
        | succ n => simp at e1
    have want : spOf w K (mg, et) m 1 [.ref a] H (fun v _ => v = .bl true) (fun _ _ _ => False) := ⟨rfl, [a], _, [.loc 0], sr, .cons (by unfold Rp; exact ⟨a, rfl, rfl⟩) .nil, wpx_mono law (fun d S e v H' ρ' _ _ _ r => by subst e; exact r.blE) fun _ _ z => z.elim⟩
    refine codeAny_mono ((F _ inK' (ns' nsG)).go callerA [] s₁ H ⟨[.ref a], []⟩ [.ref a] [.ref a] _ _ room st (bind s₁ (.ref a)) (.cons rfl .nil) want) fun r s2 h => ?_
    match r, h with
    | .error e, ⟨_, _, _, _, _, _, _, _, _, _, _, _, z⟩ => exact z.elim
    | .ok .next, h => exact h.elim
    | .ok .brk, h => exact h.elim
    | .ok .cont, h => exact h.elim
    | .ok (.ret u), ⟨v, H', os, bare, un, hok', r', q⟩ =>
      have q : v = .bl true := q
      subst q
      have r' : u = Value.bool true := r'
      subst r'
      refine ⟨rfl, OldK.of_keep fun b o e => ?_, os, bare⟩
      rcases only b with z | ⟨rfl, _, z⟩
      · exact un.keep b o e z (by intro z; exact absurd (show b ∈ ([] : List Addr) from z) (by simp)) (by simp)
      · obtain ⟨e2, _⟩ := hok' b _ (un.frzs b _ _ z)
        rw [obj] at e
        cases e
        exact e2
  cases hk : K.lookup a with
  | some o =>
    have e := inK a o hk
    rw [obj] at e
    cases e
    exact main (fun _ => none) (fun _ => .inl rfl) (.inr fun H => .inr ⟨_, vs.toArray, _, hk, rfl, rfl, rfl, by rw [List.size_toArray, len]; exact hl, by simpa using rel⟩)
  | none =>
    refine main (fun b => if b = a then some (.frz { cls := .type "list", data := .seq vs.toArray } (.lst (ns.map V.int))) else none) (fun b => ?_) (.inl ⟨_, if_pos rfl⟩)
    by_cases hb : b = a
    · exact .inr ⟨hb, hk, if_pos hb⟩
    · exact .inl (if_neg hb)
/-- the row's walk, from the evaluator's run of the law -/
theorem row_walk {l : PySem.W.OpenLaw} {q : Program} {loose : List Str} {XP : (Str → Option Value) → Heap → Prop} {YP : World → Heap → Prop} {d : DefRec} {K : Params → PySem.W.Frag} {defs : List (Str × Def)} {names : List Str} {glob : Str → Option D} {ob : ObT} {n : Nat} {x : Str}
    (hn : l.most = some 63) (hdf : d.params.defaults = []) (hr : n ≤ 210) (hY : ∀ (w : World) (h : Heap), YP w h → (K w.params).In h)
    (F : ∀ (w : World) (mg : Str → Option Value) (fa : Addr) (h : Heap), (K w.params).In h → h.Ns mainGlobals mg → mg d.name = some (.ref fa) →
      PrOk l.prog (K w.params) mg defs names glob ob ∧ ∃ dl fd, defs.lookup d.name = some dl ∧ DefT (K w.params) names glob ob d.name dl fa fd [x] ∧ ∀ (s : Shared) (u : Value), BindsTo s fd ⟨[u], []⟩ [(x, u)])
    (law : ∀ ns : List Int, ns.length ≤ 63 → wp (callN defs glob n d.name [.loc 0]) (fun d _ => d = .bl true) [.ro (ns.map D.int)]) :
    PySem.W.WalkO q loose XP YP l.row.toRowW d [] (fun f vs => PySem.call f vs) := by
  refine Att.attach_call hn hdf fun w s₀ s₁ mg mb fa o pm cd doc a vs ns G Y ho hd hcd hmg hobj hints hlen hg => ?_
  have inK := hY w _ Y
  obtain ⟨W, dl, fd, h1, h2, h3⟩ := F w mg fa _ inK G.T.g hmg
  have rm : Rm (n + 10) callerA := ⟨⟨rfl, by show 1 + 300 + 3 * (n + 10) + 5 < 1000; omega, by show 4 + 16 * (n + 10) + 200 < 9900; omega⟩, rfl⟩
  refine law_end (et := ob.et) inK G.T.g G.T.b G.T.builtins G.T.nolimit hg hobj hints (Nat.le_trans hlen (by decide)) rm (fun base i1 i2 => ?_) h3 (law ns hlen)
  exact def_ok W n _ dl h1 fa fd [x] h2
end Mn
/-! Mn, part 14: what the head tells, put together. -/
namespace Mn
open PySem PySem.Spec PyProof.Rows L2
/-- a def's text against its term -/
structure StOk (st : Stmt) (nm g sf : Str) (N ps : List Str) (d : Def) (names : List Str) (glob : Str → Option D) (ob : ObT) : Prop where
  sco : FnScope N ps (defScope st)
  sl : d.slots = N.length
  ar : d.arity = ps.length
  co : coSs ⟨N, names, glob, { ob with self := sf }⟩ 100 (defScope st) (defBody st) = some d.body
  bd : ∀ (kV doc pm : Value) (an : Option Addr) (cdv ct : Value) (us : List Value), us.length = ps.length → bindArgs (PySem.W.fnOf nm g (defArgs st) (defBody st) (defScope st) .none kV doc pm an cdv ct) ⟨us, []⟩ = pure (ps.zip us)
section
variable {w : World} {K : PySem.W.Frag} {mg : Str → Option Value} {defs : List (Str × Def)} {names : List Str} {glob : Str → Option D} {ob : ObT} {nm g f sf : Str} {d : Def} {st : Stmt} {N ps : List Str} {fa : Addr} {fd : FuncData}
theorem defT_mk (s : StOk st nm g sf N ps d names glob ob) (h : Fun K nm g st fa fd) : DefT K names glob ob g d fa fd ps := ⟨⟨nm, sf, st, N, 100, h, s.sco, s.sl, s.co⟩, s.ar, h.binds s.bd⟩
theorem al_nil {α : Type} {p : α → Prop} : ∀ x ∈ ([] : List α), p x := fun _ h => nomatch h
theorem al_cons {α : Type} {p : α → Prop} {a : α} {l : List α} (h : p a) (r : ∀ x ∈ l, p x) : ∀ x ∈ a :: l, p x := fun x hx => by
  rcases List.mem_cons.mp hx with rfl | hx
  · exact h
  · exact r x hx
theorem def_at {h : Heap} (X : K.In h) (G : h.Ns mainGlobals mg) (s : StOk st nm g sf N ps d names glob ob) (hf : Fun K nm g st fa fd) (a : PySem.W.nsIn K mainGlobals g = some (some (.ref fa))) (l : defs.lookup g = some d) : ∃ d fa fd ps, defs.lookup g = some d ∧ DefOk K mg names glob ob g d fa fd ps :=
  ⟨d, fa, fd, ps, l, { toDefT := defT_mk s hf, at_ := PySem.W.mg_of X G a }⟩
theorem met_at {c m : Str} {Ca : Addr} (ca : ClsAt K c Ca) (s : StOk st nm g sf N ps d names glob ob) (hf : Fun K nm g st fa fd) (a : PySem.W.findIn K (.ref Ca) m = some (some (.ref fa))) (i : PySem.W.isFn K (.ref fa) = true) (k : PySem.W.keepIn K (.ref fa) = true) (l : defs.lookup g = some d) :
    ∃ Ca d fa fd ps, ClsAt K c Ca ∧ Meth K Ca m fa ∧ defs.lookup g = some d ∧ DefT K names glob ob g d fa fd ps := ⟨Ca, d, fa, fd, ps, ca, ⟨a, i, k⟩, l, defT_mk s hf⟩
theorem new_at {h : Heap} {c t : Str} {Ca : Addr} (X : K.In h) (G : h.Ns mainGlobals mg) (ca : ClsAt K c Ca) (s : StOk st nm g sf N ps d names glob ob) (hf : Fun K nm g st fa fd) (a : PySem.W.findIn K (.ref Ca) "__init__" = some (some (.ref fa))) (i : PySem.W.isFn K (.ref fa) = true) (mk : PySem.W.makesIn K Ca = true) (kc : PySem.W.keepIn K (.ref Ca) = true)
    (l : defs.lookup g = some d) (lt : defs.lookup t = some (thru g ps.length)) :
    ∃ Ca gi d fa fd ps, ClsAt K c Ca ∧ mg c = some (.ref Ca) ∧ Mk K Ca fa ∧ defs.lookup gi = some d ∧ DefT K names glob ob gi d fa fd ps ∧ defs.lookup t = some (thru gi ps.length) :=
  ⟨Ca, g, d, fa, fd, ps, ca, PySem.W.mg_of X G ca.at_, ⟨mk, a, i, kc⟩, l, defT_mk s hf, lt⟩
theorem fld_at {c f : Str} {Ca : Addr} (ca : ClsAt K c Ca) (n : PySem.W.findIn K (.ref Ca) f = some none) : FldOk K c f := ⟨Ca, ca, n⟩
def Bts (K : PySem.W.Frag) : List Str → Prop
  | [] => True
  | x :: r => PySem.W.nsIn K mainGlobals x = some none ∧ Bts K r
theorem bts_all {h : Heap} (X : K.In h) (G : h.Ns mainGlobals mg) : ∀ {l : List Str}, Bts K l → ∀ x ∈ l, mg x = none
  | [], _, x, hx => by simp at hx
  | y :: r, ⟨h1, h2⟩, x, hx => by
    rcases List.mem_cons.mp hx with rfl | hx
    · exact PySem.W.mg_none_of X G h1
    · exact bts_all X G h2 x hx
/-- a module's constant -/
def GbOk (K : PySem.W.Frag) (mg : Str → Option Value) (x : Str) (d : D) : Prop := ∃ u v, mg x = some u ∧ RelV v u ∧ ∀ H ρ, Rp K H ρ d v
def Gbs (K : PySem.W.Frag) (mg : Str → Option Value) (l : List (Str × D)) : Prop := ∀ x d, l.lookup x = some d → GbOk K mg x d
theorem gbs_nil : Gbs K mg [] := fun x d h => by cases h
theorem gbs_cons {x : Str} {e : D} {l : List (Str × D)} (h : GbOk K mg x e) (r : Gbs K mg l) : Gbs K mg ((x, e) :: l) := fun y d q => by
  by_cases hg : y = x
  · subst hg
    have : e = d := by simpa using q
    subst this
    exact h
  · have hb : (y == x) = false := by simpa using hg
    rw [List.lookup_cons, hb] at q
    exact r y d q
theorem gb_str {h : Heap} {x s : Str} {t : Tok} (X : K.In h) (G : h.Ns mainGlobals mg) (a : PySem.W.nsIn K mainGlobals x = some (some (.str s t))) : GbOk K mg x (.str s) := ⟨_, .str s, PySem.W.mg_of X G a, ⟨t, rfl⟩, fun H ρ => .str⟩
theorem gb_int {h : Heap} {x : Str} {s : Int} {t : Tok} (X : K.In h) (G : h.Ns mainGlobals mg) (a : PySem.W.nsIn K mainGlobals x = some (some (.int s t))) : GbOk K mg x (.int s) := ⟨_, .int s, PySem.W.mg_of X G a, ⟨t, rfl⟩, fun H ρ => .int⟩
theorem gb_tupS {h : Heap} {x : Str} {ga : Addr} {od : Option Addr} {n : Nat} {sl : Array (Option Value)} {its : Array Value} {xs : List Str} (X : K.In h) (G : h.Ns mainGlobals mg) (a : PySem.W.nsIn K mainGlobals x = some (some (.ref ga)))
    (l : K.lookup ga = some ⟨.type "tuple", od, .seq its n, sl⟩) (hz : its.size ≤ sizeLine) (hv : Vals (xs.map V.str) its.toList) : GbOk K mg x (.tup (xs.map D.str)) :=
  ⟨_, .ref ga, PySem.W.mg_of X G a, rfl, fun H ρ => by unfold Rp; exact ⟨ga, xs.map V.str, rfl, .inr ⟨_, its, n, l, rfl, rfl, hz, hv⟩, Rps.of_strs xs⟩⟩
end
/-! ### exceptions -/
/-- the text of an exception's __init__ -/
structure IniOk (st : Stmt) (s0 : Str) (xs fs : List Str) : Prop where
  bd : ∃ (e : Expr) (p0 p1 p2 p3 p4 : Pos) (r : List Stmt), defBody st = .Expr (.Call (.Attribute (.Call (.Name "super" p0) [] [] p1) "__init__" p2) [e] [] p3) p4 :: r ∧ okA e (s0 :: xs) = true ∧ (p2.endLine == p3.line) = true ∧ iniA s0 xs r = some fs
  sc : NdefX.NScope ((s0 :: xs) ++ [("__class__" : Str)]) (s0 :: xs) [("__class__" : Str)] (defScope st)
  su : (defScope st).names.lookup ("super" : Str) = some .globalImplicit
  ar : ∃ ar : Arg, ((defArgs st).posonlyargs ++ (defArgs st).args).head? = some ar ∧ ar.arg = s0
  ne : fs ≠ []
  db : (s0 :: xs).all (fun x => !(x == ("__debug__" : Str)) && !(x == ("__classdict__" : Str))) = true
  nd : fs.Nodup
  sz : fs.length ≤ 900
  bi : ∀ (nm g : Str) (cc : Addr) (kV doc pm : Value) (an : Option Addr) (cdv ct : Value) (us : List Value), us.length = (s0 :: xs).length → bindArgs (PySem.W.fnX nm g (defArgs st) (defBody st) (defScope st) [("__class__", cc)] .none kV doc pm an cdv ct) ⟨us, []⟩ = pure ((s0 :: xs).zip us)
section
variable {P : Program} {K : PySem.W.Frag} {mg : Str → Option Value} {h : Heap} {c : Str} {Ca : Addr} {et : List (Str × List Str)}
theorem oexc_mk {nm q : Str} {N : Addr} {bs bm : List Value} {sn : List Str} {sub : List Value} {ab : Bool} {col : Option Bool} {dd : Option Addr} {k0 k1 k2 k3 k5 : Option Value}
    (xL : K.lookup Ca = some (excClassObj nm q Ca N bs bm true sn sub ab col dd k0 k1 k2 k3 k5 "ValueError.__new__")) (hb : HandSPX.refsVE bm = true) (sa : PySem.W.findIn K (.ref Ca) "__setattr__" = some (some (.builtin "object.__setattr__")))
    (eC : PySem.W.subIn K (.ref Ca) (.type "BaseException") = some true) (tC : PySem.W.typeIn K (.ref Ca) = some (.type "type")) (kC : PySem.W.keepIn K (.ref Ca) = true) : OexC K Ca :=
  ⟨⟨nm, q, N, bs, bm, sn, sub, ab, col, dd, k0, k1, k2, k3, k5, xL, hb⟩, sa, eC, tC, kC⟩
def NoF (K : PySem.W.Frag) (Ca : Addr) : List Str → Prop
  | [] => True
  | f :: r => PySem.W.findIn K (.ref Ca) f = some none ∧ NoF K Ca r
theorem NoF.all : ∀ {fs : List Str}, NoF K Ca fs → ∀ f ∈ fs, PySem.W.findIn K (.ref Ca) f = some none
  | [], _, f, hf => nomatch hf
  | g :: r, ⟨h1, h2⟩, f, hf => by
    rcases List.mem_cons.mp hf with rfl | hf
    · exact h1
    · exact h2.all f hf
theorem exi_mk {st : Stmt} {s0 : Str} {xs fs : List Str} {fI c0 cc : Addr} {nm qual file : Str} {oc cl ccl kV doc pm ct : Value} {an od cld cdd : Option Addr} {osl csl ccs : Array (Option Value)} {vs : Array Value} {tf : Tok}
    (X : K.In h) (G : h.Ns mainGlobals mg) (s : IniOk st s0 xs fs) (aC : PySem.W.nsIn K mainGlobals c = some (some (.ref Ca))) (T : OexC K Ca) (nf : NoF K Ca fs)
    (a1 : PySem.W.findIn K (.ref Ca) "__init__" = some (some (.ref fI))) (t1 : PySem.W.typeIn K (.ref fI) = some (.type "function"))
    (l1 : K.lookup fI = some ⟨oc, od, .func (PySem.W.fnX nm qual (defArgs st) (defBody st) (defScope st) [("__class__", cc)] .none kV doc pm an (.ref c0) ct), osl⟩) (c1 : PySem.W.codeIn K (.ref c0) qual = true)
    (lcc : K.lookup cc = some ⟨cl, cld, .cell (some (.ref Ca)), csl⟩) (lc : K.lookup c0 = some ⟨ccl, cdd, .fields vs, ccs⟩) (hvs : vs[2]? = some (.str file tf)) (hfile : ((P.main.file : Str) == file) = true) (htop : (P.main.scope.names.lookup ("super" : Str)).isSome = false)
    (hsu : PySem.W.ks_superIn K Ca Ca "__init__" = some (some (.builtin "ValueError.__init__"))) (hVE : PySem.W.subIn K (.ref Ca) (.type "ValueError") = some true) (hself : PySem.W.mroIn K Ca (.ref Ca) = some true) (hop : PySem.W.nsIn K cStatics "thirdparty.any" = some none)
    (hs : PySem.W.nsIn K mainGlobals "super" = some none) : ExI P K mg c fs := by
  obtain ⟨e, p0, p1, p2, p3, p4, r, hbd, he, hl, hi⟩ := s.bd
  obtain ⟨ar, hh, har⟩ := s.ar
  refine ⟨⟨Ca, fI, _, s0 :: xs, PySem.W.mg_of X G aC, T, a1, t1, fun s1 us _ hl => ?_, fun w base k => xin_ok hbd l1 c1 lcc lc hvs hfile htop s.sc s.su (PySem.W.mg_none_of X G hs) hh har he hl hi s.ne s.db T nf.all s.nd s.sz hsu hVE hself hop⟩, s.sz⟩
  rw [List.append_nil] at hl ⊢
  exact .of_eq (s.bi _ _ _ _ _ _ _ _ _ us hl)
theorem ex0_mk (X : K.In h) (G : h.Ns mainGlobals mg) (aC : PySem.W.nsIn K mainGlobals c = some (some (.ref Ca))) (q : PySem.W.excIn K Ca [.type "ValueError", .type "Exception", .type "BaseException", .type "object"] "ValueError.__new__" = true)
    (kC : PySem.W.keepIn K (.ref Ca) = true) (eC : PySem.W.subIn K (.ref Ca) (.type "BaseException") = some true) (tC : PySem.W.typeIn K (.ref Ca) = some (.type "type")) : Ex0 K mg c := ⟨Ca, PySem.W.mg_of X G aC, q, kC, eC, tC⟩
theorem eco_mk {l : List (Str × List Str)} (h : ∀ p ∈ l, ∃ Ca : Addr, mg p.1 = some (.ref Ca) ∧ ExcC K Ca ∧ ∀ f ∈ p.2, PySem.W.findIn K (.ref Ca) f = some none) : EcOk K (mg, l) := ⟨h⟩
/-- one class of the table against one that is named -/
def OneT (K : PySem.W.Frag) (mg : Str → Option Value) (tv : Value) (cs : List Str) (p : Str × List Str) : Prop := ∃ Ca : Addr, mg p.1 = some (.ref Ca) ∧ PySem.W.kitOne K (.ref Ca) tv = some (cs.contains p.1) ∧ PySem.W.exmOne K (.ref Ca) tv = some (cs.contains p.1)
theorem one_mk {tv : Value} {cs fs : List Str} {b : Bool} (X : K.In h) (G : h.Ns mainGlobals mg) (aC : PySem.W.nsIn K mainGlobals c = some (some (.ref Ca))) (k : PySem.W.kitOne K (.ref Ca) tv = some b) (e : PySem.W.exmOne K (.ref Ca) tv = some b) (hb : cs.contains c = b) : OneT K mg tv cs (c, fs) :=
  ⟨Ca, PySem.W.mg_of X G aC, by rw [k, hb], by rw [e, hb]⟩
theorem ehk_ref {t : Str} {Ta : Addr} {cs : List Str} {l : List (Str × List Str)} (X : K.In h) (G : h.Ns mainGlobals mg) (hd : (t == ("__debug__" : Str)) = false) (aT : PySem.W.nsIn K mainGlobals t = some (some (.ref Ta))) (o : ∀ p ∈ l, OneT K mg (.ref Ta) cs p) : EhK K (mg, l) t cs :=
  ⟨.ref Ta, .ref Ta, fun u h => h, rfl, hd, .inl (PySem.W.mg_of X G aT), fun p hp => by obtain ⟨Ca, h1, h2, _⟩ := o p hp; exact ⟨Ca, h1, h2⟩, fun p hp => by obtain ⟨Ca, h1, _, h2⟩ := o p hp; exact ⟨Ca, h1, h2⟩⟩
theorem ehk_ve {cs : List Str} {l : List (Str × List Str)} (X : K.In h) (G : h.Ns mainGlobals mg) (z : PySem.W.nsIn K mainGlobals "ValueError" = some none) (o : ∀ p ∈ l, OneT K mg (.type "ValueError") cs p) : EhK K (mg, l) "ValueError" cs :=
  ⟨.ty "ValueError", .type "ValueError", fun u h => h, rfl, by decide, .inr ⟨PySem.W.mg_none_of X G z, by rfl, by decide⟩, fun p hp => by obtain ⟨Ca, h1, h2, _⟩ := o p hp; exact ⟨Ca, h1, h2⟩, fun p hp => by obtain ⟨Ca, h1, _, h2⟩ := o p hp; exact ⟨Ca, h1, h2⟩⟩
theorem prx_nil {ob : ObT} (h1 : ob.et = []) (h2 : ob.eh = []) : PrX P K mg ob := by
  refine ⟨?_, ?_, ?_, ?_⟩
  · rw [h1]; exact ⟨al_nil⟩
  · rw [h1]; exact al_nil
  · rw [h1]; exact al_nil
  · rw [h2]; exact al_nil
end
/-! ### the terms, printed -/
def strOf (s : Str) : String := String.ofList (s.cps.toList.map Char.ofNat)
end Mn
/-! Mn, part 15: words for running the evaluator. -/
namespace Mn
open PySem L2
section
variable {α : Type} {C : Ctx} {S : Store} {env : Nv} {Q : Flow × Nv → Store → Prop} {E : Exn → Store → Prop}
theorem run_nil : wpx (evSs C .nil env) Q E S ↔ Q (.nx, env) S := Iff.rfl
/-- one statement, then the others -/
def thenS (C : Ctx) (r : Sms) (Q : Flow × Nv → Store → Prop) (E : Exn → Store → Prop) : Flow × Nv → Store → Prop := fun q S' => match q with
  | (.nx, env') => wpx (evSs C r env') Q E S'
  | (f, env') => Q (f, env') S'
theorem run_cons {s : Sm} {r : Sms} : wpx (evSs C (.cons s r) env) Q E S ↔ wpx (evS C s env) (thenS C r Q E) E S := by
  show wpx (M.bind (evS C s env) _) Q E S ↔ _
  rw [wpx_bind]
  constructor
  · intro h
    refine wpx_mono h (fun q S' z => ?_) fun _ _ z => z
    obtain ⟨f, env'⟩ := q
    cases f <;> exact z
  · intro h
    refine wpx_mono h (fun q S' z => ?_) fun _ _ z => z
    obtain ⟨f, env'⟩ := q
    cases f <;> exact z
theorem then_nx {r : Sms} : thenS C r Q E (.nx, env) S ↔ wpx (evSs C r env) Q E S := Iff.rfl
theorem then_rt {r : Sms} {d : D} : thenS C r Q E (.rt d, env) S ↔ Q (.rt d, env) S := Iff.rfl
theorem then_bk {r : Sms} : thenS C r Q E (.bk, env) S ↔ Q (.bk, env) S := Iff.rfl
theorem then_ct {r : Sms} : thenS C r Q E (.ct, env) S ↔ Q (.ct, env) S := Iff.rfl
end
section
variable {S : Store} {E : Exn → Store → Prop} {C : Ctx} {env : Nv}
theorem x_rdL {n : Nat} {xs : List D} {R : List D → Store → Prop} (h : rd S n = some xs) : wpx (rdL n) R E S ↔ R xs S := by
  unfold wpx rdL
  have := rd_some h
  rcases this with q | q <;> rw [q]
theorem x_owL {n : Nat} {xs : List D} {R : List D → Store → Prop} (h : S[n]? = some (.lst xs)) : wpx (owL n) R E S ↔ R xs S := by
  unfold wpx owL; rw [h]
theorem x_alloc {c : Cell} {R : D → Store → Prop} : wpx (alloc c) R E S ↔ R (.loc S.length) (S ++ [c]) := Iff.rfl
theorem x_wrL {n : Nat} {xs : List D} {R : Unit → Store → Prop} : wpx (wrL n xs) R E S ↔ R () (S.set n (.lst xs)) := Iff.rfl
theorem x_asB {b : Bool} {R : Bool → Store → Prop} : wpx (asB (.bl b)) R E S ↔ R b S := Iff.rfl
theorem x_asI {b : Int} {R : Int → Store → Prop} : wpx (asI (.int b)) R E S ↔ R b S := Iff.rfl
theorem rd_lst {n : Nat} {xs : List D} (h : S[n]? = some (.lst xs)) : rd S n = some xs := by unfold rd; rw [h]
theorem rd_ro {n : Nat} {xs : List D} (h : S[n]? = some (.ro xs)) : rd S n = some xs := by unfold rd; rw [h]
theorem x_var {i : Nat} {d : D} {R : D → Store → Prop} (h : env[i]? = some (some d)) : wpx (evE C (.v i) env) R E S ↔ R d S := by
  unfold evE; rw [h]; exact Iff.rfl
theorem x_glob {x : Str} {d : D} {R : D → Store → Prop} (h : C.glob x = some d) : wpx (evE C (.g x) env) R E S ↔ R d S := by
  unfold evE; rw [h]; exact Iff.rfl
/-- an equation of two texts -/
theorem x_eqStr {x y : Str} {R : Bool → Store → Prop} : wpx (eqM (.str x) (.str y)) R E S ↔ R (x == y) S := by
  unfold wpx eqM
  simp [py1, py, fitEq, isStrD, PyData.eqv]
theorem x_eqInt {x y : Int} {R : Bool → Store → Prop} : wpx (eqM (.int x) (.int y)) R E S ↔ R (x == y) S := by
  unfold wpx eqM
  simp [py1, py, fitEq, isStrD, PyData.eqv, PyData.canLay0, PyData.depth]
theorem x_eqBl {x y : Bool} {R : Bool → Store → Prop} : wpx (eqM (.bl x) (.bl y)) R E S ↔ R (x == y) S := by
  unfold wpx eqM
  simp [py1, py, fitEq, isStrD, PyData.eqv, PyData.canLay0, PyData.depth]
end
end Mn
namespace Mn
open PySem L2
section
variable {S : Store} {E : Exn → Store → Prop} {C : Ctx} {env : Nv} {Q : D → Store → Prop}
theorem ixN_lt {n : Nat} {i : Int} (h0 : 0 ≤ i) (h1 : i < n) : ixN n i = some i.toNat := by unfold ixN; rw [if_pos h0, if_pos h1]
theorem atI_lt {α : Type} {xs : List α} {i : Int} {d : α} (h0 : 0 ≤ i) (h : xs[i.toNat]? = some d) : atI xs i = some d := by
  unfold atI
  obtain ⟨hl, _⟩ := List.getElem?_eq_some_iff.mp h
  rw [ixN_lt h0 (by omega)]
  exact h
theorem atI_0 {α : Type} {a : α} {l : List α} : atI (a :: l) 0 = some a := atI_lt (by decide) rfl
theorem atI_1 {α : Type} {a b : α} {l : List α} : atI (a :: b :: l) 1 = some b := atI_lt (by decide) rfl
theorem atI_2 {α : Type} {a b c : α} {l : List α} : atI (a :: b :: c :: l) 2 = some c := atI_lt (by decide) rfl
theorem atI_3 {α : Type} {a b c d : α} {l : List α} : atI (a :: b :: c :: d :: l) 3 = some d := atI_lt (by decide) rfl
theorem atI_4 {α : Type} {a b c d e : α} {l : List α} : atI (a :: b :: c :: d :: e :: l) 4 = some e := atI_lt (by decide) rfl
theorem x_idxT {xs : List D} {i : Int} {d : D} (h0 : 0 ≤ i) (h : xs[i.toNat]? = some d) : wpx (index (.tup xs) (.int i)) Q E S ↔ Q d S := by
  show wpx (opt (atI xs i)) Q E S ↔ _
  rw [atI_lt h0 h]; exact Iff.rfl
theorem e_getC {n : Nat} {R : Cell → Store → Prop} : wpx (getC n) R E S ↔ ∃ c, S[n]? = some c ∧ R c S := by
  unfold wpx getC
  cases S[n]? with
  | none => exact ⟨fun h => h.elim, fun ⟨_, h, _⟩ => nomatch h⟩
  | some c => exact ⟨fun h => ⟨c, rfl, h⟩, fun ⟨_, e, h⟩ => by cases e; exact h⟩
theorem x_getC {n : Nat} {c : Cell} {R : Cell → Store → Prop} (h : S[n]? = some c) : wpx (getC n) R E S ↔ R c S := by
  rw [e_getC, h]; exact ⟨fun ⟨_, e, h⟩ => by cases e; exact h, fun h => ⟨c, rfl, h⟩⟩
theorem x_wrC {n : Nat} {c : Cell} {R : Unit → Store → Prop} : wpx (wrC n c) R E S ↔ R () (S.set n c) := Iff.rfl
theorem rd_cell {n : Nat} {xs : List D} (hn : rd S n = some xs) : S[n]? = some (.lst xs) ∨ S[n]? = some (.ro xs) := rd_some hn
theorem x_idxL {n : Nat} {xs : List D} {i : Int} {d : D} (hn : rd S n = some xs) (h0 : 0 ≤ i) (h : xs[i.toNat]? = some d) : wpx (index (.loc n) (.int i)) Q E S ↔ Q d S := by
  show wpx (M.bind (getC n) fun c => idxC c (.int i)) Q E S ↔ _
  rcases rd_cell hn with e | e
  · rw [wpx_bind, x_getC e]; show wpx (opt (atI xs i)) Q E S ↔ _; rw [atI_lt h0 h]; exact Iff.rfl
  · rw [wpx_bind, x_getC e]; show wpx (opt (atI xs i)) Q E S ↔ _; rw [atI_lt h0 h]; exact Iff.rfl
theorem x_lenL {n : Nat} {xs : List D} (hn : rd S n = some xs) : wpx (builtin .len [.loc n]) Q E S ↔ Q (.int xs.length) S := by
  show wpx (M.bind (getC n) lenC) Q E S ↔ _
  rcases rd_cell hn with e | e
  · rw [wpx_bind, x_getC e]; exact Iff.rfl
  · rw [wpx_bind, x_getC e]; exact Iff.rfl
theorem x_lenT {xs : List D} : wpx (builtin .len [.tup xs]) Q E S ↔ Q (.int xs.length) S := Iff.rfl
theorem x_lenS {x : Str} (h : x.length ≤ sizeLine) : wpx (builtin .len [.str x]) Q E S ↔ Q (.int x.length) S := by
  show wpx (M.bind (guard (ok2 x.length)) fun _ => M.ret (.int x.length)) Q E S ↔ _
  rw [wpx_bind, wpx_guard, wpx_ret]
  simp [ok2, h]
/-- a name of a list's place is stored -/
theorem x_setL {n : Nat} {xs : List D} {i : Int} {d : D} {ia ib : Mn.E} {R : Nv → Store → Prop} (ha : wpx (evE C ia env) (fun d S' => d = .loc n ∧ S' = S) E0x S) (hb : wpx (evE C ib env) (fun d S' => d = .int i ∧ S' = S) E0x S)
    (hn : S[n]? = some (.lst xs)) (h0 : 0 ≤ i) (h1 : i < xs.length) (h : R env (S.set n (.lst (xs.set i.toNat d)))) : wpx (evP C (.sub ia ib) d env) R E S := by
  show wpx (M.bind (nx (evE C ia env)) fun x => M.bind (nx (evE C ib env)) fun y => _) R E S
  rw [wpx_bind, wpx_nx]
  refine wpx_of_wp ha fun x S1 ⟨e1, e2⟩ => ?_
  subst e1 e2
  rw [wpx_bind, wpx_nx]
  refine wpx_of_wp hb fun x S1 ⟨e1, e2⟩ => ?_
  subst e1 e2
  show wpx (M.bind (getC n) fun c => M.bind (putC c (.int i) d) fun c' => M.bind (wrC n c') fun _ => M.ret env) R E S1
  rw [wpx_bind, x_getC hn, wpx_bind]
  show wpx (M.bind (opt (ixN xs.length i)) fun j => (M.ret (Cell.lst (xs.set j d)) : M Cell)) _ E S1
  rw [ixN_lt h0 h1]
  exact h
theorem x_call {defs : List (Str × Def)} {glob : Str → Option D} {n : Nat} {f : Str} {d : Def} {ds : List D} {R : D → Store → Prop} (hd : defs.lookup f = some d) (ha : ds.length = d.arity) (h : wp (evSs ⟨glob, callN defs glob n⟩ d.body (startD d.slots ds)) (fun r S' => wp (retOf r) R S') S) :
    wp (callN defs glob (n + 1) f ds) R S := by
  unfold callN
  simp only [hd]
  unfold callD
  simp only [wpx_bind, wpx_guard]
  exact ⟨by simp [ha], h⟩
theorem ret_rt {d : D} {env : Nv} {R : D → Store → Prop} : wp (retOf (.rt d, env)) R S ↔ R d S := Iff.rfl
theorem ret_nx {env : Nv} {R : D → Store → Prop} : wp (retOf (.nx, env)) R S ↔ R .non S := Iff.rfl
end
end Mn
namespace Mn
open PySem L2
section
variable {S : Store} {E : Exn → Store → Prop} {C : Ctx} {env : Nv} {Q : D → Store → Prop}
def rdC : Option Cell → Option (List D)
  | some (.lst xs) => some xs
  | some (.ro xs) => some xs
  | _ => none
def owC : Option Cell → Option (List D)
  | some (.lst xs) => some xs
  | _ => none
theorem rdC_lst {xs : List D} : rdC (some (.lst xs)) = some xs := rfl
theorem rdC_ro {xs : List D} : rdC (some (.ro xs)) = some xs := rfl
theorem owC_lst {xs : List D} : owC (some (.lst xs)) = some xs := rfl
theorem ex_some {α : Type} {a : α} {P : α → Prop} : (∃ x, some a = some x ∧ P x) ↔ P a := ⟨fun ⟨_, e, h⟩ => by cases e; exact h, fun h => ⟨a, rfl, h⟩⟩
theorem e_rdL {n : Nat} {R : List D → Store → Prop} : wpx (rdL n) R E S ↔ ∃ xs, rdC S[n]? = some xs ∧ R xs S := by
  unfold wpx rdL
  cases S[n]? with
  | none => exact ⟨fun h => h.elim, fun ⟨_, h, _⟩ => nomatch h⟩
  | some c =>
    cases c with
    | lst xs => exact (ex_some (P := fun xs => R xs S)).symm
    | ro xs => exact (ex_some (P := fun xs => R xs S)).symm
    | dct kvs => exact ⟨fun h => h.elim, fun ⟨_, h, _⟩ => nomatch h⟩
    | obj _ _ => exact ⟨fun h => h.elim, fun ⟨_, h, _⟩ => nomatch h⟩
theorem e_owL {n : Nat} {R : List D → Store → Prop} : wpx (owL n) R E S ↔ ∃ xs, owC S[n]? = some xs ∧ R xs S := by
  unfold wpx owL
  cases S[n]? with
  | none => exact ⟨fun h => h.elim, fun ⟨_, h, _⟩ => nomatch h⟩
  | some c =>
    cases c with
    | lst xs => exact (ex_some (P := fun xs => R xs S)).symm
    | ro xs => exact ⟨fun h => h.elim, fun ⟨_, h, _⟩ => nomatch h⟩
    | dct xs => exact ⟨fun h => h.elim, fun ⟨_, h, _⟩ => nomatch h⟩
    | obj _ _ => exact ⟨fun h => h.elim, fun ⟨_, h, _⟩ => nomatch h⟩
theorem e_var {i : Nat} {R : D → Store → Prop} : wpx (evE C (.v i) env) R E S ↔ (match env[i]? with | some (some d) => R d S | _ => False) := by
  unfold evE wpx
  cases env[i]? with
  | none => exact Iff.rfl
  | some c => cases c <;> exact Iff.rfl
theorem ixN_0 {n : Nat} : ixN (n + 1) 0 = some 0 := by unfold ixN; rw [if_pos (by decide), if_pos (by omega)]; rfl
theorem ixN_1 {n : Nat} : ixN (n + 1 + 1) 1 = some 1 := by unfold ixN; rw [if_pos (by decide), if_pos (by omega)]; rfl
theorem ixN_2 {n : Nat} : ixN (n + 1 + 1 + 1) 2 = some 2 := by unfold ixN; rw [if_pos (by decide), if_pos (by omega)]; rfl
theorem ixN_3 {n : Nat} : ixN (n + 1 + 1 + 1 + 1) 3 = some 3 := by unfold ixN; rw [if_pos (by decide), if_pos (by omega)]; rfl
end
end Mn
namespace Mn
open PySem L2
section
variable {i j : Int} {x y : Str} {xs ys : List D} {n m : Nat} {d e : D}
theorem b_addI : binop .add (.int i) (.int j) = M.ret (.int (i + j)) := rfl
theorem b_addS : binop .add (.str x) (.str y) = M.bind (guard (ok2 (x.length + y.length))) fun _ => M.ret (.str (x ++ y)) := rfl
theorem b_addT : binop .add (.tup xs) (.tup ys) = newT (xs ++ ys) := rfl
theorem b_addL : binop .add (.loc n) (.loc m) = M.bind (owL n) fun xs => M.bind (owL m) fun ys => newL (xs ++ ys) := rfl
theorem b_sub : binop .sub (.int i) (.int j) = M.ret (.int (i - j)) := rfl
theorem b_mul : binop .mul (.int i) (.int j) = M.bind (guard (cMul i j)) fun _ => M.ret (.int (i * j)) := rfl
theorem b_mulS : binop .mul (.str x) (.int j) = M.bind (guard (decide (x.length ≤ 1000) && decide (-1000 ≤ j) && decide (j ≤ 1000))) fun _ => M.ret (.str ⟨(rep x.cps.toList j.toNat).toArray⟩) := rfl
theorem b_mulT : binop .mul (.tup xs) (.int j) = M.bind (guard (!xs.isEmpty && decide (0 ≤ j) && decide (j ≤ 1000) && decide (xs.length ≤ 1000))) fun _ => M.ret (.tup (rep xs j.toNat)) := rfl
theorem b_mod : binop .mod (.int i) (.int j) = M.bind (guard (decide (0 < j))) fun _ => M.ret (.int (i % j)) := rfl
theorem b_fdiv : binop .fdiv (.int i) (.int j) = M.bind (guard (decide (0 < j) && decide (j < 1073741824))) fun _ => M.ret (.int (i / j)) := rfl
theorem b_pow : binop .pow (.int i) (.int j) = M.bind (guard (decide (0 ≤ j) && decide (j ≤ 1000000) && decide (i.natAbs < 2 ^ 64))) fun _ => M.ret (.int (i ^ j.toNat)) := rfl
theorem c_eq : cmpop .eq d e = eqM d e := rfl
theorem c_ne : cmpop .ne d e = M.bind (eqM d e) fun b => M.ret (!b) := rfl
theorem c_lt : cmpop .lt d e = opt (ltD 100 d e) := rfl
theorem c_ltI : cmpop .lt (.int i) (.int j) = M.ret (decide (i < j)) := rfl
theorem c_gt : cmpop .gt (.int i) (.int j) = M.ret (decide (j < i)) := rfl
theorem c_le : cmpop .le (.int i) (.int j) = M.ret (decide (i ≤ j)) := rfl
theorem c_ge : cmpop .ge (.int i) (.int j) = M.ret (decide (j ≤ i)) := rfl
theorem c_inn : cmpop .inn d e = inM d e := rfl
theorem c_nin : cmpop .nin d e = M.bind (inM d e) fun b => M.ret (!b) := rfl
theorem c_isn : cmpop .isn .non .non = M.ret true := rfl
theorem c_isnS : cmpop .isn (.str x) .non = M.ret false := rfl
theorem c_isnI : cmpop .isn (.int i) .non = M.ret false := rfl
theorem c_isnT : cmpop .isn (.tup xs) .non = M.ret false := rfl
theorem c_isnn : cmpop .isnn .non .non = M.ret false := rfl
theorem c_isnnS : cmpop .isnn (.str x) .non = M.ret true := rfl
theorem c_isnnI : cmpop .isnn (.int i) .non = M.ret true := rfl
theorem c_isnnT : cmpop .isnn (.tup xs) .non = M.ret true := rfl
theorem i_T : index (.tup xs) (.int i) = opt (atI xs i) := rfl
theorem i_S : index (.str x) (.int i) = M.bind (guard (ok2 x.length)) fun _ => opt ((atI x.cps.toList i).map fun c => .str ⟨#[c]⟩) := rfl
def kmix (y : D) (c : Cell) : M D := idxC c y
theorem i_L : index (.loc n) d = M.bind (getC n) (kmix d) := by cases d <;> rfl
theorem ix_l : kmix (.int i) (.lst xs) = opt (atI xs i) := rfl
theorem ix_r : kmix (.int i) (.ro xs) = opt (atI xs i) := rfl
theorem ix_d {kvs : List (NK × D)} : kmix d (.dct kvs) = opt (dGet kvs d) := by cases d <;> rfl
theorem rdC_cell {o : Option Cell} {xs : List D} (h : rdC o = some xs) : o = some (.lst xs) ∨ o = some (.ro xs) := by
  unfold rdC at h
  split at h
  · cases h; exact .inl rfl
  · cases h; exact .inr rfl
  · cases h
theorem gc_of {S : Store} {E : Exn → Store → Prop} {n : Nat} {i : Int} {R : D → Store → Prop} (h : ∃ xs, rdC S[n]? = some xs ∧ wpx (opt (atI xs i)) R E S) : ∃ c, S[n]? = some c ∧ wpx (kmix (.int i) c) R E S := by
  obtain ⟨xs, h1, h2⟩ := h
  rcases rdC_cell h1 with e | e
  · exact ⟨_, e, h2⟩
  · exact ⟨_, e, h2⟩
def kmln (c : Cell) : M D := lenC c
theorem ln_l : kmln (.lst xs) = M.ret (.int xs.length) := rfl
theorem ln_r : kmln (.ro xs) = M.ret (.int xs.length) := rfl
theorem ln_d {kvs : List (NK × D)} : kmln (.dct kvs) = M.ret (.int kvs.length) := rfl
def kmin (x : D) (c : Cell) : M Bool := inC x c
theorem in_l : kmin d (.lst xs) = opt (inAll d xs) := rfl
theorem in_r : kmin d (.ro xs) = opt (inAll d xs) := rfl
theorem in_d {kvs : List (NK × D)} : kmin d (.dct kvs) = opt (dHas kvs d) := rfl
theorem pc_l {k : Int} : putC (.lst xs) (.int k) d = M.bind (opt (ixN xs.length k)) fun j => M.ret (.lst (xs.set j d)) := rfl
theorem pc_d {kvs : List (NK × D)} : putC (.dct kvs) d e = M.bind (opt (dSet kvs d e)) fun k => M.ret (.dct k) := by cases d <;> rfl
theorem pe_d {kvs : List (NK × D)} : putE (.dct kvs) d e = M.bind (opt (dSet kvs d e)) fun k => M.ret (.dct k) := by cases d <;> rfl
theorem sl_T {lo hi : Option Int} : slice (.tup xs) lo hi = M.ret (.tup (cutD xs lo hi)) := rfl
theorem sl_S {lo hi : Option Int} : slice (.str x) lo hi = M.bind (guard (ok2 x.length)) fun _ => M.ret (.str (cutS x lo hi)) := rfl
theorem sl_L {lo hi : Option Int} : slice (.loc n) lo hi = M.bind (rdL n) fun xs => alloc (.lst (cutD xs lo hi)) := rfl
theorem u_lenS : builtin .len [.str x] = M.bind (guard (ok2 x.length)) fun _ => M.ret (.int x.length) := rfl
theorem u_lenT : builtin .len [.tup xs] = M.ret (.int xs.length) := rfl
theorem u_lenL : builtin .len [.loc n] = M.bind (getC n) kmln := rfl
theorem u_int : builtin .int [.int i] = M.ret (.int i) := rfl
theorem u_intB {b : Bool} : builtin .int [.bl b] = M.ret (.int (if b then 1 else 0)) := rfl
theorem u_abs : builtin .abs [.int i] = M.ret (.int (if i < 0 then -i else i)) := rfl
theorem u_max2 : builtin .max2 [.int i, .int j] = M.ret (.int (if j > i then j else i)) := rfl
theorem u_min2 : builtin .min2 [.int i, .int j] = M.ret (.int (if j < i then j else i)) := rfl
theorem u_max1 : builtin .max1 [.loc n] = M.bind (rdL n) fun xs => M.bind (opt (intsD xs)) fun is => M.bind (guard (!is.isEmpty)) fun _ => M.ret (.int (maxI is)) := rfl
theorem u_sum : builtin .sum [.loc n] = M.bind (rdL n) fun xs => M.bind (opt (intsD xs)) fun is => M.ret (.int is.sum) := rfl
theorem u_listT : builtin .list [.tup xs] = alloc (.lst xs) := rfl
theorem u_listL : builtin .list [.loc n] = M.bind (rdL n) fun xs => alloc (.lst xs) := rfl
theorem u_tupT : builtin .tuple [.tup xs] = M.ret (.tup xs) := rfl
theorem u_tupL : builtin .tuple [.loc n] = M.bind (rdL n) fun xs => M.ret (.tup xs) := rfl
theorem u_strI : builtin .str [.int i] = M.bind (guard (decide (i.natAbs.log2 < 1920))) fun _ => M.ret (.str (toString i)) := rfl
theorem u_strS : builtin .str [.str x] = M.ret (.str x) := rfl
def kmno : Cell → M Unit
  | .obj _ _ => M.bad
  | _ => M.ret ()
theorem no_loc : noObj (.loc n) = M.bind (getC n) kmno := rfl
theorem no_l : kmno (.lst xs) = M.ret () := rfl
theorem no_r : kmno (.ro xs) = M.ret () := rfl
theorem no_d {kvs : List (NK × D)} : kmno (.dct kvs) = M.ret () := rfl
/-! objects -/
def kmfd (c f : Str) (cl : Cell) : M D := fldC c f cl
theorem fd_loc {c f : Str} : fldD c f (.loc n) = M.bind (getC n) (kmfd c f) := rfl
theorem fd_obj {c f c' : Str} {fs : List (Str × D)} : kmfd c f (.obj c' fs) = M.bind (guard (decide (c' = c))) fun _ => opt (fs.lookup f) := rfl
def kmrc (c m : Str) (cl : Cell) : M Unit := recC c m cl
theorem rc_loc {c m : Str} : recD c m (.loc n) = M.bind (getC n) (kmrc c m) := rfl
theorem rc_obj {c m c' : Str} {fs : List (Str × D)} : kmrc c m (.obj c' fs) = guard (decide (c' = c) && (fs.lookup m).isNone) := rfl
def kmst (c f : Str) (d : D) (n : Nat) (cl : Cell) : M Unit := M.bind (setC c f d cl) fun cl' => wrC n cl'
theorem st_loc {c f : Str} : sfdD c f d (.loc n) = M.bind (getC n) (kmst c f d n) := rfl
theorem st_obj {c f c' : Str} {fs : List (Str × D)} : kmst c f d n (.obj c' fs) = M.bind (M.bind (guard (decide (c' = c) && few fs)) fun _ => (M.ret (Cell.obj c (fPut f d fs)) : M Cell)) fun cl' => wrC n cl' := rfl
theorem few_0 {α : Type} : few ([] : List α) = true := rfl
theorem few_1 {α : Type} {a0 : α} : few ([a0] : List α) = true := rfl
theorem few_2 {α : Type} {a0 a1 : α} : few ([a0, a1] : List α) = true := rfl
theorem few_3 {α : Type} {a0 a1 a2 : α} : few ([a0, a1, a2] : List α) = true := rfl
theorem few_4 {α : Type} {a0 a1 a2 a3 : α} : few ([a0, a1, a2, a3] : List α) = true := rfl
theorem few_5 {α : Type} {a0 a1 a2 a3 a4 : α} : few ([a0, a1, a2, a3, a4] : List α) = true := rfl
theorem few_6 {α : Type} {a0 a1 a2 a3 a4 a5 : α} : few ([a0, a1, a2, a3, a4, a5] : List α) = true := rfl
theorem few_7 {α : Type} {a0 a1 a2 a3 a4 a5 a6 : α} : few ([a0, a1, a2, a3, a4, a5, a6] : List α) = true := rfl
theorem few_8 {α : Type} {a0 a1 a2 a3 a4 a5 a6 a7 : α} : few ([a0, a1, a2, a3, a4, a5, a6, a7] : List α) = true := rfl
theorem few_9 {α : Type} {a0 a1 a2 a3 a4 a5 a6 a7 a8 : α} : few ([a0, a1, a2, a3, a4, a5, a6, a7, a8] : List α) = true := rfl
theorem few_10 {α : Type} {a0 a1 a2 a3 a4 a5 a6 a7 a8 a9 : α} : few ([a0, a1, a2, a3, a4, a5, a6, a7, a8, a9] : List α) = true := rfl
theorem few_11 {α : Type} {a0 a1 a2 a3 a4 a5 a6 a7 a8 a9 a10 : α} : few ([a0, a1, a2, a3, a4, a5, a6, a7, a8, a9, a10] : List α) = true := rfl
theorem few_12 {α : Type} {a0 a1 a2 a3 a4 a5 a6 a7 a8 a9 a10 a11 : α} : few ([a0, a1, a2, a3, a4, a5, a6, a7, a8, a9, a10, a11] : List α) = true := rfl
theorem lk_nil {α : Type} {f : Str} : List.lookup f ([] : List (Str × α)) = none := rfl
theorem lk_cons {α : Type} {f g : Str} {v : α} {r : List (Str × α)} : List.lookup f ((g, v) :: r) = bif f == g then some v else List.lookup f r := by rw [List.lookup_cons]; cases f == g <;> rfl
theorem fp_nil {α : Type} {f : Str} {v : α} : fPut f v [] = [(f, v)] := rfl
theorem fp_cons {α : Type} {f g : Str} {v x : α} {r : List (Str × α)} : fPut f v ((g, x) :: r) = bif g == f then (g, v) :: r else (g, x) :: fPut f v r := by
  show (if g = f then _ else _) = _
  by_cases h : g = f
  · have e : (g == f) = true := by simpa using h
    rw [if_pos h, e]; rfl
  · have e : (g == f) = false := by simpa using h
    rw [if_neg h, e]; rfl
theorem ai_add : augI .add (.int i) (.int j) = M.ret (.int (i + j)) := rfl
theorem ai_sub : augI .sub (.int i) (.int j) = M.ret (.int (i - j)) := rfl
theorem u_isListN : builtin .isList [.non] = M.ret (.bl false) := rfl
theorem u_isListB {b : Bool} : builtin .isList [.bl b] = M.ret (.bl false) := rfl
theorem u_isListI : builtin .isList [.int i] = M.ret (.bl false) := rfl
theorem u_isListS : builtin .isList [.str x] = M.ret (.bl false) := rfl
theorem u_isListT : builtin .isList [.tup xs] = M.ret (.bl false) := rfl
theorem u_isListL : builtin .isList [.loc n] = M.bind (rdL n) fun _ => M.ret (.bl true) := rfl
theorem u_isTupleN : builtin .isTuple [.non] = M.ret (.bl false) := rfl
theorem u_isTupleB {b : Bool} : builtin .isTuple [.bl b] = M.ret (.bl false) := rfl
theorem u_isTupleI : builtin .isTuple [.int i] = M.ret (.bl false) := rfl
theorem u_isTupleS : builtin .isTuple [.str x] = M.ret (.bl false) := rfl
theorem u_isTupleT : builtin .isTuple [.tup xs] = M.ret (.bl true) := rfl
theorem u_isTupleL : builtin .isTuple [.loc n] = M.bind (noObj (.loc n)) fun _ => M.ret (.bl false) := rfl
theorem u_isStrN : builtin .isStr [.non] = M.ret (.bl false) := rfl
theorem u_isStrB {b : Bool} : builtin .isStr [.bl b] = M.ret (.bl false) := rfl
theorem u_isStrI : builtin .isStr [.int i] = M.ret (.bl false) := rfl
theorem u_isStrS : builtin .isStr [.str x] = M.ret (.bl true) := rfl
theorem u_isStrT : builtin .isStr [.tup xs] = M.ret (.bl false) := rfl
theorem u_isStrL : builtin .isStr [.loc n] = M.bind (noObj (.loc n)) fun _ => M.ret (.bl false) := rfl
theorem u_isIntN : builtin .isInt [.non] = M.ret (.bl false) := rfl
theorem u_isIntB {b : Bool} : builtin .isInt [.bl b] = M.ret (.bl true) := rfl
theorem u_isIntI : builtin .isInt [.int i] = M.ret (.bl true) := rfl
theorem u_isIntS : builtin .isInt [.str x] = M.ret (.bl false) := rfl
theorem u_isIntT : builtin .isInt [.tup xs] = M.ret (.bl false) := rfl
theorem u_isIntL : builtin .isInt [.loc n] = M.bind (noObj (.loc n)) fun _ => M.ret (.bl false) := rfl
theorem u_isBoolN : builtin .isBool [.non] = M.ret (.bl false) := rfl
theorem u_isBoolB {b : Bool} : builtin .isBool [.bl b] = M.ret (.bl true) := rfl
theorem u_isBoolI : builtin .isBool [.int i] = M.ret (.bl false) := rfl
theorem u_isBoolS : builtin .isBool [.str x] = M.ret (.bl false) := rfl
theorem u_isBoolT : builtin .isBool [.tup xs] = M.ret (.bl false) := rfl
theorem u_isBoolL : builtin .isBool [.loc n] = M.bind (noObj (.loc n)) fun _ => M.ret (.bl false) := rfl
theorem c_isnB {b : Bool} : cmpop .isn (.bl b) .non = M.ret false := rfl
theorem c_isnL : cmpop .isn (.loc n) .non = M.ret false := rfl
theorem c_isnnB {b : Bool} : cmpop .isnn (.bl b) .non = M.ret true := rfl
theorem c_isnnL : cmpop .isnn (.loc n) .non = M.ret true := rfl
theorem u_append : builtin .append [.loc n, d] = M.bind (owL n) fun xs => M.bind (guard (decide (xs.length < sizeLine))) fun _ => M.bind (wrL n (xs ++ [d])) fun _ => M.ret .non := rfl
theorem u_pop1 : builtin .pop1 [.loc n, .int i] = M.bind (owL n) fun xs => M.bind (guard (decide (-(2 ^ 63) ≤ i) && decide (i < 2 ^ 63))) fun _ => M.bind (opt (seqIndex? i xs.length)) fun k => M.bind (opt xs[k]?) fun d => M.bind (wrL n (xs.eraseIdx k)) fun _ => M.ret d := rfl
theorem v_append : recv .append (.loc n) = M.bind (rdL n) fun _ => M.ret () := rfl
theorem v_pop1 : recv .pop1 (.loc n) = M.bind (rdL n) fun _ => M.ret () := rfl
theorem v_pop0 : recv .pop0 (.loc n) = M.bind (rdL n) fun _ => M.ret () := rfl
theorem u_extL {m : Nat} : builtin .extend [.loc n, .loc m] = M.bind (owL n) fun xs => M.bind (owL m) fun ys => M.bind (guard (ok2 (xs.length + ys.length))) fun _ => M.bind (wrL n (xs ++ ys)) fun _ => M.ret .non := rfl
theorem u_extT {ys : List D} : builtin .extend [.loc n, .tup ys] = M.bind (owL n) fun xs => M.bind (guard (ok2 (xs.length + ys.length))) fun _ => M.bind (wrL n (xs ++ ys)) fun _ => M.ret .non := rfl
theorem v_extend : recv .extend (.loc n) = M.bind (rdL n) fun _ => M.ret () := rfl
theorem v_insert : recv .insert (.loc n) = M.bind (rdL n) fun _ => M.ret () := rfl
theorem v_reverse : recv .reverse (.loc n) = M.bind (rdL n) fun _ => M.ret () := rfl
theorem v_split : recv .split (.str x) = M.ret () := rfl
theorem v_startswith : recv .startswith (.str x) = M.ret () := rfl
theorem v_join : recv .join (.str x) = M.ret () := rfl
theorem t_non : truth .non = M.ret false := rfl
theorem t_bl {b : Bool} : truth (.bl b) = M.ret b := rfl
theorem t_T : truth (.tup xs) = M.ret (!xs.isEmpty) := rfl
theorem t_L : truth (.loc n) = M.bind (rdL n) fun xs => M.ret (!xs.isEmpty) := rfl
theorem k_r1 : mkIt .rng1 [.int j] = M.bind (guard (decide (-(2 ^ 62) ≤ j) && decide (j < 2 ^ 62))) fun _ => M.ret (.rng 0 1 j.toNat) := rfl
theorem k_r2 : mkIt .rng2 [.int i, .int j] = M.bind (guard (decide (-(2 ^ 62) ≤ i) && decide (i < 2 ^ 62) && decide (-(2 ^ 62) ≤ j) && decide (j < 2 ^ 62))) fun _ => M.ret (.rng i 1 (j - i).toNat) := rfl
theorem k_T : mkIt .seq [.tup xs] = M.ret (.tup xs) := rfl
theorem k_S : mkIt .seq [.str x] = M.ret (.str x) := rfl
theorem k_L : mkIt .seq [.loc n] = M.bind (rdL n) fun _ => M.ret (.lst n) := rfl
end
end Mn
namespace Mn
open PySem L2
section
variable {J : ItV} {S : Store} {E : Exn → Store → Prop} {C : Ctx} {env : Nv}
theorem e_itAt {i : Nat} {o : Option D} {R : Option D → Store → Prop} (h : itO J i S = some o) : wpx (itAt J i) R E S ↔ R o S := by
  unfold wpx itAt; rw [h]
/-- what a turn is to reach -/
def turnS (N : Nv → Store → Prop) (Q : Flow × Nv → Store → Prop) : Flow × Nv → Store → Prop := fun r S => match r with
  | (.nx, e) => N e S
  | (.ct, e) => N e S
  | (.bk, e) => Q (.nx, e) S
  | (.rt v, e) => Q (.rt v, e) S
theorem turn_nx {N : Nv → Store → Prop} {Q : Flow × Nv → Store → Prop} {e : Nv} : turnS N Q (.nx, e) S ↔ N e S := Iff.rfl
theorem turn_ct {N : Nv → Store → Prop} {Q : Flow × Nv → Store → Prop} {e : Nv} : turnS N Q (.ct, e) S ↔ N e S := Iff.rfl
theorem turn_bk {N : Nv → Store → Prop} {Q : Flow × Nv → Store → Prop} {e : Nv} : turnS N Q (.bk, e) S ↔ Q (.nx, e) S := Iff.rfl
theorem turn_rt {N : Nv → Store → Prop} {Q : Flow × Nv → Store → Prop} {e : Nv} {v : D} : turnS N Q (.rt v, e) S ↔ Q (.rt v, e) S := Iff.rfl
theorem for_items {asg : D → Nv → M Nv} {b : Nv → M (Flow × Nv)} {Q : Flow × Nv → Store → Prop} (items : List D) (P : Nat → Nv → Store → Prop) (hl : items.length < FUEL) (h0 : P 0 env S)
    (hit : ∀ i env S, i ≤ items.length → P i env S → itO J i S = some items[i]?)
    (step : ∀ i d env S, items[i]? = some d → P i env S → wpx (asg d env) (fun e1 S1 => wpx (b e1) (turnS (P (i + 1)) Q) E S1) E S)
    (done : ∀ env S, P items.length env S → Q (.nx, env) S) : wpx (forF J asg b FUEL 0 env) Q E S := by
  have go : ∀ (f i : Nat) (env : Nv) (S : Store), items.length - i < f → i ≤ items.length → P i env S → wpx (forF J asg b f i env) Q E S := by
    intro f
    induction f with
    | zero => intro i env S h; omega
    | succ f ih =>
      intro i env S hf hi p
      unfold forF
      rw [wpx_bind, e_itAt (hit i env S hi p)]
      by_cases hlt : i < items.length
      · rw [List.getElem?_eq_getElem hlt]
        show wpx (M.bind (asg _ env) _) Q E S
        rw [wpx_bind]
        refine wpx_mono (step i _ env S (List.getElem?_eq_getElem hlt) p) (fun e1 S1 h1 => ?_) fun _ _ z => z
        rw [wpx_bind]
        refine wpx_mono h1 (fun r S2 h2 => ?_) fun _ _ z => z
        obtain ⟨fl, e2⟩ := r
        cases fl with
        | nx => exact ih (i + 1) e2 S2 (by omega) (by omega) h2
        | ct => exact ih (i + 1) e2 S2 (by omega) (by omega) h2
        | bk => exact h2
        | rt v => exact h2
      · have e : i = items.length := by omega
        subst e
        rw [List.getElem?_eq_none (Nat.le_refl _)]
        exact done env S p
  exact go FUEL 0 env S (by omega) (Nat.zero_le _) h0
theorem comp_items {put : D → Nv → Nv} {cond elt : Nv → M D} {n : Nat} {Q : D → Store → Prop} (items : List D) (P : Nat → List D → Store → Prop) (hl : items.length < FUEL) (h0 : P 0 [] S)
    (hit : ∀ i acc S, i ≤ items.length → P i acc S → S[n]? = some (.lst acc) ∧ itO J i S = some items[i]?)
    (step : ∀ i d acc S, items[i]? = some d → P i acc S → wpx (cond (put d env)) (fun c S1 => ∃ b, c = .bl b ∧ (b = true → wpx (elt (put d env)) (fun y S2 => S2[n]? = some (.lst acc) ∧ acc.length < sizeLine ∧ P (i + 1) (acc ++ [y]) (S2.set n (.lst (acc ++ [y])))) E0x S1) ∧ (b = false → P (i + 1) acc S1)) E0x S)
    (done : ∀ acc S, P items.length acc S → Q (.loc n) S) : wpx (compF J put cond elt env n FUEL 0) Q E S := by
  have go : ∀ (f i : Nat) (acc : List D) (S : Store), items.length - i < f → i ≤ items.length → P i acc S → wpx (compF J put cond elt env n f i) Q E S := by
    intro f
    induction f with
    | zero => intro i acc S h; omega
    | succ f ih =>
      intro i acc S hf hi p
      unfold compF
      obtain ⟨h1, h2⟩ := hit i acc S hi p
      rw [wpx_bind, e_itAt h2]
      by_cases hlt : i < items.length
      · rw [List.getElem?_eq_getElem hlt]
        show wpx (M.bind (nx (cond _)) _) Q E S
        rw [wpx_bind, wpx_nx]
        refine wpx_mono (step i _ acc S (List.getElem?_eq_getElem hlt) p) (fun c S1 ⟨b, e, g1, g2⟩ => ?_) fun _ _ z => z
        subst e
        rw [wpx_bind, x_asB]
        cases b with
        | false => exact ih (i + 1) acc S1 (by omega) (by omega) (g2 rfl)
        | true =>
          show wpx (M.bind (nx (elt _)) _) Q E S1
          rw [wpx_bind, wpx_nx]
          refine wpx_mono (g1 rfl) (fun y S2 ⟨k1, k2, k3⟩ => ?_) fun _ _ z => z
          rw [wpx_bind, x_owL k1, wpx_bind, wpx_guard]
          refine ⟨by simpa using k2, ?_⟩
          rw [wpx_bind, x_wrL]
          exact ih (i + 1) _ _ (by omega) (by omega) k3
      · have e : i = items.length := by omega
        subst e
        rw [List.getElem?_eq_none (Nat.le_refl _)]
        exact done acc S p
  exact go FUEL 0 [] S (by omega) (Nat.zero_le _) h0
theorem while_by {c : Nv → M D} {b : Nv → M (Flow × Nv)} {Q : Flow × Nv → Store → Prop} (P : Nat → Nv → Store → Prop) (m : Nat) (hm : m < FUEL) (h0 : P m env S)
    (step : ∀ m env S, P m env S → wpx (c env) (fun x S1 => ∃ k, x = .bl k ∧ (k = true → wpx (b env) (turnS (fun e S2 => ∃ m', m' < m ∧ P m' e S2) Q) E S1) ∧ (k = false → Q (.nx, env) S1)) E S) : wpx (whileF c b FUEL env) Q E S := by
  have go : ∀ (f m : Nat) (env : Nv) (S : Store), m < f → P m env S → wpx (whileF c b f env) Q E S := by
    intro f
    induction f with
    | zero => intro m env S h; omega
    | succ f ih =>
      intro m env S hf p
      unfold whileF
      rw [wpx_bind]
      refine wpx_mono (step m env S p) (fun x S1 ⟨k, e, g1, g2⟩ => ?_) fun _ _ z => z
      subst e
      rw [wpx_bind, x_asB]
      cases k with
      | false => exact g2 rfl
      | true =>
        show wpx (M.bind (b env) _) Q E S1
        rw [wpx_bind]
        refine wpx_mono (g1 rfl) (fun r S2 h2 => ?_) fun _ _ z => z
        obtain ⟨fl, e2⟩ := r
        cases fl with
        | nx => obtain ⟨m', h3, h4⟩ := h2; exact ih m' e2 S2 (by omega) h4
        | ct => obtain ⟨m', h3, h4⟩ := h2; exact ih m' e2 S2 (by omega) h4
        | bk => exact h2
        | rt v => exact h2
  exact go FUEL m env S hm h0
/-- the ints of a range -/
def rngD (lo : Int) (n : Nat) : List D := (List.range n).map fun (i : Nat) => D.int (lo + (i : Int) * 1)
theorem rngD_len {lo : Int} {n : Nat} : (rngD lo n).length = n := by simp [rngD]
theorem rngD_get {lo : Int} {n i : Nat} {d : D} (h : (rngD lo n)[i]? = some d) : d = .int (lo + i) ∧ i < n := by
  unfold rngD at h
  rw [List.getElem?_map] at h
  by_cases hi : i < n
  · rw [List.getElem?_range hi] at h
    cases h
    exact ⟨by simp, hi⟩
  · rw [List.getElem?_eq_none (by simpa using hi)] at h; cases h
theorem rng_it {lo : Int} {n i : Nat} : itO (.rng lo 1 n) i S = some (rngD lo n)[i]? := by
  show some _ = some _
  congr 1
  unfold rngD
  by_cases hi : i < n
  · rw [if_pos hi, List.getElem?_map, List.getElem?_range hi]; rfl
  · rw [if_neg hi, List.getElem?_eq_none (by simpa using hi)]
theorem fuel_big {n : Nat} (h : n ≤ 1000000000) : n < FUEL := by unfold FUEL; omega
end
end Mn
namespace Mn
open PySem L2 PyProof.Rows PySem.StrLaws
/-! ### short texts of plain signs -/
def Ws (k : Nat) (s : Str) : Prop := s.length ≤ k ∧ ∀ c ∈ s.cps.toList, c < 128
instance {k : Nat} {s : Str} : Decidable (Ws k s) := by unfold Ws; infer_instance
theorem Ws.mono {j k : Nat} {s : Str} (h : Ws j s) (hj : j ≤ k) : Ws k s := ⟨by have := h.1; omega, h.2⟩
theorem Ws.add {j k : Nat} {x y : Str} (hx : Ws j x) (hy : Ws k y) : Ws (j + k) (x ++ y) := by
  have e : (x ++ y).length = x.length + y.length := strLen_append x y
  refine ⟨by have := hx.1; have := hy.1; omega, fun c hc => ?_⟩
  have : (x ++ y).cps.toList = x.cps.toList ++ y.cps.toList := by
    show (x.cps ++ y.cps).toList = _
    simp
  rw [this, List.mem_append] at hc
  exact hc.elim (hx.2 c) (hy.2 c)
theorem len_cps (s : Str) : s.cps.toList.length = s.length := by simp [Str.length]
theorem Ws.cut {k : Nat} {x : Str} {lo hi : Option Int} (h : Ws k x) : Ws k (cutS x lo hi) := by
  refine ⟨?_, fun c hc => ?_⟩
  · have : (cutS x lo hi).length ≤ x.length := by
      rw [← len_cps, ← len_cps]
      show (List.take _ (List.drop _ x.cps.toList)).toArray.toList.length ≤ _
      rw [List.toList_toArray, List.length_take, List.length_drop]
      omega
    have := h.1
    omega
  · apply h.2
    have hc' : c ∈ (List.take (HT.sIx x.length x.length hi - HT.sIx x.length 0 lo) (List.drop (HT.sIx x.length 0 lo) x.cps.toList)).toArray.toList := hc
    rw [List.toList_toArray] at hc'
    exact List.mem_of_mem_drop (List.mem_of_mem_take hc')
theorem Ws.sign {k : Nat} {x : Str} {i c : Nat} (h : Ws k x) (hc : x.cps.toList[i]? = some c) : Ws 1 ⟨#[c]⟩ :=
  ⟨Nat.le_refl _, fun d hd => by
    have : d = c := by simpa using hd
    subst this
    exact h.2 _ (List.mem_of_getElem? hc)⟩
theorem Ws.num {i : Int} (h0 : 0 ≤ i) (h1 : i < 10 ^ 9) : Ws 9 ((toString i : String) : Str) := by
  refine ⟨toString_length_le h0 (by decide) h1, fun c hc => ?_⟩
  rw [Str.ofString_eq_toList] at hc
  simp at hc
  obtain ⟨a, ha, rfl⟩ := hc
  have := int_ascii i a ha
  simpa using this
theorem Ws.repeat {n : Nat} {c : Nat} (hc : c < 128) : Ws n ⟨(rep [c] n).toArray⟩ := by
  have e : rep [c] n = List.replicate n c := by
    unfold Mn.rep
    induction n with
    | zero => rfl
    | succ n ih => rw [List.replicate_succ, List.flatten_cons, ih, List.replicate_succ]; rfl
  refine ⟨?_, fun d hd => ?_⟩
  · show (Mn.rep [c] n).toArray.size ≤ n
    rw [e]; simp
  · have hd' : d ∈ Mn.rep [c] n := by simpa using hd
    rw [e] at hd'
    rw [(List.mem_replicate.mp hd').2]; exact hc
theorem Ws.ok2 {k : Nat} {x : Str} (h : Ws k x) (hk : k ≤ 1000000) : ok2 x.length = true := by
  have := h.1
  unfold Mn.ok2
  rw [decide_eq_true_eq]
  have : sizeLine = 16777216 := rfl
  omega
theorem Ws.ok22 {j k : Nat} {x y : Str} (h : Ws j x) (h' : Ws k y) (hj : j + k ≤ 1000000) : Mn.ok2 (x.length + y.length) = true := by
  have := h.1
  have := h'.1
  unfold Mn.ok2
  rw [decide_eq_true_eq]
  have : sizeLine = 16777216 := rfl
  omega
/-! ### what data weighs when it is shown -/
mutual
def wt : D → Nat
  | .non => 4
  | .bl _ => 5
  | .int _ => 1921
  | .str x => 10 * x.length + 2
  | .tup xs => wts xs + 3
  | .loc _ => 0
  | .lst _ => 0
  | .dct _ _ => 0
def wts : List D → Nat
  | [] => 0
  | x :: xs => wt x + 2 + wts xs
end
mutual
def fine : D → Bool
  | .int i => decide (i.natAbs.log2 < 1920)
  | .str x => PyData.strOk x
  | .tup xs => fines xs
  | .loc _ => false
  | .lst _ => false
  | .dct _ _ => false
  | .non => true
  | .bl _ => true
def fines : List D → Bool
  | [] => true
  | x :: xs => fine x && fines xs
end
mutual
def dep : D → Nat
  | .tup xs => deps xs + 1
  | _ => 0
def deps : List D → Nat
  | [] => 0
  | x :: xs => max (dep x) (deps xs)
end
mutual
theorem fine_py : ∀ d : D, fine d = true → ∃ a, py d = some a ∧ a.showable = true ∧ a.hasDict = false ∧ a.depth = dep d ∧ a.shown.length ≤ wt d ∧ a.canLay0 = true
  | .non, _ => ⟨_, rfl, rfl, rfl, rfl, by decide, rfl⟩
  | .bl b, _ => ⟨_, rfl, rfl, rfl, rfl, by cases b <;> decide, rfl⟩
  | .int i, h => ⟨_, rfl, by simpa [fine, PyData.showable] using h, rfl, rfl, by
      have := int_text_len_1921 (show i.natAbs.log2 < 1920 by simpa [fine] using h)
      simp only [PyData.shown, wt]
      exact this, rfl⟩
  | .str x, h => ⟨_, rfl, rfl, rfl, rfl, by
      simp only [PyData.shown, wt]
      exact reprText_len x (fun c hc => by
        have := (show PyData.strOk x = true by simpa [fine] using h)
        unfold PyData.strOk at this
        rw [Array.all_eq_true'] at this
        have := this c (by simpa using hc)
        have e : c < 1114112 := by simpa using this
        omega), by simpa [fine, PyData.canLay0] using h⟩
  | .tup xs, h => by
      obtain ⟨as, h1, h2, h3, h4, h5, h6, h7⟩ := fines_py xs (by simpa [fine] using h)
      refine ⟨.tuple as, by rw [py, h1]; rfl, by simpa [PyData.showable] using h2, by simpa [PyData.hasDict] using h3, by simp [PyData.depth, dep, h4], ?_, by simpa [PyData.canLay0] using h6⟩
      simp only [PyData.shown, wt]
      have := tupleText_len_le (PyData.shownAll as)
      omega
  | .loc n, h => by simp [fine] at h
  | .lst _, h => by simp [fine] at h
  | .dct _ _, h => by simp [fine] at h
theorem fines_py : ∀ xs : List D, fines xs = true → ∃ as, pyAll xs = some as ∧ PyData.showableAll as = true ∧ PyData.hasDictAll as = false ∧ PyData.depthAll as = deps xs ∧ ((PyData.shownAll as).map (·.length)).sum + 2 * (PyData.shownAll as).length ≤ wts xs ∧ PyData.canLayAll0 as = true ∧ as.length = xs.length
  | [], _ => ⟨[], rfl, rfl, rfl, rfl, by decide, rfl, rfl⟩
  | x :: xs, h => by
      have hh : fine x = true ∧ fines xs = true := by simpa [fines] using h
      obtain ⟨a, g1, g2, g3, g4, g5, g6⟩ := fine_py x hh.1
      obtain ⟨as, h1, h2, h3, h4, h5, h6, h7⟩ := fines_py xs hh.2
      refine ⟨a :: as, by rw [pyAll, g1, h1], by simp [PyData.showableAll, g2, h2], by simp [PyData.hasDictAll, g3, h3], by simp [PyData.depthAll, deps, g4, h4], ?_, by simp [PyData.canLayAll0, g6, h6], by simp [h7]⟩
      simp only [PyData.shownAll, List.map_cons, List.sum_cons, List.length_cons, wts]
      omega
end
def shD (d : D) : Str := match py d with
  | some a => a.shown
  | none => ""
def shL (xs : List D) : Str := match pyAll xs with
  | some as => (PyData.list as).shown
  | none => ""
theorem py1_py {S : Store} {d : D} (h : fine d = true) : py1 S d = py d := by
  cases d <;> first | rfl | (simp [fine] at h)
section
variable {E : Exn → Store → Prop} {S : Store} {R : D → Store → Prop}
theorem x_reprM {d : D} (h1 : fine d = true) (h2 : dep d ≤ 150) (h3 : wt d ≤ 16777216) : wpx (reprM d) R E S ↔ R (.str (shD d)) S := by
  obtain ⟨a, g1, g2, g3, g4, g5, g6⟩ := fine_py d h1
  unfold wpx reprM
  rw [py1_py h1, g1]
  have e : (a.showable && !a.hasDict && decide (a.depth ≤ 150) && decide (a.shown.length ≤ sizeLine)) = true := by
    rw [g2, g3, g4]
    have : sizeLine = 16777216 := rfl
    simp
    omega
  simp only [e, if_true]
  unfold shD
  rw [g1]
theorem x_reprML {n : Nat} {xs : List D} (hn : S[n]? = some (.lst xs)) (h1 : fines xs = true) (h2 : deps xs ≤ 149) (h3 : wts xs ≤ 16777200) : wpx (reprM (.loc n)) R E S ↔ R (.str (shL xs)) S := by
  obtain ⟨as, g1, g2, g3, g4, g5, g6, g7⟩ := fines_py xs h1
  unfold wpx reprM
  have e0 : py1 S (.loc n) = some (.list as) := by show (match S[n]? with | some (.lst xs) => (pyAll xs).map PyData.list | some (.ro xs) => (pyAll xs).map PyData.list | _ => none) = _; rw [hn]; show (pyAll xs).map _ = _; rw [g1]; rfl
  rw [e0]
  have k := listText_len_le (PyData.shownAll as)
  have hz : sizeLine = 16777216 := rfl
  have q1 : (PyData.list as).showable = true := g2
  have q2 : (PyData.list as).hasDict = false := g3
  have q3 : (PyData.list as).depth ≤ 150 := by show PyData.depthAll as + 1 ≤ 150; omega
  have q4 : (PyData.list as).shown.length ≤ sizeLine := by show (listText (PyData.shownAll as)).length ≤ _; omega
  have e : ((PyData.list as).showable && !(PyData.list as).hasDict && decide ((PyData.list as).depth ≤ 150) && decide ((PyData.list as).shown.length ≤ sizeLine)) = true := by
    rw [q1, q2, decide_eq_true q3, decide_eq_true q4]; rfl
  simp only [e, if_true]
  unfold shL
  rw [g1]
theorem x_repr {d : D} (h1 : fine d = true) (h2 : dep d ≤ 150) (h3 : wt d ≤ 16777216) : wpx (builtin .repr [d]) R E S ↔ R (.str (shD d)) S := by
  cases d with
  | non => exact Iff.rfl
  | bl b => cases b <;> exact Iff.rfl
  | int i =>
    show wpx (M.bind (guard _) _) R E S ↔ _
    rw [wpx_bind, wpx_guard]
    have : decide (i.natAbs.log2 < 1920) = true := by simpa [fine] using h1
    rw [this]
    exact ⟨fun h => h.2, fun h => ⟨rfl, h⟩⟩
  | str x =>
    obtain ⟨a, g1, g2, g3, g4, g5, g6⟩ := fine_py _ h1
    cases g1
    show wpx (M.bind (guard _) _) R E S ↔ _
    rw [wpx_bind, wpx_guard]
    have : ok2 (reprText x).length = true := by
      unfold ok2
      rw [decide_eq_true_eq]
      have : sizeLine = 16777216 := rfl
      simp only [PyData.shown] at g5
      omega
    rw [this]
    exact ⟨fun h => h.2, fun h => ⟨rfl, h⟩⟩
  | tup xs => exact x_reprM h1 h2 h3
  | loc n => simp [fine] at h1
  | lst _ => simp [fine] at h1
  | dct _ _ => simp [fine] at h1
def eqvD (x y : D) : Bool := match py x, py y with
  | some a, some b => PyData.eqv a b
  | _, _ => false
theorem x_eqD {x y : D} {R : Bool → Store → Prop} (h1 : fine x = true) (h2 : fine y = true) (h3 : dep x ≤ 150) : wpx (eqM x y) R E S ↔ R (eqvD x y) S := by
  obtain ⟨a, g1, g2, g3, g4, g5, g6⟩ := fine_py _ h1
  obtain ⟨b, k1, k2, k3, k4, k5, k6⟩ := fine_py _ h2
  unfold wpx eqM
  rw [py1_py h1, py1_py h2, g1, k1]
  have e : fitEq x y a b = true := by
    unfold fitEq
    rw [g6, k6]
    simp
    omega
  simp only [e, if_true]
  unfold eqvD
  rw [g1, k1]
theorem eqvD_refl {x : D} (h : fine x = true) : eqvD x x = true := by
  obtain ⟨a, g1, g2, g3, g4, g5, g6⟩ := fine_py _ h
  unfold eqvD
  rw [g1]
  exact PySem.SeqAt.eqv_refl a g6
end
theorem fines_of {xs : List D} (h : ∀ x ∈ xs, fine x = true) : fines xs = true := by
  induction xs with
  | nil => rfl
  | cons x xs ih => simp only [fines, h x (List.mem_cons_self ..), ih fun y hy => h y (List.mem_cons_of_mem _ hy)]; rfl
theorem deps_of {xs : List D} {k : Nat} (h : ∀ x ∈ xs, dep x ≤ k) : deps xs ≤ k := by
  induction xs with
  | nil => exact Nat.zero_le _
  | cons x xs ih =>
    have := h x (List.mem_cons_self ..)
    have := ih fun y hy => h y (List.mem_cons_of_mem _ hy)
    simp only [deps]
    omega
theorem wts_of {xs : List D} {k : Nat} (h : ∀ x ∈ xs, wt x ≤ k) : wts xs ≤ (k + 2) * xs.length := by
  induction xs with
  | nil => exact Nat.le_refl _
  | cons x xs ih =>
    have := h x (List.mem_cons_self ..)
    have := ih fun y hy => h y (List.mem_cons_of_mem _ hy)
    simp only [wts, List.length_cons, Nat.mul_succ]
    omega
theorem Ws.fine {k : Nat} {x : Str} (h : Ws k x) : Mn.fine (.str x) = true := by
  simp only [Mn.fine]
  unfold PyData.strOk
  rw [Array.all_eq_true']
  intro c hc
  have := h.2 c (by simpa using hc)
  simp
  omega
theorem Ws.wt {k : Nat} {x : Str} (h : Ws k x) : Mn.wt (.str x) ≤ 10 * k + 2 := by
  have := h.1
  simp only [Mn.wt]
  omega
/-- a flat thing in a list of flat things -/
theorem inAll_flat {x : D} {ys : List D} (hx : flatD x = true) (hy : ∀ y ∈ ys, flatD y = true) : ∃ b, inAll x ys = some b := by
  have p1 : ∀ d : D, flatD d = true → ∃ a, py d = some a := fun d h => by cases d <;> first | exact ⟨_, rfl⟩ | (simp [flatD] at h)
  have p2 : ∀ l : List D, (∀ y ∈ l, flatD y = true) → ∃ as, pyAll l = some as := by
    intro l
    induction l with
    | nil => exact fun _ => ⟨[], rfl⟩
    | cons a l ih =>
      intro h
      obtain ⟨b, hb⟩ := p1 a (h a (List.mem_cons_self ..))
      obtain ⟨bs, hbs⟩ := ih fun y hy => h y (List.mem_cons_of_mem _ hy)
      exact ⟨b :: bs, by rw [pyAll, hb, hbs]⟩
  obtain ⟨a, ha⟩ := p1 x hx
  obtain ⟨bs, hbs⟩ := p2 ys hy
  have e : ys.all flatD = true := List.all_eq_true.mpr hy
  exact ⟨_, by unfold inAll; rw [ha, hbs, hx, e]; simp; rfl⟩
theorem o_0 : ok2 (0) = true := rfl
theorem o_1 : ok2 (0 + 1) = true := rfl
theorem o_2 : ok2 (0 + 1 + 1) = true := rfl
theorem o_3 : ok2 (0 + 1 + 1 + 1) = true := rfl
theorem o_4 : ok2 (0 + 1 + 1 + 1 + 1) = true := rfl
theorem o_5 : ok2 (0 + 1 + 1 + 1 + 1 + 1) = true := rfl
theorem o_6 : ok2 (0 + 1 + 1 + 1 + 1 + 1 + 1) = true := rfl
theorem o_7 : ok2 (0 + 1 + 1 + 1 + 1 + 1 + 1 + 1) = true := rfl
theorem o_8 : ok2 (0 + 1 + 1 + 1 + 1 + 1 + 1 + 1 + 1) = true := rfl
theorem o_9 : ok2 (0 + 1 + 1 + 1 + 1 + 1 + 1 + 1 + 1 + 1) = true := rfl
theorem o_10 : ok2 (0 + 1 + 1 + 1 + 1 + 1 + 1 + 1 + 1 + 1 + 1) = true := rfl
theorem o_11 : ok2 (0 + 1 + 1 + 1 + 1 + 1 + 1 + 1 + 1 + 1 + 1 + 1) = true := rfl
theorem o_12 : ok2 (0 + 1 + 1 + 1 + 1 + 1 + 1 + 1 + 1 + 1 + 1 + 1 + 1) = true := rfl
theorem o_13 : ok2 (0 + 1 + 1 + 1 + 1 + 1 + 1 + 1 + 1 + 1 + 1 + 1 + 1 + 1) = true := rfl
theorem o_14 : ok2 (0 + 1 + 1 + 1 + 1 + 1 + 1 + 1 + 1 + 1 + 1 + 1 + 1 + 1 + 1) = true := rfl
theorem o_15 : ok2 (0 + 1 + 1 + 1 + 1 + 1 + 1 + 1 + 1 + 1 + 1 + 1 + 1 + 1 + 1 + 1) = true := rfl
theorem o_16 : ok2 (0 + 1 + 1 + 1 + 1 + 1 + 1 + 1 + 1 + 1 + 1 + 1 + 1 + 1 + 1 + 1 + 1) = true := rfl
theorem o_17 : ok2 (0 + 1 + 1 + 1 + 1 + 1 + 1 + 1 + 1 + 1 + 1 + 1 + 1 + 1 + 1 + 1 + 1 + 1) = true := rfl
theorem o_18 : ok2 (0 + 1 + 1 + 1 + 1 + 1 + 1 + 1 + 1 + 1 + 1 + 1 + 1 + 1 + 1 + 1 + 1 + 1 + 1) = true := rfl
theorem o_19 : ok2 (0 + 1 + 1 + 1 + 1 + 1 + 1 + 1 + 1 + 1 + 1 + 1 + 1 + 1 + 1 + 1 + 1 + 1 + 1 + 1) = true := rfl
theorem o_20 : ok2 (0 + 1 + 1 + 1 + 1 + 1 + 1 + 1 + 1 + 1 + 1 + 1 + 1 + 1 + 1 + 1 + 1 + 1 + 1 + 1 + 1) = true := rfl
theorem o_21 : ok2 (0 + 1 + 1 + 1 + 1 + 1 + 1 + 1 + 1 + 1 + 1 + 1 + 1 + 1 + 1 + 1 + 1 + 1 + 1 + 1 + 1 + 1) = true := rfl
theorem o_22 : ok2 (0 + 1 + 1 + 1 + 1 + 1 + 1 + 1 + 1 + 1 + 1 + 1 + 1 + 1 + 1 + 1 + 1 + 1 + 1 + 1 + 1 + 1 + 1) = true := rfl
theorem o_23 : ok2 (0 + 1 + 1 + 1 + 1 + 1 + 1 + 1 + 1 + 1 + 1 + 1 + 1 + 1 + 1 + 1 + 1 + 1 + 1 + 1 + 1 + 1 + 1 + 1) = true := rfl
theorem o_24 : ok2 (0 + 1 + 1 + 1 + 1 + 1 + 1 + 1 + 1 + 1 + 1 + 1 + 1 + 1 + 1 + 1 + 1 + 1 + 1 + 1 + 1 + 1 + 1 + 1 + 1) = true := rfl
theorem x_newL {E : Exn → Store → Prop} {S : Store} {R : D → Store → Prop} {xs : List D} : wpx (newL xs) R E S ↔ ok2 xs.length = true ∧ R (.loc S.length) (S ++ [.lst xs]) := by
  unfold newL
  rw [wpx_bind, wpx_guard, x_alloc]
theorem x_newT {E : Exn → Store → Prop} {S : Store} {R : D → Store → Prop} {xs : List D} : wpx (newT xs) R E S ↔ ok2 xs.length = true ∧ R (.tup xs) S := by
  unfold newT
  rw [wpx_bind, wpx_guard, wpx_ret]
theorem log_small {k : Int} (h : k.natAbs < 2 ^ 64) : decide (k.natAbs.log2 < 1920) = true := by
  rw [decide_eq_true_eq]
  by_cases e : k.natAbs = 0
  · rw [e]; decide
  · have := (Nat.log2_lt e).mpr h
    omega
theorem ap_self {S : Store} {c : Cell} : (S ++ [c])[S.length]? = some c := by simp
theorem ap_old {S : Store} {c d : Cell} {i : Nat} (h : S[i]? = some d) : (S ++ [c])[i]? = some d := by
  rw [List.getElem?_append_left (List.getElem?_eq_some_iff.mp h).1]; exact h
/-- one of a few -/
theorem w_pick {xs : List D} {v : Int} {P : D → Prop} {Q : D → Store → Prop} {E : Exn → Store → Prop} {S : Store} (h0 : 0 ≤ v) (h1 : v < xs.length) (hP : ∀ d ∈ xs, P d) (h : ∀ d, P d → Q d S) : wpx (opt (atI xs v)) Q E S := by
  have : atI xs v = some (xs[v.toNat]'(by omega)) := atI_lt h0 (List.getElem?_eq_getElem (by omega))
  rw [this]
  exact h _ (hP _ (List.getElem_mem _))
theorem w_sign {x : Str} {k : Nat} {v : Int} {Q : D → Store → Prop} {E : Exn → Store → Prop} {S : Store} (hx : Ws k x) (hk : k ≤ 1000000) (h0 : 0 ≤ v) (h1 : v < x.length) (h : ∀ c, Ws 1 ⟨#[c]⟩ → Q (.str ⟨#[c]⟩) S) : wpx (index (.str x) (.int v)) Q E S := by
  rw [i_S, wpx_bind, wpx_guard]
  refine ⟨hx.ok2 hk, ?_⟩
  have hl : v.toNat < x.cps.toList.length := by rw [len_cps]; omega
  have : atI x.cps.toList v = some (x.cps.toList[v.toNat]'hl) := atI_lt h0 (List.getElem?_eq_getElem hl)
  rw [this]
  exact h _ (hx.sign (List.getElem?_eq_getElem hl))
def isWs (k : Nat) : D → Bool
  | .str s => decide (Ws k s)
  | _ => false
def isIn (lo hi : Int) : D → Bool
  | .int s => decide (lo ≤ s) && decide (s ≤ hi)
  | _ => false
theorem all_ws {k : Nat} {xs : List D} (h : xs.all (isWs k) = true) : ∀ d ∈ xs, ∃ s, d = .str s ∧ Ws k s := fun d hd => by
  have := List.all_eq_true.mp h d hd
  cases d with
  | str s => exact ⟨s, rfl, by simpa [isWs] using this⟩
  | _ => simp [isWs] at this
theorem all_in {lo hi : Int} {xs : List D} (h : xs.all (isIn lo hi) = true) : ∀ d ∈ xs, ∃ i, d = .int i ∧ lo ≤ i ∧ i ≤ hi := fun d hd => by
  have := List.all_eq_true.mp h d hd
  cases d with
  | int s => exact ⟨s, rfl, by simpa [isIn] using this⟩
  | _ => simp [isIn] at this
theorem k_r1n {n : Int} {R : ItV → Store → Prop} {S : Store} {E : Exn → Store → Prop} (h0 : 0 ≤ n) (h : n < 1000000000) : wpx (mkIt .rng1 [.int n]) R E S ↔ R (.rng 0 1 n.toNat) S := by
  rw [k_r1, wpx_bind, wpx_guard, wpx_ret]
  have : (decide (-(2 ^ 62) ≤ n) && decide (n < 2 ^ 62)) = true := by simp; omega
  rw [this]
  exact ⟨fun h => h.2, fun h => ⟨rfl, h⟩⟩
/-- a loop over range(n) -/
theorem for_rng {asg : D → Nv → M Nv} {b : Nv → M (Mn.Flow × Nv)} {Q : Mn.Flow × Nv → Store → Prop} {E : Exn → Store → Prop} {S : Store} {env : Nv} {n : Int} (P : Nat → Nv → Store → Prop) (h0 : 0 ≤ n) (h : n < 1000000000) (p0 : P 0 env S)
    (step : ∀ (i : Nat) env S, (i : Int) < n → P i env S → wpx (asg (.int i) env) (fun e1 S1 => wpx (b e1) (turnS (P (i + 1)) Q) E S1) E S)
    (done : ∀ env S, P n.toNat env S → Q (.nx, env) S) : wpx (forF (.rng 0 1 n.toNat) asg b FUEL 0 env) Q E S := by
  refine for_items (rngD 0 n.toNat) P (by rw [rngD_len]; exact fuel_big (by omega)) p0 (fun i env S _ _ => rng_it) ?_ (by rw [rngD_len]; exact done)
  intro i d env S hd p
  obtain ⟨rfl, hi⟩ := rngD_get hd
  rw [Int.zero_add]
  exact step i env S (by omega) p
theorem x_comp {J : ItV} {p : D → Nv → Nv} {c e : Nv → M D} {env : Nv} {Q : D → Store → Prop} {E : Exn → Store → Prop} {S : Store} : wpx (fun S => compF J p c e env S.length FUEL 0 (S ++ [.lst []])) Q E S ↔ wpx (compF J p c e env S.length FUEL 0) Q E (S ++ [.lst []]) := Iff.rfl
/-- [elt for i in range(m)] -/
theorem comp_rng {put : D → Nv → Nv} {elt : Nv → M D} {env : Nv} {n : Nat} {Q : D → Store → Prop} {E : Exn → Store → Prop} {S : Store} {m : Int} (P : Nat → List D → Store → Prop) (m0 : 0 ≤ m) (hm : m < 1000000) (h0 : P 0 [] S)
    (keep : ∀ i acc S, P i acc S → S[n]? = some (.lst acc))
    (step : ∀ (i : Nat) acc S, (i : Int) < m → acc.length = i → P i acc S → wpx (elt (put (.int i) env)) (fun y S2 => S2[n]? = some (.lst acc) ∧ P (i + 1) (acc ++ [y]) (S2.set n (.lst (acc ++ [y])))) E0x S)
    (done : ∀ acc S, acc.length = m.toNat → P m.toNat acc S → Q (.loc n) S) : wpx (compF (.rng 0 1 m.toNat) put (fun _ => M.ret (.bl true)) elt env n FUEL 0) Q E S := by
  refine comp_items (rngD 0 m.toNat) (fun i acc S => P i acc S ∧ acc.length = i) (by rw [rngD_len]; exact fuel_big (by omega)) ⟨h0, rfl⟩ (fun i acc S hi p => ⟨keep i acc S p.1, rng_it⟩) ?_ ?_
  · rintro i d acc S hd ⟨p, hl⟩
    obtain ⟨rfl, hi⟩ := rngD_get hd
    rw [Int.zero_add]
    refine ⟨true, rfl, fun _ => ?_, fun h => nomatch h⟩
    refine wpx_mono (step i acc S (by omega) hl p) (fun y S2 h => ⟨h.1, ?_, h.2, by simp [hl]⟩) fun _ _ z => z
    show acc.length < 16777216
    omega
  · rw [rngD_len]
    exact fun acc S h => done acc S h.2 h.1
theorem w_pop {n : Nat} {xs : List D} {i : Int} {R : D → Store → Prop} {E : Exn → Store → Prop} {S : Store} (hS : S[n]? = some (.lst xs)) (h0 : 0 ≤ i) (h1 : i < xs.length) (hl : xs.length < 1000000000) (h : ∀ d ∈ xs, R d (S.set n (.lst (xs.eraseIdx i.toNat)))) : wpx (builtin .pop1 [.loc n, .int i]) R E S := by
  rw [u_pop1, wpx_bind, e_owL, hS, owC_lst, ex_some, wpx_bind, wpx_guard]
  refine ⟨by simp; omega, ?_⟩
  have e : seqIndex? i xs.length = some i.toNat := by
    unfold seqIndex?
    have e0 : (if i < 0 then i + (xs.length : Int) else i) = i := if_neg (by omega)
    simp only [e0]
    rw [if_pos (by simp; omega)]
  rw [wpx_bind, e, wpx_opt_some, wpx_bind, List.getElem?_eq_getElem (by omega), wpx_opt_some, wpx_bind, x_wrL, wpx_ret]
  exact h _ (List.getElem_mem _)
/-- all cells stand -/
structure Kp (S S' : Store) : Prop where
  len : S.length ≤ S'.length
  keep : ∀ (i : Nat) c, S[i]? = some c → S'[i]? = some c
theorem Kp.refl (S : Store) : Kp S S := ⟨Nat.le_refl _, fun _ _ h => h⟩
theorem Kp.trans {A B C : Store} (a : Kp A B) (b : Kp B C) : Kp A C := ⟨Nat.le_trans a.len b.len, fun i c h => b.keep i c (a.keep i c h)⟩
theorem Kp.push {A B : Store} (a : Kp A B) (c : Cell) : Kp A (B ++ [c]) := ⟨by have := a.len; simp; omega, fun i d h => ap_old (a.keep i d h)⟩
theorem Kp.set {A B : Store} {L : Nat} (a : Kp A B) (hL : A.length ≤ L) (c : Cell) : Kp A (B.set L c) :=
  ⟨by have := a.len; simp; omega, fun i d h => by
    have := (List.getElem?_eq_some_iff.mp h).1
    rw [List.getElem?_set_ne (by omega)]; exact a.keep i d h⟩
theorem k_Lit {n i : Nat} {xs : List D} {S : Store} (h : rdC S[n]? = some xs) : itO (.lst n) i S = some xs[i]? := by
  have e : rd S n = some xs := by
    unfold rd
    unfold rdC at h
    exact h
  show (rd S n).map _ = _
  rw [e]; rfl
theorem k_Tit {xs : List D} {i : Nat} {S : Store} : itO (.tup xs) i S = some xs[i]? := rfl
theorem cut_0 {xs : List D} : cutD xs none (some 0) = [] := by
  have : HT.sIx xs.length xs.length (some 0) = 0 := by
    have := HT.sIx_nat xs.length xs.length 0
    simpa using this
  unfold cutD
  rw [this, HT.sIx_none]
  rfl
theorem cut_1 {xs : List D} : cutD xs (some 1) none = xs.drop 1 := by
  have : HT.sIx xs.length 0 (some 1) = min 1 xs.length := HT.sIx_nat xs.length 0 1
  unfold cutD
  rw [this, HT.sIx_none]
  apply List.ext_getElem?
  intro i
  cases xs with
  | nil => rfl
  | cons x xs =>
    simp
theorem ofStr_inj {a b : String} (h : Str.ofString a = Str.ofString b) : a = b := by
  have h1 := congrArg (fun s : Str => s.cps.toList) h
  simp only [Str.ofString_eq_toList] at h1
  have h2 : a.toList.map Char.toNat = b.toList.map Char.toNat := by simpa using h1
  have h3 : a.toList = b.toList := by
    have inj : ∀ l m : List Char, l.map Char.toNat = m.map Char.toNat → l = m := by
      intro l
      induction l with
      | nil => intro m h; cases m <;> simp at h ⊢
      | cons x l ih =>
        intro m h
        cases m with
        | nil => simp at h
        | cons y m =>
          simp at h
          rw [ih m h.2]
          congr 1
          exact Char.toNat_inj.mp h.1
    exact inj _ _ h2
  exact String.toList_inj.mp h3
theorem str_beq (a b : String) : (Str.ofString a == Str.ofString b) = (a == b) := by
  rw [Bool.eq_iff_iff, beq_iff_eq, beq_iff_eq]
  exact ⟨ofStr_inj, fun h => by rw [h]⟩
theorem atI_5 {α : Type} {a b c d e f : α} {l : List α} : atI (a :: b :: c :: d :: e :: f :: l) 5 = some f := atI_lt (by decide) rfl
theorem ixN_4 {n : Nat} : ixN (n + 1 + 1 + 1 + 1 + 1) 4 = some 4 := by unfold ixN; rw [if_pos (by decide), if_pos (by omega)]; rfl
theorem ixN_5 {n : Nat} : ixN (n + 1 + 1 + 1 + 1 + 1 + 1) 5 = some 5 := by unfold ixN; rw [if_pos (by decide), if_pos (by omega)]; rfl
end Mn
namespace Mn
open PySem L2
def seqQ {α β : Type} (f : β → M α) (Q : α → Store → Prop) (E : Exn → Store → Prop) : β → Store → Prop := fun b S' => wpx (f b) Q E S'
theorem q_bind {α β : Type} {m : M β} {f : β → M α} {Q : α → Store → Prop} {E : Exn → Store → Prop} {S : Store} : wpx (M.bind m f) Q E S ↔ wpx m (seqQ f Q E) E S := wpx_bind
theorem q_seq {α β : Type} {f : β → M α} {Q : α → Store → Prop} {E : Exn → Store → Prop} {S : Store} {b : β} : seqQ f Q E b S ↔ wpx (f b) Q E S := Iff.rfl
def kmbl  (b : Bool) : M D := M.ret (.bl b)
theorem q_bl  {b : Bool} : kmbl  b = M.ret (.bl b) := rfl
def kmbin (C : Ctx) (o : BOp) (b : Mn.E) (env : Nv) (x : D) : M D := M.bind (evE C b env) (binop o x)
theorem q_bin {C : Ctx} {o : BOp} {b : Mn.E} {env : Nv} {x : D} : kmbin C o b env x = M.bind (evE C b env) (binop o x) := rfl
def kmnegi  (i : Int) : M D := M.ret (.int (-i))
theorem q_negi  {i : Int} : kmnegi  i = M.ret (.int (-i)) := rfl
def kmneg  (x : D) : M D := M.bind (asI x) kmnegi
theorem q_neg  {x : D} : kmneg  x = M.bind (asI x) kmnegi := rfl
def kmcmpb (o : COp) (x : D) (y : D) : M D := M.bind (cmpop o x y) kmbl
theorem q_cmpb {o : COp} {x : D} {y : D} : kmcmpb o x y = M.bind (cmpop o x y) kmbl := rfl
def kmcmp (C : Ctx) (o : COp) (b : Mn.E) (env : Nv) (x : D) : M D := M.bind (evE C b env) (kmcmpb o x)
theorem q_cmp {C : Ctx} {o : COp} {b : Mn.E} {env : Nv} {x : D} : kmcmp C o b env x = M.bind (evE C b env) (kmcmpb o x) := rfl
def kmc3c (C : Ctx) (p : COp) (c : Mn.E) (env : Nv) (y : D) (k : Bool) : M D := match k with
  | true => M.bind (evE C c env) (kmcmpb p y)
  | false => M.ret (.bl false)
theorem q_c3cT {C : Ctx} {p : COp} {c : Mn.E} {env : Nv} {y : D} : kmc3c C p c env y true = M.bind (evE C c env) (kmcmpb p y) := rfl
theorem q_c3cF {C : Ctx} {p : COp} {c : Mn.E} {env : Nv} {y : D} : kmc3c C p c env y false = M.ret (.bl false) := rfl
def kmc3b (C : Ctx) (o p : COp) (c : Mn.E) (env : Nv) (x : D) (y : D) : M D := M.bind (cmpop o x y) (kmc3c C p c env y)
theorem q_c3b {C : Ctx} {o p : COp} {c : Mn.E} {env : Nv} {x : D} {y : D} : kmc3b C o p c env x y = M.bind (cmpop o x y) (kmc3c C p c env y) := rfl
def kmc3 (C : Ctx) (o p : COp) (b c : Mn.E) (env : Nv) (x : D) : M D := M.bind (evE C b env) (kmc3b C o p c env x)
theorem q_c3 {C : Ctx} {o p : COp} {b c : Mn.E} {env : Nv} {x : D} : kmc3 C o p b c env x = M.bind (evE C b env) (kmc3b C o p c env x) := rfl
def kmtr  (x : D) : M D := M.bind (truth x) kmbl
theorem q_tr  {x : D} : kmtr  x = M.bind (truth x) kmbl := rfl
def kmnotb  (b : Bool) : M D := M.ret (.bl (!b))
theorem q_notb  {b : Bool} : kmnotb  b = M.ret (.bl (!b)) := rfl
def kmnot  (x : D) : M D := M.bind (asB x) kmnotb
theorem q_not  {x : D} : kmnot  x = M.bind (asB x) kmnotb := rfl
def kmand2 (C : Ctx) (b : Mn.E) (env : Nv) (k : Bool) : M D := match k with
  | true => evE C b env
  | false => M.ret (.bl false)
theorem q_and2T {C : Ctx} {b : Mn.E} {env : Nv} : kmand2 C b env true = evE C b env := rfl
theorem q_and2F {C : Ctx} {b : Mn.E} {env : Nv} : kmand2 C b env false = M.ret (.bl false) := rfl
def kmand (C : Ctx) (b : Mn.E) (env : Nv) (x : D) : M D := M.bind (asB x) (kmand2 C b env)
theorem q_and {C : Ctx} {b : Mn.E} {env : Nv} {x : D} : kmand C b env x = M.bind (asB x) (kmand2 C b env) := rfl
def kmor2 (C : Ctx) (b : Mn.E) (env : Nv) (k : Bool) : M D := match k with
  | true => M.ret (.bl true)
  | false => evE C b env
theorem q_or2T {C : Ctx} {b : Mn.E} {env : Nv} : kmor2 C b env true = M.ret (.bl true) := rfl
theorem q_or2F {C : Ctx} {b : Mn.E} {env : Nv} : kmor2 C b env false = evE C b env := rfl
def kmor (C : Ctx) (b : Mn.E) (env : Nv) (x : D) : M D := M.bind (asB x) (kmor2 C b env)
theorem q_or {C : Ctx} {b : Mn.E} {env : Nv} {x : D} : kmor C b env x = M.bind (asB x) (kmor2 C b env) := rfl
def kmvand2 (C : Ctx) (b : Mn.E) (env : Nv) (x : D) (k : Bool) : M D := match k with
  | true => evE C b env
  | false => M.ret x
theorem q_vand2T {C : Ctx} {b : Mn.E} {env : Nv} {x : D} : kmvand2 C b env x true = evE C b env := rfl
theorem q_vand2F {C : Ctx} {b : Mn.E} {env : Nv} {x : D} : kmvand2 C b env x false = M.ret x := rfl
def kmvand (C : Ctx) (b : Mn.E) (env : Nv) (x : D) : M D := M.bind (truth x) (kmvand2 C b env x)
theorem q_vand {C : Ctx} {b : Mn.E} {env : Nv} {x : D} : kmvand C b env x = M.bind (truth x) (kmvand2 C b env x) := rfl
def kmvor2 (C : Ctx) (b : Mn.E) (env : Nv) (x : D) (k : Bool) : M D := match k with
  | true => M.ret x
  | false => evE C b env
theorem q_vor2T {C : Ctx} {b : Mn.E} {env : Nv} {x : D} : kmvor2 C b env x true = M.ret x := rfl
theorem q_vor2F {C : Ctx} {b : Mn.E} {env : Nv} {x : D} : kmvor2 C b env x false = evE C b env := rfl
def kmvor (C : Ctx) (b : Mn.E) (env : Nv) (x : D) : M D := M.bind (truth x) (kmvor2 C b env x)
theorem q_vor {C : Ctx} {b : Mn.E} {env : Nv} {x : D} : kmvor C b env x = M.bind (truth x) (kmvor2 C b env x) := rfl
def kmite2 (C : Ctx) (a b : Mn.E) (env : Nv) (k : Bool) : M D := match k with
  | true => evE C a env
  | false => evE C b env
theorem q_ite2T {C : Ctx} {a b : Mn.E} {env : Nv} : kmite2 C a b env true = evE C a env := rfl
theorem q_ite2F {C : Ctx} {a b : Mn.E} {env : Nv} : kmite2 C a b env false = evE C b env := rfl
def kmite (C : Ctx) (a b : Mn.E) (env : Nv) (x : D) : M D := M.bind (asB x) (kmite2 C a b env)
theorem q_ite {C : Ctx} {a b : Mn.E} {env : Nv} {x : D} : kmite C a b env x = M.bind (asB x) (kmite2 C a b env) := rfl
def kmidx (C : Ctx) (b : Mn.E) (env : Nv) (x : D) : M D := M.bind (evE C b env) (index x)
theorem q_idx {C : Ctx} {b : Mn.E} {env : Nv} {x : D} : kmidx C b env x = M.bind (evE C b env) (index x) := rfl
def kmsl0  (x : D) : M D := slice x none none
theorem q_sl0  {x : D} : kmsl0  x = slice x none none := rfl
def kmslL3 (x : D) (l : Int) : M D := slice x (some l) none
theorem q_slL3 {x : D} {l : Int} : kmslL3 x l = slice x (some l) none := rfl
def kmslL2 (x : D) (y : D) : M D := M.bind (asI y) (kmslL3 x)
theorem q_slL2 {x : D} {y : D} : kmslL2 x y = M.bind (asI y) (kmslL3 x) := rfl
def kmslL (C : Ctx) (lo : Mn.E) (env : Nv) (x : D) : M D := M.bind (evE C lo env) (kmslL2 x)
theorem q_slL {C : Ctx} {lo : Mn.E} {env : Nv} {x : D} : kmslL C lo env x = M.bind (evE C lo env) (kmslL2 x) := rfl
def kmslH3 (x : D) (l : Int) : M D := slice x none (some l)
theorem q_slH3 {x : D} {l : Int} : kmslH3 x l = slice x none (some l) := rfl
def kmslH2 (x : D) (y : D) : M D := M.bind (asI y) (kmslH3 x)
theorem q_slH2 {x : D} {y : D} : kmslH2 x y = M.bind (asI y) (kmslH3 x) := rfl
def kmslH (C : Ctx) (lo : Mn.E) (env : Nv) (x : D) : M D := M.bind (evE C lo env) (kmslH2 x)
theorem q_slH {C : Ctx} {lo : Mn.E} {env : Nv} {x : D} : kmslH C lo env x = M.bind (evE C lo env) (kmslH2 x) := rfl
def kmslB5 (x : D) (l : Int) (h : Int) : M D := slice x (some l) (some h)
theorem q_slB5 {x : D} {l : Int} {h : Int} : kmslB5 x l h = slice x (some l) (some h) := rfl
def kmslB4 (x : D) (l : Int) (z : D) : M D := M.bind (asI z) (kmslB5 x l)
theorem q_slB4 {x : D} {l : Int} {z : D} : kmslB4 x l z = M.bind (asI z) (kmslB5 x l) := rfl
def kmslB3 (C : Ctx) (hi : Mn.E) (env : Nv) (x : D) (l : Int) : M D := M.bind (evE C hi env) (kmslB4 x l)
theorem q_slB3 {C : Ctx} {hi : Mn.E} {env : Nv} {x : D} {l : Int} : kmslB3 C hi env x l = M.bind (evE C hi env) (kmslB4 x l) := rfl
def kmslB2 (C : Ctx) (hi : Mn.E) (env : Nv) (x : D) (y : D) : M D := M.bind (asI y) (kmslB3 C hi env x)
theorem q_slB2 {C : Ctx} {hi : Mn.E} {env : Nv} {x : D} {y : D} : kmslB2 C hi env x y = M.bind (asI y) (kmslB3 C hi env x) := rfl
def kmslB (C : Ctx) (lo hi : Mn.E) (env : Nv) (x : D) : M D := M.bind (evE C lo env) (kmslB2 C hi env x)
theorem q_slB {C : Ctx} {lo hi : Mn.E} {env : Nv} {x : D} : kmslB C lo hi env x = M.bind (evE C lo env) (kmslB2 C hi env x) := rfl
def kmme3 (b : Bi) (x : D) (xs : List D) : M D := builtin b (x :: xs)
theorem q_me3 {b : Bi} {x : D} {xs : List D} : kmme3 b x xs = builtin b (x :: xs) := rfl
def kmme2 (C : Ctx) (b : Bi) (es : Es) (env : Nv) (x : D) (u : Unit) : M D := M.bind (evEs C es env) (kmme3 b x)
theorem q_me2 {C : Ctx} {b : Bi} {es : Es} {env : Nv} {x : D} {u : Unit} : kmme2 C b es env x u = M.bind (evEs C es env) (kmme3 b x) := rfl
def kmme (C : Ctx) (b : Bi) (es : Es) (env : Nv) (x : D) : M D := M.bind (recv b x) (kmme2 C b es env x)
theorem q_me {C : Ctx} {b : Bi} {es : Es} {env : Nv} {x : D} : kmme C b es env x = M.bind (recv b x) (kmme2 C b es env x) := rfl
def kmes2 (x : D) (xs : List D) : M (List D) := M.ret (x :: xs)
theorem q_es2 {x : D} {xs : List D} : kmes2 x xs = M.ret (x :: xs) := rfl
def kmes (C : Ctx) (r : Es) (env : Nv) (x : D) : M (List D) := M.bind (evEs C r env) (kmes2 x)
theorem q_es {C : Ctx} {r : Es} {env : Nv} {x : D} : kmes C r env x = M.bind (evEs C r env) (kmes2 x) := rfl
theorem qe_c {C : Ctx} {env : Nv} {d : D} : evE C (.c d) env = M.ret d := by first | rfl | (rw [evE] <;> rfl)
theorem qe_g {C : Ctx} {env : Nv} {x : Str} : evE C (.g x) env = opt (C.glob x) := by first | rfl | (rw [evE] <;> rfl)
theorem qe_bin {C : Ctx} {env : Nv} {o : BOp} {a b : Mn.E} : evE C (.bin o a b) env = M.bind (evE C a env) (kmbin C o b env) := by first | rfl | (rw [evE] <;> rfl)
theorem qe_neg {C : Ctx} {env : Nv} {a : Mn.E} : evE C (.neg a) env = M.bind (evE C a env) kmneg := by first | rfl | (rw [evE] <;> rfl)
theorem qe_cmp {C : Ctx} {env : Nv} {o : COp} {a b : Mn.E} : evE C (.cmp o a b) env = M.bind (evE C a env) (kmcmp C o b env) := by first | rfl | (rw [evE] <;> rfl)
theorem qe_cmp3 {C : Ctx} {env : Nv} {o p : COp} {a b c : Mn.E} : evE C (.cmp3 o p a b c) env = M.bind (evE C a env) (kmc3 C o p b c env) := by first | rfl | (rw [evE] <;> rfl)
theorem qe_tr {C : Ctx} {env : Nv} {a : Mn.E} : evE C (.tr a) env = M.bind (evE C a env) kmtr := by first | rfl | (rw [evE] <;> rfl)
theorem qe_not {C : Ctx} {env : Nv} {a : Mn.E} : evE C (.not a) env = M.bind (evE C a env) kmnot := by first | rfl | (rw [evE] <;> rfl)
theorem qe_and {C : Ctx} {env : Nv} {a b : Mn.E} : evE C (.and a b) env = M.bind (evE C a env) (kmand C b env) := by first | rfl | (rw [evE] <;> rfl)
theorem qe_or {C : Ctx} {env : Nv} {a b : Mn.E} : evE C (.or a b) env = M.bind (evE C a env) (kmor C b env) := by first | rfl | (rw [evE] <;> rfl)
theorem qe_vand {C : Ctx} {env : Nv} {a b : Mn.E} : evE C (.vand a b) env = M.bind (evE C a env) (kmvand C b env) := by first | rfl | (rw [evE] <;> rfl)
theorem qe_vor {C : Ctx} {env : Nv} {a b : Mn.E} : evE C (.vor a b) env = M.bind (evE C a env) (kmvor C b env) := by first | rfl | (rw [evE] <;> rfl)
theorem qe_ite {C : Ctx} {env : Nv} {c a b : Mn.E} : evE C (.ite c a b) env = M.bind (evE C c env) (kmite C a b env) := by first | rfl | (rw [evE] <;> rfl)
theorem qe_tup {C : Ctx} {env : Nv} {es : Es} : evE C (.tup es) env = M.bind (evEs C es env) newT := by first | rfl | (rw [evE] <;> rfl)
theorem qe_lst {C : Ctx} {env : Nv} {es : Es} : evE C (.lst es) env = M.bind (evEs C es env) newL := by first | rfl | (rw [evE] <;> rfl)
theorem qe_idx {C : Ctx} {env : Nv} {a b : Mn.E} : evE C (.idx a b) env = M.bind (evE C a env) (kmidx C b env) := by first | rfl | (rw [evE] <;> rfl)
theorem qe_sl0 {C : Ctx} {env : Nv} {a : Mn.E} : evE C (.slc0 a) env = M.bind (evE C a env) kmsl0 := by first | rfl | (rw [evE] <;> rfl)
theorem qe_slL {C : Ctx} {env : Nv} {a b : Mn.E} : evE C (.slcL a b) env = M.bind (evE C a env) (kmslL C b env) := by first | rfl | (rw [evE] <;> rfl)
theorem qe_slH {C : Ctx} {env : Nv} {a b : Mn.E} : evE C (.slcH a b) env = M.bind (evE C a env) (kmslH C b env) := by first | rfl | (rw [evE] <;> rfl)
theorem qe_slB {C : Ctx} {env : Nv} {a b c : Mn.E} : evE C (.slcB a b c) env = M.bind (evE C a env) (kmslB C b c env) := by first | rfl | (rw [evE] <;> rfl)
theorem qe_call {C : Ctx} {env : Nv} {f : Str} {es : Es} : evE C (.call f es) env = M.bind (evEs C es env) (C.call f) := by first | rfl | (rw [evE] <;> rfl)
theorem qe_bi {C : Ctx} {env : Nv} {b : Bi} {es : Es} : evE C (.bi b es) env = M.bind (evEs C es env) (builtin b) := by first | rfl | (rw [evE] <;> rfl)
theorem qe_meth {C : Ctx} {env : Nv} {b : Bi} {a : Mn.E} {es : Es} : evE C (.meth b a es) env = M.bind (evE C a env) (kmme C b es env) := by first | rfl | (rw [evE] <;> rfl)
def kmco2 (C : Ctx) (elt : Mn.E) (sl : Nat) (own : List Nat) (cond : Mn.E) (env : Nv) (J : ItV) : M D := fun S => compF J (putD sl) (evE C cond) (evE C elt) (wipeD env own) S.length FUEL 0 (S ++ [.lst []])
theorem q_co2 {C : Ctx} {elt : Mn.E} {sl : Nat} {own : List Nat} {cond : Mn.E} {env : Nv} {J : ItV} {Q : D → Store → Prop} {E : Exn → Store → Prop} {S : Store} : wpx (kmco2 C elt sl own cond env J) Q E S ↔ wpx (compF J (putD sl) (evE C cond) (evE C elt) (wipeD env own) S.length FUEL 0) Q E (S ++ [.lst []]) := Iff.rfl
def kmco (C : Ctx) (elt : Mn.E) (sl : Nat) (own : List Nat) (i : IK) (cond : Mn.E) (env : Nv) (xs : List D) : M D := M.bind (mkIt i xs) (kmco2 C elt sl own cond env)
theorem q_co {C : Ctx} {elt : Mn.E} {sl : Nat} {own : List Nat} {i : IK} {cond : Mn.E} {env : Nv} {xs : List D} : kmco C elt sl own i cond env xs = M.bind (mkIt i xs) (kmco2 C elt sl own cond env) := rfl
theorem qe_comp {C : Ctx} {env : Nv} {elt : Mn.E} {sl : Nat} {own : List Nat} {i : IK} {es : Es} {cond : Mn.E} : evE C (.comp elt sl own i es cond) env = M.bind (evEs C es env) (kmco C elt sl own i cond env) := by first | rfl | (rw [evE] <;> rfl)
theorem qe_nil {C : Ctx} {env : Nv} : evEs C .nil env = M.ret [] := by first | rfl | (rw [evEs] <;> rfl)
theorem qe_cons {C : Ctx} {env : Nv} {e : Mn.E} {r : Es} : evEs C (.cons e r) env = M.bind (evE C e env) (kmes C r env) := by first | rfl | (rw [evEs] <;> rfl)
def kmnx  (env : Nv) : M (Flow × Nv) := M.ret (.nx, env)
theorem q_nx  {env : Nv} : kmnx  env = M.ret (.nx, env) := rfl
def kmex (env : Nv) (d : D) : M (Flow × Nv) := M.ret (.nx, env)
theorem q_ex {env : Nv} {d : D} : kmex env d = M.ret (.nx, env) := rfl
def kmret (env : Nv) (d : D) : M (Flow × Nv) := M.ret (.rt d, env)
theorem q_ret {env : Nv} {d : D} : kmret env d = M.ret (.rt d, env) := rfl
def kmif2 (C : Ctx) (a b : Sms) (env : Nv) (k : Bool) : M (Flow × Nv) := match k with
  | true => evSs C a env
  | false => evSs C b env
theorem q_if2T {C : Ctx} {a b : Sms} {env : Nv} : kmif2 C a b env true = evSs C a env := rfl
theorem q_if2F {C : Ctx} {a b : Sms} {env : Nv} : kmif2 C a b env false = evSs C b env := rfl
def kmif (C : Ctx) (a b : Sms) (env : Nv) (x : D) : M (Flow × Nv) := M.bind (asB x) (kmif2 C a b env)
theorem q_if {C : Ctx} {a b : Sms} {env : Nv} {x : D} : kmif C a b env x = M.bind (asB x) (kmif2 C a b env) := rfl
def kmpr2 (i j : Nat) (env : Nv) (x : D) (y : D) : M (Flow × Nv) := M.ret (.nx, (env.set i (some x)).set j (some y))
theorem q_pr2 {i j : Nat} {env : Nv} {x : D} {y : D} : kmpr2 i j env x y = M.ret (.nx, (env.set i (some x)).set j (some y)) := rfl
def kmpr (C : Ctx) (i j : Nat) (b : Mn.E) (env : Nv) (x : D) : M (Flow × Nv) := M.bind (evE C b env) (kmpr2 i j env x)
theorem q_pr {C : Ctx} {i j : Nat} {b : Mn.E} {env : Nv} {x : D} : kmpr C i j b env x = M.bind (evE C b env) (kmpr2 i j env x) := rfl
theorem qe_ret {C : Ctx} {env : Nv} {e : Mn.E} : evS C (.ret e) env = M.bind (evE C e env) (kmret env) := by first | rfl | (rw [evS] <;> rfl)
theorem qe_if {C : Ctx} {env : Nv} {c : Mn.E} {a b : Sms} : evS C (.ife c a b) env = M.bind (evE C c env) (kmif C a b env) := by first | rfl | (rw [evS] <;> rfl)
theorem qe_par {C : Ctx} {env : Nv} {i j : Nat} {a b : Mn.E} : evS C (.par i j a b) env = M.bind (evE C a env) (kmpr C i j b env) := by first | rfl | (rw [evS] <;> rfl)
theorem qe_brk {C : Ctx} {env : Nv} : evS C (.brk) env = M.ret (.bk, env) := by first | rfl | (rw [evS] <;> rfl)
theorem qe_cnt {C : Ctx} {env : Nv} : evS C (.cnt) env = M.ret (.ct, env) := by first | rfl | (rw [evS] <;> rfl)
theorem qe_pass {C : Ctx} {env : Nv} : evS C (.pass) env = M.ret (.nx, env) := by first | rfl | (rw [evS] <;> rfl)
theorem qe_expr {C : Ctx} {env : Nv} {e : Mn.E} : evS C (.expr e) env = M.bind (evE C e env) (kmex env) := by first | rfl | (rw [evS] <;> rfl)
def kmset (C : Ctx) (p : Pat) (env : Nv) (d : D) : M (Flow × Nv) := M.bind (evP C p d env) kmnx
theorem q_set {C : Ctx} {p : Pat} {env : Nv} {d : D} : kmset C p env d = M.bind (evP C p d env) kmnx := rfl
theorem qe_set {C : Ctx} {env : Nv} {p : Pat} {e : Mn.E} : evS C (.set p e) env = M.bind (evE C e env) (kmset C p env) := by first | rfl | (rw [evS] <;> rfl)
theorem qe_whl {C : Ctx} {env : Nv} {c : Mn.E} {b : Sms} : evS C (.whl c b) env = whileF (evE C c) (evSs C b) FUEL env := by first | rfl | (rw [evS] <;> rfl)
def kmfr2 (C : Ctx) (p : Pat) (b : Sms) (env : Nv) (J : ItV) : M (Flow × Nv) := forF J (evP C p) (evSs C b) FUEL 0 env
theorem q_fr2 {C : Ctx} {p : Pat} {b : Sms} {env : Nv} {J : ItV} : kmfr2 C p b env J = forF J (evP C p) (evSs C b) FUEL 0 env := rfl
def kmfr (C : Ctx) (p : Pat) (i : IK) (b : Sms) (env : Nv) (xs : List D) : M (Flow × Nv) := M.bind (mkIt i xs) (kmfr2 C p b env)
theorem q_fr {C : Ctx} {p : Pat} {i : IK} {b : Sms} {env : Nv} {xs : List D} : kmfr C p i b env xs = M.bind (mkIt i xs) (kmfr2 C p b env) := rfl
theorem qe_fr {C : Ctx} {env : Nv} {p : Pat} {i : IK} {es : Es} {b : Sms} : evS C (.fr p i es b) env = M.bind (evEs C es env) (kmfr C p i b env) := by first | rfl | (rw [evS] <;> rfl)
def kmag2 (i : Nat) (env : Nv) (z : D) : M (Flow × Nv) := M.ret (.nx, env.set i (some z))
theorem q_ag2 {i : Nat} {env : Nv} {z : D} : kmag2 i env z = M.ret (.nx, env.set i (some z)) := rfl
def kmag (i : Nat) (o : BOp) (x : D) (env : Nv) (y : D) : M (Flow × Nv) := M.bind (augop o x y) (kmag2 i env)
theorem q_ag {i : Nat} {o : BOp} {x : D} {env : Nv} {y : D} : kmag i o x env y = M.bind (augop o x y) (kmag2 i env) := rfl
theorem qe_aug {C : Ctx} {env : Nv} {i : Nat} {o : BOp} {e : Mn.E} : evS C (.aug i o e) env = (match env[i]? with | some (some x) => M.bind (evE C e env) (kmag i o x env) | _ => M.bad) := by rw [evS] <;> rfl
theorem qe_v {C : Ctx} {env : Nv} {i : Nat} : evE C (.v i) env = (match env[i]? with | some (some d) => M.ret d | _ => M.bad) := by rw [evE] <;> rfl
theorem qe_pnm {C : Ctx} {env : Nv} {i : Nat} {d : D} : evP C (.nm i) d env = M.ret (env.set i (some d)) := by first | rfl | (rw [evP] <;> rfl)
theorem qe_ptup {C : Ctx} {env : Nv} {ps : Pats} {xs : List D} : evP C (.tup ps) (.tup xs) env = evPs C ps xs env := by first | rfl | (rw [evP] <;> rfl)
theorem qe_pnil {C : Ctx} {env : Nv} : evPs C .nil [] env = M.ret env := by first | rfl | (rw [evPs] <;> rfl)
def kmpc (C : Ctx) (r : Pats) (xs : List D) (env : Nv) : M Nv := evPs C r xs env
theorem q_pc {C : Ctx} {r : Pats} {xs : List D} {env : Nv} : kmpc C r xs env = evPs C r xs env := rfl
theorem qe_pcons {C : Ctx} {env : Nv} {p : Pat} {r : Pats} {x : D} {xs : List D} : evPs C (.cons p r) (x :: xs) env = M.bind (evP C p x env) (kmpc C r xs) := by first | rfl | (rw [evPs] <;> rfl)
theorem qe_fld {C : Ctx} {env : Nv} {a : Mn.E} {u f : Str} : evE C (.fld a u f) env = M.bind (evE C a env) (fldD u f) := by first | rfl | (rw [evE] <;> rfl)
def kmmc3 (C : Ctx) (g : Str) (x : D) (xs : List D) : M D := C.call g (x :: xs)
theorem q_mc3 {C : Ctx} {g : Str} {x : D} {xs : List D} : kmmc3 C g x xs = C.call g (x :: xs) := rfl
def kmmc2 (C : Ctx) (g : Str) (es : Es) (env : Nv) (x : D) (u : Unit) : M D := M.bind (evEs C es env) (kmmc3 C g x)
theorem q_mc2 {C : Ctx} {g : Str} {es : Es} {env : Nv} {x : D} {u : Unit} : kmmc2 C g es env x u = M.bind (evEs C es env) (kmmc3 C g x) := rfl
def kmmc (C : Ctx) (c m g : Str) (es : Es) (env : Nv) (x : D) : M D := M.bind (recD c m x) (kmmc2 C g es env x)
theorem q_mc {C : Ctx} {c m g : Str} {es : Es} {env : Nv} {x : D} : kmmc C c m g es env x = M.bind (recD c m x) (kmmc2 C g es env x) := rfl
theorem qe_mcall {C : Ctx} {env : Nv} {u m g : Str} {a : Mn.E} {es : Es} : evE C (.mcall u m g a es) env = M.bind (evE C a env) (kmmc C u m g es env) := by first | rfl | (rw [evE] <;> rfl)
def kmnw2 (n : Nat) (v : D) : M D := match v with
  | .non => M.ret (.loc n)
  | _ => M.bad
theorem q_nw2 {n : Nat} : kmnw2 n .non = M.ret (.loc n) := rfl
def kmnw (C : Ctx) (c g : Str) (xs : List D) : M D := fun S => M.bind (C.call g (.loc S.length :: xs)) (kmnw2 S.length) (S ++ [.obj c []])
theorem q_nw {C : Ctx} {c g : Str} {xs : List D} {Q : D → Store → Prop} {E : Exn → Store → Prop} {S : Store} : wpx (kmnw C c g xs) Q E S ↔ wpx (M.bind (C.call g (.loc S.length :: xs)) (kmnw2 S.length)) Q E (S ++ [.obj c []]) := Iff.rfl
theorem qe_new {C : Ctx} {env : Nv} {u g : Str} {es : Es} : evE C (.new u g es) env = M.bind (evEs C es env) (kmnw C u g) := by first | rfl | (rw [evE] <;> rfl)
def kmsf2 (env : Nv) (u : Unit) : M Nv := M.ret env
theorem q_sf2 {env : Nv} {u : Unit} : kmsf2 env u = M.ret env := rfl
def kmsf (c f : Str) (d : D) (env : Nv) (x : D) : M Nv := M.bind (sfdD c f d x) (kmsf2 env)
theorem q_sf {c f : Str} {d : D} {env : Nv} {x : D} : kmsf c f d env x = M.bind (sfdD c f d x) (kmsf2 env) := rfl
theorem qe_pfld {C : Ctx} {env : Nv} {a : Mn.E} {u f : Str} {d : D} : evP C (.fld a u f) d env = M.bind (nx (evE C a env)) (kmsf u f d env) := by first | rfl | (rw [evP] <;> rfl)
def kmaf4 (env : Nv) (u : Unit) : M (Flow × Nv) := M.ret (.nx, env)
theorem q_af4 {env : Nv} {u : Unit} : kmaf4 env u = M.ret (.nx, env) := rfl
def kmaf3 (c f : Str) (x : D) (env : Nv) (z : D) : M (Flow × Nv) := M.bind (sfdD c f z x) (kmaf4 env)
theorem q_af3 {c f : Str} {x : D} {env : Nv} {z : D} : kmaf3 c f x env z = M.bind (sfdD c f z x) (kmaf4 env) := rfl
def kmaf2 (c f : Str) (b : BOp) (x v : D) (env : Nv) (y : D) : M (Flow × Nv) := M.bind (augI b v y) (kmaf3 c f x env)
theorem q_af2 {c f : Str} {b : BOp} {x v : D} {env : Nv} {y : D} : kmaf2 c f b x v env y = M.bind (augI b v y) (kmaf3 c f x env) := rfl
def kmaf1 (C : Ctx) (c f : Str) (b : BOp) (e : Mn.E) (x : D) (env : Nv) (v : D) : M (Flow × Nv) := M.bind (evE C e env) (kmaf2 c f b x v env)
theorem q_af1 {C : Ctx} {c f : Str} {b : BOp} {e : Mn.E} {x : D} {env : Nv} {v : D} : kmaf1 C c f b e x env v = M.bind (evE C e env) (kmaf2 c f b x v env) := rfl
def kmaf (C : Ctx) (c f : Str) (b : BOp) (e : Mn.E) (env : Nv) (x : D) : M (Flow × Nv) := M.bind (fldD c f x) (kmaf1 C c f b e x env)
theorem q_af {C : Ctx} {c f : Str} {b : BOp} {e : Mn.E} {env : Nv} {x : D} : kmaf C c f b e env x = M.bind (fldD c f x) (kmaf1 C c f b e x env) := rfl
theorem qe_afld {C : Ctx} {env : Nv} {u f : Str} {b : BOp} {a e : Mn.E} : evS C (.afld a u f b e) env = M.bind (evE C a env) (kmaf C u f b e env) := by first | rfl | (rw [evS] <;> rfl)
theorem qe_bad {C : Ctx} {env : Nv} : evS C (.bad) env = M.bad := by first | rfl | (rw [evS] <;> rfl)
theorem q_nox {α : Type} {m : M α} {Q : α → Store → Prop} {E : Exn → Store → Prop} {S : Store} : wpx (nx m) Q E S ↔ wpx m Q E0x S := wpx_nx
def kmrai (c : Str) (fs : List Str) (xs : List D) : M (Flow × Nv) := M.bind (guard (decide (xs.length = fs.length) && xs.all scal)) fun _ => raisM ⟨c, fs.zip xs⟩
theorem q_rai {c : Str} {fs : List Str} {xs : List D} {Q : Flow × Nv → Store → Prop} {E : Exn → Store → Prop} {S : Store} : wpx (kmrai c fs xs) Q E S ↔ (decide (xs.length = fs.length) && xs.all scal) = true ∧ E ⟨c, fs.zip xs⟩ S := by unfold kmrai; rw [wpx_bind, wpx_guard, wpx_raisM]
theorem qe_rai {C : Ctx} {env : Nv} {u : Str} {fs : List Str} {es : Es} : evS C (.rai u fs es) env = M.bind (evEs C es env) (kmrai u fs) := by first | rfl | (rw [evS] <;> rfl)
def trpE (C : Ctx) (hs : Hds) (env : Nv) (Q : Flow × Nv → Store → Prop) (E : Exn → Store → Prop) : Exn → Store → Prop := fun x S => wpx (evHds C x hs env) Q E S
theorem q_tri {C : Ctx} {b : Sms} {hs : Hds} {env : Nv} {Q : Flow × Nv → Store → Prop} {E : Exn → Store → Prop} {S : Store} : wpx (evS C (.tri b hs) env) Q E S ↔ wpx (evSs C b env) Q (trpE C hs env Q E) S := by rw [evS]; exact wpx_trapM
theorem q_trp {C : Ctx} {hs : Hds} {env : Nv} {Q : Flow × Nv → Store → Prop} {E : Exn → Store → Prop} {S : Store} {x : Exn} : trpE C hs env Q E x S ↔ wpx (evHds C x hs env) Q E S := Iff.rfl
def kmhd (C : Ctx) (x : Exn) (sl : Option Nat) (h : Hs) (r : Hds) (env : Nv) (k : Bool) : M (Flow × Nv) := match k with
  | true => M.bind (guard (slOk sl env)) fun _ => M.bind (evH C x h (wipeO env sl)) fun q => M.ret (q.1, wipeO q.2 sl)
  | false => evHds C x r env
theorem q_hdT {C : Ctx} {x : Exn} {sl : Option Nat} {h : Hs} {r : Hds} {env : Nv} : kmhd C x sl h r env true = M.bind (guard (slOk sl env)) fun _ => M.bind (evH C x h (wipeO env sl)) fun q => M.ret (q.1, wipeO q.2 sl) := rfl
theorem q_sl0x {env : Nv} : slOk none env = true := rfl
theorem q_slS {i : Nat} {env : Nv} : slOk (some i) env = decide (i < env.length) := rfl
theorem q_wo0 {env : Nv} : wipeO env none = env := rfl
theorem q_woS {i : Nat} {env : Nv} : wipeO env (some i) = env.set i none := rfl
theorem q_hdF {C : Ctx} {x : Exn} {sl : Option Nat} {h : Hs} {r : Hds} {env : Nv} : kmhd C x sl h r env false = evHds C x r env := rfl
theorem qe_hds {C : Ctx} {x : Exn} {cs : List Str} {sl : Option Nat} {h : Hs} {r : Hds} {env : Nv} : evHds C x (.cons cs sl h r) env = kmhd C x sl h r env (cs.contains x.cls) := by rw [evHds]; rfl
theorem q_hd0 {C : Ctx} {x : Exn} {env : Nv} {Q : Flow × Nv → Store → Prop} {E : Exn → Store → Prop} {S : Store} : wpx (evHds C x .nil env) Q E S ↔ E x S := by rw [evHds]; exact Iff.rfl
theorem qe_h0 {C : Ctx} {x : Exn} {env : Nv} : evH C x .nil env = M.ret (.nx, env) := by rw [evH]
theorem qe_hr {C : Ctx} {x : Exn} {e : Hx} {env : Nv} : evH C x (.ret e) env = M.bind (opt (evX x env e)) (kmret env) := by rw [evH]; rfl
def kmhset (C : Ctx) (x : Exn) (i : Nat) (r : Hs) (env : Nv) (d : D) : M (Flow × Nv) := evH C x r (env.set i (some d))
theorem q_hset {C : Ctx} {x : Exn} {i : Nat} {r : Hs} {env : Nv} {d : D} : kmhset C x i r env d = evH C x r (env.set i (some d)) := rfl
theorem qe_hset {C : Ctx} {x : Exn} {i : Nat} {e : Hx} {r : Hs} {env : Nv} : evH C x (.set i e r) env = M.bind (opt (evX x env e)) (kmhset C x i r env) := by rw [evH]; rfl
def kmhif2 (C : Ctx) (x : Exn) (a : Hx) (r : Hs) (env : Nv) (k : Bool) : M (Flow × Nv) := match k with
  | true => M.bind (opt (evX x env a)) (kmret env)
  | false => evH C x r env
theorem q_hif2T {C : Ctx} {x : Exn} {a : Hx} {r : Hs} {env : Nv} : kmhif2 C x a r env true = M.bind (opt (evX x env a)) (kmret env) := rfl
theorem q_hif2F {C : Ctx} {x : Exn} {a : Hx} {r : Hs} {env : Nv} : kmhif2 C x a r env false = evH C x r env := rfl
def kmhif (C : Ctx) (x : Exn) (a : Hx) (r : Hs) (env : Nv) (b : D) : M (Flow × Nv) := M.bind (asB b) (kmhif2 C x a r env)
theorem q_hif {C : Ctx} {x : Exn} {a : Hx} {r : Hs} {env : Nv} {b : D} : kmhif C x a r env b = M.bind (asB b) (kmhif2 C x a r env) := rfl
theorem qe_hif {C : Ctx} {x : Exn} {c a : Hx} {r : Hs} {env : Nv} : evH C x (.ife c a r) env = M.bind (opt (evX x env c)) (kmhif C x a r env) := by rw [evH]; unfold M.bind; funext S; cases evX x env c <;> first | rfl | (rename_i d; cases d <;> first | rfl | (rename_i b; cases b <;> rfl))
theorem qe_hgen {C : Ctx} {x : Exn} {b : Sms} {env : Nv} : evH C x (.gen b) env = evSs C b env := by rw [evH]
def kmsb4 (n : Nat) (env : Nv) (c : Cell) : M Nv := M.bind (wrC n c) fun _ => M.ret env
theorem q_sb4 {n : Nat} {env : Nv} {c : Cell} : kmsb4 n env c = M.bind (wrC n c) fun _ => M.ret env := rfl
def kmsb3 (n : Nat) (y d : D) (env : Nv) (c : Cell) : M Nv := M.bind (putC c y d) (kmsb4 n env)
theorem q_sb3 {n : Nat} {y d : D} {env : Nv} {c : Cell} : kmsb3 n y d env c = M.bind (putC c y d) (kmsb4 n env) := rfl
def kmsb2 (d : D) (env : Nv) (x y : D) : M Nv := match x, y with
  | .loc n, y => M.bind (getC n) (kmsb3 n y d env)
  | _, _ => M.bad
theorem q_sb2 {d y : D} {env : Nv} {n : Nat} : kmsb2 d env (.loc n) y = M.bind (getC n) (kmsb3 n y d env) := by cases y <;> rfl
def kmdn5 (n : Nat) (u : Unit) : M D := M.ret (.loc n)
theorem q_dn5 {n : Nat} {u : Unit} : kmdn5 n u = M.ret (.loc n) := rfl
def kmdn4 (n : Nat) (c : Cell) : M D := M.bind (wrC n c) (kmdn5 n)
theorem q_dn4 {n : Nat} {c : Cell} : kmdn4 n c = M.bind (wrC n c) (kmdn5 n) := rfl
def kmdn3 (n : Nat) (y z : D) (c : Cell) : M D := M.bind (putE c y z) (kmdn4 n)
theorem q_dn3 {n : Nat} {y z : D} {c : Cell} : kmdn3 n y z c = M.bind (putE c y z) (kmdn4 n) := rfl
def kmdn2 (n : Nat) (y : D) (z : D) : M D := M.bind (getC n) (kmdn3 n y z)
theorem q_dn2 {n : Nat} {y : D} {z : D} : kmdn2 n y z = M.bind (getC n) (kmdn3 n y z) := rfl
def kmdn1 (C : Ctx) (n : Nat) (b : Mn.E) (env : Nv) (y : D) : M D := M.bind (evE C b env) (kmdn2 n y)
theorem q_dn1 {C : Ctx} {n : Nat} {b : Mn.E} {env : Nv} {y : D} : kmdn1 C n b env y = M.bind (evE C b env) (kmdn2 n y) := rfl
theorem q_dn {C : Ctx} {a b : Mn.E} {env : Nv} {Q : D → Store → Prop} {E : Exn → Store → Prop} {S : Store} : wpx (evE C (.dnew1 a b) env) Q E S ↔ wpx (M.bind (evE C a env) (kmdn1 C S.length b env)) Q E (S ++ [.dct []]) := by rw [evE]; exact Iff.rfl
theorem qe_dnew {C : Ctx} {env : Nv} : evE C (.dnew) env = alloc (.dct []) := by first | rfl | (rw [evE] <;> rfl)
def kmdc2 (C : Ctx) (ke ve : Mn.E) (sl : Nat) (own : List Nat) (cond : Mn.E) (env : Nv) (J : ItV) : M D := fun S => dcompF J (putD sl) (evE C cond) (evE C ke) (evE C ve) (wipeD env own) S.length FUEL 0 (S ++ [.dct []])
theorem q_dc2 {C : Ctx} {ke ve : Mn.E} {sl : Nat} {own : List Nat} {cond : Mn.E} {env : Nv} {J : ItV} {Q : D → Store → Prop} {E : Exn → Store → Prop} {S : Store} : wpx (kmdc2 C ke ve sl own cond env J) Q E S ↔ wpx (dcompF J (putD sl) (evE C cond) (evE C ke) (evE C ve) (wipeD env own) S.length FUEL 0) Q E (S ++ [.dct []]) := Iff.rfl
def kmdc (C : Ctx) (ke ve : Mn.E) (sl : Nat) (own : List Nat) (i : IK) (cond : Mn.E) (env : Nv) (xs : List D) : M D := M.bind (mkIt i xs) (kmdc2 C ke ve sl own cond env)
theorem q_dc {C : Ctx} {ke ve : Mn.E} {sl : Nat} {own : List Nat} {i : IK} {cond : Mn.E} {env : Nv} {xs : List D} : kmdc C ke ve sl own i cond env xs = M.bind (mkIt i xs) (kmdc2 C ke ve sl own cond env) := rfl
theorem qe_dcomp {C : Ctx} {env : Nv} {ke ve : Mn.E} {sl : Nat} {own : List Nat} {i : IK} {es : Es} {cond : Mn.E} : evE C (.dcomp ke ve sl own i es cond) env = M.bind (evEs C es env) (kmdc C ke ve sl own i cond env) := by first | rfl | (rw [evE] <;> rfl)
def kmsb (C : Ctx) (i : Mn.E) (d : D) (env : Nv) (x : D) : M Nv := M.bind (nx (evE C i env)) (kmsb2 d env x)
theorem q_sb {C : Ctx} {i : Mn.E} {d : D} {env : Nv} {x : D} : kmsb C i d env x = M.bind (nx (evE C i env)) (kmsb2 d env x) := rfl
theorem qe_psub {C : Ctx} {env : Nv} {a i : Mn.E} {d : D} : evP C (.sub a i) d env = M.bind (nx (evE C a env)) (kmsb C i d env) := by first | rfl | (rw [evP] <;> rfl)
theorem q_inT {d : D} {ys : List D} : inM d (.tup ys) = opt (inAll d ys) := by cases d <;> rfl
theorem q_inL {d : D} {n : Nat} : inM d (.loc n) = M.bind (getC n) (kmin d) := by cases d <;> rfl
end Mn
/-! Mn by value: lists in names, no store; for defs that keep their lists to themselves. -/
namespace Mn
open PySem L2
inductive Rv (α : Type) where
  | ok (a : α)
  | exc (e : Exn)
  | bad
namespace Rv
def bind {α β : Type} (r : Rv α) (f : α → Rv β) : Rv β := match r with
  | .ok a => f a
  | .exc e => .exc e
  | .bad => .bad
end Rv
/-- no exception leaves -/
def nxV {α : Type} (r : Rv α) : Rv α := match r with
  | .ok a => .ok a
  | _ => .bad
theorem nxV_ok {α : Type} {a : α} : nxV (Rv.ok a) = .ok a := Eq.trans rfl rfl
def optV {α : Type} : Option α → Rv α
  | some a => .ok a
  | none => .bad
def guardV (c : Bool) : Rv Unit := match c with
  | true => .ok ()
  | false => .bad
theorem rv_ok {α β : Type} {a : α} {f : α → Rv β} : (Rv.ok a).bind f = f a := Eq.trans rfl rfl
theorem rv_exc {α β : Type} {e : Exn} {f : α → Rv β} : (Rv.exc e).bind f = .exc e := rfl
theorem rv_bad {α β : Type} {f : α → Rv β} : (Rv.bad : Rv α).bind f = .bad := rfl
theorem ov_some {α : Type} {a : α} : optV (some a) = .ok a := Eq.trans rfl rfl
theorem gv_true : guardV true = .ok () := Eq.trans rfl rfl
-- a value without places and lists
mutual
def plain : D → Bool
  | .tup xs => plains xs
  | .loc _ => false
  | .lst _ => false
  | .dct _ _ => false
  | .non => true
  | .bl _ => true
  | .int _ => true
  | .str _ => true
def plains : List D → Bool
  | [] => true
  | x :: xs => plain x && plains xs
end
structure CV where
  glob : Str → Option D
  call : Str → List D → Rv D
def pyL : D → Option PyData
  | .lst xs => (pyAll xs).map .list
  | d => py d
def eqV (x y : D) : Rv Bool := match pyL x, pyL y with
  | some a, some b => if fitEq x y a b = true then .ok (PyData.eqv a b) else .bad
  | _, _ => .bad
def inV (x y : D) : Rv Bool := match y with
  | .str z => match x with
    | .str w => .ok (!(Builtin.Str.occurrences z w 0 z.length 1).isEmpty)
    | _ => .bad
  | .tup ys => optV (inAll x ys)
  | .lst ys => optV (inAll x ys)
  | .dct ks vs => optV (dHas (ks.zip vs) x)
  | _ => .bad
def cmpV : COp → D → D → Rv Bool
  | .eq, x, y => eqV x y
  | .ne, x, y => (eqV x y).bind fun b => .ok (!b)
  | .lt, x, y => optV (ltD 100 x y)
  | .gt, .int i, .int j => .ok (decide (j < i))
  | .le, .int i, .int j => .ok (decide (i ≤ j))
  | .ge, .int i, .int j => .ok (decide (j ≤ i))
  | .isn, x, .non => .ok (match x with | .non => true | _ => false)
  | .isnn, x, .non => .ok (match x with | .non => false | _ => true)
  | .inn, x, y => inV x y
  | .nin, x, y => (inV x y).bind fun b => .ok (!b)
  | _, _, _ => .bad
def binV : BOp → D → D → Rv D
  | .add, .int i, .int j => .ok (.int (i + j))
  | .add, .str x, .str y => (guardV (ok2 (x.length + y.length))).bind fun _ => .ok (.str (x ++ y))
  | .add, .tup xs, .tup ys => (guardV (ok2 (xs ++ ys).length)).bind fun _ => .ok (.tup (xs ++ ys))
  | .add, .lst xs, .lst ys => (guardV (ok2 (xs ++ ys).length)).bind fun _ => .ok (.lst (xs ++ ys))
  | .sub, .int i, .int j => .ok (.int (i - j))
  | .mul, .int i, .int j => (guardV (cMul i j)).bind fun _ => .ok (.int (i * j))
  | .mul, .str x, .int j => (guardV (decide (x.length ≤ 1000) && decide (-1000 ≤ j) && decide (j ≤ 1000))).bind fun _ => .ok (.str ⟨(rep x.cps.toList j.toNat).toArray⟩)
  | .mul, .tup xs, .int j => (guardV (!xs.isEmpty && decide (0 ≤ j) && decide (j ≤ 1000) && decide (xs.length ≤ 1000))).bind fun _ => .ok (.tup (rep xs j.toNat))
  | .mul, .lst xs, .int j => (guardV (decide (-(2 ^ 63) ≤ j) && decide (j < 2 ^ 63) && ok2 (xs.length * j.toNat))).bind fun _ => .ok (.lst (rep xs j.toNat))
  | .mod, .int i, .int j => (guardV (decide (0 < j))).bind fun _ => .ok (.int (i % j))
  | .fdiv, .int i, .int j => (guardV (decide (0 < j) && decide (j < 1073741824))).bind fun _ => .ok (.int (i / j))
  | .pow, .int i, .int j => (guardV (decide (0 ≤ j) && decide (j ≤ 1000000) && decide (i.natAbs < 2 ^ 64))).bind fun _ => .ok (.int (i ^ j.toNat))
  | _, _, _ => .bad
def augV : BOp → D → D → Rv D
  | .add, .int i, .int j => .ok (.int (i + j))
  | .add, .str x, .str y => (guardV (ok2 (x.length + y.length))).bind fun _ => .ok (.str (x ++ y))
  | .sub, .int i, .int j => .ok (.int (i - j))
  | _, _, _ => .bad
def truV : D → Rv Bool
  | .non => .ok false
  | .bl b => .ok b
  | .int i => .ok (i != 0)
  | .str x => (guardV (ok2 x.length)).bind fun _ => .ok ((x.length : Int) != 0)
  | .tup xs => .ok (!xs.isEmpty)
  | .lst xs => .ok (!xs.isEmpty)
  | _ => .bad
def asBV : D → Rv Bool
  | .bl b => .ok b
  | _ => .bad
def asIV : D → Rv Int
  | .int i => .ok i
  | _ => .bad
def idxV : D → D → Rv D
  | .tup xs, .int i => optV (atI xs i)
  | .str x, .int i => (guardV (ok2 x.length)).bind fun _ => optV ((atI x.cps.toList i).map fun c => .str ⟨#[c]⟩)
  | .lst xs, .int i => optV (atI xs i)
  | .dct ks vs, y => optV (dGet (ks.zip vs) y)
  | _, _ => .bad
def mkD (kvs : List (NK × D)) : D := .dct (kvs.map (·.1)) (kvs.map (·.2))
def slcV (x : D) (lo hi : Option Int) : Rv D := match x with
  | .tup xs => .ok (.tup (cutD xs lo hi))
  | .str z => (guardV (ok2 z.length)).bind fun _ => .ok (.str (cutS z lo hi))
  | .lst xs => .ok (.lst (cutD xs lo hi))
  | _ => .bad
def seqV : D → Rv (List D)
  | .tup xs => .ok xs
  | .lst xs => .ok xs
  | _ => .bad
def reprV (d : D) : Rv D := match pyL d with
  | some a => if a.showable && !a.hasDict && decide (a.depth ≤ 150) && decide (a.shown.length ≤ sizeLine) then .ok (.str a.shown) else .bad
  | none => .bad
def biV : Bi → List D → Rv D
  | .len, [.str x] => (guardV (ok2 x.length)).bind fun _ => .ok (.int x.length)
  | .len, [.dct ks vs] => .ok (.int (ks.zip vs).length)
  | .len, [d] => (seqV d).bind fun xs => .ok (.int xs.length)
  | .int, [.int i] => .ok (.int i)
  | .int, [.bl b] => .ok (.int (if b then 1 else 0))
  | .abs, [.int i] => .ok (.int (if i < 0 then -i else i))
  | .max2, [.int i, .int j] => .ok (.int (if j > i then j else i))
  | .min2, [.int i, .int j] => .ok (.int (if j < i then j else i))
  | .max1, [.lst xs] => (optV (intsD xs)).bind fun is => (guardV (!is.isEmpty)).bind fun _ => .ok (.int (maxI is))
  | .min1, [.lst xs] => (optV (intsD xs)).bind fun is => (guardV (!is.isEmpty)).bind fun _ => .ok (.int (minI is))
  | .sum, [.lst xs] => (optV (intsD xs)).bind fun is => .ok (.int is.sum)
  | .list, [d] => (seqV d).bind fun xs => .ok (.lst xs)
  | .tuple, [d] => (seqV d).bind fun xs => .ok (.tup xs)
  | .str, [.int i] => (guardV (decide (i.natAbs.log2 < 1920))).bind fun _ => .ok (.str (toString i))
  | .str, [.str x] => .ok (.str x)
  | .repr, [.int i] => (guardV (decide (i.natAbs.log2 < 1920))).bind fun _ => .ok (.str (toString i))
  | .repr, [.str x] => (guardV (ok2 (reprText x).length)).bind fun _ => .ok (.str (reprText x))
  | .repr, [.bl b] => .ok (.str (if b then "True" else "False"))
  | .repr, [.non] => .ok (.str "None")
  | .repr, [.tup xs] => reprV (.tup xs)
  | .repr, [.lst xs] => reprV (.lst xs)
  | .all, [.lst xs] => (optV (boolsD xs)).bind fun bs => .ok (.bl (bs.all id))
  | .any, [.lst xs] => (optV (boolsD xs)).bind fun bs => .ok (.bl (bs.any id))
  | .join, [.str a, d] => (seqV d).bind fun xs => (optV (strsD xs)).bind fun ys => (guardV (decide (lenJ a ys ≤ 16777216))).bind fun _ => .ok (.str (Txt.join a ys))
  | .split, [.str a, .str b] => (guardV (!(b.length == 0) && decide (a.length + 2 ≤ sizeLine))).bind fun _ => .ok (.lst ((Txt.split a b).map .str))
  | .startswith, [.str a, .str b] => .ok (.bl (Txt.startswith a b))
  | .isList, [d] => match d with
    | .lst _ => .ok (.bl true)
    | .dct _ _ => .bad
    | _ => .ok (.bl false)
  | .isTuple, [d] => .ok (.bl (match d with | .tup _ => true | _ => false))
  | .isStr, [d] => .ok (.bl (match d with | .str _ => true | _ => false))
  | .isInt, [d] => .ok (.bl (match d with | .int _ => true | .bl _ => true | _ => false))
  | .isBool, [d] => .ok (.bl (match d with | .bl _ => true | _ => false))
  | _, _ => .bad
def recvV : Bi → D → Rv Unit
  | .join, .str _ => .ok ()
  | .split, .str _ => .ok ()
  | .startswith, .str _ => .ok ()
  | _, _ => .bad
def strItems (x : Str) : List D := x.cps.toList.map fun c => .str ⟨#[c]⟩
def itemsV : IK → List D → Rv (List D)
  | .rng1, [.int j] => (guardV (decide (-(2 ^ 62) ≤ j) && decide (j < 2 ^ 62))).bind fun _ => .ok (rngD 0 j.toNat)
  | .rng2, [.int i, .int j] => (guardV (decide (-(2 ^ 62) ≤ i) && decide (i < 2 ^ 62) && decide (-(2 ^ 62) ≤ j) && decide (j < 2 ^ 62))).bind fun _ => .ok (rngD i (j - i).toNat)
  | .seq, [.tup xs] => .ok xs
  | .seq, [.str x] => .ok (strItems x)
  | .seq, [.lst xs] => .ok xs
  | .rev, [.lst xs] => .ok xs.reverse
  | .rev, [.tup xs] => .ok xs.reverse
  | _, _ => .bad
/-- a comprehension's turns -/
def compV (put : D → Nv → Nv) (cond elt : Nv → Rv D) (env : Nv) : List D → List D → Rv (List D)
  | [], acc => .ok acc
  | d :: ds, acc => (nxV (cond (put d env))).bind fun b => (asBV b).bind fun b => match b with
    | true => (nxV (elt (put d env))).bind fun y => (guardV (decide (acc.length < sizeLine))).bind fun _ => compV put cond elt env ds (acc ++ [y])
    | false => compV put cond elt env ds acc
/-- a dict comprehension's turns -/
def dcompV (put : D → Nv → Nv) (cond ke ve : Nv → Rv D) (env : Nv) : List D → List (NK × D) → Rv (List (NK × D))
  | [], acc => .ok acc
  | d :: ds, acc => (nxV (cond (put d env))).bind fun b => (asBV b).bind fun b => match b with
    | true => (nxV (ke (put d env))).bind fun y => (guardV (scK y)).bind fun _ => (nxV (ve (put d env))).bind fun z => (optV (dSet acc y z)).bind fun acc' => dcompV put cond ke ve env ds acc'
    | false => dcompV put cond ke ve env ds acc
def whileV (c : Nv → Rv D) (b : Nv → Rv (Flow × Nv)) : Nat → Nv → Rv (Flow × Nv)
  | 0, _ => .bad
  | f + 1, env => (c env).bind fun x => (asBV x).bind fun x => match x with
    | false => .ok (.nx, env)
    | true => (b env).bind fun r => match r with
      | (.nx, env') => whileV c b f env'
      | (.ct, env') => whileV c b f env'
      | (.bk, env') => .ok (.nx, env')
      | (.rt d, env') => .ok (.rt d, env')
def forV (asg : D → Nv → Rv Nv) (b : Nv → Rv (Flow × Nv)) : List D → Nv → Rv (Flow × Nv)
  | [], env => .ok (.nx, env)
  | d :: ds, env => (asg d env).bind fun env1 => (b env1).bind fun r => match r with
    | (.nx, env') => forV asg b ds env'
    | (.ct, env') => forV asg b ds env'
    | (.bk, env') => .ok (.nx, env')
    | (.rt d, env') => .ok (.rt d, env')
def lenOk (xs : List D) : Rv Unit := guardV (decide (xs.length ≤ 2000000000))
mutual
def vE (C : CV) : E → Nv → Rv D
  | .c d, _ => .ok d
  | .v i, env => match env[i]? with
    | some (some d) => .ok d
    | _ => .bad
  | .g x, _ => optV (C.glob x)
  | .bin o a b, env => (vE C a env).bind fun x => (vE C b env).bind fun y => binV o x y
  | .neg a, env => (vE C a env).bind fun x => (asIV x).bind fun i => .ok (.int (-i))
  | .cmp o a b, env => (vE C a env).bind fun x => (vE C b env).bind fun y => (cmpV o x y).bind fun b => .ok (.bl b)
  | .cmp3 o o2 a b c, env => (vE C a env).bind fun x => (vE C b env).bind fun y => (cmpV o x y).bind fun k => match k with
    | true => (vE C c env).bind fun z => (cmpV o2 y z).bind fun k => .ok (.bl k)
    | false => .ok (.bl false)
  | .tr a, env => (vE C a env).bind fun x => (truV x).bind fun b => .ok (.bl b)
  | .not a, env => (vE C a env).bind fun x => (asBV x).bind fun b => .ok (.bl (!b))
  | .and a b, env => (vE C a env).bind fun x => (asBV x).bind fun k => match k with
    | true => vE C b env
    | false => .ok (.bl false)
  | .or a b, env => (vE C a env).bind fun x => (asBV x).bind fun k => match k with
    | true => .ok (.bl true)
    | false => vE C b env
  | .vand a b, env => (vE C a env).bind fun x => (truV x).bind fun k => match k with
    | true => vE C b env
    | false => .ok x
  | .vor a b, env => (vE C a env).bind fun x => (truV x).bind fun k => match k with
    | true => .ok x
    | false => vE C b env
  | .ite c a b, env => (vE C c env).bind fun x => (asBV x).bind fun k => match k with
    | true => vE C a env
    | false => vE C b env
  | .tup es, env => (vEs C es env).bind fun xs => (guardV (ok2 xs.length)).bind fun _ => .ok (.tup xs)
  | .lst es, env => (vEs C es env).bind fun xs => (guardV (ok2 xs.length)).bind fun _ => .ok (.lst xs)
  | .idx a b, env => (vE C a env).bind fun x => (vE C b env).bind fun y => idxV x y
  | .slc0 a, env => (vE C a env).bind fun x => slcV x none none
  | .slcL a lo, env => (vE C a env).bind fun x => (vE C lo env).bind fun y => (asIV y).bind fun l => slcV x (some l) none
  | .slcH a hi, env => (vE C a env).bind fun x => (vE C hi env).bind fun z => (asIV z).bind fun h => slcV x none (some h)
  | .slcB a lo hi, env => (vE C a env).bind fun x => (vE C lo env).bind fun y => (asIV y).bind fun l => (vE C hi env).bind fun z => (asIV z).bind fun h => slcV x (some l) (some h)
  | .fld _ _ _, _ => .bad
  | .mcall _ _ _ _ _, _ => .bad
  | .new _ _ _, _ => .bad
  | .call f es, env => (vEs C es env).bind fun xs => C.call f xs
  | .bi b es, env => (vEs C es env).bind fun xs => biV b xs
  | .meth b o es, env => (vE C o env).bind fun x => (recvV b x).bind fun _ => (vEs C es env).bind fun xs => biV b (x :: xs)
  | .comp elt sl own k es cond, env => (vEs C es env).bind fun xs => (itemsV k xs).bind fun it => (lenOk it).bind fun _ =>
      (compV (putD sl) (vE C cond) (vE C elt) (wipeD env own) it []).bind fun ys => .ok (.lst ys)
  | .dnew, _ => .ok (.dct [] [])
  | .dnew1 k v, env => (vE C k env).bind fun y => (vE C v env).bind fun z => (optV (dSet [] y z)).bind fun kvs => .ok (mkD kvs)
  | .dcomp ke ve sl own k es cond, env => (vEs C es env).bind fun xs => (itemsV k xs).bind fun it => (lenOk it).bind fun _ =>
      (dcompV (putD sl) (vE C cond) (vE C ke) (vE C ve) (wipeD env own) it []).bind fun kvs => .ok (mkD kvs)
def vEs (C : CV) : Es → Nv → Rv (List D)
  | .nil, _ => .ok []
  | .cons e r, env => (vE C e env).bind fun x => (vEs C r env).bind fun xs => .ok (x :: xs)
end
/-- the methods that change a list -/
def isMut : Bi → Bool
  | .append => true
  | .pop0 => true
  | .pop1 => true
  | .extend => true
  | .insert => true
  | .reverse => true
  | _ => false
def mutV : Bi → List D → List D → Rv (D × List D)
  | .append, xs, [d] => (guardV (decide (xs.length < sizeLine))).bind fun _ => .ok (.non, xs ++ [d])
  | .pop0, xs, [] => (optV xs[xs.length - 1]?).bind fun d => .ok (d, xs.dropLast)
  | .pop1, xs, [.int i] => (guardV (decide (-(2 ^ 63) ≤ i) && decide (i < 2 ^ 63))).bind fun _ => (optV (seqIndex? i xs.length)).bind fun k => (optV xs[k]?).bind fun d => .ok (d, xs.eraseIdx k)
  | .extend, xs, [.lst ys] => (guardV (ok2 (xs.length + ys.length))).bind fun _ => .ok (.non, xs ++ ys)
  | .extend, xs, [.tup ys] => (guardV (ok2 (xs.length + ys.length))).bind fun _ => .ok (.non, xs ++ ys)
  | .insert, xs, [.int i, d] => (guardV (decide (xs.length < sizeLine) && decide (0 ≤ i) && decide (i < 2 ^ 63))).bind fun _ => .ok (.non, xs.take i.toNat ++ [d] ++ xs.drop i.toNat)
  | .reverse, xs, [] => .ok (.non, xs.reverse)
  | _, _, _ => .bad
def lstAt (env : Nv) (i : Nat) : Rv (List D) := match env[i]? with
  | some (some (.lst xs)) => .ok xs
  | _ => .bad
/-- a name's list or dict -/
def cellV (env : Nv) (i : Nat) : Rv D := match env[i]? with
  | some (some (.lst xs)) => .ok (.lst xs)
  | some (some (.dct ks vs)) => .ok (.dct ks vs)
  | _ => .bad
def putV : D → D → D → Rv D
  | .lst xs, y, d => (asIV y).bind fun y => (optV (ixN xs.length y)).bind fun j => .ok (.lst (xs.set j d))
  | .dct ks vs, y, d => (optV (dSet (ks.zip vs) y d)).bind fun kvs => .ok (mkD kvs)
  | _, _, _ => .bad
mutual
def vP : Pat → D → Nv → Rv Nv
  | .nm i, d, env => .ok (env.set i (some d))
  | .tup ps, d, env => match d with
    | .tup xs => vPs ps xs env
    | _ => .bad
  | .sub _ _, _, _ => .bad
  | .fld _ _ _, _, _ => .bad
def vPs : Pats → List D → Nv → Rv Nv
  | .nil, [], env => .ok env
  | .cons p r, x :: xs, env => (vP p x env).bind fun env' => vPs r xs env'
  | _, _, _ => .bad
end
/-- a call of a changing method of a name's list -/
def mthV (C : CV) (b : Bi) (i : Nat) (es : Es) (env : Nv) : Rv (D × Nv) := (lstAt env i).bind fun _ => (vEs C es env).bind fun ys => (lstAt env i).bind fun xs => (mutV b xs ys).bind fun r => .ok (r.1, env.set i (some (.lst r.2)))
/-- how a statement is read -/
inductive SK where
  | mth (b : Bi) (i : Nat) (es : Es)
  | mset (j : Nat) (b : Bi) (i : Nat) (es : Es)
  | sub (i : Nat) (k e : E)
  | other
def kindS : Sm → SK
  | .expr (.meth b (.v i) es) => match isMut b with
    | true => .mth b i es
    | false => .other
  | .set (.nm j) (.meth b (.v i) es) => match isMut b with
    | true => .mset j b i es
    | false => .other
  | .set (.sub (.v i) k) e => .sub i k e
  | _ => .other
mutual
def vS (C : CV) : Sm → Nv → Rv (Flow × Nv)
  | .expr e, env => match kindS (.expr e) with
    | .mth b i es => (mthV C b i es env).bind fun r => .ok (.nx, r.2)
    | _ => (vE C e env).bind fun _ => .ok (.nx, env)
  | .set p e, env => match kindS (.set p e) with
    | .mset j b i es => (mthV C b i es env).bind fun r => .ok (.nx, r.2.set j (some r.1))
    | .sub i k e => (vE C e env).bind fun d => (cellV env i).bind fun _ => (nxV (vE C k env)).bind fun y => (cellV env i).bind fun c => (putV c y d).bind fun c' => .ok (.nx, env.set i (some c'))
    | _ => (vE C e env).bind fun d => (vP p d env).bind fun env' => .ok (.nx, env')
  | .par i j a b, env => (vE C a env).bind fun x => (vE C b env).bind fun y => .ok (.nx, (env.set i (some x)).set j (some y))
  | .aug i o e, env => match env[i]? with
    | some (some x) => (vE C e env).bind fun y => (augV o x y).bind fun z => .ok (.nx, env.set i (some z))
    | _ => .bad
  | .afld _ _ _ _ _, _ => .bad
  | .bad, _ => .bad
  | .rai c fs es, env => (vEs C es env).bind fun xs => (guardV (decide (xs.length = fs.length) && xs.all scal)).bind fun _ => .exc ⟨c, fs.zip xs⟩
  | .tri _ _, _ => .bad
  | .ret e, env => (vE C e env).bind fun d => .ok (.rt d, env)
  | .ife c a b, env => (vE C c env).bind fun x => (asBV x).bind fun k => match k with
    | true => vSs C a env
    | false => vSs C b env
  | .whl c b, env => whileV (vE C c) (vSs C b) FUEL env
  | .fr p k es b, env => (vEs C es env).bind fun xs => (itemsV k xs).bind fun it => (lenOk it).bind fun _ => forV (vP p) (vSs C b) it env
  | .brk, env => .ok (.bk, env)
  | .cnt, env => .ok (.ct, env)
  | .pass, env => .ok (.nx, env)
def vSs (C : CV) : Sms → Nv → Rv (Flow × Nv)
  | .nil, env => .ok (.nx, env)
  | .cons s r, env => (vS C s env).bind fun q => match q with
    | (.nx, env') => vSs C r env'
    | (f, env') => .ok (f, env')
end
-- the check: names whose lists change are their only holders
mutual
def okE (mt : List Nat) : E → Bool
  | .c d => plain d
  | .v i => !mt.contains i
  | .g _ => true
  | .bin _ a b => okB mt a && okB mt b
  | .neg a => okB mt a
  | .cmp _ a b => okB mt a && okB mt b
  | .cmp3 _ _ a b c => okB mt a && okB mt b && okB mt c
  | .tr a => okB mt a
  | .not a => okB mt a
  | .and a b => okB mt a && okE mt b
  | .or a b => okB mt a && okE mt b
  | .vand a b => okE mt a && okE mt b
  | .vor a b => okE mt a && okE mt b
  | .ite c a b => okB mt c && okE mt a && okE mt b
  | .tup es => okEs mt es
  | .lst es => okEs mt es
  | .idx a b => okB mt a && okB mt b
  | .slc0 a => okB mt a
  | .slcL a b => okB mt a && okB mt b
  | .slcH a b => okB mt a && okB mt b
  | .slcB a b c => okB mt a && okB mt b && okB mt c
  | .call _ es => okEs mt es
  | .bi _ es => okBs mt es
  | .meth _ o es => okB mt o && okBs mt es
  | .comp elt sl own _ es cond => okBs mt es && okE mt elt && okB mt cond && !mt.contains sl && own.all fun j => !mt.contains j
  | .dnew => true
  | .dnew1 k v => okB mt k && okE mt v
  | .fld _ _ _ => false
  | .mcall _ _ _ _ _ => false
  | .new _ _ _ => false
  | .dcomp ke ve sl own _ es cond => okBs mt es && okB mt ke && okE mt ve && okB mt cond && !mt.contains sl && own.all fun j => !mt.contains j
def okB (mt : List Nat) : E → Bool
  | .v _ => true
  | .c d => plain d
  | .g _ => true
  | .bin _ a b => okB mt a && okB mt b
  | .neg a => okB mt a
  | .cmp _ a b => okB mt a && okB mt b
  | .cmp3 _ _ a b c => okB mt a && okB mt b && okB mt c
  | .tr a => okB mt a
  | .not a => okB mt a
  | .and a b => okB mt a && okE mt b
  | .or a b => okB mt a && okE mt b
  | .vand a b => okE mt a && okE mt b
  | .vor a b => okE mt a && okE mt b
  | .ite c a b => okB mt c && okE mt a && okE mt b
  | .tup es => okEs mt es
  | .lst es => okEs mt es
  | .idx a b => okB mt a && okB mt b
  | .slc0 a => okB mt a
  | .slcL a b => okB mt a && okB mt b
  | .slcH a b => okB mt a && okB mt b
  | .slcB a b c => okB mt a && okB mt b && okB mt c
  | .call _ es => okEs mt es
  | .bi _ es => okBs mt es
  | .meth _ o es => okB mt o && okBs mt es
  | .comp elt sl own _ es cond => okBs mt es && okE mt elt && okB mt cond && !mt.contains sl && own.all fun j => !mt.contains j
  | .dnew => true
  | .dnew1 k v => okB mt k && okE mt v
  | .fld _ _ _ => false
  | .mcall _ _ _ _ _ => false
  | .new _ _ _ => false
  | .dcomp ke ve sl own _ es cond => okBs mt es && okB mt ke && okE mt ve && okB mt cond && !mt.contains sl && own.all fun j => !mt.contains j
def okEs (mt : List Nat) : Es → Bool
  | .nil => true
  | .cons e r => okE mt e && okEs mt r
def okBs (mt : List Nat) : Es → Bool
  | .nil => true
  | .cons e r => okB mt e && okBs mt r
end
/-- a list that this makes is new -/
def frsh : E → Bool
  | .bin _ _ _ => true
  | .lst _ => true
  | .slc0 _ => true
  | .slcL _ _ => true
  | .slcH _ _ => true
  | .slcB _ _ _ => true
  | .bi .list _ => true
  | .meth .split _ _ => true
  | .comp _ _ _ _ _ _ => true
  | .dnew => true
  | .dnew1 _ _ => true
  | .dcomp _ _ _ _ _ _ _ => true
  | .c _ => true
  | _ => false
mutual
def tcP : Pat → List Nat
  | .nm i => [i]
  | .tup ps => tcPs ps
  | .sub _ _ => []
  | .fld _ _ _ => []
def tcPs : Pats → List Nat
  | .nil => []
  | .cons p r => tcP p ++ tcPs r
end
-- the names that are stored or changed
mutual
def tcS : Sm → List Nat
  | .expr e => match kindS (.expr e) with
    | .mth _ i _ => [i]
    | _ => []
  | .set p e => match kindS (.set p e) with
    | .mset j _ i _ => [j, i]
    | .sub i _ _ => [i]
    | _ => tcP p
  | .par i j _ _ => [i, j]
  | .aug i _ _ => [i]
  | .ret _ => []
  | .ife _ a b => tcSs a ++ tcSs b
  | .whl _ b => tcSs b
  | .fr p _ _ b => tcP p ++ tcSs b
  | .brk => []
  | .cnt => []
  | .pass => []
  | .bad => []
  | .rai _ _ _ => []
  | .tri _ _ => []
  | .afld _ _ _ _ _ => []
def tcSs : Sms → List Nat
  | .nil => []
  | .cons s r => tcS s ++ tcSs r
end
-- the names whose lists change
mutual
def mtS : Sm → List Nat
  | .expr e => match kindS (.expr e) with
    | .mth _ i _ => [i]
    | _ => []
  | .set p e => match kindS (.set p e) with
    | .mset _ _ i _ => [i]
    | .sub i _ _ => [i]
    | _ => []
  | .ife _ a b => mtSs a ++ mtSs b
  | .whl _ b => mtSs b
  | .fr _ _ _ b => mtSs b
  | _ => []
def mtSs : Sms → List Nat
  | .nil => []
  | .cons s r => mtS s ++ mtSs r
end
def noP (mt : List Nat) (p : Pat) : Bool := (tcP p).all fun i => !mt.contains i
def okMth (mt : List Nat) (b : Bi) (i : Nat) (es : Es) : Bool := mt.contains i && (match b with | .extend => okBs mt es | _ => okEs mt es)
def srcOk (mt tc : List Nat) : Es → Bool
  | .cons (.v i) .nil => !mt.contains i || !tc.contains i
  | es => okEs mt es
def nmF (p : Pat) (e : E) : Bool := match p with
  | .nm _ => frsh e
  | _ => false
mutual
def okS (mt : List Nat) : Sm → Bool
  | .expr e => match kindS (.expr e) with
    | .mth b i es => okMth mt b i es
    | _ => okB mt e
  | .set p e => match kindS (.set p e) with
    | .mset j b i es => okMth mt b i es && !mt.contains j
    | .sub i k e => mt.contains i && okB mt k && okE mt e
    | _ => okE mt e && (noP mt p || nmF p e)
  | .par i j a b => okE mt a && okE mt b && !mt.contains i && !mt.contains j
  | .aug i _ e => okB mt e && !mt.contains i
  | .ret e => okB mt e
  | .ife c a b => okB mt c && okSs mt a && okSs mt b
  | .whl c b => okB mt c && okSs mt b
  | .fr p _ es b => srcOk mt (tcP p ++ tcSs b) es && noP mt p && okSs mt b
  | .brk => true
  | .cnt => true
  | .pass => true
  | .bad => true
  | .rai _ _ es => okEs mt es
  | .tri _ _ => false
  | .afld _ _ _ _ _ => false
def okSs (mt : List Nat) : Sms → Bool
  | .nil => true
  | .cons s r => okS mt s && okSs mt r
end
def okD (d : Def) : Bool := okSs (mtSs d.body) d.body && (mtSs d.body).all fun i => decide (d.arity ≤ i)
def retV : Flow × Nv → Rv D
  | (.nx, _) => .ok .non
  | (.rt d, _) => .ok d
  | _ => .bad
def callV (defs : List (Str × Def)) (glob : Str → Option D) : Nat → Str → List D → Rv D
  | 0, _, _ => .bad
  | n + 1, f, ds => match defs.lookup f with
    | some d => (guardV (okD d && ds.length == d.arity)).bind fun _ => (vSs ⟨glob, callV defs glob n⟩ d.body (startD d.slots ds)).bind retV
    | none => .bad
end Mn
/-! Mn by value: what is read by value is what the store does. -/
namespace Mn
open PySem L2
mutual
def CR (S : Store) (X : Nat → Prop) : D → D → Prop
  | .lst vs, d => ∃ n ds, d = .loc n ∧ ¬ X n ∧ S[n]? = some (.lst ds) ∧ CRs S X vs ds
  | .tup vs, d => ∃ ds, d = .tup ds ∧ CRs S X vs ds
  | .non, d => d = .non
  | .bl b, d => d = .bl b
  | .int i, d => d = .int i
  | .str x, d => d = .str x
  | .loc _, _ => False
  | .dct ks vs, d => ∃ n kvs, d = .loc n ∧ ¬ X n ∧ S[n]? = some (.dct kvs) ∧ kvs.map (·.1) = ks ∧ CRs S X vs (kvs.map (·.2))
def CRs (S : Store) (X : Nat → Prop) : List D → List D → Prop
  | [], ds => ds = []
  | v :: vs, ds => ∃ d r, ds = d :: r ∧ CR S X v d ∧ CRs S X vs r
end
def CB (S : Store) (X : Nat → Prop) (v d : D) : Prop := match v with
  | .lst vs => ∃ n ds, d = .loc n ∧ S[n]? = some (.lst ds) ∧ CRs S X vs ds
  | .dct ks vs => ∃ n kvs, d = .loc n ∧ S[n]? = some (.dct kvs) ∧ kvs.map (·.1) = ks ∧ CRs S X vs (kvs.map (·.2))
  | v => CR S X v d
def CBs (S : Store) (X : Nat → Prop) : List D → List D → Prop
  | [], ds => ds = []
  | v :: vs, ds => ∃ d r, ds = d :: r ∧ CB S X v d ∧ CBs S X vs r
section
variable {S S' : Store} {X X' : Nat → Prop} {v d e : D} {vs ds : List D}
mutual
theorem CR.go (k : ∀ (n : Nat) (c : Cell), ¬ X n → S[n]? = some c → S'[n]? = some c) (x : ∀ n, n < S.length → X' n → X n) : ∀ {v d : D}, CR S X v d → CR S' X' v d
  | .lst vs, d, h => by
    unfold CR at h ⊢
    obtain ⟨n, ds, e1, e2, e3, e4⟩ := h
    exact ⟨n, ds, e1, fun z => e2 (x n (List.getElem?_eq_some_iff.mp e3).1 z), k n _ e2 e3, CRs.go k x e4⟩
  | .tup vs, d, h => by
    unfold CR at h ⊢
    obtain ⟨ds, e1, e2⟩ := h
    exact ⟨ds, e1, CRs.go k x e2⟩
  | .non, d, h => by unfold CR at h ⊢; exact h
  | .bl _, d, h => by unfold CR at h ⊢; exact h
  | .int _, d, h => by unfold CR at h ⊢; exact h
  | .str _, d, h => by unfold CR at h ⊢; exact h
  | .loc _, d, h => by unfold CR at h; exact h.elim
  | .dct ks vs, d, h => by
    unfold CR at h ⊢
    obtain ⟨n, kvs, e1, e2, e3, e4, e5⟩ := h
    exact ⟨n, kvs, e1, fun z => e2 (x n (List.getElem?_eq_some_iff.mp e3).1 z), k n _ e2 e3, e4, CRs.go k x e5⟩
theorem CRs.go (k : ∀ (n : Nat) (c : Cell), ¬ X n → S[n]? = some c → S'[n]? = some c) (x : ∀ n, n < S.length → X' n → X n) : ∀ {vs ds : List D}, CRs S X vs ds → CRs S' X' vs ds
  | [], ds, h => by unfold CRs at h ⊢; exact h
  | v :: vs, ds, h => by
    unfold CRs at h ⊢
    obtain ⟨d, r, e1, e2, e3⟩ := h
    exact ⟨d, r, e1, CR.go k x e2, CRs.go k x e3⟩
end
theorem CR.b (h : CR S X v d) : CB S X v d := by
  cases v with
  | lst vs => unfold CR at h; obtain ⟨n, ds, e1, e2, e3, e4⟩ := h; exact ⟨n, ds, e1, e3, e4⟩
  | dct ks vs => unfold CR at h; obtain ⟨n, kvs, e1, e2, e3, e4⟩ := h; exact ⟨n, kvs, e1, e3, e4⟩
  | _ => exact h
theorem CR.kp (k : Kp S S') (h : CR S X v d) : CR S' X v d := h.go (fun n ds _ q => k.keep _ _ q) fun _ _ z => z
theorem CRs.kp (k : Kp S S') (h : CRs S X vs ds) : CRs S' X vs ds := h.go (fun n ds _ q => k.keep _ _ q) fun _ _ z => z
theorem CB.kp (k : Kp S S') (h : CB S X v d) : CB S' X v d := by
  cases v with
  | lst vs => obtain ⟨n, ds, e1, e2, e3⟩ := h; exact ⟨n, ds, e1, k.keep _ _ e2, e3.kp k⟩
  | dct ks vs => obtain ⟨n, kvs, e1, e2, e3, e4⟩ := h; exact ⟨n, kvs, e1, k.keep _ _ e2, e3, e4.kp k⟩
  | _ => exact CR.kp k (show CR S X _ d from h)
theorem CBs.kp (k : Kp S S') : ∀ {vs ds : List D}, CBs S X vs ds → CBs S' X vs ds
  | [], ds, h => h
  | v :: vs, ds, h => by obtain ⟨d, r, e1, e2, e3⟩ := h; exact ⟨d, r, e1, e2.kp k, e3.kp k⟩
theorem CRs.b : ∀ {vs ds : List D}, CRs S X vs ds → CBs S X vs ds
  | [], ds, h => by unfold CRs at h; exact h
  | v :: vs, ds, h => by unfold CRs at h; obtain ⟨d, r, e1, e2, e3⟩ := h; exact ⟨d, r, e1, e2.b, e3.b⟩
theorem cr_int {i : Int} : CR S X (.int i) d ↔ d = .int i := by unfold CR; exact Iff.rfl
theorem cr_str {i : Str} : CR S X (.str i) d ↔ d = .str i := by unfold CR; exact Iff.rfl
theorem cr_bl {i : Bool} : CR S X (.bl i) d ↔ d = .bl i := by unfold CR; exact Iff.rfl
theorem cr_non : CR S X .non d ↔ d = .non := by unfold CR; exact Iff.rfl
theorem cr_tup : CR S X (.tup vs) d ↔ ∃ ds, d = .tup ds ∧ CRs S X vs ds := by rw [CR]
theorem cr_lst : CR S X (.lst vs) d ↔ ∃ n ds, d = .loc n ∧ ¬ X n ∧ S[n]? = some (.lst ds) ∧ CRs S X vs ds := by rw [CR]
theorem cr_loc {n : Nat} : ¬ CR S X (.loc n) d := by unfold CR; exact id
theorem cr_dct {ks : List NK} {vs : List D} : CR S X (.dct ks vs) d ↔ ∃ n kvs, d = .loc n ∧ ¬ X n ∧ S[n]? = some (.dct kvs) ∧ kvs.map (·.1) = ks ∧ CRs S X vs (kvs.map (·.2)) := by rw [CR]
theorem cb_int {i : Int} : CB S X (.int i) d ↔ d = .int i := cr_int (S := S) (X := X)
theorem cb_str {i : Str} : CB S X (.str i) d ↔ d = .str i := cr_str (S := S) (X := X)
theorem cb_bl {i : Bool} : CB S X (.bl i) d ↔ d = .bl i := cr_bl (S := S) (X := X)
theorem cb_non : CB S X .non d ↔ d = .non := cr_non (S := S) (X := X)
theorem cb_tup : CB S X (.tup vs) d ↔ ∃ ds, d = .tup ds ∧ CRs S X vs ds := cr_tup (S := S) (X := X)
theorem cb_lst : CB S X (.lst vs) d ↔ ∃ n ds, d = .loc n ∧ S[n]? = some (.lst ds) ∧ CRs S X vs ds := Iff.rfl
theorem cb_loc {n : Nat} : ¬ CB S X (.loc n) d := cr_loc (S := S) (X := X) (n := n) (d := d)
theorem cb_dct {ks : List NK} {vs : List D} : CB S X (.dct ks vs) d ↔ ∃ n kvs, d = .loc n ∧ S[n]? = some (.dct kvs) ∧ kvs.map (·.1) = ks ∧ CRs S X vs (kvs.map (·.2)) := Iff.rfl
theorem CRs.nil : CRs S X [] [] := by unfold CRs; rfl
theorem CRs.cons (a : CR S X v d) (b : CRs S X vs ds) : CRs S X (v :: vs) (d :: ds) := by unfold CRs; exact ⟨d, ds, rfl, a, b⟩
theorem CRs.nilE (h : CRs S X [] ds) : ds = [] := by unfold CRs at h; exact h
theorem CRs.consE (h : CRs S X (v :: vs) ds) : ∃ d r, ds = d :: r ∧ CR S X v d ∧ CRs S X vs r := by unfold CRs at h; exact h
theorem crs_iff : ∀ {vs ds : List D}, CRs S X vs ds ↔ vs.length = ds.length ∧ ∀ (i : Nat) v d, vs[i]? = some v → ds[i]? = some d → CR S X v d
  | [], ds => by
    unfold CRs
    constructor
    · rintro rfl
      exact ⟨rfl, fun i d v h => by simp at h⟩
    · rintro ⟨h, _⟩
      exact List.eq_nil_of_length_eq_zero h.symm
  | d :: vs, ds => by
    unfold CRs
    constructor
    · rintro ⟨v, r, rfl, h1, h2⟩
      obtain ⟨l, h3⟩ := crs_iff.mp h2
      refine ⟨by simp [l], fun i d' v' e1 e2 => ?_⟩
      cases i with
      | zero =>
        simp at e1 e2
        subst e1; subst e2
        exact h1
      | succ i => exact h3 i d' v' (by simpa using e1) (by simpa using e2)
    · rintro ⟨l, h⟩
      cases ds with
      | nil => simp at l
      | cons v r =>
        refine ⟨v, r, rfl, h 0 d v rfl rfl, crs_iff.mpr ⟨by simpa using l, fun i d' v' e1 e2 => h (i + 1) d' v' (by simpa using e1) (by simpa using e2)⟩⟩
theorem CRs.length (h : CRs S X vs ds) : vs.length = ds.length := (crs_iff.mp h).1
theorem CRs.at (h : CRs S X vs ds) {i : Nat} (e : vs[i]? = some v) : ∃ d, ds[i]? = some d ∧ CR S X v d := by
  obtain ⟨l, q⟩ := crs_iff.mp h
  obtain ⟨hl, _⟩ := List.getElem?_eq_some_iff.mp e
  have hv : i < ds.length := by omega
  exact ⟨ds[i], List.getElem?_eq_getElem hv, q i v _ e (List.getElem?_eq_getElem hv)⟩
theorem CRs.empty (h : CRs S X vs ds) : vs.isEmpty = ds.isEmpty := by
  have := h.length
  cases vs <;> cases ds <;> first | rfl | (simp at this)
theorem CRs.append {us es : List D} (h1 : CRs S X vs ds) (h2 : CRs S X us es) : CRs S X (vs ++ us) (ds ++ es) := by
  induction vs generalizing ds with
  | nil => cases h1.nilE; exact h2
  | cons d vs ih =>
    obtain ⟨v, r, rfl, a, b⟩ := h1.consE
    exact .cons a (ih b)
theorem CRs.take (n : Nat) (h : CRs S X vs ds) : CRs S X (vs.take n) (ds.take n) := by
  obtain ⟨l, q⟩ := crs_iff.mp h
  refine crs_iff.mpr ⟨by simp [l], fun i d v e1 e2 => ?_⟩
  rw [List.getElem?_take] at e1 e2
  split at e1
  · rename_i hi
    rw [if_pos hi] at e2
    exact q i d v e1 e2
  · cases e1
theorem CRs.drop (n : Nat) (h : CRs S X vs ds) : CRs S X (vs.drop n) (ds.drop n) := by
  obtain ⟨l, q⟩ := crs_iff.mp h
  refine crs_iff.mpr ⟨by simp [l], fun i d v e1 e2 => ?_⟩
  rw [List.getElem?_drop] at e1 e2
  exact q _ d v e1 e2
theorem CRs.cut (h : CRs S X vs ds) (lo hi : Option Int) : CRs S X (cutD vs lo hi) (cutD ds lo hi) := by
  unfold cutD
  rw [h.length]
  exact (h.drop _).take _
theorem CRs.set (n : Nat) (h : CRs S X vs ds) (hd : CR S X v d) : CRs S X (vs.set n v) (ds.set n d) := by
  obtain ⟨l, q⟩ := crs_iff.mp h
  refine crs_iff.mpr ⟨by simp [l], fun i d' v' e1 e2 => ?_⟩
  rw [List.getElem?_set] at e1 e2
  by_cases hi : n = i
  · rw [if_pos hi] at e1 e2
    split at e1
    · split at e2
      · cases e1; cases e2; exact hd
      · cases e2
    · cases e1
  · rw [if_neg hi] at e1 e2
    exact q i d' v' e1 e2
theorem CRs.reverse (h : CRs S X vs ds) : CRs S X vs.reverse ds.reverse := by
  induction vs generalizing ds with
  | nil => cases h.nilE; exact .nil
  | cons d vs ih =>
    obtain ⟨v, r, rfl, a, b⟩ := h.consE
    rw [List.reverse_cons, List.reverse_cons]
    exact (ih b).append (.cons a .nil)
theorem CRs.eraseIdx (n : Nat) (h : CRs S X vs ds) : CRs S X (vs.eraseIdx n) (ds.eraseIdx n) := by
  rw [List.eraseIdx_eq_take_drop_succ, List.eraseIdx_eq_take_drop_succ]
  exact (h.take n).append (h.drop (n + 1))
theorem CRs.dropLast (h : CRs S X vs ds) : CRs S X vs.dropLast ds.dropLast := by
  rw [List.dropLast_eq_take, List.dropLast_eq_take, h.length]
  exact h.take _
theorem CRs.rep (h : CRs S X vs ds) : ∀ n, CRs S X (Mn.rep vs n) (Mn.rep ds n)
  | 0 => .nil
  | n + 1 => by
    unfold Mn.rep
    rw [List.replicate_succ, List.replicate_succ, List.flatten_cons, List.flatten_cons]
    exact h.append (CRs.rep h n)
mutual
theorem cr_plain : ∀ {v d : D}, plain v = true → (CR S X v d ↔ d = v)
  | .lst vs, d, h => by simp [plain] at h
  | .tup vs, d, h => by
    rw [cr_tup]
    constructor
    · rintro ⟨ds, rfl, q⟩
      rw [(crs_plain (by simpa [plain] using h)).mp q]
    · rintro rfl
      exact ⟨vs, rfl, (crs_plain (by simpa [plain] using h)).mpr rfl⟩
  | .non, d, h => cr_non
  | .bl _, d, h => cr_bl
  | .int _, d, h => cr_int
  | .str _, d, h => cr_str
  | .loc _, d, h => by simp [plain] at h
  | .dct _ _, d, h => by simp [plain] at h
theorem crs_plain : ∀ {vs ds : List D}, plains vs = true → (CRs S X vs ds ↔ ds = vs)
  | [], ds, h => by unfold CRs; exact Iff.rfl
  | v :: vs, ds, h => by
    have hh : plain v = true ∧ plains vs = true := by simpa [plains] using h
    constructor
    · intro q
      obtain ⟨d, r, rfl, a, b⟩ := q.consE
      rw [(cr_plain hh.1).mp a, (crs_plain hh.2).mp b]
    · rintro rfl
      exact .cons ((cr_plain hh.1).mpr rfl) ((crs_plain hh.2).mpr rfl)
end
mutual
theorem py_plain : ∀ {v : D} {a : PyData}, py v = some a → plain v = true
  | .tup xs, a, h => by
    unfold py at h
    cases q : pyAll xs with
    | none => rw [q] at h; cases h
    | some as => rw [plain]; exact pyAll_plain q
  | .non, _, _ => rfl
  | .bl _, _, _ => rfl
  | .int _, _, _ => rfl
  | .str _, _, _ => rfl
  | .loc _, _, h => by unfold py at h; cases h
  | .lst _, _, h => by unfold py at h; cases h
  | .dct _ _, _, h => by unfold py at h; cases h
theorem pyAll_plain : ∀ {vs : List D} {as : List PyData}, pyAll vs = some as → plains vs = true
  | [], _, _ => rfl
  | v :: vs, as, h => by
    unfold pyAll at h
    cases q : py v with
    | none => rw [q] at h; simp at h
    | some a =>
      cases q2 : pyAll vs with
      | none => rw [q, q2] at h; simp at h
      | some as => rw [plains, py_plain q, pyAll_plain q2]; rfl
end
theorem ints_plain : ∀ {vs : List D} {is : List Int}, intsD vs = some is → plains vs = true
  | [], _, _ => rfl
  | v :: vs, is, h => by
    cases v <;> simp [intsD] at h
    obtain ⟨js, h, _⟩ := h
    rw [plains, ints_plain h]; rfl
theorem strs_plain : ∀ {vs : List D} {is : List Str}, strsD vs = some is → plains vs = true
  | [], _, _ => rfl
  | v :: vs, is, h => by
    cases v <;> simp [strsD] at h
    obtain ⟨js, h, _⟩ := h
    rw [plains, strs_plain h]; rfl
theorem bools_plain : ∀ {vs : List D} {is : List Bool}, boolsD vs = some is → plains vs = true
  | [], _, _ => rfl
  | v :: vs, is, h => by
    cases v <;> simp [boolsD] at h
    obtain ⟨js, h, _⟩ := h
    rw [plains, bools_plain h]; rfl
theorem pyL_b {a : PyData} (h : CB S X v d) (e : pyL v = some a) : py1 S d = some a := by
  cases v with
  | lst vs =>
    obtain ⟨n, ds, rfl, e2, e3⟩ := h
    have e : (pyAll vs).map PyData.list = some a := e
    cases q : pyAll vs with
    | none => rw [q] at e; cases e
    | some as =>
      have := (crs_plain (pyAll_plain q)).mp e3
      subst this
      show (match S[n]? with | some (.lst xs) => (pyAll xs).map PyData.list | some (.ro xs) => (pyAll xs).map PyData.list | _ => none) = _
      rw [e2]
      exact e
  | loc n => exact (cb_loc h).elim
  | dct n m => exact nomatch (show (none : Option PyData) = some a from e)
  | tup vs =>
    have e : py (.tup vs) = some a := e
    have := (cr_plain (py_plain e)).mp (show CR S X (.tup vs) d from h)
    subst this
    exact e
  | non => cases cb_non.mp h; exact e
  | bl b => cases cb_bl.mp h; exact e
  | int b => cases cb_int.mp h; exact e
  | str b => cases cb_str.mp h; exact e
theorem strD_b {b : Bool} (h : CB S X v d) (e : isStrD v = b) : isStrD d = b := by
  cases v with
  | lst vs => obtain ⟨n, ds, rfl, e2, e3⟩ := h; exact e
  | loc n => exact (cb_loc h).elim
  | dct n m => obtain ⟨n, kvs, rfl, _⟩ := cb_dct.mp h; exact e
  | tup vs => obtain ⟨ds, rfl, _⟩ := cb_tup.mp h; exact e
  | non => cases cb_non.mp h; exact e
  | bl b => cases cb_bl.mp h; exact e
  | int b => cases cb_int.mp h; exact e
  | str b => cases cb_str.mp h; exact e
end
/-! ### a run by value is what the store's run does -/
def Sim {α β : Type} (S : Store) (R : Store → α → β → Prop) (r : Rv α) (m : M β) : Prop := match r with
  | .ok a => wpx m (fun b S' => Kp S S' ∧ R S' a b) E0x S
  | .exc e => wpx m (fun _ _ => False) (fun e' S' => Kp S S' ∧ e' = e) S
  | .bad => True
section
variable {α β γ δ : Type} {S S' : Store} {R R1 R2 : Store → α → β → Prop} {r : Rv α} {m : M β}
theorem sim_bad : Sim S R .bad m := trivial
theorem sim_nx (h : Sim S R r m) : Sim S R (nxV r) (nx m) := by
  cases r with
  | ok a => exact wpx_nx.mpr h
  | exc e => trivial
  | bad => trivial
theorem sim_ret {a : α} {b : β} (h : R S a b) : Sim S R (.ok a) (M.ret b) := (wpx_ret (Q := fun b S' => Kp S S' ∧ R S' a b) (E := E0x)).mpr ⟨.refl S, h⟩
theorem sim_bind {Q : Store → γ → δ → Prop} {f : α → Rv γ} {g : β → M δ} (h : Sim S R r m) (k : ∀ a b S', Kp S S' → R S' a b → Sim S' Q (f a) (g b)) : Sim S Q (r.bind f) (m.bind g) := by
  cases r with
  | bad => trivial
  | exc e =>
    show wpx _ _ _ _
    rw [wpx_bind]
    exact wpx_mono h (fun _ _ z => z.elim) fun _ _ z => z
  | ok a =>
    have h : wpx m (fun b S' => Kp S S' ∧ R S' a b) E0x S := h
    show Sim S Q (f a) (m.bind g)
    cases e : f a with
    | bad => trivial
    | exc x =>
      show wpx _ _ _ _
      rw [wpx_bind]
      refine wpx_of_wp h fun b S1 ⟨k1, h1⟩ => ?_
      have := k a b S1 k1 h1
      rw [e] at this
      exact wpx_mono this (fun _ _ z => z) fun _ _ ⟨z1, z2⟩ => ⟨k1.trans z1, z2⟩
    | ok c =>
      show wpx _ _ _ _
      rw [wpx_bind]
      refine wpx_of_wp h fun b S1 ⟨k1, h1⟩ => ?_
      have := k a b S1 k1 h1
      rw [e] at this
      exact wpx_mono this (fun _ _ ⟨z1, z2⟩ => ⟨k1.trans z1, z2⟩) fun _ _ z => z
theorem sim_mono (h : Sim S R1 r m) (k : ∀ S' a b, Kp S S' → R1 S' a b → R2 S' a b) : Sim S R2 r m := by
  cases r with
  | bad => trivial
  | exc e => exact h
  | ok a => exact wpx_mono h (fun b S' ⟨k1, h1⟩ => ⟨k1, k _ _ _ k1 h1⟩) fun _ _ z => z
theorem sim_guard {c : Bool} : Sim S (fun _ (_ : Unit) (_ : Unit) => c = true) (guardV c) (guard c) := by
  cases c
  · trivial
  · exact sim_ret rfl
theorem sim_opt {o : Option α} {o' : Option β} (h : ∀ a, o = some a → ∃ b, o' = some b ∧ R S a b) : Sim S R (optV o) (opt o') := by
  cases o with
  | none => trivial
  | some a => obtain ⟨b, rfl, q⟩ := h a rfl; exact sim_ret q
/-- a store's own step ahead -/
theorem sim_pre {Q : Store → γ → δ → Prop} {f : Rv γ} {g : β → M δ} {b : β} (h : ∀ (P : β → Store → Prop) E, wpx m P E S ↔ P b S) (k : Sim S Q f (g b)) : Sim S Q f (m.bind g) := by
  cases f with
  | bad => trivial
  | exc e => show wpx _ _ _ _; rw [wpx_bind, h]; exact k
  | ok c => show wpx _ _ _ _; rw [wpx_bind, h]; exact k
end
section
variable {S S' : Store} {X : Nat → Prop} {v d x y e : D} {vs ds : List D}
theorem p_rdL {n : Nat} {ds : List D} (h : S[n]? = some (.lst ds)) : ∀ (P : List D → Store → Prop) E, wpx (rdL n) P E S ↔ P ds S := fun P E => by unfold rdL wpx; simp only [h]
theorem p_owL {n : Nat} {ds : List D} (h : S[n]? = some (.lst ds)) : ∀ (P : List D → Store → Prop) E, wpx (owL n) P E S ↔ P ds S := fun P E => by unfold owL wpx; simp only [h]
/-- what an expression gives: new: its list is new -/
def NewL (X : Nat → Prop) (S S' : Store) (v : D) (n : Nat) : Prop := S.length ≤ n ∧ (∀ vs, v = .lst vs → ∃ ds, S'[n]? = some (.lst ds) ∧ CRs S' (fun m => X m ∨ m = n) vs ds) ∧
  ∀ ks vs, v = .dct ks vs → ∃ kvs, S'[n]? = some (.dct kvs) ∧ kvs.map (·.1) = ks ∧ CRs S' (fun m => X m ∨ m = n) vs (kvs.map (·.2))
def RE (X : Nat → Prop) (S : Store) (nw : Bool) : Store → D → D → Prop := fun S' v d => CR S' X v d ∧ (nw = true → ∀ n, d = .loc n → NewL X S S' v n)
theorem RE.weak {nw : Bool} (h : RE X S true S' v d) : RE X S nw S' v d := ⟨h.1, fun _ => h.2 rfl⟩
theorem sim_new {b : Bool} (hX : ∀ n, X n → n < S.length) (h : CRs S X vs ds) : Sim S (RE X S b) (.ok (.lst vs)) (alloc (.lst ds)) := by
  show wpx (alloc (.lst ds)) (fun e S' => Kp S S' ∧ RE X S b S' (.lst vs) e) E0x S
  rw [x_alloc]
  refine ⟨(Kp.refl S).push _, cr_lst.mpr ⟨_, _, rfl, fun z => Nat.lt_irrefl _ (hX _ z), ap_self, h.kp ((Kp.refl S).push _)⟩, fun _ n e => ?_⟩
  cases e
  refine ⟨Nat.le_refl _, fun us e => ?_, fun ks us e => nomatch e⟩
  cases e
  exact ⟨ds, ap_self, h.go (fun n es _ q => ap_old q) fun n hn z => z.resolve_right (by omega)⟩
theorem sim_val {b : Bool} (h : CR S X v d) (hb : ∀ n, d ≠ .loc n) : Sim S (RE X S b) (.ok v) (M.ret d) := sim_ret ⟨h, fun _ n e => (hb n e).elim⟩
abbrev KR (S : Store) (X : Nat → Prop) (l l' : List (NK × D)) : Prop := l.map (·.1) = l'.map (·.1) ∧ CRs S X (l.map (·.2)) (l'.map (·.2))
theorem kr_zip {ks : List NK} {us : List D} {kvs : List (NK × D)} (e2 : kvs.map (·.1) = ks) (e3 : CRs S X us (kvs.map (·.2))) : KR S X (ks.zip us) kvs := by
  have l1 : ks.length = us.length := by rw [← e2, e3.length]; simp
  refine ⟨?_, ?_⟩
  · rw [e2]; exact List.map_fst_zip (by omega)
  · rw [show (ks.zip us).map (·.2) = us from List.map_snd_zip (by omega)]; exact e3
theorem KR.length {l l' : List (NK × D)} (h : KR S X l l') : l.length = l'.length := by
  have := congrArg List.length h.1
  simpa using this
theorem KR.at {k : NK} : ∀ {l l' : List (NK × D)}, KR S X l l' → (dAt l k = none ∧ dAt l' k = none) ∨ ∃ v d, dAt l k = some v ∧ dAt l' k = some d ∧ CR S X v d
  | [], [], _ => .inl ⟨rfl, rfl⟩
  | [], _ :: _, h => by have := h.1; simp at this
  | _ :: _, [], h => by have := h.1; simp at this
  | p :: l, q :: l', h => by
    obtain ⟨e, r⟩ := h
    simp only [List.map_cons, List.cons.injEq] at e r
    obtain ⟨d, r', he, h1, h2⟩ := r.consE
    simp only [List.cons.injEq] at he
    obtain ⟨rfl, rfl⟩ := he
    by_cases hk : p.1 = k
    · have hq : q.1 = k := by rw [← e.1]; exact hk
      exact .inr ⟨p.2, q.2, by simp [dAt, hk], by simp [dAt, hq], h1⟩
    · have hq : ¬ q.1 = k := by rw [← e.1]; exact hk
      have e1 : dAt (p :: l) k = dAt l k := by unfold dAt; simp [List.find?_cons, hk]
      have e2 : dAt (q :: l') k = dAt l' k := by unfold dAt; simp [List.find?_cons, hq]
      rw [e1, e2]
      exact KR.at ⟨e.2, h2⟩
theorem KR.has {k : NK} {l l' : List (NK × D)} (h : KR S X l l') : (dAt l' k).isSome = (dAt l k).isSome := by
  rcases h.at (k := k) with ⟨a, b⟩ | ⟨v, d, a, b, _⟩
  · simp [a, b]
  · simp [a, b]
theorem KR.fits {k : NK} : ∀ {l l' : List (NK × D)}, KR S X l l' → Mn.fits k l = Mn.fits k l'
  | [], [], _ => rfl
  | [], _ :: _, h => by have := h.1; simp at this
  | _ :: _, [], h => by have := h.1; simp at this
  | p :: l, q :: l', h => by
    obtain ⟨e, r⟩ := h
    simp only [List.map_cons, List.cons.injEq] at e r
    obtain ⟨d, r', he, h1, h2⟩ := r.consE
    simp only [List.cons.injEq] at he
    obtain ⟨rfl, rfl⟩ := he
    have ih := KR.fits (k := k) (l := l) (l' := l') ⟨e.2, h2⟩
    unfold Mn.fits at ih ⊢
    rw [List.all_cons, List.all_cons, ih, e.1]
theorem KR.up {k : NK} {v d : D} (c : CR S X v d) : ∀ {l l' : List (NK × D)}, KR S X l l' → KR S X (l.map (dUp k v)) (l'.map (dUp k d))
  | [], [], _ => ⟨rfl, .nil⟩
  | [], _ :: _, h => by have := h.1; simp at this
  | _ :: _, [], h => by have := h.1; simp at this
  | p :: l, q :: l', h => by
    obtain ⟨e, r⟩ := h
    simp only [List.map_cons, List.cons.injEq] at e r
    obtain ⟨d', r', he, h1, h2⟩ := r.consE
    simp only [List.cons.injEq] at he
    obtain ⟨rfl, rfl⟩ := he
    obtain ⟨i1, i2⟩ := KR.up (k := k) c (l := l) (l' := l') ⟨e.2, h2⟩
    simp only [List.map_cons]
    by_cases hk : p.1 = k
    · have hq : q.1 = k := by rw [← e.1]; exact hk
      refine ⟨?_, ?_⟩
      · simp only [List.map_cons]; rw [i1]; unfold dUp; rw [if_pos hk, if_pos hq]; simp only [e.1]
      · simp only [List.map_cons]; unfold dUp; rw [if_pos hk, if_pos hq]; exact .cons c i2
    · have hq : ¬ q.1 = k := by rw [← e.1]; exact hk
      refine ⟨?_, ?_⟩
      · simp only [List.map_cons]; rw [i1]; unfold dUp; rw [if_neg hk, if_neg hq]; simp only [e.1]
      · simp only [List.map_cons]; unfold dUp; rw [if_neg hk, if_neg hq]; exact .cons h1 i2
theorem KR.put {k : NK} {v d : D} {l l' : List (NK × D)} (c : CR S X v d) (h : KR S X l l') : KR S X (dPut l k v) (dPut l' k d) := by
  unfold dPut
  rw [h.has]
  split
  · exact h.up c
  · refine ⟨by simp [h.1], ?_⟩
    simp only [List.map_append, List.map_cons, List.map_nil]
    exact h.2.append (.cons c .nil)
mutual
theorem key_plain : ∀ {y : D} {k : NK}, keyD y = some k → plain y = true
  | .non, _, _ => rfl
  | .bl _, _, _ => rfl
  | .int _, _, _ => rfl
  | .str _, _, _ => rfl
  | .tup xs, k, h => by
    unfold keyD at h
    cases q : keysD xs with
    | none => rw [q] at h; cases h
    | some ks => rw [plain]; exact keys_plain q
  | .loc _, _, h => by cases h
  | .lst _, _, h => by cases h
  | .dct _ _, _, h => by cases h
theorem keys_plain : ∀ {ys : List D} {ks : List NK}, keysD ys = some ks → plains ys = true
  | [], _, _ => rfl
  | y :: ys, ks, h => by
    unfold keysD at h
    cases q1 : keyD y with
    | none => rw [q1] at h; cases h
    | some a =>
      cases q2 : keysD ys with
      | none => rw [q1, q2] at h; cases h
      | some b => rw [plains, key_plain q1, keys_plain q2]; rfl
end
theorem key_b {k : NK} (h : CB S X y e) (hk : dkey y = some k) : e = y := by
  have hp : plain y = true := by
    cases y with
    | int _ => rfl
    | str _ => rfl
    | tup xs =>
      unfold dkey at hk
      cases q : keysD xs with
      | none => simp [q] at hk
      | some ks => rw [plain]; exact keys_plain q
    | _ => cases hk
  have c : CR S X y e := by
    cases y with
    | lst _ => cases hp
    | dct _ _ => cases hp
    | _ => exact h
  exact (cr_plain hp).mp c
theorem dset_b {k : NK} {l l' r : List (NK × D)} {v : D} (K : KR S X l l') (h : CB S X y e) (c : CR S X v d) (g : dSet l y v = some r) : ∃ r', dSet l' e d = some r' ∧ KR S X r r' := by
  obtain ⟨k, hk, hf, hz, rfl⟩ := dset_some g
  have := key_b h hk
  subst this
  refine ⟨dPut l' k d, ?_, K.put c⟩
  unfold dSet
  simp only [hk]
  rw [K.fits] at hf
  rw [if_pos ⟨hf, by rw [← K.length]; exact hz⟩]
theorem p_getC {n : Nat} {c : Cell} (h : S[n]? = some c) : ∀ (P : Cell → Store → Prop) E, wpx (getC n) P E S ↔ P c S := fun P E => x_getC h
theorem eq_ok (h1 : CB S X x d) (h2 : CB S X y e) : Sim S (fun _ a b => a = b) (eqV x y) (eqM d e) := by
  unfold eqV
  split
  · rename_i a b ea eb
    split
    · rename_i hf
      have q1 := pyL_b h1 ea
      have q2 := pyL_b h2 eb
      show wpx _ _ _ _
      unfold wpx eqM
      have hf' : fitEq d e a b = true := by
        unfold fitEq at hf ⊢
        rw [strD_b h1 rfl, strD_b h2 rfl]; exact hf
      rw [q1, q2]
      simp only [hf', if_true]
      exact ⟨.refl _, trivial⟩
    · trivial
  · trivial
theorem inAll_b {b : Bool} (h1 : CB S X x d) (h2 : CRs S X vs ds) (e : inAll x vs = some b) : inAll d ds = some b := by
  unfold inAll at e
  split at e
  · rename_i a as ea eb
    have := (crs_plain (pyAll_plain eb)).mp h2
    subst this
    have h1' : CR S X x d := by
      cases x with
      | lst _ => unfold py at ea; cases ea
      | dct _ _ => unfold py at ea; cases ea
      | _ => exact h1
    have := (cr_plain (py_plain ea)).mp h1'
    subst this
    unfold inAll
    rw [ea, eb]
    exact e
  · cases e
theorem in_ok (h1 : CB S X x d) (h2 : CB S X y e) : Sim S (fun _ a b => a = b) (inV x y) (inM d e) := by
  cases y with
  | str z =>
    cases cb_str.mp h2
    cases x with
    | str w => cases cb_str.mp h1; exact sim_ret rfl
    | _ => trivial
  | tup ys =>
    obtain ⟨ds, rfl, q⟩ := cb_tup.mp h2
    exact sim_opt fun a ea => ⟨a, inAll_b h1 q ea, rfl⟩
  | lst ys =>
    obtain ⟨n, ds, rfl, e1, q⟩ := cb_lst.mp h2
    exact sim_pre (p_getC e1) (sim_opt (o' := inAll d ds) fun a ea => ⟨a, inAll_b h1 q ea, rfl⟩)
  | dct ks vs =>
    obtain ⟨n, kvs, rfl, e1, e2, e3⟩ := cb_dct.mp h2
    refine sim_pre (p_getC e1) (sim_opt (o' := dHas kvs d) fun a ea => ?_)
    obtain ⟨k, hk, hf, rfl⟩ := dhas_some ea
    have K := kr_zip e2 e3
    have := key_b h1 hk
    subst this
    refine ⟨_, ?_, rfl⟩
    unfold dHas
    simp only [hk]
    rw [K.fits] at hf
    rw [if_pos hf, K.has]
  | _ => trivial
theorem ltDs_b {n : Nat} : ∀ {xs ys ds es : List D} {b : Bool}, CRs S X xs ds → CRs S X ys es → ltDs n xs ys = some b → ltDs n ds es = some b
  | [], [], ds, es, b, h1, h2, e => by cases h1.nilE; cases h2.nilE; exact e
  | [], y :: ys, ds, es, b, h1, h2, e => by
    cases h1.nilE
    obtain ⟨_, _, rfl, _, _⟩ := h2.consE
    rw [ltDs] at e ⊢; exact e
  | x :: xs, [], ds, es, b, h1, h2, e => by
    cases h2.nilE
    obtain ⟨_, _, rfl, _, _⟩ := h1.consE
    rw [ltDs] at e ⊢; exact e
  | x :: xs, y :: ys, ds, es, b, h1, h2, e => by
    obtain ⟨d, ds, rfl, a1, a2⟩ := h1.consE
    obtain ⟨f, es, rfl, b1, b2⟩ := h2.consE
    rw [ltDs] at e ⊢
    cases ea : py x with
    | none => rw [ea] at e; simp at e
    | some a =>
      cases eb : py y with
      | none => rw [ea, eb] at e; simp at e
      | some c =>
        have := (cr_plain (py_plain ea)).mp a1
        subst this
        have := (cr_plain (py_plain eb)).mp b1
        subst this
        rw [ea, eb] at e ⊢
        simp only at e ⊢
        split
        · rename_i hf
          rw [if_pos hf] at e
          split
          · rename_i hq
            rw [if_pos hq] at e
            exact ltDs_b a2 b2 e
          · rename_i hq
            rw [if_neg hq] at e
            exact e
        · rename_i hf
          rw [if_neg hf] at e
          cases e
theorem ltD_b {n : Nat} {b : Bool} (h1 : CB S X x d) (h2 : CB S X y e) (q : ltD n x y = some b) : ltD n d e = some b := by
  unfold ltD at q
  split at q
  · cases cb_int.mp h1; cases cb_int.mp h2; cases q; rw [ltD]
  · cases cb_str.mp h1; cases cb_str.mp h2; cases q; rw [ltD]
  · obtain ⟨ds, rfl, g1⟩ := cb_tup.mp h1
    obtain ⟨es, rfl, g2⟩ := cb_tup.mp h2
    rw [ltD]
    exact ltDs_b g1 g2 q
  · cases q
theorem cmp_ok {o : COp} (h1 : CB S X x d) (h2 : CB S X y e) : Sim S (fun _ a b => a = b) (cmpV o x y) (cmpop o d e) := by
  cases o with
  | eq => exact eq_ok h1 h2
  | ne => exact sim_bind (eq_ok h1 h2) fun a b S' _ q => by cases q; exact sim_ret rfl
  | lt => exact sim_opt fun b q => ⟨b, ltD_b h1 h2 q, rfl⟩
  | inn => exact in_ok h1 h2
  | nin => exact sim_bind (in_ok h1 h2) fun a b S' _ q => by cases q; exact sim_ret rfl
  | isn =>
    cases y with
    | non =>
      cases cb_non.mp h2
      cases x with
      | non => cases cb_non.mp h1; exact sim_ret rfl
      | int _ => cases cb_int.mp h1; exact sim_ret rfl
      | bl _ => cases cb_bl.mp h1; exact sim_ret rfl
      | str _ => cases cb_str.mp h1; exact sim_ret rfl
      | tup _ => obtain ⟨ds, rfl, _⟩ := cb_tup.mp h1; exact sim_ret rfl
      | lst _ => obtain ⟨n, ds, rfl, _⟩ := cb_lst.mp h1; exact sim_ret rfl
      | loc _ => exact (cb_loc h1).elim
      | dct _ _ => obtain ⟨n, kvs, rfl, _⟩ := cb_dct.mp h1; exact sim_ret rfl
    | _ => cases x <;> trivial
  | isnn =>
    cases y with
    | non =>
      cases cb_non.mp h2
      cases x with
      | non => cases cb_non.mp h1; exact sim_ret rfl
      | int _ => cases cb_int.mp h1; exact sim_ret rfl
      | bl _ => cases cb_bl.mp h1; exact sim_ret rfl
      | str _ => cases cb_str.mp h1; exact sim_ret rfl
      | tup _ => obtain ⟨ds, rfl, _⟩ := cb_tup.mp h1; exact sim_ret rfl
      | lst _ => obtain ⟨n, ds, rfl, _⟩ := cb_lst.mp h1; exact sim_ret rfl
      | loc _ => exact (cb_loc h1).elim
      | dct _ _ => obtain ⟨n, kvs, rfl, _⟩ := cb_dct.mp h1; exact sim_ret rfl
    | _ => cases x <;> trivial
  | gt => cases x <;> cases y <;> first | trivial | (cases cb_int.mp h1; cases cb_int.mp h2; exact sim_ret rfl)
  | le => cases x <;> cases y <;> first | trivial | (cases cb_int.mp h1; cases cb_int.mp h2; exact sim_ret rfl)
  | ge => cases x <;> cases y <;> first | trivial | (cases cb_int.mp h1; cases cb_int.mp h2; exact sim_ret rfl)
theorem no_loc_int {i : Int} : ∀ n, D.int i ≠ .loc n := fun _ h => nomatch h
theorem no_loc_str {i : Str} : ∀ n, D.str i ≠ .loc n := fun _ h => nomatch h
theorem no_loc_bl {i : Bool} : ∀ n, D.bl i ≠ .loc n := fun _ h => nomatch h
theorem no_loc_tup {i : List D} : ∀ n, D.tup i ≠ .loc n := fun _ h => nomatch h
theorem sim_int {b : Bool} {i : Int} : Sim S (RE X S b) (.ok (.int i)) (M.ret (.int i)) := sim_val (cr_int.mpr rfl) no_loc_int
theorem sim_str {b : Bool} {i : Str} : Sim S (RE X S b) (.ok (.str i)) (M.ret (.str i)) := sim_val (cr_str.mpr rfl) no_loc_str
theorem sim_bl {b : Bool} {i : Bool} : Sim S (RE X S b) (.ok (.bl i)) (M.ret (.bl i)) := sim_val (cr_bl.mpr rfl) no_loc_bl
theorem sim_tup {b : Bool} (h : CRs S X vs ds) : Sim S (RE X S b) (.ok (.tup vs)) (M.ret (.tup ds)) := sim_val (cr_tup.mpr ⟨_, rfl, h⟩) no_loc_tup
/-- after a guard -/
theorem sim_g {α β : Type} {Q : Store → α → β → Prop} {c : Bool} {f : Unit → Rv α} {g : Unit → M β} (k : c = true → Sim S Q (f ()) (g ())) : Sim S Q ((guardV c).bind f) ((guard c).bind g) := by
  cases c
  · trivial
  · exact sim_pre (b := ()) (fun P E => by rw [wpx_guard]; exact ⟨fun h => h.2, fun h => ⟨rfl, h⟩⟩) (k rfl)
theorem sim_g' {α β : Type} {Q : Store → α → β → Prop} {c c' : Bool} {f : Unit → Rv α} {g : Unit → M β} (e : c = c') (k : c = true → Sim S Q (f ()) (g ())) : Sim S Q ((guardV c).bind f) ((guard c').bind g) := by
  subst e; exact sim_g k
theorem sim_o {α β γ : Type} {Q : Store → α → β → Prop} {o o' : Option γ} {f : γ → Rv α} {g : γ → M β} (e : ∀ a, o = some a → o' = some a) (k : ∀ a, o = some a → Sim S Q (f a) (g a)) : Sim S Q ((optV o).bind f) ((opt o').bind g) := by
  cases o with
  | none => trivial
  | some a => rw [e a rfl]; exact sim_pre (b := a) (fun P E => wpx_opt_some) (k a rfl)
theorem bin_ok {o : BOp} {b : Bool} (hX : ∀ n, X n → n < S.length) (h1 : CB S X x d) (h2 : CB S X y e) : Sim S (RE X S b) (binV o x y) (binop o d e) := by
  cases o with
  | add =>
    cases x <;> cases y <;> try trivial
    · cases cb_int.mp h1; cases cb_int.mp h2; exact sim_int
    · cases cb_str.mp h1; cases cb_str.mp h2; exact sim_g fun _ => sim_str
    · obtain ⟨ds, rfl, q1⟩ := cb_tup.mp h1
      obtain ⟨es, rfl, q2⟩ := cb_tup.mp h2
      have q := q1.append q2
      exact sim_g' (by rw [q.length]) fun _ => sim_tup q
    · obtain ⟨n, ds, rfl, e1, q1⟩ := cb_lst.mp h1
      obtain ⟨m, es, rfl, e2, q2⟩ := cb_lst.mp h2
      have q := q1.append q2
      exact sim_pre (p_owL e1) (sim_pre (p_owL e2) (sim_g' (by rw [q.length]) fun _ => sim_new hX q))
  | sub => cases x <;> cases y <;> first | trivial | (cases cb_int.mp h1; cases cb_int.mp h2; exact sim_int)
  | mul =>
    cases x <;> cases y <;> try trivial
    · cases cb_int.mp h1; cases cb_int.mp h2; exact sim_g fun _ => sim_int
    · cases cb_str.mp h1; cases cb_int.mp h2; exact sim_g fun _ => sim_str
    · obtain ⟨ds, rfl, q1⟩ := cb_tup.mp h1
      cases cb_int.mp h2
      exact sim_g' (by rw [q1.length, q1.empty]) fun _ => sim_tup (q1.rep _)
    · obtain ⟨n, ds, rfl, e1, q1⟩ := cb_lst.mp h1
      cases cb_int.mp h2
      exact sim_pre (p_owL e1) (sim_g' (by rw [q1.length]) fun _ => sim_new hX (q1.rep _))
  | mod => cases x <;> cases y <;> first | trivial | (cases cb_int.mp h1; cases cb_int.mp h2; exact sim_g fun _ => sim_int)
  | fdiv => cases x <;> cases y <;> first | trivial | (cases cb_int.mp h1; cases cb_int.mp h2; exact sim_g fun _ => sim_int)
  | pow => cases x <;> cases y <;> first | trivial | (cases cb_int.mp h1; cases cb_int.mp h2; exact sim_g fun _ => sim_int)
theorem aug_ok {o : BOp} {b : Bool} (h1 : CB S X x d) (h2 : CB S X y e) : Sim S (RE X S b) (augV o x y) (augop o d e) := by
  cases o with
  | add =>
    cases x <;> cases y <;> try trivial
    · cases cb_int.mp h1; cases cb_int.mp h2; exact sim_int
    · cases cb_str.mp h1; cases cb_str.mp h2; exact sim_g fun _ => sim_str
  | sub => cases x <;> cases y <;> first | trivial | (cases cb_int.mp h1; cases cb_int.mp h2; exact sim_int)
  | _ => cases x <;> cases y <;> trivial
theorem tru_ok (h : CB S X x d) : Sim S (fun _ a b => a = b) (truV x) (truth d) := by
  cases x with
  | non => cases cb_non.mp h; exact sim_ret rfl
  | bl b => cases cb_bl.mp h; exact sim_ret rfl
  | int i => cases cb_int.mp h; exact sim_ret rfl
  | str s => cases cb_str.mp h; exact sim_g fun _ => sim_ret rfl
  | tup xs => obtain ⟨ds, rfl, q⟩ := cb_tup.mp h; exact sim_ret (by rw [q.empty])
  | lst xs => obtain ⟨n, ds, rfl, e1, q⟩ := cb_lst.mp h; exact sim_pre (p_rdL e1) (sim_ret (by rw [q.empty]))
  | _ => trivial
theorem asB_ok (h : CB S X x d) : Sim S (fun _ a b => a = b) (asBV x) (asB d) := by
  cases x with
  | bl b => cases cb_bl.mp h; exact sim_ret rfl
  | _ => trivial
theorem asI_ok (h : CB S X x d) : Sim S (fun _ a b => a = b) (asIV x) (asI d) := by
  cases x with
  | int b => cases cb_int.mp h; exact sim_ret rfl
  | _ => trivial
theorem atI_b {i : Int} (h : CRs S X vs ds) (e : atI vs i = some v) : ∃ d, atI ds i = some d ∧ CR S X v d := by
  unfold atI at e ⊢
  rw [← h.length]
  cases q : ixN vs.length i with
  | none => rw [q] at e; cases e
  | some k => rw [q] at e; exact h.at e
theorem idx_ok (h1 : CB S X x d) (h2 : CB S X y e) : Sim S (RE X S false) (idxV x y) (index d e) := by
  by_cases hd : ∃ ks vs, x = .dct ks vs
  · obtain ⟨ks, vs, rfl⟩ := hd
    obtain ⟨n, kvs, rfl, e1, e2, e3⟩ := cb_dct.mp h1
    rw [i_L]
    have K := kr_zip e2 e3
    have hV : idxV (.dct ks vs) y = optV (dGet (ks.zip vs) y) := by cases y <;> rfl
    rw [hV]
    refine sim_pre (p_getC e1) ?_
    rw [ix_d]
    refine sim_opt fun a ea => ?_
    obtain ⟨k, hk, hf, hg⟩ := dget_some ea
    have := key_b h2 hk
    subst this
    rcases K.at (k := k) with ⟨z, _⟩ | ⟨v, d', z1, z2, z3⟩
    · rw [z] at hg; cases hg
    · rw [z1] at hg; cases hg
      refine ⟨d', ?_, z3, fun z => nomatch z⟩
      unfold dGet
      simp only [hk]
      rw [K.fits] at hf
      rw [if_pos hf, z2]
  cases x <;> cases y <;> first | exact absurd ⟨_, _, rfl⟩ hd | skip
  all_goals try trivial
  · cases cb_str.mp h1; cases cb_int.mp h2
    refine sim_g fun _ => sim_opt fun a ea => ⟨a, ea, ?_, fun z => nomatch z⟩
    cases q : atI _ _ with
    | none => rw [q] at ea; cases ea
    | some c => rw [q] at ea; cases ea; exact cr_str.mpr rfl
  · obtain ⟨ds, rfl, q⟩ := cb_tup.mp h1
    cases cb_int.mp h2
    exact sim_opt fun a ea => (atI_b q ea).imp fun b hb => ⟨hb.1, hb.2, fun z => nomatch z⟩
  · obtain ⟨n, ds, rfl, e1, q⟩ := cb_lst.mp h1
    cases cb_int.mp h2
    exact sim_pre (p_getC e1) (sim_opt (o' := atI ds _) fun a ea => (atI_b q ea).imp fun b hb => ⟨hb.1, hb.2, fun z => nomatch z⟩)
theorem slc_ok {lo hi : Option Int} {b : Bool} (hX : ∀ n, X n → n < S.length) (h1 : CB S X x d) : Sim S (RE X S b) (slcV x lo hi) (slice d lo hi) := by
  cases x with
  | str z => cases cb_str.mp h1; exact sim_g fun _ => sim_str
  | tup xs => obtain ⟨ds, rfl, q⟩ := cb_tup.mp h1; exact sim_tup (q.cut lo hi)
  | lst xs => obtain ⟨n, ds, rfl, e1, q⟩ := cb_lst.mp h1; exact sim_pre (p_rdL e1) (sim_new hX (q.cut lo hi))
  | _ => trivial
/-- the items of a row, and what goes on with them -/
theorem sim_seq {α β : Type} {Q : Store → α → β → Prop} {f : List D → Rv α} {g : List D → M β} (h1 : CB S X x d) (k : ∀ vs ds, CRs S X vs ds → Sim S Q (f vs) (g ds)) : Sim S Q ((seqV x).bind f) ((seqOf d).bind g) := by
  cases x with
  | tup xs => obtain ⟨ds, rfl, q⟩ := cb_tup.mp h1; exact sim_pre (b := ds) (fun P E => Iff.rfl) (k _ _ q)
  | lst xs => obtain ⟨n, ds, rfl, e1, q⟩ := cb_lst.mp h1; exact sim_pre (p_rdL e1) (k _ _ q)
  | _ => trivial
theorem repr_ok {b : Bool} (h : CB S X x d) : Sim S (RE X S b) (reprV x) (reprM d) := by
  unfold reprV
  split
  · rename_i a ea
    split
    · rename_i hc
      show wpx (reprM d) (fun e S' => Kp S S' ∧ RE X S b S' _ e) E0x S
      unfold wpx reprM
      rw [pyL_b h ea]
      simp only [hc, if_true]
      exact ⟨.refl S, cr_str.mpr rfl, fun _ n z => nomatch z⟩
    · trivial
  · trivial
theorem CBs.nilE (h : CBs S X [] ds) : ds = [] := h
theorem cbs1 (h : CBs S X [v] ds) : ∃ d, ds = [d] ∧ CB S X v d := by
  obtain ⟨d, r, rfl, a, b⟩ := h
  cases b.nilE
  exact ⟨d, rfl, a⟩
theorem cbs2 {w : D} (h : CBs S X [v, w] ds) : ∃ d e, ds = [d, e] ∧ CB S X v d ∧ CB S X w e := by
  obtain ⟨d, r, rfl, a, b⟩ := h
  obtain ⟨e, rfl, c⟩ := cbs1 b
  exact ⟨d, e, rfl, a, c⟩
theorem plains_strs : ∀ xs : List Str, plains (xs.map .str) = true
  | [] => rfl
  | x :: xs => plains_strs xs
theorem bv_int {b : Bool} (hX : ∀ n, X n → n < S.length) (hc : CBs S X vs ds) : Sim S (RE X S b) (biV .int vs) (builtin .int ds) := by
  match vs, hc with
  | [], _ => trivial
  | x :: y :: r, _ => cases x <;> trivial
  | [x], hc =>
    obtain ⟨d, rfl, h⟩ := cbs1 hc
    clear hc
    cases x with
    | int i => cases cb_int.mp h; exact sim_int
    | bl i => cases cb_bl.mp h; exact sim_int
    | _ => trivial
theorem bv_abs {b : Bool} (hX : ∀ n, X n → n < S.length) (hc : CBs S X vs ds) : Sim S (RE X S b) (biV .abs vs) (builtin .abs ds) := by
  match vs, hc with
  | [], _ => trivial
  | x :: y :: r, _ => cases x <;> trivial
  | [x], hc =>
    obtain ⟨d, rfl, h⟩ := cbs1 hc
    clear hc
    cases x with
    | int i => cases cb_int.mp h; exact sim_int
    | _ => trivial
theorem bv_max1 {b : Bool} (hX : ∀ n, X n → n < S.length) (hc : CBs S X vs ds) : Sim S (RE X S b) (biV .max1 vs) (builtin .max1 ds) := by
  match vs, hc with
  | [], _ => trivial
  | x :: y :: r, _ => cases x <;> trivial
  | [x], hc =>
    obtain ⟨d, rfl, h⟩ := cbs1 hc
    clear hc
    cases x with
    | lst xs => obtain ⟨n, ds, rfl, e1, q⟩ := cb_lst.mp h; exact sim_pre (p_rdL e1) (sim_o (fun a ea => by rw [(crs_plain (ints_plain ea)).mp q]; exact ea) fun a _ => sim_g fun _ => sim_int)
    | _ => trivial
theorem bv_sum {b : Bool} (hX : ∀ n, X n → n < S.length) (hc : CBs S X vs ds) : Sim S (RE X S b) (biV .sum vs) (builtin .sum ds) := by
  match vs, hc with
  | [], _ => trivial
  | x :: y :: r, _ => cases x <;> trivial
  | [x], hc =>
    obtain ⟨d, rfl, h⟩ := cbs1 hc
    clear hc
    cases x with
    | lst xs => obtain ⟨n, ds, rfl, e1, q⟩ := cb_lst.mp h; exact sim_pre (p_rdL e1) (sim_o (fun a ea => by rw [(crs_plain (ints_plain ea)).mp q]; exact ea) fun a _ => sim_int)
    | _ => trivial
theorem bv_all {b : Bool} (hX : ∀ n, X n → n < S.length) (hc : CBs S X vs ds) : Sim S (RE X S b) (biV .all vs) (builtin .all ds) := by
  match vs, hc with
  | [], _ => trivial
  | x :: y :: r, _ => cases x <;> trivial
  | [x], hc =>
    obtain ⟨d, rfl, h⟩ := cbs1 hc
    clear hc
    cases x with
    | lst xs => obtain ⟨n, ds, rfl, e1, q⟩ := cb_lst.mp h; exact sim_pre (p_rdL e1) (sim_o (fun a ea => by rw [(crs_plain (bools_plain ea)).mp q]; exact ea) fun a _ => sim_bl)
    | _ => trivial
theorem bv_list {b : Bool} (hX : ∀ n, X n → n < S.length) (hc : CBs S X vs ds) : Sim S (RE X S b) (biV .list vs) (builtin .list ds) := by
  match vs, hc with
  | [], _ => trivial
  | x :: y :: r, _ => cases x <;> trivial
  | [x], hc =>
    obtain ⟨d, rfl, h⟩ := cbs1 hc
    clear hc
    exact sim_seq h fun us es q => sim_new hX q
theorem bv_tuple {b : Bool} (hX : ∀ n, X n → n < S.length) (hc : CBs S X vs ds) : Sim S (RE X S b) (biV .tuple vs) (builtin .tuple ds) := by
  match vs, hc with
  | [], _ => trivial
  | x :: y :: r, _ => cases x <;> trivial
  | [x], hc =>
    obtain ⟨d, rfl, h⟩ := cbs1 hc
    clear hc
    exact sim_seq h fun us es q => sim_tup q
theorem bv_len {b : Bool} (hX : ∀ n, X n → n < S.length) (hc : CBs S X vs ds) : Sim S (RE X S b) (biV .len vs) (builtin .len ds) := by
  match vs, hc with
  | [], _ => trivial
  | x :: y :: r, _ => cases x <;> trivial
  | [x], hc =>
    obtain ⟨d, rfl, h⟩ := cbs1 hc
    clear hc
    cases x with
    | str s => cases cb_str.mp h; exact sim_g fun _ => sim_int
    | tup xs => obtain ⟨ds, rfl, q⟩ := cb_tup.mp h; show Sim S (RE X S b) (Rv.ok (D.int xs.length)) (M.ret (D.int ds.length)); rw [q.length]; exact sim_int
    | lst xs => obtain ⟨n, ds, rfl, e1, q⟩ := cb_lst.mp h; exact sim_pre (p_getC e1) (by show Sim S (RE X S b) (Rv.ok (D.int xs.length)) (M.ret (D.int ds.length)); rw [← q.length]; exact sim_int)
    | dct ks us =>
      obtain ⟨n, kvs, rfl, e1, e2, e3⟩ := cb_dct.mp h
      refine sim_pre (p_getC e1) ?_
      show Sim S (RE X S b) (Rv.ok (D.int (ks.zip us).length)) (M.ret (D.int kvs.length))
      rw [(kr_zip e2 e3).length]
      exact sim_int
    | _ => trivial
theorem bv_str {b : Bool} (hX : ∀ n, X n → n < S.length) (hc : CBs S X vs ds) : Sim S (RE X S b) (biV .str vs) (builtin .str ds) := by
  match vs, hc with
  | [], _ => trivial
  | x :: y :: r, _ => cases x <;> trivial
  | [x], hc =>
    obtain ⟨d, rfl, h⟩ := cbs1 hc
    clear hc
    cases x with
    | int i => cases cb_int.mp h; exact sim_g fun _ => sim_str
    | str i => cases cb_str.mp h; exact sim_str
    | _ => trivial
theorem bv_repr {b : Bool} (hX : ∀ n, X n → n < S.length) (hc : CBs S X vs ds) : Sim S (RE X S b) (biV .repr vs) (builtin .repr ds) := by
  match vs, hc with
  | [], _ => trivial
  | x :: y :: r, _ => cases x <;> trivial
  | [x], hc =>
    obtain ⟨d, rfl, h⟩ := cbs1 hc
    clear hc
    cases x with
    | int i => cases cb_int.mp h; exact sim_g fun _ => sim_str
    | str i => cases cb_str.mp h; exact sim_g fun _ => sim_str
    | bl i => cases cb_bl.mp h; exact sim_str
    | non => cases cb_non.mp h; exact sim_str
    | tup xs => have q := repr_ok (b := b) h; obtain ⟨ds, rfl, _⟩ := cb_tup.mp h; exact q
    | lst xs => have q := repr_ok (b := b) h; obtain ⟨n, ds, rfl, _, _⟩ := cb_lst.mp h; exact q
    | _ => trivial
theorem bv_min1 {b : Bool} (hX : ∀ n, X n → n < S.length) (hc : CBs S X vs ds) : Sim S (RE X S b) (biV .min1 vs) (builtin .min1 ds) := by
  match vs, hc with
  | [], _ => trivial
  | x :: y :: r, _ => cases x <;> trivial
  | [x], hc =>
    obtain ⟨d, rfl, h⟩ := cbs1 hc
    clear hc
    cases x with
    | lst xs => obtain ⟨n, ds, rfl, e1, q⟩ := cb_lst.mp h; exact sim_pre (p_rdL e1) (sim_o (fun a ea => by rw [(crs_plain (ints_plain ea)).mp q]; exact ea) fun a _ => sim_g fun _ => sim_int)
    | _ => trivial
theorem bv_any {b : Bool} (hX : ∀ n, X n → n < S.length) (hc : CBs S X vs ds) : Sim S (RE X S b) (biV .any vs) (builtin .any ds) := by
  match vs, hc with
  | [], _ => trivial
  | x :: y :: r, _ => cases x <;> trivial
  | [x], hc =>
    obtain ⟨d, rfl, h⟩ := cbs1 hc
    clear hc
    cases x with
    | lst xs => obtain ⟨n, ds, rfl, e1, q⟩ := cb_lst.mp h; exact sim_pre (p_rdL e1) (sim_o (fun a ea => by rw [(crs_plain (bools_plain ea)).mp q]; exact ea) fun a _ => sim_bl)
    | _ => trivial
theorem p_no {n : Nat} {c : Cell} (e : S[n]? = some c) (hc : kmno c = M.ret ()) : ∀ (P : Unit → Store → Prop) E, wpx (noObj (.loc n)) P E S ↔ P () S := fun P E => by
  rw [no_loc, wpx_bind]
  unfold wpx getC
  simp only [e, hc]
  exact Iff.rfl
theorem sim_no {n : Nat} {c : Cell} {b i : Bool} (e : S[n]? = some c) (hc : kmno c = M.ret ()) : Sim S (RE X S b) (.ok (.bl i)) (M.bind (noObj (.loc n)) fun _ => M.ret (.bl i)) := sim_pre (p_no e hc) sim_bl
theorem bv_isList {b : Bool} (hX : ∀ n, X n → n < S.length) (hc : CBs S X vs ds) : Sim S (RE X S b) (biV .isList vs) (builtin .isList ds) := by
  match vs, hc with
  | [], _ => trivial
  | x :: y :: r, _ => cases x <;> trivial
  | [x], hc =>
    obtain ⟨d, rfl, h⟩ := cbs1 hc
    clear hc
    cases x with
    | non => cases cb_non.mp h; exact sim_bl
    | bl i => cases cb_bl.mp h; exact sim_bl
    | int i => cases cb_int.mp h; exact sim_bl
    | str i => cases cb_str.mp h; exact sim_bl
    | tup xs => obtain ⟨ds, rfl, _⟩ := cb_tup.mp h; exact sim_bl
    | lst xs => obtain ⟨n, ds, rfl, e1, _⟩ := cb_lst.mp h; exact sim_pre (p_rdL e1) sim_bl
    | loc _ => exact (cb_loc h).elim
    | dct _ _ => trivial
theorem bv_isTuple {b : Bool} (hX : ∀ n, X n → n < S.length) (hc : CBs S X vs ds) : Sim S (RE X S b) (biV .isTuple vs) (builtin .isTuple ds) := by
  match vs, hc with
  | [], _ => trivial
  | x :: y :: r, _ => cases x <;> trivial
  | [x], hc =>
    obtain ⟨d, rfl, h⟩ := cbs1 hc
    clear hc
    cases x with
    | non => cases cb_non.mp h; exact sim_bl
    | bl i => cases cb_bl.mp h; exact sim_bl
    | int i => cases cb_int.mp h; exact sim_bl
    | str i => cases cb_str.mp h; exact sim_bl
    | tup xs => obtain ⟨ds, rfl, _⟩ := cb_tup.mp h; exact sim_bl
    | lst xs => obtain ⟨n, ds, rfl, e1, _⟩ := cb_lst.mp h; exact sim_no e1 rfl
    | loc _ => exact (cb_loc h).elim
    | dct _ _ => obtain ⟨n, kvs, rfl, e1, _⟩ := cb_dct.mp h; exact sim_no e1 rfl
theorem bv_isStr {b : Bool} (hX : ∀ n, X n → n < S.length) (hc : CBs S X vs ds) : Sim S (RE X S b) (biV .isStr vs) (builtin .isStr ds) := by
  match vs, hc with
  | [], _ => trivial
  | x :: y :: r, _ => cases x <;> trivial
  | [x], hc =>
    obtain ⟨d, rfl, h⟩ := cbs1 hc
    clear hc
    cases x with
    | non => cases cb_non.mp h; exact sim_bl
    | bl i => cases cb_bl.mp h; exact sim_bl
    | int i => cases cb_int.mp h; exact sim_bl
    | str i => cases cb_str.mp h; exact sim_bl
    | tup xs => obtain ⟨ds, rfl, _⟩ := cb_tup.mp h; exact sim_bl
    | lst xs => obtain ⟨n, ds, rfl, e1, _⟩ := cb_lst.mp h; exact sim_no e1 rfl
    | loc _ => exact (cb_loc h).elim
    | dct _ _ => obtain ⟨n, kvs, rfl, e1, _⟩ := cb_dct.mp h; exact sim_no e1 rfl
theorem bv_isInt {b : Bool} (hX : ∀ n, X n → n < S.length) (hc : CBs S X vs ds) : Sim S (RE X S b) (biV .isInt vs) (builtin .isInt ds) := by
  match vs, hc with
  | [], _ => trivial
  | x :: y :: r, _ => cases x <;> trivial
  | [x], hc =>
    obtain ⟨d, rfl, h⟩ := cbs1 hc
    clear hc
    cases x with
    | non => cases cb_non.mp h; exact sim_bl
    | bl i => cases cb_bl.mp h; exact sim_bl
    | int i => cases cb_int.mp h; exact sim_bl
    | str i => cases cb_str.mp h; exact sim_bl
    | tup xs => obtain ⟨ds, rfl, _⟩ := cb_tup.mp h; exact sim_bl
    | lst xs => obtain ⟨n, ds, rfl, e1, _⟩ := cb_lst.mp h; exact sim_no e1 rfl
    | loc _ => exact (cb_loc h).elim
    | dct _ _ => obtain ⟨n, kvs, rfl, e1, _⟩ := cb_dct.mp h; exact sim_no e1 rfl
theorem bv_isBool {b : Bool} (hX : ∀ n, X n → n < S.length) (hc : CBs S X vs ds) : Sim S (RE X S b) (biV .isBool vs) (builtin .isBool ds) := by
  match vs, hc with
  | [], _ => trivial
  | x :: y :: r, _ => cases x <;> trivial
  | [x], hc =>
    obtain ⟨d, rfl, h⟩ := cbs1 hc
    clear hc
    cases x with
    | non => cases cb_non.mp h; exact sim_bl
    | bl i => cases cb_bl.mp h; exact sim_bl
    | int i => cases cb_int.mp h; exact sim_bl
    | str i => cases cb_str.mp h; exact sim_bl
    | tup xs => obtain ⟨ds, rfl, _⟩ := cb_tup.mp h; exact sim_bl
    | lst xs => obtain ⟨n, ds, rfl, e1, _⟩ := cb_lst.mp h; exact sim_no e1 rfl
    | loc _ => exact (cb_loc h).elim
    | dct _ _ => obtain ⟨n, kvs, rfl, e1, _⟩ := cb_dct.mp h; exact sim_no e1 rfl
theorem bv_max2 {b : Bool} (hX : ∀ n, X n → n < S.length) (hc : CBs S X vs ds) : Sim S (RE X S b) (biV .max2 vs) (builtin .max2 ds) := by
  match vs, hc with
  | [], _ => trivial
  | [x], _ => cases x <;> trivial
  | x :: y :: z :: r, _ => cases x <;> cases y <;> trivial
  | [x, y], hc =>
    obtain ⟨d, e, rfl, h1, h2⟩ := cbs2 hc
    clear hc
    cases x <;> cases y <;> first | trivial | (cases cb_int.mp h1; cases cb_int.mp h2; exact sim_int)
theorem bv_join {b : Bool} (hX : ∀ n, X n → n < S.length) (hc : CBs S X vs ds) : Sim S (RE X S b) (biV .join vs) (builtin .join ds) := by
  match vs, hc with
  | [], _ => trivial
  | [x], _ => cases x <;> trivial
  | x :: y :: z :: r, _ => cases x <;> cases y <;> trivial
  | [x, y], hc =>
    obtain ⟨d, e, rfl, h1, h2⟩ := cbs2 hc
    clear hc
    cases x with
    | str a => cases cb_str.mp h1; exact sim_seq h2 fun us es q => sim_o (fun a ea => by rw [(crs_plain (strs_plain ea)).mp q]; exact ea) fun a _ => sim_g fun _ => sim_str
    | _ => trivial
theorem bv_split {b : Bool} (hX : ∀ n, X n → n < S.length) (hc : CBs S X vs ds) : Sim S (RE X S b) (biV .split vs) (builtin .split ds) := by
  match vs, hc with
  | [], _ => trivial
  | [x], _ => cases x <;> trivial
  | x :: y :: z :: r, _ => cases x <;> cases y <;> trivial
  | [x, y], hc =>
    obtain ⟨d, e, rfl, h1, h2⟩ := cbs2 hc
    clear hc
    cases x <;> cases y <;> first | trivial | (cases cb_str.mp h1; cases cb_str.mp h2; exact sim_g fun _ => sim_new hX ((crs_plain (plains_strs _)).mpr rfl))
theorem bv_startswith {b : Bool} (hX : ∀ n, X n → n < S.length) (hc : CBs S X vs ds) : Sim S (RE X S b) (biV .startswith vs) (builtin .startswith ds) := by
  match vs, hc with
  | [], _ => trivial
  | [x], _ => cases x <;> trivial
  | x :: y :: z :: r, _ => cases x <;> cases y <;> trivial
  | [x, y], hc =>
    obtain ⟨d, e, rfl, h1, h2⟩ := cbs2 hc
    clear hc
    cases x <;> cases y <;> first | trivial | (cases cb_str.mp h1; cases cb_str.mp h2; exact sim_bl)
theorem bv_min2 {b : Bool} (hX : ∀ n, X n → n < S.length) (hc : CBs S X vs ds) : Sim S (RE X S b) (biV .min2 vs) (builtin .min2 ds) := by
  match vs, hc with
  | [], _ => trivial
  | [x], _ => cases x <;> trivial
  | x :: y :: z :: r, _ => cases x <;> cases y <;> trivial
  | [x, y], hc =>
    obtain ⟨d, e, rfl, h1, h2⟩ := cbs2 hc
    clear hc
    cases x <;> cases y <;> first | trivial | (cases cb_int.mp h1; cases cb_int.mp h2; exact sim_int)
theorem bi_ok {bb : Bi} {b : Bool} (hX : ∀ n, X n → n < S.length) (h : CBs S X vs ds) : Sim S (RE X S b) (biV bb vs) (builtin bb ds) := by
  cases bb with
  | int => exact bv_int hX h
  | abs => exact bv_abs hX h
  | max1 => exact bv_max1 hX h
  | sum => exact bv_sum hX h
  | all => exact bv_all hX h
  | list => exact bv_list hX h
  | tuple => exact bv_tuple hX h
  | len => exact bv_len hX h
  | str => exact bv_str hX h
  | repr => exact bv_repr hX h
  | min1 => exact bv_min1 hX h
  | any => exact bv_any hX h
  | isTuple => exact bv_isTuple hX h
  | isList => exact bv_isList hX h
  | isStr => exact bv_isStr hX h
  | isInt => exact bv_isInt hX h
  | isBool => exact bv_isBool hX h
  | max2 => exact bv_max2 hX h
  | join => exact bv_join hX h
  | split => exact bv_split hX h
  | startswith => exact bv_startswith hX h
  | min2 => exact bv_min2 hX h
  | _ => trivial
end
end Mn
/-! Mn by value: expressions. -/
namespace Mn
open PySem L2
def OwnN (mt : List Nat) (envD : Nv) (n : Nat) : Prop := ∃ i, i ∈ mt ∧ envD[i]? = some (some (.loc n))
def XO (mt : List Nat) (Y : Nat → Prop) (envD : Nv) (n : Nat) : Prop := Y n ∨ OwnN mt envD n
structure ER (S : Store) (mt : List Nat) (Y : Nat → Prop) (env envD : Nv) : Prop where
  len : env.length = envD.length
  val : ∀ (i : Nat) v, env[i]? = some (some v) → ∃ d, envD[i]? = some (some d) ∧ CB S (XO mt Y envD) v d ∧ (i ∉ mt → CR S (XO mt Y envD) v d)
  own : ∀ i n, i ∈ mt → envD[i]? = some (some (.loc n)) → ¬ Y n ∧ n < S.length
  dis : ∀ i j n, i ∈ mt → j ∈ mt → envD[i]? = some (some (.loc n)) → envD[j]? = some (some (.loc n)) → i = j
  yb : ∀ n, Y n → n < S.length
section
variable {S S' : Store} {mt : List Nat} {Y : Nat → Prop} {env envD : Nv}
theorem ER.xb (h : ER S mt Y env envD) : ∀ n, XO mt Y envD n → n < S.length := fun n z => z.elim (h.yb n) fun ⟨i, a, b⟩ => (h.own i n a b).2
theorem ER.kp (k : Kp S S') (h : ER S mt Y env envD) : ER S' mt Y env envD :=
  ⟨h.len, fun i v e => (h.val i v e).imp fun d ⟨a, b, c⟩ => ⟨a, b.kp k, fun z => (c z).kp k⟩, fun i n a b => ⟨(h.own i n a b).1, Nat.lt_of_lt_of_le (h.own i n a b).2 k.len⟩, h.dis, fun n y => Nat.lt_of_lt_of_le (h.yb n y) k.len⟩
theorem ne_mem {i j : Nat} (h : i ∉ mt) (a : j ∈ mt) : i ≠ j := fun q => h (q ▸ a)
theorem XO.set {i : Nat} {x : Option D} (h : i ∉ mt) : XO mt Y (envD.set i x) = XO mt Y envD := by
  funext n
  apply propext
  unfold XO OwnN
  constructor
  · rintro (z | ⟨j, a, b⟩)
    · exact .inl z
    · refine .inr ⟨j, a, ?_⟩
      rw [List.getElem?_set_ne (ne_mem h a)] at b
      exact b
  · rintro (z | ⟨j, a, b⟩)
    · exact .inl z
    · refine .inr ⟨j, a, ?_⟩
      rw [List.getElem?_set_ne (ne_mem h a)]
      exact b
/-- a name that keeps no list of its own -/
theorem ER.set {i : Nat} {v d : D} (hi : i ∉ mt) (h : ER S mt Y env envD) (c : CR S (XO mt Y envD) v d) : ER S mt Y (env.set i (some v)) (envD.set i (some d)) := by
  refine ⟨by simp [h.len], fun j w e => ?_, fun j n a b => h.own j n a ?_, fun j k n a b e f => h.dis j k n a b ?_ ?_, h.yb⟩
  · rw [XO.set hi]
    rw [List.getElem?_set] at e
    by_cases hj : i = j
    · subst hj
      rw [if_pos rfl] at e
      split at e
      · rename_i hl
        cases e
        exact ⟨d, List.getElem?_set_self (by rw [← h.len]; exact hl), c.b, fun _ => c⟩
      · cases e
    · rw [if_neg hj] at e
      obtain ⟨d', a, b⟩ := h.val j w e
      exact ⟨d', by rw [List.getElem?_set_ne hj]; exact a, b⟩
  · rw [List.getElem?_set_ne (ne_mem hi a)] at b; exact b
  · rw [List.getElem?_set_ne (ne_mem hi a)] at e; exact e
  · rw [List.getElem?_set_ne (ne_mem hi b)] at f; exact f
theorem ER.unset {i : Nat} (hi : i ∉ mt) (h : ER S mt Y env envD) : ER S mt Y (env.set i none) (envD.set i none) := by
  refine ⟨by simp [h.len], fun j w e => ?_, fun j n a b => h.own j n a ?_, fun j k n a b e f => h.dis j k n a b ?_ ?_, h.yb⟩
  · rw [XO.set hi]
    rw [List.getElem?_set] at e
    by_cases hj : i = j
    · subst hj
      rw [if_pos rfl] at e
      split at e <;> cases e
    · rw [if_neg hj] at e
      obtain ⟨d', a, b⟩ := h.val j w e
      exact ⟨d', by rw [List.getElem?_set_ne hj]; exact a, b⟩
  · rw [List.getElem?_set_ne (ne_mem hi a)] at b; exact b
  · rw [List.getElem?_set_ne (ne_mem hi a)] at e; exact e
  · rw [List.getElem?_set_ne (ne_mem hi b)] at f; exact f
theorem ER.wipe (h : ER S mt Y env envD) : ∀ {own : List Nat}, (∀ j ∈ own, j ∉ mt) → ER S mt Y (wipeD env own) (wipeD envD own)
  | [], _ => h
  | j :: own, hj => (ER.wipe h fun k hk => hj k (List.mem_cons_of_mem _ hk)).unset (hj j (List.mem_cons_self ..))
theorem XO.wipe : ∀ {own : List Nat}, (∀ j ∈ own, j ∉ mt) → XO mt Y (wipeD envD own) = XO mt Y envD
  | [], _ => rfl
  | j :: own, hj => by
    show XO mt Y ((wipeD envD own).set j none) = _
    rw [XO.set (hj j (List.mem_cons_self ..)), XO.wipe fun k hk => hj k (List.mem_cons_of_mem _ hk)]
/-- one place more that is no one's -/
theorem ER.more {p : Nat} (hp : S.length ≤ p) (k : Kp S S') (hl : p < S'.length) (h : ER S mt Y env envD) : ER S' mt (fun n => Y n ∨ n = p) env envD := by
  have go : ∀ {v d : D}, CR S (XO mt Y envD) v d → CR S' (XO mt (fun n => Y n ∨ n = p) envD) v d := fun c => c.go (fun n ds _ q => k.keep _ _ q) fun n hn z => by
    rcases z with (z | z) | z
    · exact .inl z
    · omega
    · exact .inr z
  have gob : ∀ {v d : D}, CB S (XO mt Y envD) v d → CB S' (XO mt (fun n => Y n ∨ n = p) envD) v d := by
    intro v d b
    cases v with
    | lst vs =>
      obtain ⟨n, ds, e1, e2, e3⟩ := b
      refine ⟨n, ds, e1, k.keep _ _ e2, e3.go (fun n ds _ q => k.keep _ _ q) fun n hn z => ?_⟩
      rcases z with (z | z) | z
      · exact .inl z
      · omega
      · exact .inr z
    | dct ks vs =>
      obtain ⟨n, ds, e1, e2, e0, e3⟩ := b
      refine ⟨n, ds, e1, k.keep _ _ e2, e0, e3.go (fun n ds _ q => k.keep _ _ q) fun n hn z => ?_⟩
      rcases z with (z | z) | z
      · exact .inl z
      · omega
      · exact .inr z
    | _ => exact go (show CR S _ _ d from b)
  refine ⟨h.len, fun i v e => (h.val i v e).imp fun d ⟨a, b, c⟩ => ⟨a, gob b, fun z => go (c z)⟩, fun i n a b => ⟨?_, Nat.lt_of_lt_of_le (h.own i n a b).2 k.len⟩, h.dis, ?_⟩
  · rintro (z | z)
    · exact (h.own i n a b).1 z
    · have := (h.own i n a b).2; omega
  · rintro n (z | z)
    · exact Nat.lt_of_lt_of_le (h.yb n z) k.len
    · omega
end
structure CtxOk (C : CV) (C' : Ctx) : Prop where
  glob : C.glob = C'.glob
  gp : ∀ x d, C.glob x = some d → plain d = true
  call : ∀ f vs ds S (X : Nat → Prop), (∀ n, X n → n < S.length) → CRs S X vs ds → Sim S (fun S' v d => CR S' X v d) (C.call f vs) (C'.call f ds)
theorem okB_or {mt : List Nat} {e : E} (h : okB mt e = true) : (∃ i, e = .v i) ∨ okE mt e = true := by
  cases e <;> first | exact .inl ⟨_, rfl⟩ | exact .inr h
section
variable {C : CV} {C' : Ctx} {mt : List Nat} {Y : Nat → Prop} {S : Store} {env envD : Nv} {X : Nat → Prop}
theorem plain_loc {d : D} (h : plain d = true) : ∀ n, d ≠ .loc n := fun n e => by subst e; cases h
/-- the items of what is walked -/
def ItOk (J : ItV) (S : Store) (ds : List D) : Prop := ∀ i, itO J i S = some ds[i]?
theorem items_ok {k : IK} {vs ds : List D} (h : CBs S X vs ds) : Sim S (fun S' items J => ∃ es, CRs S' X items es ∧ ItOk J S' es ∧ ∀ n, (J = .lst n ∨ ∃ k, J = .rev n k) → ds = [.loc n] ∧ n < S'.length) (itemsV k vs) (mkIt k ds) := by
  have rng : ∀ {lo : Int} {n : Nat}, plains (rngD lo n) = true := by
    intro lo n
    unfold rngD
    generalize List.range n = l
    induction l with
    | nil => rfl
    | cons a l ih => exact ih
  have chr : ∀ x : Str, plains (strItems x) = true := by
    intro x
    unfold strItems
    generalize x.cps.toList = l
    induction l with
    | nil => rfl
    | cons a l ih => exact ih
  have revL : ∀ {us : List D} {i : Nat}, (if i < us.length then us[us.length - 1 - i]? else none) = us.reverse[i]? := by
    intro us i
    split
    · rename_i h; rw [List.getElem?_reverse h]
    · rename_i h; rw [List.getElem?_eq_none (by simp; omega)]
  cases k with
  | rng1 =>
    match vs, h with
    | [], _ => trivial
    | x :: y :: r, _ => cases x <;> trivial
    | [x], hc =>
      obtain ⟨d, rfl, h⟩ := cbs1 hc
      clear hc
      cases x with
      | int j =>
        cases cb_int.mp h
        exact sim_g fun _ => sim_ret ⟨_, (crs_plain rng).mpr rfl, fun i => rng_it, fun n z => by rcases z with z | ⟨_, z⟩ <;> cases z⟩
      | _ => trivial
  | rng2 =>
    match vs, h with
    | [], _ => trivial
    | [x], _ => cases x <;> trivial
    | x :: y :: z :: r, _ => cases x <;> cases y <;> trivial
    | [x, y], hc =>
      obtain ⟨d, e, rfl, h1, h2⟩ := cbs2 hc
      clear hc
      cases x <;> cases y <;> try trivial
      cases cb_int.mp h1
      cases cb_int.mp h2
      exact sim_g fun _ => sim_ret ⟨_, (crs_plain rng).mpr rfl, fun i => rng_it, fun n z => by rcases z with z | ⟨_, z⟩ <;> cases z⟩
  | rng3 => trivial
  | seq =>
    match vs, h with
    | [], _ => trivial
    | x :: y :: r, _ => cases x <;> trivial
    | [x], hc =>
      obtain ⟨d, rfl, h⟩ := cbs1 hc
      clear hc
      cases x with
      | str z =>
        cases cb_str.mp h
        refine sim_ret ⟨_, (crs_plain (chr z)).mpr rfl, fun i => ?_, fun n z => by rcases z with z | ⟨_, z⟩ <;> cases z⟩
        show some (z.cps[i]?.map _) = some (strItems z)[i]?
        unfold strItems
        rw [List.getElem?_map, Array.getElem?_toList]
      | tup xs =>
        obtain ⟨ds, rfl, q⟩ := cb_tup.mp h
        exact sim_ret ⟨_, q, fun i => rfl, fun n z => by rcases z with z | ⟨_, z⟩ <;> cases z⟩
      | lst xs =>
        obtain ⟨n, ds, rfl, e1, q⟩ := cb_lst.mp h
        refine sim_pre (p_rdL e1) (sim_ret ⟨_, q, fun i => ?_, fun m z => by
          have hl := (List.getElem?_eq_some_iff.mp e1).1
          rcases z with z | ⟨_, z⟩ <;> cases z
          exact ⟨rfl, hl⟩⟩)
        exact k_Lit (by rw [e1]; rfl)
      | _ => trivial
  | rev =>
    match vs, h with
    | [], _ => trivial
    | x :: y :: r, _ => cases x <;> trivial
    | [x], hc =>
      obtain ⟨d, rfl, h⟩ := cbs1 hc
      clear hc
      cases x with
      | tup xs =>
        obtain ⟨ds, rfl, q⟩ := cb_tup.mp h
        refine sim_ret ⟨_, q.reverse, fun i => ?_, fun n z => by rcases z with z | ⟨_, z⟩ <;> cases z⟩
        show some _ = some _
        rw [revL]
      | lst xs =>
        obtain ⟨n, ds, rfl, e1, q⟩ := cb_lst.mp h
        refine sim_pre (p_rdL e1) (sim_ret ⟨_, q.reverse, fun i => ?_, fun m z => by
          have hl := (List.getElem?_eq_some_iff.mp e1).1
          rcases z with z | ⟨_, z⟩ <;> cases z
          exact ⟨rfl, hl⟩⟩)
        have e : rd S n = some ds := rd_lst e1
        show (match rd S n with | some xs => if xs.length = ds.length then some (if i < ds.length then xs[ds.length - 1 - i]? else none) else none | none => none) = _
        rw [e]
        show (if ds.length = ds.length then _ else _) = _
        rw [if_pos rfl, revL]
      | _ => trivial
end
end Mn
namespace Mn
open PySem L2
section
variable {C : CV} {C' : Ctx} {mt : List Nat} {Y : Nat → Prop} {S S' : Store} {env envD : Nv} {X : Nat → Prop}
theorem ne_nt {X : Nat → Prop} {n p : Nat} (hn : ¬ X n) (hp : X p) : p ≠ n := fun z => hn (z ▸ hp)
/-- a place that is no one's is written -/
theorem cr_upd {p : Nat} {c : Cell} (hp : X p) {v d : D} (h : CR S X v d) : CR (S.set p c) X v d :=
  h.go (fun n ds hn q => by rw [List.getElem?_set_ne (ne_nt hn hp)]; exact q) fun _ _ z => z
theorem crs_upd {p : Nat} {c : Cell} (hp : X p) {v d : List D} (h : CRs S X v d) : CRs (S.set p c) X v d :=
  h.go (fun n ds hn q => by rw [List.getElem?_set_ne (ne_nt hn hp)]; exact q) fun _ _ z => z
theorem ER.upd {p : Nat} {c : Cell} (hp : Y p) (h : ER S mt Y env envD) : ER (S.set p c) mt Y env envD := by
  refine ⟨h.len, fun i v e => ?_, fun i n a b => ⟨(h.own i n a b).1, by rw [List.length_set]; exact (h.own i n a b).2⟩, h.dis, fun n y => by rw [List.length_set]; exact h.yb n y⟩
  obtain ⟨d, a, b, f⟩ := h.val i v e
  refine ⟨d, a, ?_, fun z => cr_upd (.inl hp) (f z)⟩
  by_cases hi : i ∈ mt
  · cases v with
    | lst vs =>
      obtain ⟨n, ds, rfl, e2, e3⟩ := b
      refine ⟨n, ds, rfl, ?_, crs_upd (.inl hp) e3⟩
      rw [List.getElem?_set_ne (ne_nt (h.own i n hi a).1 hp)]
      exact e2
    | dct ks vs =>
      obtain ⟨n, ds, rfl, e2, e0, e3⟩ := b
      refine ⟨n, ds, rfl, ?_, e0, crs_upd (.inl hp) e3⟩
      rw [List.getElem?_set_ne (ne_nt (h.own i n hi a).1 hp)]
      exact e2
    | _ => exact cr_upd (.inl hp) (show CR S _ _ d from b)
  · exact (cr_upd (.inl hp) (f hi)).b
def SimC {α β : Type} (S0 S : Store) (R : Store → α → β → Prop) (r : Rv α) (m : M β) : Prop := match r with
  | .ok a => wpx m (fun b S' => Kp S0 S' ∧ R S' a b) E0x S
  | .exc e => wpx m (fun _ _ => False) (fun e' S' => Kp S0 S' ∧ e' = e) S
  | .bad => True
theorem simC_bind {α β γ δ : Type} {S0 : Store} {R : Store → α → β → Prop} {r : Rv α} {m : M β} {Q : Store → γ → δ → Prop} {f : α → Rv γ} {g : β → M δ} (k0 : Kp S0 S) (h : Sim S R r m) (k : ∀ a b S', Kp S S' → R S' a b → SimC S0 S' Q (f a) (g b)) : SimC S0 S Q (r.bind f) (m.bind g) := by
  cases r with
  | bad => trivial
  | exc e =>
    show wpx _ _ _ _
    rw [wpx_bind]
    exact wpx_mono h (fun _ _ z => z.elim) fun _ _ ⟨a, b⟩ => ⟨k0.trans a, b⟩
  | ok a =>
    have h : wpx m (fun b S' => Kp S S' ∧ R S' a b) E0x S := h
    show SimC S0 S Q (f a) (m.bind g)
    cases e : f a with
    | bad => trivial
    | exc x =>
      show wpx _ _ _ _
      rw [wpx_bind]
      refine wpx_of_wp h fun b S1 ⟨k1, h1⟩ => ?_
      have := k a b S1 k1 h1
      rw [e] at this
      exact this
    | ok c =>
      show wpx _ _ _ _
      rw [wpx_bind]
      refine wpx_of_wp h fun b S1 ⟨k1, h1⟩ => ?_
      have := k a b S1 k1 h1
      rw [e] at this
      exact this
theorem simC_pre {γ δ β : Type} {S0 : Store} {Q : Store → γ → δ → Prop} {m : M β} {f : Rv γ} {g : β → M δ} {b : β} (h : ∀ (P : β → Store → Prop) E, wpx m P E S ↔ P b S) (k : SimC S0 S Q f (g b)) : SimC S0 S Q f (m.bind g) := by
  cases f with
  | bad => trivial
  | exc e => show wpx _ _ _ _; rw [wpx_bind, h]; exact k
  | ok c => show wpx _ _ _ _; rw [wpx_bind, h]; exact k
theorem simC_wr {γ δ : Type} {S0 : Store} {Q : Store → γ → δ → Prop} {f : Rv γ} {p : Nat} {xs : List D} {g : Unit → M δ} (k : SimC S0 (S.set p (.lst xs)) Q f (g ())) : SimC S0 S Q f ((wrL p xs).bind g) := by
  cases f with
  | bad => trivial
  | exc e => show wpx _ _ _ _; rw [wpx_bind, x_wrL]; exact k
  | ok c => show wpx _ _ _ _; rw [wpx_bind, x_wrL]; exact k
theorem simC_wrC {γ δ : Type} {S0 : Store} {Q : Store → γ → δ → Prop} {f : Rv γ} {p : Nat} {c : Cell} {g : Unit → M δ} (k : SimC S0 (S.set p c) Q f (g ())) : SimC S0 S Q f ((wrC p c).bind g) := by
  cases f with
  | bad => trivial
  | exc e => show wpx _ _ _ _; rw [wpx_bind, x_wrC]; exact k
  | ok c => show wpx _ _ _ _; rw [wpx_bind, x_wrC]; exact k
theorem sim_env {b : Bool} {v d : D} (h : Sim S (fun S' v d => CR S' X v d) (.ok v) (M.ret d)) : Sim S (fun S' v d => CR S' X v d) (.ok v) (M.ret d) := h
/-- a comprehension's turns -/
theorem compV_ok {sl : Nat} {J : ItV} {items es : List D} {cond elt : Nv → Rv D} {condD eltD : Nv → M D} {S0 : Store} (hsl : sl ∉ mt)
    (hit : ItOk J S0 es) (hits : ∀ S, Kp S0 S → ∀ i, itO J i S = itO J i S0) (hc : CRs S0 X items es)
    (hx : ∀ n, n < S0.length → XO mt (fun n => Y n ∨ n = S0.length) envD n → X n)
    (cok : ∀ env envD S, ER S mt (fun n => Y n ∨ n = S0.length) env envD → Sim S (fun S' v d => CB S' (XO mt (fun n => Y n ∨ n = S0.length) envD) v d) (cond env) (condD envD))
    (eok : ∀ env envD S, ER S mt (fun n => Y n ∨ n = S0.length) env envD → Sim S (fun S' v d => CR S' (XO mt (fun n => Y n ∨ n = S0.length) envD) v d) (elt env) (eltD envD)) :
    ∀ (k i f : Nat) (acc accD : List D) (S : Store), es.length - i = k → i ≤ es.length → k < f → Kp S0 S → S[S0.length]? = some (.lst accD) → CRs S (XO mt (fun n => Y n ∨ n = S0.length) envD) acc accD → ER S mt (fun n => Y n ∨ n = S0.length) env envD →
      SimC S0 S (fun S' ys d => d = .loc S0.length ∧ ∃ ysD, S'[S0.length]? = some (.lst ysD) ∧ CRs S' (XO mt (fun n => Y n ∨ n = S0.length) envD) ys ysD) (compV (putD sl) cond elt env (items.drop i) acc) (compF J (putD sl) condD eltD envD S0.length f i) := by
  intro k
  induction k with
  | zero =>
    intro i f acc accD S hk hi hf k0 hp ha hE
    obtain ⟨f, rfl⟩ : ∃ g, f = g + 1 := ⟨f - 1, by omega⟩
    have e : i = es.length := by omega
    subst e
    rw [← hc.length, List.drop_length, compF]
    refine simC_pre (b := none) (fun P E => e_itAt (by rw [hits S k0, hit, hc.length, List.getElem?_eq_none (Nat.le_refl _)])) ?_
    exact (wpx_ret (a := D.loc S0.length) (Q := fun d S' => Kp S0 S' ∧ d = .loc S0.length ∧ ∃ ysD, S'[S0.length]? = some (.lst ysD) ∧ CRs S' (XO mt (fun n => Y n ∨ n = S0.length) envD) acc ysD) (E := E0x)).mpr ⟨k0, rfl, accD, hp, ha⟩
  | succ k ih =>
    intro i f acc accD S hk hi hf k0 hp ha hE
    obtain ⟨f, rfl⟩ : ∃ g, f = g + 1 := ⟨f - 1, by omega⟩
    have hlt : i < es.length := by omega
    have hl2 : i < items.length := by rw [hc.length]; exact hlt
    obtain ⟨d, hd, cd⟩ := hc.at (List.getElem?_eq_getElem hl2)
    rw [List.drop_eq_getElem_cons hl2, compV, compF]
    refine simC_pre (b := some d) (fun P E => e_itAt (by rw [hits S k0, hit, hd])) ?_
    have cd' : CR S (XO mt (fun n => Y n ∨ n = S0.length) envD) items[i] d := cd.go (fun n ds _ q => k0.keep _ _ q) hx
    have xs : XO mt (fun n => Y n ∨ n = S0.length) (putD sl d envD) = XO mt (fun n => Y n ∨ n = S0.length) envD := XO.set hsl
    have E1 := hE.set hsl cd'
    refine simC_bind k0 (sim_nx (cok _ _ _ E1)) fun b bD S1 k1 q1 => ?_
    refine simC_bind (k0.trans k1) (asB_ok q1) fun b bD S2 k2 q2 => ?_
    subst q2
    have k02 := (k0.trans k1).trans k2
    have E2 := E1.kp (k1.trans k2)
    cases b with
    | false => exact ih (i + 1) f acc accD S2 (by omega) (by omega) (by omega) k02 ((k1.trans k2).keep _ _ hp) (ha.kp (k1.trans k2)) (hE.kp (k1.trans k2))
    | true =>
      refine simC_bind k02 (sim_nx (eok _ _ _ E2)) fun y yD S3 k3 q3 => ?_
      have k13 := (k1.trans k2).trans k3
      rw [xs] at q3
      have hp3 := k13.keep _ _ hp
      refine simC_pre (p_owL hp3) ?_
      refine simC_bind (k02.trans k3) (R := fun _ (_ : Unit) (_ : Unit) => True) ?_ fun _ _ S4 k4 _ => ?_
      · rw [ha.length]; exact sim_mono sim_guard fun _ _ _ _ _ => trivial
      have k14 := k13.trans k4
      have k04 := (k02.trans k3).trans k4
      refine simC_wr ?_
      have hY : XO mt (fun n => Y n ∨ n = S0.length) envD S0.length := .inl (.inr rfl)
      refine ih (i + 1) f (acc ++ [y]) (accD ++ [yD]) _ (by omega) (by omega) (by omega) (k04.set (Nat.le_refl _) _) ?_ ?_ ?_
      · rw [List.getElem?_set_self (List.getElem?_eq_some_iff.mp (k4.keep _ _ hp3)).1]
      · exact crs_upd hY ((ha.kp k14).append (.cons (q3.kp k4) .nil))
      · exact (hE.kp k14).upd (.inr rfl)
/-- a dict comprehension's turns -/
theorem dcompV_ok {sl : Nat} {J : ItV} {items es : List D} {cond ke ve : Nv → Rv D} {condD keD veD : Nv → M D} {S0 : Store} (hsl : sl ∉ mt)
    (hit : ItOk J S0 es) (hits : ∀ S, Kp S0 S → ∀ i, itO J i S = itO J i S0) (hc : CRs S0 X items es)
    (hx : ∀ n, n < S0.length → XO mt (fun n => Y n ∨ n = S0.length) envD n → X n)
    (cok : ∀ env envD S, ER S mt (fun n => Y n ∨ n = S0.length) env envD → Sim S (fun S' v d => CB S' (XO mt (fun n => Y n ∨ n = S0.length) envD) v d) (cond env) (condD envD))
    (kok : ∀ env envD S, ER S mt (fun n => Y n ∨ n = S0.length) env envD → Sim S (fun S' v d => CB S' (XO mt (fun n => Y n ∨ n = S0.length) envD) v d) (ke env) (keD envD))
    (eok : ∀ env envD S, ER S mt (fun n => Y n ∨ n = S0.length) env envD → Sim S (fun S' v d => CR S' (XO mt (fun n => Y n ∨ n = S0.length) envD) v d) (ve env) (veD envD)) :
    ∀ (k i f : Nat) (acc accD : List (NK × D)) (S : Store), es.length - i = k → i ≤ es.length → k < f → Kp S0 S → S[S0.length]? = some (.dct accD) → KR S (XO mt (fun n => Y n ∨ n = S0.length) envD) acc accD → ER S mt (fun n => Y n ∨ n = S0.length) env envD →
      SimC S0 S (fun S' ys d => d = .loc S0.length ∧ ∃ ysD, S'[S0.length]? = some (.dct ysD) ∧ KR S' (XO mt (fun n => Y n ∨ n = S0.length) envD) ys ysD) (dcompV (putD sl) cond ke ve env (items.drop i) acc) (dcompF J (putD sl) condD keD veD envD S0.length f i) := by
  intro k
  induction k with
  | zero =>
    intro i f acc accD S hk hi hf k0 hp ha hE
    obtain ⟨f, rfl⟩ : ∃ g, f = g + 1 := ⟨f - 1, by omega⟩
    have e : i = es.length := by omega
    subst e
    rw [← hc.length, List.drop_length, dcompF, dcompV]
    refine simC_pre (b := none) (fun P E => e_itAt (by rw [hits S k0, hit, hc.length, List.getElem?_eq_none (Nat.le_refl _)])) ?_
    exact (wpx_ret (a := D.loc S0.length) (Q := fun d S' => Kp S0 S' ∧ d = .loc S0.length ∧ ∃ ysD, S'[S0.length]? = some (.dct ysD) ∧ KR S' (XO mt (fun n => Y n ∨ n = S0.length) envD) acc ysD) (E := E0x)).mpr ⟨k0, rfl, accD, hp, ha⟩
  | succ k ih =>
    intro i f acc accD S hk hi hf k0 hp ha hE
    obtain ⟨f, rfl⟩ : ∃ g, f = g + 1 := ⟨f - 1, by omega⟩
    have hlt : i < es.length := by omega
    have hl2 : i < items.length := by rw [hc.length]; exact hlt
    obtain ⟨d, hd, cd⟩ := hc.at (List.getElem?_eq_getElem hl2)
    rw [List.drop_eq_getElem_cons hl2, dcompV, dcompF]
    refine simC_pre (b := some d) (fun P E => e_itAt (by rw [hits S k0, hit, hd])) ?_
    have cd' : CR S (XO mt (fun n => Y n ∨ n = S0.length) envD) items[i] d := cd.go (fun n ds _ q => k0.keep _ _ q) hx
    have xs : XO mt (fun n => Y n ∨ n = S0.length) (putD sl d envD) = XO mt (fun n => Y n ∨ n = S0.length) envD := XO.set hsl
    have E1 := hE.set hsl cd'
    refine simC_bind k0 (sim_nx (cok _ _ _ E1)) fun b bD S1 k1 q1 => ?_
    refine simC_bind (k0.trans k1) (asB_ok q1) fun b bD S2 k2 q2 => ?_
    subst q2
    have k02 := (k0.trans k1).trans k2
    have E2 := E1.kp (k1.trans k2)
    cases b with
    | false => exact ih (i + 1) f acc accD S2 (by omega) (by omega) (by omega) k02 ((k1.trans k2).keep _ _ hp) ⟨ha.1, ha.2.kp (k1.trans k2)⟩ (hE.kp (k1.trans k2))
    | true =>
      refine simC_bind k02 (sim_nx (kok _ _ _ E2)) fun y yD S3 k3 q3 => ?_
      rw [xs] at q3
      have k13 := (k1.trans k2).trans k3
      by_cases hsc : scK y = true
      rotate_left
      · rw [show scK y = false by simpa using hsc]; trivial
      have hkey : ∃ k, dkey y = some k := by cases y <;> first | exact ⟨_, rfl⟩ | cases hsc
      obtain ⟨kk, hkk⟩ := hkey
      have := key_b q3 hkk
      subst this
      rw [hsc, gv_true, rv_ok]
      refine simC_pre (b := ()) (fun P E => by rw [wpx_guard]; simp) ?_
      refine simC_bind (k02.trans k3) (sim_nx (eok _ _ _ (E2.kp k3))) fun z zD S4 k4 q4 => ?_
      rw [xs] at q4
      have k14 := k13.trans k4
      have k04 := (k02.trans k3).trans k4
      have hp4 := k14.keep _ _ hp
      refine simC_pre (p_getC hp4) ?_
      cases hds : dSet acc yD z with
      | none => trivial
      | some acc' =>
        obtain ⟨accD', g1, g2⟩ := dset_b (S := S4) (k := kk) ⟨ha.1, ha.2.kp k14⟩ (q3.kp k4) q4 hds
        rw [ov_some, rv_ok]
        refine simC_pre (b := .dct accD') (fun P E => by rw [pe_d, wpx_bind, g1, wpx_opt_some, wpx_ret]) ?_
        refine simC_wrC ?_
        have hY : XO mt (fun n => Y n ∨ n = S0.length) envD S0.length := .inl (.inr rfl)
        refine ih (i + 1) f acc' accD' _ (by omega) (by omega) (by omega) (k04.set (Nat.le_refl _) _) ?_ ?_ ?_
        · rw [List.getElem?_set_self (List.getElem?_eq_some_iff.mp hp4).1]
        · exact ⟨g2.1, crs_upd hY g2.2⟩
        · exact (hE.kp k14).upd (.inr rfl)
abbrev SE (mt : List Nat) (Y : Nat → Prop) (S : Store) (envD : Nv) (b : Bool) (r : Rv D) (m : M D) : Prop := Sim S (RE (XO mt Y envD) S b) r m
abbrev SB (mt : List Nat) (Y : Nat → Prop) (S : Store) (envD : Nv) (r : Rv D) (m : M D) : Prop := Sim S (fun S' v d => CB S' (XO mt Y envD) v d) r m
theorem se_b {b : Bool} {r : Rv D} {m : M D} (h : SE mt Y S envD b r m) : SB mt Y S envD r m := sim_mono h fun _ _ _ _ q => q.1.b
theorem se_go {b c : Bool} {r : Rv D} {m : M D} {S0 : Store} (k : Kp S0 S) (h : SE mt Y S envD b r m) (hb : c = true → b = true) : Sim S (RE (XO mt Y envD) S0 c) r m :=
  sim_mono h fun _ _ _ _ q => ⟨q.1, fun z n e => ⟨Nat.le_trans k.len (q.2 (hb z) n e).1, (q.2 (hb z) n e).2⟩⟩
theorem re_nl {c : Bool} {v d : D} {S0 S' : Store} (h : CR S' X v d) (hd : c = true → ∀ n, d ≠ .loc n) : RE X S0 c S' v d := ⟨h, fun z n e => (hd z n e).elim⟩
theorem re_f {v d : D} {S0 S' : Store} (h : CR S' X v d) : RE X S0 false S' v d := ⟨h, fun z => nomatch z⟩
theorem var_b {i : Nat} (h : ER S mt Y env envD) : SB mt Y S envD (vE C (.v i) env) (evE C' (.v i) envD) := by
  rw [vE, evE]
  cases q : env[i]? with
  | none => trivial
  | some o =>
    cases o with
    | none => trivial
    | some v =>
      obtain ⟨d, a, b, _⟩ := h.val i v q
      rw [a]
      exact sim_ret b
theorem var_e {i : Nat} (hi : i ∉ mt) (h : ER S mt Y env envD) : SE mt Y S envD false (vE C (.v i) env) (evE C' (.v i) envD) := by
  rw [vE, evE]
  cases q : env[i]? with
  | none => trivial
  | some o =>
    cases o with
    | none => trivial
    | some v =>
      obtain ⟨d, a, _, b⟩ := h.val i v q
      rw [a]
      exact sim_ret (re_f (b hi))
theorem no_in {mt : List Nat} {i : Nat} (h : (!mt.contains i) = true) : i ∉ mt := by simpa using h
theorem vB_of {e : E} (h : okB mt e = true) (hE : ER S mt Y env envD) (k : okE mt e = true → SE mt Y S envD (frsh e) (vE C e env) (evE C' e envD)) : SB mt Y S envD (vE C e env) (evE C' e envD) := by
  by_cases hv : ∃ i, e = .v i
  · obtain ⟨i, rfl⟩ := hv; exact var_b hE
  · exact se_b (k ((okB_or h).resolve_left hv))
theorem comp_end {J : ItV} {sl : Nat} {own : List Nat} {items es : List D} {cond elt : E} {c : Bool} (hE : ER S mt Y env envD) (hsl : sl ∉ mt) (hown : ∀ j ∈ own, j ∉ mt) (hit : ItOk J S es) (hl : ∀ n, (J = .lst n ∨ ∃ k, J = .rev n k) → n < S.length) (hc : CRs S (XO mt Y envD) items es)
    (cok : ∀ env envD S', ER S' mt (fun n => Y n ∨ n = S.length) env envD → SB mt (fun n => Y n ∨ n = S.length) S' envD (vE C cond env) (evE C' cond envD))
    (eok : ∀ env envD S', ER S' mt (fun n => Y n ∨ n = S.length) env envD → SE mt (fun n => Y n ∨ n = S.length) S' envD (frsh elt) (vE C elt env) (evE C' elt envD)) :
    Sim S (RE (XO mt Y envD) S c) ((lenOk items).bind fun _ => (compV (putD sl) (vE C cond) (vE C elt) (wipeD env own) items []).bind fun ys => .ok (.lst ys)) (fun S => compF J (putD sl) (evE C' cond) (evE C' elt) (wipeD envD own) S.length FUEL 0 (S ++ [.lst []])) := by
  unfold lenOk
  by_cases hlen : items.length ≤ 2000000000
  rotate_left
  · rw [decide_eq_false hlen]; trivial
  rw [decide_eq_true hlen, gv_true, rv_ok]
  have k0 : Kp S (S ++ [.lst []]) := (Kp.refl S).push _
  have hits : ∀ S', Kp S S' → ∀ i, itO J i S' = itO J i S := by
    intro S' k i
    have rdk : ∀ n, n < S.length → rd S' n = rd S n := fun n hn => by
      have e := List.getElem?_eq_getElem hn
      unfold rd
      rw [k.keep _ _ e, e]
    cases J with
    | lst n => show (rd S' n).map _ = (rd S n).map _; rw [rdk n (hl n (.inl rfl))]
    | rev n m => show (match rd S' n with | some _ => _ | none => _) = (match rd S n with | some _ => _ | none => _); rw [rdk n (hl n (.inr ⟨m, rfl⟩))]
    | _ => rfl
  have hx : ∀ n, n < S.length → XO mt (fun n => Y n ∨ n = S.length) (wipeD envD own) n → XO mt Y envD n := by
    intro n hn z
    rw [XO.wipe hown] at z
    rcases z with (z | z) | z
    · exact .inl z
    · omega
    · exact .inr z
  have E1 := (hE.more (Nat.le_refl _) k0 (by simp)).wipe hown
  have h := compV_ok (cond := vE C cond) (elt := vE C elt) (condD := evE C' cond) (eltD := evE C' elt) hsl hit hits hc hx cok (fun a b c d => sim_mono (eok a b c d) fun _ _ _ _ q => q.1) es.length 0 FUEL [] [] _ rfl (Nat.zero_le _) (by rw [← hc.length]; unfold FUEL; omega) k0 ap_self .nil E1
  rw [List.drop_zero] at h
  cases e : compV (putD sl) (vE C cond) (vE C elt) (wipeD env own) items [] with
  | bad => trivial
  | exc x => rw [e] at h; exact h
  | ok ys =>
    rw [e] at h
    rw [rv_ok]
    refine wpx_mono (show wpx _ _ _ _ from h) ?_ fun _ _ z => z
    rintro d S' ⟨k1, rfl, ysD, g1, g2⟩
    refine ⟨k1, cr_lst.mpr ⟨_, _, rfl, fun z => Nat.lt_irrefl _ (hE.xb _ z), g1, g2.go (fun _ _ _ q => q) fun n hn z => ?_⟩, fun _ n z => ?_⟩
    · rw [XO.wipe hown]
      rcases z with z | z
      · exact .inl (.inl z)
      · exact .inr z
    · cases z
      refine ⟨Nat.le_refl _, fun us e => ?_, fun _ _ e => nomatch e⟩
      cases e
      refine ⟨ysD, g1, g2.go (fun _ _ _ q => q) fun n hn z => ?_⟩
      rw [XO.wipe hown]
      rcases z with (z | z) | z
      · exact .inl (.inl z)
      · exact .inr z
      · exact .inl (.inr z)
/-- a new dict -/
theorem re_dct {c : Bool} {S0 S' : Store} {X' : Nat → Prop} {kvs kvsD : List (NK × D)} (hX : ∀ n, X n → n < S0.length) (g1 : S'[S0.length]? = some (.dct kvsD)) (g2 : KR S' X' kvs kvsD) (hx : ∀ n, n < S'.length → X n ∨ n = S0.length → X' n) : RE X S0 c S' (mkD kvs) (.loc S0.length) := by
  refine ⟨cr_dct.mpr ⟨_, kvsD, rfl, fun z => Nat.lt_irrefl _ (hX _ z), g1, g2.1.symm, g2.2.go (fun _ _ _ q => q) fun n hn z => hx n hn (.inl z)⟩, fun _ n z => ?_⟩
  cases z
  refine ⟨Nat.le_refl _, (fun _ e => nomatch e), fun ks vs e => ?_⟩
  cases e
  exact ⟨kvsD, g1, g2.1.symm, g2.2.go (fun _ _ _ q => q) fun n hn z => hx n hn z⟩
theorem dcomp_end {J : ItV} {sl : Nat} {own : List Nat} {items es : List D} {cond ke ve : E} {c : Bool} (hE : ER S mt Y env envD) (hsl : sl ∉ mt) (hown : ∀ j ∈ own, j ∉ mt) (hit : ItOk J S es) (hl : ∀ n, (J = .lst n ∨ ∃ k, J = .rev n k) → n < S.length) (hc : CRs S (XO mt Y envD) items es)
    (cok : ∀ env envD S', ER S' mt (fun n => Y n ∨ n = S.length) env envD → SB mt (fun n => Y n ∨ n = S.length) S' envD (vE C cond env) (evE C' cond envD))
    (kok : ∀ env envD S', ER S' mt (fun n => Y n ∨ n = S.length) env envD → SB mt (fun n => Y n ∨ n = S.length) S' envD (vE C ke env) (evE C' ke envD))
    (eok : ∀ env envD S', ER S' mt (fun n => Y n ∨ n = S.length) env envD → SE mt (fun n => Y n ∨ n = S.length) S' envD (frsh ve) (vE C ve env) (evE C' ve envD)) :
    Sim S (RE (XO mt Y envD) S c) ((lenOk items).bind fun _ => (dcompV (putD sl) (vE C cond) (vE C ke) (vE C ve) (wipeD env own) items []).bind fun ys => .ok (mkD ys)) (fun S => dcompF J (putD sl) (evE C' cond) (evE C' ke) (evE C' ve) (wipeD envD own) S.length FUEL 0 (S ++ [.dct []])) := by
  unfold lenOk
  by_cases hlen : items.length ≤ 2000000000
  rotate_left
  · rw [decide_eq_false hlen]; trivial
  rw [decide_eq_true hlen, gv_true, rv_ok]
  have k0 : Kp S (S ++ [.dct []]) := (Kp.refl S).push _
  have hits : ∀ S', Kp S S' → ∀ i, itO J i S' = itO J i S := by
    intro S' k i
    have rdk : ∀ n, n < S.length → rd S' n = rd S n := fun n hn => by
      have e := List.getElem?_eq_getElem hn
      unfold rd
      rw [k.keep _ _ e, e]
    cases J with
    | lst n => show (rd S' n).map _ = (rd S n).map _; rw [rdk n (hl n (.inl rfl))]
    | rev n m => show (match rd S' n with | some _ => _ | none => _) = (match rd S n with | some _ => _ | none => _); rw [rdk n (hl n (.inr ⟨m, rfl⟩))]
    | _ => rfl
  have hx : ∀ n, n < S.length → XO mt (fun n => Y n ∨ n = S.length) (wipeD envD own) n → XO mt Y envD n := by
    intro n hn z
    rw [XO.wipe hown] at z
    rcases z with (z | z) | z
    · exact .inl z
    · omega
    · exact .inr z
  have E1 := (hE.more (Nat.le_refl _) k0 (by simp)).wipe hown
  have h := dcompV_ok (cond := vE C cond) (ke := vE C ke) (ve := vE C ve) (condD := evE C' cond) (keD := evE C' ke) (veD := evE C' ve) hsl hit hits hc hx cok kok (fun a b c d => sim_mono (eok a b c d) fun _ _ _ _ q => q.1) es.length 0 FUEL [] [] _ rfl (Nat.zero_le _) (by rw [← hc.length]; unfold FUEL; omega) k0 ap_self ⟨rfl, .nil⟩ E1
  rw [List.drop_zero] at h
  cases e : dcompV (putD sl) (vE C cond) (vE C ke) (vE C ve) (wipeD env own) items [] with
  | bad => trivial
  | exc x => rw [e] at h; exact h
  | ok ys =>
    rw [e] at h
    rw [rv_ok]
    refine wpx_mono (show wpx _ _ _ _ from h) ?_ fun _ _ z => z
    rintro d S' ⟨k1, rfl, ysD, g1, g2⟩
    refine ⟨k1, re_dct hE.xb g1 g2 fun n hn z => ?_⟩
    rw [XO.wipe hown]
    rcases z with (z | z) | z
    · exact .inl (.inl z)
    · exact .inr z
    · exact .inl (.inr z)
mutual
theorem vE_ok (hC : CtxOk C C') : ∀ (e : E) {Y : Nat → Prop} {S : Store} {env envD : Nv}, okE mt e = true → ER S mt Y env envD → SE mt Y S envD (frsh e) (vE C e env) (evE C' e envD)
  | .c d, Y, S, env, envD, h, hE => by
    rw [okE] at h
    exact sim_ret (re_nl ((cr_plain h).mpr rfl) fun _ => plain_loc h)
  | .v i, Y, S, env, envD, h, hE => var_e (no_in (by simpa only [okE] using h)) hE
  | .g x, Y, S, env, envD, h, hE => by
    rw [vE, evE, ← hC.glob]
    exact sim_opt fun a ea => ⟨a, ea, re_f ((cr_plain (hC.gp _ _ ea)).mpr rfl)⟩
  | .bin o a b, Y, S, env, envD, h, hE => by
    rw [okE, Bool.and_eq_true] at h
    rw [vE, evE]
    refine sim_bind (vB_of h.1 hE (fun z => vE_ok hC a z hE)) fun x d S1 k1 q1 => ?_
    refine sim_bind (vB_of h.2 (hE.kp k1) (fun z => vE_ok hC b z (hE.kp k1))) fun y e S2 k2 q2 => ?_
    exact se_go (k1.trans k2) (bin_ok ((hE.kp k1).kp k2).xb (q1.kp k2) q2) id
  | .neg a, Y, S, env, envD, h, hE => by
    rw [okE] at h
    rw [vE, evE]
    refine sim_bind (vB_of h hE (fun z => vE_ok hC a z hE)) fun x d S1 k1 q1 => ?_
    refine sim_bind (asI_ok q1) fun i j S2 k2 q2 => ?_
    subst q2
    exact se_go (k1.trans k2) sim_int id
  | .cmp o a b, Y, S, env, envD, h, hE => by
    rw [okE, Bool.and_eq_true] at h
    rw [vE, evE]
    refine sim_bind (vB_of h.1 hE (fun z => vE_ok hC a z hE)) fun x d S1 k1 q1 => ?_
    refine sim_bind (vB_of h.2 (hE.kp k1) (fun z => vE_ok hC b z (hE.kp k1))) fun y e S2 k2 q2 => ?_
    refine sim_bind (cmp_ok (q1.kp k2) q2) fun i j S3 k3 q3 => ?_
    subst q3
    exact se_go ((k1.trans k2).trans k3) sim_bl id
  | .cmp3 o o2 a b c, Y, S, env, envD, h, hE => by
    rw [okE, Bool.and_eq_true, Bool.and_eq_true] at h
    rw [vE, evE]
    refine sim_bind (vB_of h.1.1 hE (fun z => vE_ok hC a z hE)) fun x d S1 k1 q1 => ?_
    refine sim_bind (vB_of h.1.2 (hE.kp k1) (fun z => vE_ok hC b z (hE.kp k1))) fun y e S2 k2 q2 => ?_
    refine sim_bind (cmp_ok (q1.kp k2) q2) fun i j S3 k3 q3 => ?_
    subst q3
    have k13 := (k1.trans k2).trans k3
    cases i with
    | false => exact se_go k13 sim_bl id
    | true =>
      refine sim_bind (vB_of h.2 (hE.kp k13) (fun z => vE_ok hC c z (hE.kp k13))) fun z f S4 k4 q4 => ?_
      refine sim_bind (cmp_ok ((q2.kp k3).kp k4) q4) fun i j S5 k5 q5 => ?_
      subst q5
      exact se_go ((k13.trans k4).trans k5) sim_bl id
  | .tr a, Y, S, env, envD, h, hE => by
    rw [okE] at h
    rw [vE, evE]
    refine sim_bind (vB_of h hE (fun z => vE_ok hC a z hE)) fun x d S1 k1 q1 => ?_
    refine sim_bind (tru_ok q1) fun i j S2 k2 q2 => ?_
    subst q2
    exact se_go (k1.trans k2) sim_bl id
  | .not a, Y, S, env, envD, h, hE => by
    rw [okE] at h
    rw [vE, evE]
    refine sim_bind (vB_of h hE (fun z => vE_ok hC a z hE)) fun x d S1 k1 q1 => ?_
    refine sim_bind (asB_ok q1) fun i j S2 k2 q2 => ?_
    subst q2
    exact se_go (k1.trans k2) sim_bl id
  | .and a b, Y, S, env, envD, h, hE => by
    rw [okE, Bool.and_eq_true] at h
    rw [vE, evE]
    refine sim_bind (vB_of h.1 hE (fun z => vE_ok hC a z hE)) fun x d S1 k1 q1 => ?_
    refine sim_bind (asB_ok q1) fun i j S2 k2 q2 => ?_
    subst q2
    cases i with
    | false => exact se_go (k1.trans k2) sim_bl id
    | true => exact se_go (k1.trans k2) (vE_ok hC b h.2 (hE.kp (k1.trans k2))) (fun z => nomatch z)
  | .or a b, Y, S, env, envD, h, hE => by
    rw [okE, Bool.and_eq_true] at h
    rw [vE, evE]
    refine sim_bind (vB_of h.1 hE (fun z => vE_ok hC a z hE)) fun x d S1 k1 q1 => ?_
    refine sim_bind (asB_ok q1) fun i j S2 k2 q2 => ?_
    subst q2
    cases i with
    | true => exact se_go (k1.trans k2) sim_bl id
    | false => exact se_go (k1.trans k2) (vE_ok hC b h.2 (hE.kp (k1.trans k2))) (fun z => nomatch z)
  | .vand a b, Y, S, env, envD, h, hE => by
    rw [okE, Bool.and_eq_true] at h
    rw [vE, evE]
    refine sim_bind (vE_ok hC a h.1 hE) fun x d S1 k1 q1 => ?_
    refine sim_bind (tru_ok q1.1.b) fun i j S2 k2 q2 => ?_
    subst q2
    cases i with
    | false => exact sim_ret (re_f (q1.1.kp k2))
    | true => exact se_go (k1.trans k2) (vE_ok hC b h.2 (hE.kp (k1.trans k2))) (fun z => nomatch z)
  | .vor a b, Y, S, env, envD, h, hE => by
    rw [okE, Bool.and_eq_true] at h
    rw [vE, evE]
    refine sim_bind (vE_ok hC a h.1 hE) fun x d S1 k1 q1 => ?_
    refine sim_bind (tru_ok q1.1.b) fun i j S2 k2 q2 => ?_
    subst q2
    cases i with
    | true => exact sim_ret (re_f (q1.1.kp k2))
    | false => exact se_go (k1.trans k2) (vE_ok hC b h.2 (hE.kp (k1.trans k2))) (fun z => nomatch z)
  | .ite c a b, Y, S, env, envD, h, hE => by
    rw [okE, Bool.and_eq_true, Bool.and_eq_true] at h
    rw [vE, evE]
    refine sim_bind (vB_of h.1.1 hE (fun z => vE_ok hC c z hE)) fun x d S1 k1 q1 => ?_
    refine sim_bind (asB_ok q1) fun i j S2 k2 q2 => ?_
    subst q2
    cases i with
    | true => exact se_go (k1.trans k2) (vE_ok hC a h.1.2 (hE.kp (k1.trans k2))) (fun z => nomatch z)
    | false => exact se_go (k1.trans k2) (vE_ok hC b h.2 (hE.kp (k1.trans k2))) (fun z => nomatch z)
  | .tup es, Y, S, env, envD, h, hE => by
    rw [okE] at h
    rw [vE, evE]
    refine sim_bind (vEs_ok hC es h hE) fun xs ds S1 k1 q1 => ?_
    exact sim_g' (by rw [q1.length]) fun _ => se_go k1 (sim_tup q1) id
  | .lst es, Y, S, env, envD, h, hE => by
    rw [okE] at h
    rw [vE, evE]
    refine sim_bind (vEs_ok hC es h hE) fun xs ds S1 k1 q1 => ?_
    exact sim_g' (by rw [q1.length]) fun _ => se_go k1 (sim_new (hE.kp k1).xb q1) id
  | .idx a b, Y, S, env, envD, h, hE => by
    rw [okE, Bool.and_eq_true] at h
    rw [vE, evE]
    refine sim_bind (vB_of h.1 hE (fun z => vE_ok hC a z hE)) fun x d S1 k1 q1 => ?_
    refine sim_bind (vB_of h.2 (hE.kp k1) (fun z => vE_ok hC b z (hE.kp k1))) fun y e S2 k2 q2 => ?_
    exact se_go (k1.trans k2) (idx_ok (q1.kp k2) q2) id
  | .slc0 a, Y, S, env, envD, h, hE => by
    rw [okE] at h
    rw [vE, evE]
    refine sim_bind (vB_of h hE (fun z => vE_ok hC a z hE)) fun x d S1 k1 q1 => ?_
    exact se_go k1 (slc_ok (hE.kp k1).xb q1) id
  | .slcL a b, Y, S, env, envD, h, hE => by
    rw [okE, Bool.and_eq_true] at h
    rw [vE, evE]
    refine sim_bind (vB_of h.1 hE (fun z => vE_ok hC a z hE)) fun x d S1 k1 q1 => ?_
    refine sim_bind (vB_of h.2 (hE.kp k1) (fun z => vE_ok hC b z (hE.kp k1))) fun y e S2 k2 q2 => ?_
    refine sim_bind (asI_ok q2) fun i j S3 k3 q3 => ?_
    subst q3
    have k := (k1.trans k2).trans k3
    exact se_go k (slc_ok (hE.kp k).xb ((q1.kp k2).kp k3)) id
  | .slcH a b, Y, S, env, envD, h, hE => by
    rw [okE, Bool.and_eq_true] at h
    rw [vE, evE]
    refine sim_bind (vB_of h.1 hE (fun z => vE_ok hC a z hE)) fun x d S1 k1 q1 => ?_
    refine sim_bind (vB_of h.2 (hE.kp k1) (fun z => vE_ok hC b z (hE.kp k1))) fun y e S2 k2 q2 => ?_
    refine sim_bind (asI_ok q2) fun i j S3 k3 q3 => ?_
    subst q3
    have k := (k1.trans k2).trans k3
    exact se_go k (slc_ok (hE.kp k).xb ((q1.kp k2).kp k3)) id
  | .slcB a b c, Y, S, env, envD, h, hE => by
    rw [okE, Bool.and_eq_true, Bool.and_eq_true] at h
    rw [vE, evE]
    refine sim_bind (vB_of h.1.1 hE (fun z => vE_ok hC a z hE)) fun x d S1 k1 q1 => ?_
    refine sim_bind (vB_of h.1.2 (hE.kp k1) (fun z => vE_ok hC b z (hE.kp k1))) fun y e S2 k2 q2 => ?_
    refine sim_bind (asI_ok q2) fun i j S3 k3 q3 => ?_
    subst q3
    have k := (k1.trans k2).trans k3
    refine sim_bind (vB_of h.2 (hE.kp k) (fun z => vE_ok hC c z (hE.kp k))) fun y e S4 k4 q4 => ?_
    refine sim_bind (asI_ok q4) fun i j S5 k5 q5 => ?_
    subst q5
    have k' := (k.trans k4).trans k5
    exact se_go k' (slc_ok (hE.kp k').xb ((((q1.kp k2).kp k3).kp k4).kp k5)) id
  | .call f es, Y, S, env, envD, h, hE => by
    rw [okE] at h
    rw [vE, evE]
    refine sim_bind (vEs_ok hC es h hE) fun xs ds S1 k1 q1 => ?_
    exact sim_mono (hC.call f xs ds S1 _ (hE.kp k1).xb q1) fun _ _ _ _ q => re_f q
  | .bi b es, Y, S, env, envD, h, hE => by
    rw [okE] at h
    rw [vE, evE]
    refine sim_bind (vBs_ok hC es h hE) fun xs ds S1 k1 q1 => ?_
    exact se_go k1 (bi_ok (b := true) (hE.kp k1).xb q1) fun _ => rfl
  | .meth b o es, Y, S, env, envD, h, hE => by
    rw [okE, Bool.and_eq_true] at h
    rw [vE, evE]
    refine sim_bind (vB_of h.1 hE (fun z => vE_ok hC o z hE)) fun x d S1 k1 q1 => ?_
    have hrec : ∀ {α β : Type} {Q : Store → α → β → Prop} {f : Unit → Rv α} {g : Unit → M β}, Sim S1 Q (f ()) (g ()) → Sim S1 Q ((recvV b x).bind f) ((recv b d).bind g) := by
      intro α β Q f g k
      cases b <;> cases x <;> first | trivial | (cases cb_str.mp q1; exact sim_pre (b := ()) (fun P E => Iff.rfl) k)
    refine hrec ?_
    refine sim_bind (vBs_ok hC es h.2 (hE.kp k1)) fun xs ds S2 k2 q2 => ?_
    exact se_go (k1.trans k2) (bi_ok (b := true) (hE.kp (k1.trans k2)).xb ⟨_, _, rfl, q1.kp k2, q2⟩) fun _ => rfl
  | .comp elt sl own k es cond, Y, S, env, envD, h, hE => by
    rw [okE, Bool.and_eq_true, Bool.and_eq_true, Bool.and_eq_true, Bool.and_eq_true] at h
    obtain ⟨⟨⟨⟨h1, h2⟩, h3⟩, h4⟩, h5⟩ := h
    have hsl := no_in h4
    have hown : ∀ j ∈ own, j ∉ mt := fun j hj => no_in (List.all_eq_true.mp h5 j hj)
    rw [vE, evE]
    refine sim_bind (vBs_ok hC es h1 hE) fun xs ds S1 k1 q1 => ?_
    have hE1 := hE.kp k1
    refine sim_bind (items_ok q1) fun items J S2 k2 ⟨es', c2, it2, l2⟩ => ?_
    exact sim_mono (comp_end (hE1.kp k2) hsl hown it2 (fun n z => (l2 n z).2) c2 (fun e1 e2 S' h => vB_of h3 h fun z => vE_ok hC cond z h) (fun e1 e2 S' h => vE_ok hC elt h2 h)) fun _ _ _ _ q => ⟨q.1, fun z n e => ⟨Nat.le_trans (k1.trans k2).len (q.2 z n e).1, (q.2 z n e).2⟩⟩
  | .dnew, Y, S, env, envD, h, hE => by
    rw [vE, evE]
    show wpx (alloc (.dct [])) (fun e S' => Kp S S' ∧ RE (XO mt Y envD) S true S' (.dct [] []) e) E0x S
    rw [x_alloc]
    exact ⟨(Kp.refl S).push _, re_dct (kvs := []) (X' := fun _ => True) hE.xb ap_self ⟨rfl, .nil⟩ fun _ _ _ => trivial⟩
  | .dnew1 a b, Y, S, env, envD, h, hE => by
    rw [okE, Bool.and_eq_true] at h
    rw [vE]
    have k0 : Kp S (S ++ [.dct []]) := (Kp.refl S).push _
    have E0 := hE.more (p := S.length) (Nat.le_refl _) k0 (by simp)
    have hx : ∀ n, XO mt Y envD n ∨ n = S.length → XO mt (fun n => Y n ∨ n = S.length) envD n := by
      rintro n ((z | z) | z)
      · exact .inl (.inl z)
      · exact .inr z
      · exact .inl (.inr z)
    have main : SimC S (S ++ [.dct []]) (fun S' v d => RE (XO mt Y envD) S true S' v d) ((vE C a env).bind fun y => (vE C b env).bind fun z => (optV (dSet [] y z)).bind fun kvs => .ok (mkD kvs))
        (M.bind (evE C' a envD) fun y => M.bind (evE C' b envD) fun z => M.bind (getC S.length) fun c => M.bind (putE c y z) fun c' => M.bind (wrC S.length c') fun _ => M.ret (.loc S.length)) := by
      refine simC_bind k0 (vB_of h.1 E0 fun z => vE_ok hC a z E0) fun y yD S1 k1 q1 => ?_
      refine simC_bind (k0.trans k1) (vE_ok hC b h.2 (E0.kp k1)) fun z zD S2 k2 q2 => ?_
      have k02 := (k0.trans k1).trans k2
      have hp := (k1.trans k2).keep _ _ (ap_self (S := S) (c := .dct []))
      refine simC_pre (p_getC hp) ?_
      cases hds : dSet [] y z with
      | none => trivial
      | some acc' =>
        obtain ⟨accD', g1, g2⟩ := dset_b (S := S2) (k := .none) (l' := []) ⟨rfl, .nil⟩ (q1.kp k2) q2.1 hds
        rw [ov_some, rv_ok]
        refine simC_pre (b := .dct accD') (fun P E => by rw [pe_d, wpx_bind, g1, wpx_opt_some, wpx_ret]) ?_
        refine simC_wrC ?_
        have hY : XO mt (fun n => Y n ∨ n = S.length) envD S.length := .inl (.inr rfl)
        refine (wpx_ret (a := D.loc S.length) (Q := fun d S' => Kp S S' ∧ RE (XO mt Y envD) S true S' (mkD acc') d) (E := E0x)).mpr ⟨k02.set (Nat.le_refl _) _, ?_⟩
        exact re_dct hE.xb (List.getElem?_set_self (List.getElem?_eq_some_iff.mp hp).1) ⟨g2.1, crs_upd hY g2.2⟩ fun n _ z => hx n z
    cases hr : (vE C a env).bind fun y => (vE C b env).bind fun z => (optV (dSet [] y z)).bind fun kvs => Rv.ok (mkD kvs) with
    | bad => trivial
    | exc x =>
      rw [hr] at main
      show wpx (evE C' (.dnew1 a b) envD) _ _ S
      rw [evE]
      exact main
    | ok v =>
      rw [hr] at main
      show wpx (evE C' (.dnew1 a b) envD) _ _ S
      rw [evE]
      exact main
  | .dcomp ke ve sl own k es cond, Y, S, env, envD, h, hE => by
    rw [okE, Bool.and_eq_true, Bool.and_eq_true, Bool.and_eq_true, Bool.and_eq_true, Bool.and_eq_true] at h
    obtain ⟨⟨⟨⟨⟨h1, h0⟩, h2⟩, h3⟩, h4⟩, h5⟩ := h
    have hsl := no_in h4
    have hown : ∀ j ∈ own, j ∉ mt := fun j hj => no_in (List.all_eq_true.mp h5 j hj)
    rw [vE, evE]
    refine sim_bind (vBs_ok hC es h1 hE) fun xs ds S1 k1 q1 => ?_
    have hE1 := hE.kp k1
    refine sim_bind (items_ok q1) fun items J S2 k2 ⟨es', c2, it2, l2⟩ => ?_
    exact sim_mono (dcomp_end (hE1.kp k2) hsl hown it2 (fun n z => (l2 n z).2) c2 (fun e1 e2 S' h => vB_of h3 h fun z => vE_ok hC cond z h) (fun e1 e2 S' h => vB_of h0 h fun z => vE_ok hC ke z h) (fun e1 e2 S' h => vE_ok hC ve h2 h)) fun _ _ _ _ q => ⟨q.1, fun z n e => ⟨Nat.le_trans (k1.trans k2).len (q.2 z n e).1, (q.2 z n e).2⟩⟩
theorem vEs_ok (hC : CtxOk C C') : ∀ (es : Es) {Y : Nat → Prop} {S : Store} {env envD : Nv}, okEs mt es = true → ER S mt Y env envD → Sim S (fun S' vs ds => CRs S' (XO mt Y envD) vs ds) (vEs C es env) (evEs C' es envD)
  | .nil, Y, S, env, envD, h, hE => by rw [vEs, evEs]; exact sim_ret .nil
  | .cons e r, Y, S, env, envD, h, hE => by
    rw [okEs, Bool.and_eq_true] at h
    rw [vEs, evEs]
    refine sim_bind (vE_ok hC e h.1 hE) fun x d S1 k1 q1 => ?_
    refine sim_bind (vEs_ok hC r h.2 (hE.kp k1)) fun xs ds S2 k2 q2 => ?_
    exact sim_ret (.cons (q1.1.kp k2) q2)
theorem vBs_ok (hC : CtxOk C C') : ∀ (es : Es) {Y : Nat → Prop} {S : Store} {env envD : Nv}, okBs mt es = true → ER S mt Y env envD → Sim S (fun S' vs ds => CBs S' (XO mt Y envD) vs ds) (vEs C es env) (evEs C' es envD)
  | .nil, Y, S, env, envD, h, hE => by rw [vEs, evEs]; exact sim_ret rfl
  | .cons e r, Y, S, env, envD, h, hE => by
    rw [okBs, Bool.and_eq_true] at h
    rw [vEs, evEs]
    refine sim_bind (vB_of h.1 hE (fun z => vE_ok hC e z hE)) fun x d S1 k1 q1 => ?_
    refine sim_bind (vBs_ok hC r h.2 (hE.kp k1)) fun xs ds S2 k2 q2 => ?_
    exact sim_ret ⟨_, _, rfl, q1.kp k2, q2⟩
end
end
end Mn
/-! Mn by value: statements and defs. -/
namespace Mn
open PySem L2
structure Fm (S S' : Store) (mt tc : List Nat) (e e' : Nv) : Prop where
  len : S.length ≤ S'.length
  keep : ∀ (n : Nat) c, (∀ i, i ∈ mt → i ∈ tc → e[i]? ≠ some (some (.loc n))) → S[n]? = some c → S'[n]? = some c
  old : ∀ (i n : Nat), i ∈ mt → n < S.length → e'[i]? = some (some (.loc n)) → e[i]? = some (some (.loc n))
  same : ∀ i, i ∉ tc → e'[i]? = e[i]?
section
variable {C : CV} {C' : Ctx} {mt tc tc' : List Nat} {Y : Nat → Prop} {S S0 S1 S' : Store} {env envD e0 e1 e2 : Nv} {X : Nat → Prop}
theorem Fm.refl : Fm S S mt tc e0 e0 := ⟨Nat.le_refl _, fun _ _ _ h => h, fun _ _ _ _ h => h, fun _ _ => rfl⟩
theorem Fm.kp (k : Kp S S') : Fm S S' mt tc e0 e0 := ⟨k.len, fun _ _ _ h => k.keep _ _ h, fun _ _ _ _ h => h, fun _ _ => rfl⟩
theorem Fm.trans (a : Fm S S1 mt tc e0 e1) (b : Fm S1 S' mt tc e1 e2) : Fm S S' mt tc e0 e2 :=
  ⟨Nat.le_trans a.len b.len, fun n c h q => b.keep n c (fun i hi ht z => h i hi ht (a.old i n hi (List.getElem?_eq_some_iff.mp q).1 z)) (a.keep n c h q),
   fun i n hi hn z => a.old i n hi hn (b.old i n hi (Nat.lt_of_lt_of_le hn a.len) z), fun i hi => (b.same i hi).trans (a.same i hi)⟩
theorem Fm.mono (h : ∀ i ∈ tc, i ∈ tc') (a : Fm S S' mt tc e0 e1) : Fm S S' mt tc' e0 e1 :=
  ⟨a.len, fun n c k q => a.keep n c (fun i hi ht => k i hi (h i ht)) q, a.old, fun i hi => a.same i fun z => hi (h i z)⟩
/-- what others hold stays -/
theorem Fm.cr (a : Fm S S' mt tc e0 e1) {v d : D} (h : CR S (XO mt Y e0) v d) : CR S' (XO mt Y e1) v d :=
  h.go (fun n ds hn q => a.keep n _ (fun i hi _ z => hn (.inr ⟨i, hi, z⟩)) q) fun n hn z => z.imp id fun ⟨i, hi, q⟩ => ⟨i, hi, a.old i n hi hn q⟩
theorem Fm.crs (a : Fm S S' mt tc e0 e1) {v d : List D} (h : CRs S (XO mt Y e0) v d) : CRs S' (XO mt Y e1) v d :=
  h.go (fun n ds hn q => a.keep n _ (fun i hi _ z => hn (.inr ⟨i, hi, z⟩)) q) fun n hn z => z.imp id fun ⟨i, hi, q⟩ => ⟨i, hi, a.old i n hi hn q⟩
def FS (mt : List Nat) (Y : Nat → Prop) (tc : List Nat) (S : Store) (e : Nv) (q : Flow × Nv) (q' : Flow × Nv) (S' : Store) : Prop := Fm S S' mt tc e q'.2 ∧ (match q.1, q'.1 with
  | .nx, .nx => ER S' mt Y q.2 q'.2
  | .bk, .bk => ER S' mt Y q.2 q'.2
  | .ct, .ct => ER S' mt Y q.2 q'.2
  | .rt v, .rt d => CR S' Y v d
  | _, _ => False)
def SS (mt : List Nat) (Y : Nat → Prop) (tc : List Nat) (S0 : Store) (e0 : Nv) (S : Store) (r : Rv (Flow × Nv)) (m : M (Flow × Nv)) : Prop := match r with
  | .ok q => wpx m (FS mt Y tc S0 e0 q) E0x S
  | .exc x => wpx m (fun _ _ => False) (fun x' S' => x' = x ∧ ∃ e', Fm S0 S' mt tc e0 e') S
  | .bad => True
theorem zs_ret {q q' : Flow × Nv} (h : FS mt Y tc S0 e0 q q' S) : SS mt Y tc S0 e0 S (.ok q) (M.ret q') := (wpx_ret (a := q') (Q := FS mt Y tc S0 e0 q) (E := E0x)).mpr h
theorem zs_nx {env env' : Nv} (f : Fm S0 S mt tc e0 env') (h : ER S mt Y env env') : SS mt Y tc S0 e0 S (.ok (.nx, env)) (M.ret (.nx, env')) := zs_ret ⟨f, h⟩
theorem zs_mono (h : ∀ i ∈ tc, i ∈ tc') {r : Rv (Flow × Nv)} {m : M (Flow × Nv)} (a : SS mt Y tc S0 e0 S r m) : SS mt Y tc' S0 e0 S r m := by
  cases r with
  | bad => trivial
  | exc x => exact wpx_mono a (fun _ _ z => z) fun _ _ ⟨a, e', f⟩ => ⟨a, e', f.mono h⟩
  | ok q => exact wpx_mono a (fun _ _ ⟨f, z⟩ => ⟨f.mono h, z⟩) fun _ _ z => z
/-- from a later base -/
theorem zs_base {r : Rv (Flow × Nv)} {m : M (Flow × Nv)} (f0 : Fm S0 S1 mt tc e0 e1) (a : SS mt Y tc S1 e1 S r m) : SS mt Y tc S0 e0 S r m := by
  cases r with
  | bad => trivial
  | exc x => exact wpx_mono a (fun _ _ z => z) fun _ _ ⟨a, e', f⟩ => ⟨a, e', f0.trans f⟩
  | ok q => exact wpx_mono a (fun _ _ ⟨f, z⟩ => ⟨f0.trans f, z⟩) fun _ _ z => z
/-- an expression first -/
theorem zs_e {α β : Type} {R : Store → α → β → Prop} {r : Rv α} {m : M β} {f : α → Rv (Flow × Nv)} {g : β → M (Flow × Nv)} (h : Sim S R r m) (f0 : Fm S0 S mt tc e0 envD)
    (k : ∀ a b S', Kp S S' → Fm S0 S' mt tc e0 envD → R S' a b → SS mt Y tc S0 e0 S' (f a) (g b)) : SS mt Y tc S0 e0 S (r.bind f) (m.bind g) := by
  cases r with
  | bad => trivial
  | exc e =>
    show wpx _ _ _ _
    rw [wpx_bind]
    exact wpx_mono h (fun _ _ z => z.elim) fun _ _ ⟨a, b⟩ => ⟨b, envD, f0.trans (.kp a)⟩
  | ok a =>
    have h : wpx m (fun b S' => Kp S S' ∧ R S' a b) E0x S := h
    show SS mt Y tc S0 e0 S (f a) (m.bind g)
    cases e : f a with
    | bad => trivial
    | exc x =>
      show wpx _ _ _ _
      rw [wpx_bind]
      refine wpx_of_wp h fun b S1 ⟨k1, h1⟩ => ?_
      have := k a b S1 k1 (f0.trans (.kp k1)) h1
      rw [e] at this
      exact this
    | ok c =>
      show wpx _ _ _ _
      rw [wpx_bind]
      refine wpx_of_wp h fun b S1 ⟨k1, h1⟩ => ?_
      have := k a b S1 k1 (f0.trans (.kp k1)) h1
      rw [e] at this
      exact this
/-- a statement first -/
theorem zs_bind {r : Rv (Flow × Nv)} {m : M (Flow × Nv)} {f : Flow × Nv → Rv (Flow × Nv)} {g : Flow × Nv → M (Flow × Nv)} (h : SS mt Y tc S envD S r m) (f0 : Fm S0 S mt tc e0 envD)
    (k : ∀ q q' S', Fm S0 S' mt tc e0 q'.2 → FS mt Y tc S envD q q' S' → SS mt Y tc S0 e0 S' (f q) (g q')) : SS mt Y tc S0 e0 S (r.bind f) (m.bind g) := by
  cases r with
  | bad => trivial
  | exc e =>
    show wpx _ _ _ _
    rw [wpx_bind]
    exact wpx_mono h (fun _ _ z => z.elim) fun _ _ ⟨a, e', b⟩ => ⟨a, e', f0.trans b⟩
  | ok a =>
    have h : wpx m (FS mt Y tc S envD a) E0x S := h
    show SS mt Y tc S0 e0 S (f a) (m.bind g)
    cases e : f a with
    | bad => trivial
    | exc x =>
      show wpx _ _ _ _
      rw [wpx_bind]
      refine wpx_of_wp h fun b S1 h1 => ?_
      have := k a b S1 (f0.trans h1.1) h1
      rw [e] at this
      exact this
    | ok c =>
      show wpx _ _ _ _
      rw [wpx_bind]
      refine wpx_of_wp h fun b S1 h1 => ?_
      have := k a b S1 (f0.trans h1.1) h1
      rw [e] at this
      exact this
/-! patterns -/
def PO (mt : List Nat) (Y : Nat → Prop) (tp : List Nat) (S : Store) (envD : Nv) : Store → Nv → Nv → Prop := fun S' env' envD' => S' = S ∧ ER S mt Y env' envD' ∧ (∀ i ∈ mt, envD'[i]? = envD[i]?) ∧ ∀ i, i ∉ tp → envD'[i]? = envD[i]?
theorem xo_eq (h : ∀ i ∈ mt, e1[i]? = e0[i]?) : XO mt Y e1 = XO mt Y e0 := by
  funext n
  apply propext
  unfold XO OwnN
  constructor
  · rintro (z | ⟨j, a, b⟩)
    · exact .inl z
    · exact .inr ⟨j, a, h j a ▸ b⟩
  · rintro (z | ⟨j, a, b⟩)
    · exact .inl z
    · exact .inr ⟨j, a, (h j a).symm ▸ b⟩
theorem noP_nm {i : Nat} (h : noP mt (.nm i) = true) : i ∉ mt := by
  simpa [noP, tcP] using h
theorem noP_tup {ps : Pats} (h : noP mt (.tup ps) = true) : (tcPs ps).all (fun i => !mt.contains i) = true := h
mutual
theorem vP_ok : ∀ (p : Pat) {S : Store} {env envD : Nv} {v d : D}, noP mt p = true → CR S (XO mt Y envD) v d → ER S mt Y env envD → Sim S (PO mt Y (tcP p) S envD) (vP p v env) (evP C' p d envD)
  | .nm i, S, env, envD, v, d, h, hc, hE => by
    have hi := noP_nm h
    rw [vP, evP]
    refine sim_ret ⟨rfl, hE.set hi hc, fun j hj => List.getElem?_set_ne (ne_mem hi hj), fun j hj => List.getElem?_set_ne fun z => hj (by simp [tcP, z])⟩
  | .tup ps, S, env, envD, v, d, h, hc, hE => by
    cases v with
    | tup vs =>
      obtain ⟨ds, rfl, q⟩ := cr_tup.mp hc
      rw [vP, evP]
      exact vPs_ok ps (noP_tup h) q hE
    | _ => trivial
  | .sub _ _, _, _, _, _, _, _, _, _ => trivial
  | .fld _ _ _, _, _, _, _, _, _, _, _ => trivial
theorem vPs_ok : ∀ (p : Pats) {S : Store} {env envD : Nv} {vs ds : List D}, (tcPs p).all (fun i => !mt.contains i) = true → CRs S (XO mt Y envD) vs ds → ER S mt Y env envD → Sim S (PO mt Y (tcPs p) S envD) (vPs p vs env) (evPs C' p ds envD)
  | .nil, S, env, envD, vs, ds, h, hc, hE => by
    cases vs with
    | nil => cases hc.nilE; rw [vPs, evPs]; exact sim_ret ⟨rfl, hE, fun _ _ => rfl, fun _ _ => rfl⟩
    | cons _ _ => trivial
  | .cons p r, S, env, envD, vs, ds, h, hc, hE => by
    cases vs with
    | nil => trivial
    | cons v vs =>
      obtain ⟨d, ds, rfl, c1, c2⟩ := hc.consE
      rw [tcPs, List.all_append, Bool.and_eq_true] at h
      rw [vPs, evPs]
      refine sim_bind (vP_ok p h.1 c1 hE) fun a b S' k ⟨e1, e2, e3, e4⟩ => ?_
      subst e1
      rw [← xo_eq (Y := Y) e3] at c2
      refine sim_mono (vPs_ok r h.2 c2 e2) fun S2 a2 b2 k2 ⟨g1, g2, g3, g4⟩ => ⟨g1, g2, fun i hi => (g3 i hi).trans (e3 i hi), fun i hi => ?_⟩
      rw [tcPs, List.mem_append] at hi
      exact (g4 i fun z => hi (.inr z)).trans (e4 i fun z => hi (.inl z))
end
theorem PO.fm {tp : List Nat} {env' envD' : Nv} (h : PO mt Y tp S envD S' env' envD') : Fm S S' mt tp envD envD' := by
  obtain ⟨rfl, _, a, b⟩ := h
  exact ⟨Nat.le_refl _, fun _ _ _ q => q, fun i n hi _ z => (a i hi) ▸ z, b⟩
/-! loops -/
theorem whileV_ok {c : Nv → Rv D} {b : Nv → Rv (Flow × Nv)} {cD : Nv → M D} {bD : Nv → M (Flow × Nv)}
    (hc : ∀ env envD S, ER S mt Y env envD → SB mt Y S envD (c env) (cD envD)) (hb : ∀ env envD S, ER S mt Y env envD → SS mt Y tc S envD S (b env) (bD envD)) :
    ∀ (f : Nat) (env envD : Nv) (S : Store), Fm S0 S mt tc e0 envD → ER S mt Y env envD → SS mt Y tc S0 e0 S (whileV c b f env) (whileF cD bD f envD) := by
  intro f
  induction f with
  | zero => intro env envD S _ _; trivial
  | succ f ih =>
    intro env envD S f0 hE
    rw [whileV, whileF]
    refine zs_e (hc _ _ _ hE) f0 fun x d S1 k1 f1 q1 => ?_
    refine zs_e (asB_ok q1) f1 fun i j S2 k2 f2 q2 => ?_
    subst q2
    have E2 := hE.kp (k1.trans k2)
    cases i with
    | false => exact zs_nx f2 E2
    | true =>
      refine zs_bind (hb _ _ _ E2) f2 fun q q' S3 f3 h3 => ?_
      obtain ⟨fl, e3⟩ := q
      obtain ⟨fl', e3'⟩ := q'
      obtain ⟨g1, g2⟩ := h3
      cases fl <;> cases fl' <;> first | exact g2.elim | skip
      · exact ih _ _ _ f3 g2
      · exact zs_nx f3 g2
      · exact ih _ _ _ f3 g2
      · exact zs_ret ⟨f3, g2⟩
def StJ (mt tc : List Nat) (Y : Nat → Prop) (S : Store) (e : Nv) (J : ItV) : Prop := ∀ n, (J = .lst n ∨ ∃ k, J = .rev n k) → n < S.length ∧ (¬ XO mt Y e n ∨ ∃ i, i ∈ mt ∧ i ∉ tc ∧ e[i]? = some (some (.loc n)))
theorem StJ.step {J : ItV} (h : StJ mt tc Y S e0 J) (hE : ER S mt Y env e0) (f : Fm S S' mt tc e0 e1) : StJ mt tc Y S' e1 J ∧ ∀ i, itO J i S' = itO J i S := by
  have key : ∀ n, (J = .lst n ∨ ∃ k, J = .rev n k) → rd S' n = rd S n := by
    intro n hn
    obtain ⟨hl, q⟩ := h n hn
    have e := List.getElem?_eq_getElem hl
    have : S'[n]? = some S[n] := by
      refine f.keep n _ (fun i hi ht z => ?_) e
      rcases q with q | ⟨j, a, b, c⟩
      · exact q (.inr ⟨i, hi, z⟩)
      · exact b (hE.dis i j n hi a z c ▸ ht)
    unfold rd
    rw [this, e]
  refine ⟨fun n hn => ?_, fun i => ?_⟩
  · obtain ⟨hl, q⟩ := h n hn
    refine ⟨Nat.lt_of_lt_of_le hl f.len, q.imp (fun z w => z (w.imp id fun ⟨i, hi, x⟩ => ⟨i, hi, f.old i n hi hl x⟩)) fun ⟨i, a, b, c⟩ => ⟨i, a, b, (f.same i b).trans c⟩⟩
  · cases J with
    | lst n => show (rd S' n).map _ = (rd S n).map _; rw [key n (.inl rfl)]
    | rev n m => show (match rd S' n with | some _ => _ | none => _) = (match rd S n with | some _ => _ | none => _); rw [key n (.inr ⟨m, rfl⟩)]
    | _ => rfl
theorem forV_ok {J : ItV} {p : Pat} {b : Nv → Rv (Flow × Nv)} {bD : Nv → M (Flow × Nv)} {items es : List D} {tb : List Nat} (hp : noP mt p = true)
    (ht : ∀ i ∈ tcP p ++ tb, i ∈ tc) (hb : ∀ env envD S, ER S mt Y env envD → SS mt Y tb S envD S (b env) (bD envD)) :
    ∀ (k i f : Nat) (env envD : Nv) (S : Store), es.length - i = k → i ≤ es.length → k < f → Fm S0 S mt tc e0 envD → ER S mt Y env envD → CRs S (XO mt Y envD) items es → ItOk J S es → StJ mt (tcP p ++ tb) Y S envD J →
      SS mt Y tc S0 e0 S (forV (vP p) b (items.drop i) env) (forF J (evP C' p) bD f i envD) := by
  intro k
  induction k with
  | zero =>
    intro i f env envD S hk hi hf f0 hE hc hit hst
    obtain ⟨f, rfl⟩ : ∃ g, f = g + 1 := ⟨f - 1, by omega⟩
    have e : i = es.length := by omega
    subst e
    rw [← hc.length, List.drop_length, forV, forF]
    show wpx _ _ _ _
    rw [wpx_bind, e_itAt (hit _), hc.length, List.getElem?_eq_none (Nat.le_refl _)]
    exact zs_nx f0 hE
  | succ k ih =>
    intro i f env envD S hk hi hf f0 hE hc hit hst
    obtain ⟨f, rfl⟩ : ∃ g, f = g + 1 := ⟨f - 1, by omega⟩
    have hlt : i < es.length := by omega
    have hl2 : i < items.length := by rw [hc.length]; exact hlt
    obtain ⟨d, hd, cd⟩ := hc.at (List.getElem?_eq_getElem hl2)
    rw [List.drop_eq_getElem_cons hl2, forV, forF]
    have pre : ∀ {r : Rv (Flow × Nv)}, SS mt Y tc S0 e0 S r (M.bind (evP C' p d envD) fun env1 => M.bind (bD env1) fun r => match r with
        | (.nx, env') => forF J (evP C' p) bD f (i + 1) env'
        | (.ct, env') => forF J (evP C' p) bD f (i + 1) env'
        | (.bk, env') => M.ret (.nx, env')
        | (.rt d, env') => M.ret (.rt d, env')) → SS mt Y tc S0 e0 S r (M.bind (itAt J i) fun o => match o with
        | none => M.ret (.nx, envD)
        | some d => M.bind (evP C' p d envD) fun env1 => M.bind (bD env1) fun r => match r with
          | (.nx, env') => forF J (evP C' p) bD f (i + 1) env'
          | (.ct, env') => forF J (evP C' p) bD f (i + 1) env'
          | (.bk, env') => M.ret (.nx, env')
          | (.rt d, env') => M.ret (.rt d, env')) := by
      intro r h
      cases r with
      | bad => trivial
      | exc x => show wpx _ _ _ _; rw [wpx_bind, e_itAt (hit i), hd]; exact h
      | ok x => show wpx _ _ _ _; rw [wpx_bind, e_itAt (hit i), hd]; exact h
    refine pre ?_
    refine zs_e (vP_ok p hp cd hE) f0 fun env1 envD1 S1 k1 f1 po => ?_
    have fp : Fm S S1 mt tc envD envD1 := po.fm.mono fun i hi => ht i (List.mem_append.mpr (.inl hi))
    have fp' : Fm S S1 mt (tcP p ++ tb) envD envD1 := po.fm.mono fun i hi => List.mem_append.mpr (.inl hi)
    have E1 : ER S1 mt Y env1 envD1 := by obtain ⟨rfl, h, _⟩ := po; exact h
    have hb1 := zs_mono (tc' := tc) (fun i hi => ht i (List.mem_append.mpr (.inr hi))) (hb _ _ _ E1)
    have f01 := f0.trans fp
    have st1 := hst.step hE fp'
    cases r : b env1 with
    | bad => trivial
    | exc x =>
      have := hb1
      rw [r] at this
      show wpx _ _ _ _
      rw [wpx_bind]
      exact wpx_mono this (fun _ _ z => z.elim) fun _ _ ⟨a, e', b⟩ => ⟨a, e', f01.trans b⟩
    | ok q =>
      have hq := hb _ _ _ E1
      rw [r] at hq
      have hq : wpx (bD envD1) (FS mt Y tb S1 envD1 q) E0x S1 := hq
      obtain ⟨fl, e3⟩ := q
      have fin : ∀ {r2 : Rv (Flow × Nv)} {G : Flow × Nv → M (Flow × Nv)}, (∀ q' S', FS mt Y tb S1 envD1 (fl, e3) q' S' → SS mt Y tc S0 e0 S' r2 (G q')) → SS mt Y tc S0 e0 S1 r2 ((bD envD1).bind G) := by
        intro r2 G h
        cases r2 with
        | bad => trivial
        | exc x => show wpx _ _ _ _; rw [wpx_bind]; exact wpx_of_wp hq fun a S' z => h a S' z
        | ok x => show wpx _ _ _ _; rw [wpx_bind]; exact wpx_of_wp hq fun a S' z => h a S' z
      rw [rv_ok]
      refine fin fun q' S2 h2 => ?_
      obtain ⟨fl', e3'⟩ := q'
      obtain ⟨g1, g2⟩ := h2
      have g1' : Fm S1 S2 mt (tcP p ++ tb) envD1 e3' := g1.mono fun i hi => List.mem_append.mpr (.inr hi)
      have f02 : Fm S0 S2 mt tc e0 e3' := f01.trans (g1.mono fun i hi => ht i (List.mem_append.mpr (.inr hi)))
      have st2 := st1.1.step E1 g1'
      have go : ER S2 mt Y e3 e3' → SS mt Y tc S0 e0 S2 (forV (vP p) b (items.drop (i + 1)) e3) (forF J (evP C' p) bD f (i + 1) e3') := fun E2 =>
        ih (i + 1) f e3 e3' S2 (by omega) (by omega) (by omega) f02 E2 (g1.crs (fp.crs hc)) (fun j => by rw [st2.2, st1.2]; exact hit j) st2.1
      cases fl <;> cases fl' <;> first | exact g2.elim | skip
      · exact go g2
      · exact zs_nx f02 g2
      · exact go g2
      · exact zs_ret ⟨f02, g2⟩
/-! changes of a list -/
theorem own_mutC {i n : Nat} {w : D} {cc : Cell} (hi : i ∈ mt) (hE : ER S mt Y env envD) (hn : envD[i]? = some (some (.loc n))) (hl : i < env.length) (c : n < S.length → XO mt Y envD n → CB (S.set n cc) (XO mt Y envD) w (.loc n)) : ER (S.set n cc) mt Y (env.set i (some w)) envD := by
  have hX : XO mt Y envD n := .inr ⟨i, hi, hn⟩
  have hs : n < S.length := (hE.own i n hi hn).2
  refine ⟨by simp [hE.len], fun j v e => ?_, fun j m a b => ⟨(hE.own j m a b).1, by rw [List.length_set]; exact (hE.own j m a b).2⟩, hE.dis, fun m y => by rw [List.length_set]; exact hE.yb m y⟩
  rw [List.getElem?_set] at e
  by_cases hj : i = j
  · subst hj
    rw [if_pos rfl, if_pos hl] at e
    cases e
    exact ⟨.loc n, hn, c hs hX, fun z => (z hi).elim⟩
  · rw [if_neg hj] at e
    obtain ⟨d, a, b, f⟩ := hE.val j v e
    refine ⟨d, a, ?_, fun z => cr_upd hX (f z)⟩
    by_cases hm : j ∈ mt
    · cases v with
      | lst vs =>
        obtain ⟨m, es, rfl, e2, e3⟩ := b
        refine ⟨m, es, rfl, ?_, crs_upd hX e3⟩
        rw [List.getElem?_set_ne (fun (z : n = m) => hj (hE.dis i j n hi hm hn (by rw [z]; exact a)))]
        exact e2
      | dct ks vs =>
        obtain ⟨m, es, rfl, e2, e0, e3⟩ := b
        refine ⟨m, es, rfl, ?_, e0, crs_upd hX e3⟩
        rw [List.getElem?_set_ne (fun (z : n = m) => hj (hE.dis i j n hi hm hn (by rw [z]; exact a)))]
        exact e2
      | _ => exact cr_upd hX (show CR S _ _ d from b)
    · exact (cr_upd hX (f hm)).b
theorem own_mut {i n : Nat} {xs ds : List D} (hi : i ∈ mt) (hE : ER S mt Y env envD) (hn : envD[i]? = some (some (.loc n))) (hl : i < env.length) (c : CRs S (XO mt Y envD) xs ds) : ER (S.set n (.lst ds)) mt Y (env.set i (some (.lst xs))) envD :=
  own_mutC hi hE hn hl fun hs hX => ⟨n, ds, rfl, List.getElem?_set_self hs, crs_upd hX c⟩
theorem own_mutD {i n : Nat} {r r' : List (NK × D)} (hi : i ∈ mt) (hE : ER S mt Y env envD) (hn : envD[i]? = some (some (.loc n))) (hl : i < env.length) (c : KR S (XO mt Y envD) r r') : ER (S.set n (.dct r')) mt Y (env.set i (some (mkD r))) envD :=
  own_mutC hi hE hn hl fun hs hX => ⟨n, r', rfl, List.getElem?_set_self hs, c.1.symm, crs_upd hX c.2⟩
theorem fm_mut {i n : Nat} {c : Cell} (hi : i ∈ mt) (hn : envD[i]? = some (some (.loc n))) : Fm S (S.set n c) mt [i] envD envD :=
  ⟨by simp, fun m d h q => by rw [List.getElem?_set_ne (fun (z : n = m) => h i hi (by simp) (by rw [← z]; exact hn))]; exact q, fun _ _ _ _ z => z, fun _ _ => rfl⟩
def MutP (S : Store) (X : Nat → Prop) (n : Nat) (r : Rv (D × List D)) (m : M D) : Prop := match r with
  | .ok p => wpx m (fun d S' => ∃ ds', S' = S.set n (.lst ds') ∧ CRs S X p.2 ds' ∧ CR S X p.1 d) E0x S
  | .exc _ => False
  | .bad => True
theorem mut_ok {b : Bi} {n : Nat} {xs ds ys es : List D} (hb : isMut b = true) (hn : S[n]? = some (.lst ds)) (hc : CRs S X xs ds) (ha : b = .extend → CBs S X ys es) (ha' : b ≠ .extend → CRs S X ys es) :
    MutP S X n (mutV b xs ys) (builtin b (.loc n :: es)) := by
  cases b <;> first | cases hb | skip
  · -- append
    have ha := ha' (fun z => nomatch z)
    match ys, ha with
    | [], _ => trivial
    | _ :: _ :: _, _ => trivial
    | [y], ha =>
      obtain ⟨d, r, rfl, c1, c2⟩ := ha.consE
      cases c2.nilE
      show MutP S X n ((guardV (decide (xs.length < sizeLine))).bind _) _
      by_cases hl : xs.length < sizeLine
      · rw [decide_eq_true hl]
        show wpx (M.bind (owL n) _) _ _ _
        rw [wpx_bind, p_owL hn, wpx_bind, wpx_guard]
        refine ⟨by rw [← hc.length]; exact decide_eq_true hl, ?_⟩
        rw [wpx_bind, x_wrL, wpx_ret]
        exact ⟨_, rfl, hc.append (.cons c1 .nil), cr_non.mpr rfl⟩
      · rw [decide_eq_false hl]; trivial
  · -- pop0
    have ha := ha' (fun z => nomatch z)
    match ys, ha with
    | _ :: _, _ => trivial
    | [], ha =>
      cases ha.nilE
      show MutP S X n ((optV xs[xs.length - 1]?).bind _) _
      cases q : xs[xs.length - 1]? with
      | none => trivial
      | some v =>
        obtain ⟨d, e, c⟩ := hc.at q
        rw [hc.length] at e
        show wpx (M.bind (owL n) _) _ _ _
        rw [wpx_bind, p_owL hn, e, wpx_bind, wpx_opt_some, wpx_bind, x_wrL, wpx_ret]
        exact ⟨_, rfl, hc.dropLast, c⟩
  · -- pop1
    have ha := ha' (fun z => nomatch z)
    match ys, ha with
    | [], _ => trivial
    | x :: _ :: _, _ => cases x <;> trivial
    | [y], ha =>
      obtain ⟨d, r, rfl, c1, c2⟩ := ha.consE
      cases c2.nilE
      cases y with
      | int i =>
        cases cr_int.mp c1
        show MutP S X n ((guardV (decide (-(2 ^ 63) ≤ i) && decide (i < 2 ^ 63))).bind _) _
        cases g : (decide (-(2 ^ 63) ≤ i) && decide (i < 2 ^ 63)) with
        | false => trivial
        | true =>
          show MutP S X n ((optV (seqIndex? i xs.length)).bind _) _
          cases q : seqIndex? i xs.length with
          | none => trivial
          | some k =>
            show MutP S X n ((optV xs[k]?).bind _) _
            cases q2 : xs[k]? with
            | none => trivial
            | some v =>
              obtain ⟨d, e, c⟩ := hc.at q2
              rw [hc.length] at q
              show wpx (M.bind (owL n) _) _ _ _
              rw [wpx_bind, p_owL hn, wpx_bind, wpx_guard]
              refine ⟨g, ?_⟩
              rw [q, wpx_bind, wpx_opt_some, e, wpx_bind, wpx_opt_some, wpx_bind, x_wrL, wpx_ret]
              exact ⟨_, rfl, hc.eraseIdx k, c⟩
      | _ => trivial
  · -- extend
    have ha := ha rfl
    match ys, ha with
    | [], _ => trivial
    | x :: _ :: _, _ => cases x <;> trivial
    | [y], ha =>
      obtain ⟨d, rfl, c⟩ := cbs1 ha
      cases y with
      | lst us =>
        obtain ⟨m, ws, rfl, e1, q⟩ := cb_lst.mp c
        show MutP S X n ((guardV (ok2 (xs.length + us.length))).bind _) _
        cases g : ok2 (xs.length + us.length) with
        | false => trivial
        | true =>
          show wpx (M.bind (owL n) _) _ _ _
          rw [wpx_bind, p_owL hn, wpx_bind, p_owL e1, wpx_bind, wpx_guard]
          refine ⟨by rw [← hc.length, ← q.length]; exact g, ?_⟩
          rw [wpx_bind, x_wrL, wpx_ret]
          exact ⟨_, rfl, hc.append q, cr_non.mpr rfl⟩
      | tup us =>
        obtain ⟨ws, rfl, q⟩ := cb_tup.mp c
        show MutP S X n ((guardV (ok2 (xs.length + us.length))).bind _) _
        cases g : ok2 (xs.length + us.length) with
        | false => trivial
        | true =>
          show wpx (M.bind (owL n) _) _ _ _
          rw [wpx_bind, p_owL hn, wpx_bind, wpx_guard]
          refine ⟨by rw [← hc.length, ← q.length]; exact g, ?_⟩
          rw [wpx_bind, x_wrL, wpx_ret]
          exact ⟨_, rfl, hc.append q, cr_non.mpr rfl⟩
      | _ => trivial
  · -- reverse
    have ha := ha' (fun z => nomatch z)
    match ys, ha with
    | _ :: _, _ => trivial
    | [], ha =>
      cases ha.nilE
      show wpx (M.bind (owL n) _) _ _ _
      rw [wpx_bind, p_owL hn, wpx_bind, x_wrL, wpx_ret]
      exact ⟨_, rfl, hc.reverse, cr_non.mpr rfl⟩
  · -- insert
    have ha := ha' (fun z => nomatch z)
    match ys, ha with
    | [], _ => trivial
    | [x], _ => cases x <;> trivial
    | x :: y :: z :: r, _ => cases x <;> trivial
    | [x, y], ha =>
      obtain ⟨d, r, rfl, c1, c2⟩ := ha.consE
      obtain ⟨d2, r, rfl, c4, c3⟩ := c2.consE
      cases c3.nilE
      cases x with
      | int i =>
        cases cr_int.mp c1
        show MutP S X n ((guardV (decide (xs.length < sizeLine) && decide (0 ≤ i) && decide (i < 2 ^ 63))).bind _) _
        cases g : (decide (xs.length < sizeLine) && decide (0 ≤ i) && decide (i < 2 ^ 63)) with
        | false => trivial
        | true =>
          show wpx (M.bind (owL n) _) _ _ _
          rw [wpx_bind, p_owL hn, wpx_bind, wpx_guard]
          refine ⟨by rw [← hc.length]; exact g, ?_⟩
          rw [wpx_bind, x_wrL, wpx_ret]
          exact ⟨_, rfl, ((hc.take _).append (.cons c4 .nil)).append (hc.drop _), cr_non.mpr rfl⟩
      | _ => trivial
theorem lstAt_ok {i : Nat} {xs : List D} (hE : ER S mt Y env envD) (hi : i ∈ mt) (h : lstAt env i = .ok xs) : ∃ n ds, envD[i]? = some (some (.loc n)) ∧ S[n]? = some (.lst ds) ∧ CRs S (XO mt Y envD) xs ds ∧ i < env.length := by
  unfold lstAt at h
  split at h
  · rename_i ys e
    cases h
    obtain ⟨d, a, ⟨n, ds, rfl, e2, e3⟩, _⟩ := hE.val i _ e
    exact ⟨n, ds, a, e2, e3, (List.getElem?_eq_some_iff.mp e).1⟩
  · cases h
theorem cellV_ok {i : Nat} {c : D} (hE : ER S mt Y env envD) (h : cellV env i = .ok c) : ∃ n, envD[i]? = some (some (.loc n)) ∧ i < env.length ∧
    ((∃ xs ds, c = .lst xs ∧ S[n]? = some (.lst ds) ∧ CRs S (XO mt Y envD) xs ds) ∨ ∃ ks vs kvs, c = .dct ks vs ∧ S[n]? = some (.dct kvs) ∧ kvs.map (·.1) = ks ∧ CRs S (XO mt Y envD) vs (kvs.map (·.2))) := by
  unfold cellV at h
  split at h
  · rename_i ys e
    cases h
    obtain ⟨d, a, ⟨n, ds, rfl, e2, e3⟩, _⟩ := hE.val i _ e
    exact ⟨n, a, (List.getElem?_eq_some_iff.mp e).1, .inl ⟨_, ds, rfl, e2, e3⟩⟩
  · rename_i ks vs e
    cases h
    obtain ⟨d, a, ⟨n, ds, rfl, e2, e0, e3⟩, _⟩ := hE.val i _ e
    exact ⟨n, a, (List.getElem?_eq_some_iff.mp e).1, .inr ⟨_, _, ds, rfl, e2, e0, e3⟩⟩
  · cases h
theorem mth_ok (hC : CtxOk C C') {b : Bi} {i : Nat} {es : Es} (hb : isMut b = true) (ho : okMth mt b i es = true) (hE : ER S mt Y env envD) :
    match mthV C b i es env with
    | .ok (r, env') => wpx (evE C' (.meth b (.v i) es) envD) (fun d S' => Fm S S' mt [i] envD envD ∧ ER S' mt Y env' envD ∧ CR S' (XO mt Y envD) r d) E0x S
    | .exc x => wpx (evE C' (.meth b (.v i) es) envD) (fun _ _ => False) (fun x' S' => Kp S S' ∧ x' = x) S
    | .bad => True := by
  unfold okMth at ho
  rw [Bool.and_eq_true] at ho
  have hi : i ∈ mt := by simpa using ho.1
  unfold mthV
  cases q : lstAt env i with
  | bad => trivial
  | exc x => unfold lstAt at q; split at q <;> cases q
  | ok xs =>
    obtain ⟨n, ds, h1, h2, h3, h4⟩ := lstAt_ok hE hi q
    have pre : ∀ (P : D → Store → Prop) E, wpx (evE C' (.meth b (.v i) es) envD) P E S ↔ wpx (M.bind (evEs C' es envD) fun ys => builtin b (.loc n :: ys)) P E S := by
      intro P E
      rw [evE]
      have : evE C' (.v i) envD = M.ret (.loc n) := by rw [evE, h1]
      rw [this, wpx_bind, wpx_ret, wpx_bind]
      have hr : recv b (.loc n) = M.bind (rdL n) fun _ => M.ret () := by cases b <;> first | rfl | cases hb
      rw [hr, wpx_bind, p_rdL h2, wpx_ret]
    rw [rv_ok]
    have args : Sim S (fun S' ys es => (b = .extend → CBs S' (XO mt Y envD) ys es) ∧ (b ≠ .extend → CRs S' (XO mt Y envD) ys es)) (vEs C es env) (evEs C' es envD) := by
      by_cases hx : b = .extend
      · subst hx
        exact sim_mono (vBs_ok hC es ho.2 hE) fun _ _ _ _ z => ⟨fun _ => z, fun w => (w rfl).elim⟩
      · have : okEs mt es = true := by
          have h := ho.2
          cases b <;> first | exact h | exact (hx rfl).elim
        exact sim_mono (vEs_ok hC es this hE) fun _ _ _ _ z => ⟨fun w => (hx w).elim, fun _ => z⟩
    cases r : vEs C es env with
    | bad => trivial
    | exc x =>
      rw [r] at args
      show wpx (evE C' (.meth b (.v i) es) envD) _ _ S
      rw [pre, wpx_bind]
      exact wpx_mono (show wpx _ _ _ _ from args) (fun _ _ z => z.elim) fun _ _ z => z
    | ok ys =>
      rw [r] at args
      have args : wpx (evEs C' es envD) (fun es' S' => Kp S S' ∧ (b = .extend → CBs S' (XO mt Y envD) ys es') ∧ (b ≠ .extend → CRs S' (XO mt Y envD) ys es')) E0x S := args
      rw [rv_ok, rv_ok]
      cases m : mutV b xs ys with
      | bad => trivial
      | exc x =>
        exfalso
        unfold wpx at args
        cases e : evEs C' es envD S with
        | ok es' S' =>
          rw [e] at args
          have := mut_ok (S := S') (X := XO mt Y envD) hb (args.1.keep _ _ h2) (h3.kp args.1) args.2.1 args.2.2
          rw [m] at this
          exact this
        | exc _ _ => rw [e] at args; exact args
        | bad => rw [e] at args; exact args
      | ok p =>
        obtain ⟨v, xs'⟩ := p
        show wpx (evE C' (.meth b (.v i) es) envD) _ _ S
        rw [pre, wpx_bind]
        refine wpx_of_wp args fun es' S1 ⟨k1, a1, a2⟩ => ?_
        have := mut_ok (S := S1) (X := XO mt Y envD) hb (k1.keep _ _ h2) (h3.kp k1) a1 a2
        rw [m] at this
        refine wpx_of_wp this ?_
        rintro d S2 ⟨ds', rfl, c1, c2⟩
        have hX : XO mt Y envD n := .inr ⟨i, hi, h1⟩
        exact ⟨(Fm.kp k1).trans (fm_mut hi h1), own_mut hi (hE.kp k1) h1 h4 c1, cr_upd hX c2⟩
end
end Mn
/-! Mn by value: statements and defs. -/
namespace Mn
open PySem L2
section
variable {C : CV} {C' : Ctx} {mt tc tc' : List Nat} {Y : Nat → Prop} {S S0 S1 S' : Store} {env envD e0 e1 e2 : Nv} {X : Nat → Prop}
/-- how a statement's kind reads back -/
theorem kind_expr {e : E} {b : Bi} {i : Nat} {es : Es} (h : kindS (.expr e) = .mth b i es) : e = .meth b (.v i) es ∧ isMut b = true := by
  cases e with
  | meth b' o es' =>
    cases o with
    | v j =>
      simp only [kindS] at h
      split at h
      · rename_i hb; cases h; exact ⟨rfl, hb⟩
      · cases h
    | _ => cases h
  | _ => cases h
theorem kind_expr' {e : E} : (∃ b i es, kindS (.expr e) = .mth b i es) ∨ kindS (.expr e) = .other := by
  cases e with
  | meth b' o es' =>
    cases o with
    | v j =>
      simp only [kindS]
      split
      · exact .inl ⟨_, _, _, rfl⟩
      · exact .inr rfl
    | _ => exact .inr rfl
  | _ => exact .inr rfl
theorem kind_set {p : Pat} {e : E} : (∃ j b i es, p = .nm j ∧ e = .meth b (.v i) es ∧ isMut b = true ∧ kindS (.set p e) = .mset j b i es) ∨ (∃ i k, p = .sub (.v i) k ∧ kindS (.set p e) = .sub i k e) ∨ kindS (.set p e) = .other := by
  cases p with
  | nm j =>
    cases e with
    | meth b' o es' =>
      cases o with
      | v i =>
        cases hb : isMut b' with
        | true => exact .inl ⟨j, b', i, es', rfl, rfl, hb, by simp only [kindS, hb]⟩
        | false => exact .inr (.inr (by simp only [kindS, hb]))
      | _ => exact .inr (.inr rfl)
    | _ => exact .inr (.inr rfl)
  | tup ps => exact .inr (.inr rfl)
  | fld _ _ _ => exact .inr (.inr rfl)
  | sub o k =>
    cases o with
    | v i => exact .inr (.inl ⟨i, k, rfl, rfl⟩)
    | _ => exact .inr (.inr rfl)
/-- a changing method, and what goes on -/
theorem zs_mth (hC : CtxOk C C') {b : Bi} {i : Nat} {es : Es} (hb : isMut b = true) (ho : okMth mt b i es = true) (hi : i ∈ tc) (hE : ER S mt Y env envD) {f : D × Nv → Rv (Flow × Nv)} {g : D → M (Flow × Nv)}
    (k : ∀ r env' d S', Fm S S' mt tc envD envD → ER S' mt Y env' envD → CR S' (XO mt Y envD) r d → SS mt Y tc S envD S' (f (r, env')) (g d)) : SS mt Y tc S envD S ((mthV C b i es env).bind f) ((evE C' (.meth b (.v i) es) envD).bind g) := by
  have h := mth_ok hC hb ho hE
  cases q : mthV C b i es env with
  | bad => trivial
  | exc x =>
    rw [q] at h
    show wpx _ _ _ _
    rw [wpx_bind]
    exact wpx_mono h (fun _ _ z => z.elim) fun _ _ ⟨a, b⟩ => ⟨b, envD, .kp a⟩
  | ok p =>
    obtain ⟨r, env'⟩ := p
    rw [q] at h
    have h : wpx (evE C' (.meth b (.v i) es) envD) (fun d S' => Fm S S' mt [i] envD envD ∧ ER S' mt Y env' envD ∧ CR S' (XO mt Y envD) r d) E0x S := h
    rw [rv_ok]
    cases e : f (r, env') with
    | bad => trivial
    | exc x =>
      show wpx _ _ _ _
      rw [wpx_bind]
      refine wpx_of_wp h fun d S1 ⟨a1, a2, a3⟩ => ?_
      have := k r env' d S1 (a1.mono (by simpa using hi)) a2 a3
      rw [e] at this
      exact this
    | ok c =>
      show wpx _ _ _ _
      rw [wpx_bind]
      refine wpx_of_wp h fun d S1 ⟨a1, a2, a3⟩ => ?_
      have := k r env' d S1 (a1.mono (by simpa using hi)) a2 a3
      rw [e] at this
      exact this
/-- a name takes a new list -/
theorem own_new {i : Nat} {v d : D} (hi : i ∈ mt) (hE : ER S mt Y env envD) (k : Kp S S') (h : RE (XO mt Y envD) S true S' v d) : ER S' mt Y (env.set i (some v)) (envD.set i (some d)) ∧ Fm S S' mt [i] envD (envD.set i (some d)) := by
  have sub : ∀ n, n < S.length → XO mt Y (envD.set i (some d)) n → XO mt Y envD n := by
    rintro n hn (z | ⟨j, a, b⟩)
    · exact .inl z
    · rw [List.getElem?_set] at b
      by_cases hj : i = j
      · subst hj
        rw [if_pos rfl] at b
        split at b
        · cases b
          have := (h.2 rfl n rfl).1
          omega
        · cases b
      · rw [if_neg hj] at b
        exact .inr ⟨j, a, b⟩
  have sub2 : ∀ n, XO mt Y (envD.set i (some d)) n → XO mt Y envD n ∨ d = .loc n := by
    rintro n (z | ⟨j, a, b⟩)
    · exact .inl (.inl z)
    · rw [List.getElem?_set] at b
      by_cases hj : i = j
      · subst hj
        rw [if_pos rfl] at b
        split at b
        · cases b; exact .inr rfl
        · cases b
      · rw [if_neg hj] at b
        exact .inl (.inr ⟨j, a, b⟩)
  refine ⟨⟨by simp [hE.len], fun j w e => ?_, fun j n a b => ?_, fun j k' n a b e f => ?_, fun n y => Nat.lt_of_lt_of_le (hE.yb n y) k.len⟩, ⟨k.len, fun _ _ _ q => k.keep _ _ q, fun j n hj hn z => ?_, fun j hj => List.getElem?_set_ne (fun z => hj (by simp [z]))⟩⟩
  · rw [List.getElem?_set] at e
    by_cases hj : i = j
    · subst hj
      rw [if_pos rfl] at e
      split at e
      · rename_i hl
        cases e
        refine ⟨d, List.getElem?_set_self (by rw [← hE.len]; exact hl), ?_, fun z => (z hi).elim⟩
        have h1 := h.1
        cases v with
        | lst vs =>
          obtain ⟨n, ds, rfl, e2, e3, e4⟩ := cr_lst.mp h1
          obtain ⟨ds', g1, g2⟩ := (h.2 rfl n rfl).2.1 vs rfl
          refine ⟨n, ds', rfl, g1, g2.go (fun _ _ _ q => q) fun m _ z => ?_⟩
          rcases sub2 m z with z | z
          · exact .inl z
          · cases z; exact .inr rfl
        | tup vs =>
          refine (CR.go (S := S') (X := XO mt Y envD) (fun _ _ _ q => q) (fun n hn z => ?_) h1 : CR S' _ (D.tup vs) d)
          rcases sub2 n z with z | z
          · exact z
          · obtain ⟨ds, q, _⟩ := cr_tup.mp h1; rw [q] at z; cases z
        | non => exact CR.go (S := S') (X := XO mt Y envD) (fun _ _ _ q => q) (fun n hn z => (sub2 n z).resolve_right (by rw [cr_non.mp h1]; intro z; cases z)) h1
        | bl _ => exact CR.go (S := S') (X := XO mt Y envD) (fun _ _ _ q => q) (fun n hn z => (sub2 n z).resolve_right (by rw [cr_bl.mp h1]; intro z; cases z)) h1
        | int _ => exact CR.go (S := S') (X := XO mt Y envD) (fun _ _ _ q => q) (fun n hn z => (sub2 n z).resolve_right (by rw [cr_int.mp h1]; intro z; cases z)) h1
        | str _ => exact CR.go (S := S') (X := XO mt Y envD) (fun _ _ _ q => q) (fun n hn z => (sub2 n z).resolve_right (by rw [cr_str.mp h1]; intro z; cases z)) h1
        | loc _ => exact (cr_loc h1).elim
        | dct ks vs =>
          obtain ⟨n, kvs, rfl, e2, e3, e4⟩ := cr_dct.mp h1
          obtain ⟨ds', g1, g0, g2⟩ := (h.2 rfl n rfl).2.2 ks vs rfl
          refine ⟨n, ds', rfl, g1, g0, g2.go (fun _ _ _ q => q) fun m _ z => ?_⟩
          rcases sub2 m z with z | z
          · exact .inl z
          · cases z; exact .inr rfl
      · cases e
    · rw [if_neg hj] at e
      obtain ⟨d', a, b, c⟩ := hE.val j w e
      refine ⟨d', by rw [List.getElem?_set_ne hj]; exact a, ?_, fun z => (c z).go (fun n ds _ q => k.keep _ _ q) sub⟩
      cases w with
      | lst vs => obtain ⟨n, ds, e1, e2, e3⟩ := b; exact ⟨n, ds, e1, k.keep _ _ e2, e3.go (fun n ds _ q => k.keep _ _ q) sub⟩
      | dct ks vs => obtain ⟨n, ds, e1, e2, e0, e3⟩ := b; exact ⟨n, ds, e1, k.keep _ _ e2, e0, e3.go (fun n ds _ q => k.keep _ _ q) sub⟩
      | _ => exact CR.go (fun n ds _ q => k.keep _ _ q) sub (show CR S _ _ d' from b)
  · rw [List.getElem?_set] at b
    by_cases hj : i = j
    · subst hj
      rw [if_pos rfl] at b
      split at b
      · cases b
        have q := h.1
        have hl := (h.2 rfl n rfl).1
        refine ⟨fun y => ?_, ?_⟩
        · have := hE.yb n y; omega
        · cases v with
          | lst vs => obtain ⟨m, ds, e1, _, e3, _⟩ := cr_lst.mp q; cases e1; exact (List.getElem?_eq_some_iff.mp e3).1
          | tup vs => obtain ⟨ds, e, _⟩ := cr_tup.mp q; cases e
          | non => cases cr_non.mp q
          | bl _ => cases cr_bl.mp q
          | int _ => cases cr_int.mp q
          | str _ => cases cr_str.mp q
          | loc _ => exact (cr_loc q).elim
          | dct _ _ => obtain ⟨m, ds, e1, _, e3, _⟩ := cr_dct.mp q; cases e1; exact (List.getElem?_eq_some_iff.mp e3).1
      · cases b
    · rw [if_neg hj] at b
      exact ⟨(hE.own j n a b).1, Nat.lt_of_lt_of_le (hE.own j n a b).2 k.len⟩
  · have cl : ∀ j, j ∈ mt → (envD.set i (some d))[j]? = some (some (.loc n)) → (j = i ∧ S.length ≤ n) ∨ (j ≠ i ∧ envD[j]? = some (some (.loc n)) ∧ n < S.length) := by
      intro j hj q
      rw [List.getElem?_set] at q
      by_cases hij : i = j
      · subst hij
        rw [if_pos rfl] at q
        split at q
        · cases q; exact .inl ⟨rfl, (h.2 rfl n rfl).1⟩
        · cases q
      · rw [if_neg hij] at q
        exact .inr ⟨fun z => hij z.symm, q, (hE.own j n hj q).2⟩
    rcases cl j a e with ⟨rfl, h1⟩ | ⟨h1, h2, h3⟩
    · rcases cl k' b f with ⟨rfl, _⟩ | ⟨_, _, h3⟩
      · rfl
      · omega
    · rcases cl k' b f with ⟨rfl, _⟩ | ⟨_, h4, _⟩
      · omega
      · exact hE.dis j k' n a b h2 h4
  · rw [List.getElem?_set] at z
    by_cases hij : i = j
    · subst hij
      rw [if_pos rfl] at z
      split at z
      · cases z
        have := (h.2 rfl n rfl).1
        omega
      · cases z
    · rw [if_neg hij] at z; exact z
theorem mem_sub {a b : List Nat} {tc : List Nat} (h : ∀ i ∈ a ++ b, i ∈ tc) : (∀ i ∈ a, i ∈ tc) ∧ ∀ i ∈ b, i ∈ tc := ⟨fun i hi => h i (List.mem_append.mpr (.inl hi)), fun i hi => h i (List.mem_append.mpr (.inr hi))⟩
/-- what is given back -/
theorem ret_val {e : E} (hC : CtxOk C C') (h : okB mt e = true) (hE : ER S mt Y env envD) : Sim S (fun S' v d => CR S' Y v d) (vE C e env) (evE C' e envD) := by
  rcases okB_or h with ⟨i, rfl⟩ | h
  · rw [vE, evE]
    cases q : env[i]? with
    | none => trivial
    | some o =>
      cases o with
      | none => trivial
      | some v =>
        obtain ⟨d, a, b, c⟩ := hE.val i v q
        rw [a]
        refine sim_ret ?_
        by_cases hi : i ∈ mt
        · cases v with
          | lst vs =>
            obtain ⟨n, ds, rfl, e2, e3⟩ := b
            exact cr_lst.mpr ⟨n, ds, rfl, (hE.own i n hi a).1, e2, e3.go (fun _ _ _ q => q) fun _ _ z => .inl z⟩
          | dct ks vs =>
            obtain ⟨n, ds, rfl, e2, e0, e3⟩ := b
            exact cr_dct.mpr ⟨n, ds, rfl, (hE.own i n hi a).1, e2, e0, e3.go (fun _ _ _ q => q) fun _ _ z => .inl z⟩
          | _ => exact CR.go (X := XO mt Y envD) (fun _ _ _ q => q) (fun _ _ z => Or.inl z) (show CR S _ _ d from b)
        · exact (c hi).go (fun _ _ _ q => q) fun _ _ z => Or.inl z
  · exact sim_mono (vE_ok hC e h hE) fun _ _ _ _ q => q.1.go (fun _ _ _ q => q) fun _ _ z => Or.inl z
theorem src_ok (hC : CtxOk C C') {es : Es} (h : srcOk mt tc es = true) (hE : ER S mt Y env envD) :
    Sim S (fun S' vs ds => CBs S' (XO mt Y envD) vs ds ∧ ∀ n, ds = [.loc n] → (¬ XO mt Y envD n ∨ ∃ i, i ∈ mt ∧ i ∉ tc ∧ envD[i]? = some (some (.loc n)))) (vEs C es env) (evEs C' es envD) := by
  have other : okEs mt es = true → Sim S (fun S' vs ds => CBs S' (XO mt Y envD) vs ds ∧ ∀ n, ds = [.loc n] → (¬ XO mt Y envD n ∨ ∃ i, i ∈ mt ∧ i ∉ tc ∧ envD[i]? = some (some (.loc n)))) (vEs C es env) (evEs C' es envD) := fun h =>
    sim_mono (vEs_ok hC es h hE) fun S' vs ds k q => ⟨q.b, fun n e => by
      subst e
      match vs, q with
      | [], q => exact nomatch q.nilE
      | v :: r, q =>
        obtain ⟨d, r', e, c, _⟩ := q.consE
        cases e
        cases v with
        | lst us => obtain ⟨m, es, e, g, _⟩ := cr_lst.mp c; cases e; exact .inl g
        | tup vs => obtain ⟨ds, e, _⟩ := cr_tup.mp c; cases e
        | non => cases cr_non.mp c
        | bl _ => cases cr_bl.mp c
        | int _ => cases cr_int.mp c
        | str _ => cases cr_str.mp c
        | loc _ => exact (cr_loc c).elim
        | dct _ _ => obtain ⟨m, es, e, g, _⟩ := cr_dct.mp c; cases e; exact .inl g⟩
  match es, h, other with
  | .cons (.v i) .nil, h, other =>
    by_cases hi : i ∈ mt
    · have hb : okBs mt (.cons (.v i) .nil) = true := rfl
      have ht : i ∉ tc := by
        simp only [srcOk, Bool.or_eq_true] at h
        rcases h with h | h
        · exact (no_in h hi).elim
        · simpa using h
      rw [vEs, evEs, vEs, evEs]
      rw [vE, evE]
      cases q : env[i]? with
      | none => trivial
      | some o =>
        cases o with
        | none => trivial
        | some v =>
          obtain ⟨d, a, b, c⟩ := hE.val i v q
          rw [a]
          refine sim_ret ⟨⟨d, [], rfl, b, rfl⟩, fun n e => ?_⟩
          cases e
          exact .inr ⟨i, hi, ht, a⟩
    · exact other (by simp [okEs, okE, hi])
  | .nil, h, other => exact other h
  | .cons (.c _) r, h, other => exact other (by simpa only [srcOk] using h)
  | .cons (.v i) (.cons _ _), h, other => exact other (by simpa only [srcOk] using h)
  | .cons (.g _) r, h, other => exact other (by simpa only [srcOk] using h)
  | .cons (.bin _ _ _) r, h, other => exact other (by simpa only [srcOk] using h)
  | .cons (.neg _) r, h, other => exact other (by simpa only [srcOk] using h)
  | .cons (.cmp _ _ _) r, h, other => exact other (by simpa only [srcOk] using h)
  | .cons (.cmp3 _ _ _ _ _) r, h, other => exact other (by simpa only [srcOk] using h)
  | .cons (.tr _) r, h, other => exact other (by simpa only [srcOk] using h)
  | .cons (.not _) r, h, other => exact other (by simpa only [srcOk] using h)
  | .cons (.and _ _) r, h, other => exact other (by simpa only [srcOk] using h)
  | .cons (.or _ _) r, h, other => exact other (by simpa only [srcOk] using h)
  | .cons (.vand _ _) r, h, other => exact other (by simpa only [srcOk] using h)
  | .cons (.vor _ _) r, h, other => exact other (by simpa only [srcOk] using h)
  | .cons (.ite _ _ _) r, h, other => exact other (by simpa only [srcOk] using h)
  | .cons (.tup _) r, h, other => exact other (by simpa only [srcOk] using h)
  | .cons (.lst _) r, h, other => exact other (by simpa only [srcOk] using h)
  | .cons (.idx _ _) r, h, other => exact other (by simpa only [srcOk] using h)
  | .cons (.slc0 _) r, h, other => exact other (by simpa only [srcOk] using h)
  | .cons (.slcL _ _) r, h, other => exact other (by simpa only [srcOk] using h)
  | .cons (.slcH _ _) r, h, other => exact other (by simpa only [srcOk] using h)
  | .cons (.slcB _ _ _) r, h, other => exact other (by simpa only [srcOk] using h)
  | .cons (.call _ _) r, h, other => exact other (by simpa only [srcOk] using h)
  | .cons (.bi _ _) r, h, other => exact other (by simpa only [srcOk] using h)
  | .cons (.meth _ _ _) r, h, other => exact other (by simpa only [srcOk] using h)
  | .cons (.comp _ _ _ _ _ _) r, h, other => exact other (by simpa only [srcOk] using h)
  | .cons .dnew r, h, other => exact other (by simpa only [srcOk] using h)
  | .cons (.dnew1 _ _) r, h, other => exact other (by simpa only [srcOk] using h)
  | .cons (.dcomp _ _ _ _ _ _ _) r, h, other => exact other (by simpa only [srcOk] using h)
end
end Mn
/-! Mn by value: statements and defs, the theorems. -/
namespace Mn
open PySem L2
section
variable {C : CV} {C' : Ctx} {mt tc tc' : List Nat} {Y : Nat → Prop} {S S0 S1 S' : Store} {env envD e0 e1 e2 : Nv} {X : Nat → Prop}
theorem fm_set {i : Nat} {x : Option D} (hi : i ∉ mt) (ht : i ∈ tc) : Fm S S mt tc envD (envD.set i x) :=
  ⟨Nat.le_refl _, fun _ _ _ q => q, fun j n hj _ z => by rw [List.getElem?_set_ne (ne_mem hi hj)] at z; exact z, fun j hj => List.getElem?_set_ne fun (z : i = j) => hj (z ▸ ht)⟩
theorem zs_pure {α : Type} {a : α} {r : Rv (Flow × Nv)} {g : α → M (Flow × Nv)} (h : SS mt Y tc S0 e0 S r (g a)) : SS mt Y tc S0 e0 S r ((M.ret a).bind g) := by
  cases r with
  | bad => trivial
  | exc x => show wpx _ _ _ _; rw [wpx_bind, wpx_ret]; exact h
  | ok x => show wpx _ _ _ _; rw [wpx_bind, wpx_ret]; exact h
/-- the statements that are no changes -/
theorem vS_set (hC : CtxOk C C') {p : Pat} {e : E} (h : (okE mt e && (noP mt p || nmF p e)) = true) (ht : ∀ i ∈ tcP p, i ∈ tc) (hE : ER S mt Y env envD) :
    SS mt Y tc S envD S ((vE C e env).bind fun d => (vP p d env).bind fun env' => .ok (.nx, env')) (M.bind (evE C' e envD) fun d => M.bind (evP C' p d envD) fun env' => M.ret (.nx, env')) := by
  rw [Bool.and_eq_true, Bool.or_eq_true] at h
  by_cases hp : noP mt p = true
  · refine zs_e (vE_ok hC e h.1 hE) .refl fun v d S1 k1 f1 q1 => ?_
    refine zs_e (vP_ok p hp q1.1 (hE.kp k1)) f1 fun env1 envD1 S2 k2 f2 po => ?_
    have f := f1.trans (po.fm.mono ht)
    obtain ⟨rfl, E2, _⟩ := po
    exact zs_nx f E2
  · have h2 := h.2.resolve_left hp
    cases p with
    | nm i =>
      have hi : i ∈ mt := by
        simp only [noP, tcP, List.all_cons, List.all_nil, Bool.and_true] at hp
        simpa using hp
      have hf : frsh e = true := h2
      have a := vE_ok (S := S) hC e h.1 hE
      rw [hf] at a
      refine zs_e a .refl fun v d S1 k1 f1 q1 => ?_
      rw [vP, evP, rv_ok]
      obtain ⟨E2, f2⟩ := own_new hi hE k1 q1
      exact zs_pure (zs_nx (f2.mono ht) E2)
    | tup _ => cases h2
    | sub _ _ => cases h2
    | fld _ _ _ => cases h2
theorem scal_one {v d : D} (h : CR S X v d) (hs : scal v = true) : v = d := by
  cases v with
  | non => exact (cr_non.mp h).symm
  | bl b => exact (cr_bl.mp h).symm
  | int i => exact (cr_int.mp h).symm
  | str x => exact (cr_str.mp h).symm
  | _ => cases hs
theorem scal_eq : ∀ {vs ds : List D}, CRs S X vs ds → vs.all scal = true → vs = ds
  | [], ds, h, _ => h.nilE.symm
  | v :: vs, ds, h, hs => by
    rw [List.all_cons, Bool.and_eq_true] at hs
    obtain ⟨d, r, rfl, h1, h2⟩ := h.consE
    rw [scal_one h1 hs.1, scal_eq h2 hs.2]
mutual
theorem vS_ok (hC : CtxOk C C') : ∀ (s : Sm) {tc : List Nat} {S : Store} {env envD : Nv}, okS mt s = true → (∀ i ∈ tcS s, i ∈ tc) → ER S mt Y env envD → SS mt Y tc S envD S (vS C s env) (evS C' s envD)
  | .expr e, tc, S, env, envD, h, ht, hE => by
    rw [vS, evS]
    rw [okS] at h
    rw [tcS] at ht
    rcases kind_expr' (e := e) with ⟨b, i, es, hk⟩ | hk
    · obtain ⟨rfl, hb⟩ := kind_expr hk
      simp only [hk] at h ht ⊢
      exact zs_mth hC hb h (ht i (by simp)) hE fun r env' d S' f E' c => zs_nx f E'
    · simp only [hk] at h ⊢
      exact zs_e (vB_of h hE fun z => vE_ok hC e z hE) .refl fun v d S1 k1 f1 q1 => zs_nx f1 (hE.kp k1)
  | .set p e, tc, S, env, envD, h, ht, hE => by
    rw [vS, evS]
    rw [okS] at h
    rw [tcS] at ht
    rcases kind_set (p := p) (e := e) with ⟨j, b, i, es, rfl, rfl, hb, hk⟩ | ⟨i, k, rfl, hk⟩ | hk
    · simp only [hk] at h ht ⊢
      rw [Bool.and_eq_true] at h
      have hj := no_in h.2
      refine zs_mth hC hb h.1 (ht i (by simp)) hE fun r env' d S' f E' c => ?_
      rw [evP]
      exact zs_pure (zs_nx (f.trans (fm_set hj (ht j (by simp)))) (E'.set hj c))
    · simp only [hk] at h ht ⊢
      rw [Bool.and_eq_true, Bool.and_eq_true] at h
      obtain ⟨⟨h1, h2⟩, h3⟩ := h
      have hi : i ∈ mt := by simpa using h1
      refine zs_e (vE_ok hC e h3 hE) .refl fun v d S1 k1 f1 q1 => ?_
      have E1 := hE.kp k1
      cases q : cellV env i with
      | bad => trivial
      | exc x => unfold cellV at q; split at q <;> cases q
      | ok c =>
        obtain ⟨n, g1, g4, gg⟩ := cellV_ok E1 q
        rw [rv_ok, evP]
        have ev : evE C' (.v i) envD = M.ret (.loc n) := by rw [evE, g1]
        rw [ev]
        have pre : ∀ {r : Rv (Flow × Nv)} {G : D → M Nv} {F : Nv → M (Flow × Nv)}, SS mt Y tc S envD S1 r (M.bind (G (.loc n)) F) → SS mt Y tc S envD S1 r (M.bind (M.bind (M.ret (.loc n)) G) F) := by
          intro r G F h
          cases r with
          | bad => trivial
          | exc x => show wpx _ _ _ _; rw [wpx_bind, wpx_bind, wpx_ret]; exact wpx_bind.mp h
          | ok x => show wpx _ _ _ _; rw [wpx_bind, wpx_bind, wpx_ret]; exact wpx_bind.mp h
        refine pre ?_
        have assoc : ∀ {α β γ : Type} {m : M α} {f : α → M β} {g : β → M γ}, M.bind (M.bind m f) g = M.bind m fun a => M.bind (f a) g := by
          intro α β γ m f g
          funext S
          unfold M.bind
          cases m S <;> rfl
        rw [assoc]
        refine zs_e (sim_nx (vB_of h2 E1 fun z => vE_ok hC k z E1)) f1 fun y z S2 k2 f2 q2 => ?_
        rw [rv_ok]
        have run : ∀ (c0 c1 : Cell) (w : D), S2[n]? = some c0 → (∀ (P : Cell → Store → Prop) E, wpx (putC c0 z d) P E S2 ↔ P c1 S2) → ER (S2.set n c1) mt Y (env.set i (some w)) envD →
            SS mt Y tc S envD S2 (.ok (.nx, env.set i (some w))) (M.bind ((fun x y => match x, y with
              | .loc n, y => M.bind (getC n) fun c => M.bind (putC c y d) fun c' => M.bind (wrC n c') fun _ => M.ret envD
              | _, _ => M.bad) (D.loc n) z) fun env' => M.ret (.nx, env')) := by
          intro c0 c1 w hc0 hput hE2
          show wpx (M.bind (M.bind (getC n) fun c => M.bind (putC c z d) fun c' => M.bind (wrC n c') fun _ => M.ret envD) fun env' => M.ret (Flow.nx, env')) _ _ _
          rw [wpx_bind, wpx_bind, x_getC hc0, wpx_bind, hput, wpx_bind, x_wrC, wpx_ret, wpx_ret]
          exact ⟨f2.trans ((fm_mut hi g1).mono (by intro a ha; exact ht a ha)), hE2⟩
        rcases gg with ⟨xs, ds, rfl, g2, g3⟩ | ⟨ks, vs, kvs, rfl, g2, g0, g3⟩
        · cases y with
          | int j =>
            cases cb_int.mp q2
            show SS mt Y tc S envD S2 (((optV (ixN xs.length j)).bind fun j => .ok (.lst (xs.set j v))).bind fun c' => .ok (.nx, env.set i (some c'))) _
            cases qi : ixN xs.length j with
            | none => trivial
            | some j' =>
              have g3' := g3.kp k2
              exact run _ (.lst (ds.set j' d)) (.lst (xs.set j' v)) (k2.keep _ _ g2) (fun P E => by rw [pc_l, ← g3.length, qi, wpx_bind, wpx_opt_some, wpx_ret]) (own_mut hi (E1.kp k2) g1 g4 (g3'.set j' (q1.1.kp k2)))
          | _ => trivial
        · have hv : putV (.dct ks vs) y v = (optV (dSet (ks.zip vs) y v)).bind fun kvs => .ok (mkD kvs) := by cases y <;> rfl
          rw [hv]
          cases hds : dSet (ks.zip vs) y v with
          | none => trivial
          | some r =>
            have K := kr_zip g0 g3
            obtain ⟨r', e1, e2⟩ := dset_b (S := S2) (k := .none) ⟨K.1, K.2.kp k2⟩ q2 (q1.1.kp k2) hds
            exact run _ (.dct r') (mkD r) (k2.keep _ _ g2) (fun P E => by rw [pc_d, wpx_bind, e1, wpx_opt_some, wpx_ret]) (own_mutD hi (E1.kp k2) g1 g4 e2)
    · simp only [hk] at h ht ⊢
      exact vS_set hC h ht hE
  | .par i j a b, tc, S, env, envD, h, ht, hE => by
    rw [okS, Bool.and_eq_true, Bool.and_eq_true, Bool.and_eq_true] at h
    rw [tcS] at ht
    rw [vS, evS]
    obtain ⟨⟨⟨h1, h2⟩, h3⟩, h4⟩ := h
    have hi := no_in h3
    have hj := no_in h4
    refine zs_e (vE_ok hC a h1 hE) .refl fun v d S1 k1 f1 q1 => ?_
    refine zs_e (vE_ok hC b h2 (hE.kp k1)) f1 fun w e S2 k2 f2 q2 => ?_
    have E2 := ((hE.kp k1).kp k2).set hi (q1.1.kp k2)
    have c2 : CR S2 (XO mt Y (envD.set i (some d))) w e := by rw [XO.set hi]; exact q2.1
    exact zs_nx ((f2.trans (fm_set hi (ht i (by simp)))).trans (fm_set hj (ht j (by simp)))) (E2.set hj c2)
  | .aug i o e, tc, S, env, envD, h, ht, hE => by
    rw [okS, Bool.and_eq_true] at h
    rw [tcS] at ht
    have hi := no_in h.2
    rw [vS, evS]
    cases q : env[i]? with
    | none => trivial
    | some x =>
      cases x with
      | none => trivial
      | some x =>
        obtain ⟨d, a, c, _⟩ := hE.val i x q
        rw [a]
        refine zs_e (vB_of h.1 hE fun z => vE_ok hC e z hE) .refl fun v y S1 k1 f1 q1 => ?_
        refine zs_e (aug_ok (b := false) (c.kp k1) q1) f1 fun w z S2 k2 f2 q2 => ?_
        exact zs_nx (f2.trans (fm_set hi (ht i (by simp)))) (((hE.kp k1).kp k2).set hi q2.1)
  | .ret e, tc, S, env, envD, h, ht, hE => by
    rw [okS] at h
    rw [vS, evS]
    exact zs_e (ret_val hC h hE) .refl fun v d S1 k1 f1 q1 => zs_ret ⟨f1, q1⟩
  | .ife c a b, tc, S, env, envD, h, ht, hE => by
    rw [okS, Bool.and_eq_true, Bool.and_eq_true] at h
    rw [tcS] at ht
    rw [vS, evS]
    refine zs_e (vB_of h.1.1 hE fun z => vE_ok hC c z hE) .refl fun v d S1 k1 f1 q1 => ?_
    refine zs_e (asB_ok q1) f1 fun i j S2 k2 f2 q2 => ?_
    subst q2
    have E2 := (hE.kp k1).kp k2
    cases i with
    | true => exact zs_base f2 (vSs_ok hC a h.1.2 (mem_sub ht).1 E2)
    | false => exact zs_base f2 (vSs_ok hC b h.2 (mem_sub ht).2 E2)
  | .whl c b, tc, S, env, envD, h, ht, hE => by
    rw [okS, Bool.and_eq_true] at h
    rw [tcS] at ht
    rw [vS, evS]
    exact whileV_ok (fun env envD S hE => vB_of h.1 hE fun z => vE_ok hC c z hE) (fun env envD S hE => vSs_ok hC b h.2 ht hE) FUEL env envD S .refl hE
  | .fr p k es b, tc, S, env, envD, h, ht, hE => by
    rw [okS, Bool.and_eq_true, Bool.and_eq_true] at h
    rw [tcS] at ht
    rw [vS, evS]
    obtain ⟨⟨h1, h2⟩, h3⟩ := h
    refine zs_e (src_ok hC h1 hE) .refl fun xs ds S1 k1 f1 ⟨q1, s1⟩ => ?_
    refine zs_e (items_ok q1) f1 fun items J S2 k2 f2 ⟨es', c2, it2, l2⟩ => ?_
    unfold lenOk
    by_cases hlen : items.length ≤ 2000000000
    rotate_left
    · rw [decide_eq_false hlen]; trivial
    rw [decide_eq_true hlen, gv_true, rv_ok]
    have E2 := (hE.kp k1).kp k2
    have h := forV_ok (C' := C') (S0 := S) (e0 := envD) (Y := Y) (p := p) (b := vSs C b) (bD := evSs C' b) (tb := tcSs b) (tc := tc) h2 ht (fun env envD S hE => vSs_ok hC b h3 (fun i hi => hi) hE) es'.length 0 FUEL env envD S2 rfl (Nat.zero_le _) (by rw [← c2.length]; unfold FUEL; omega) f2 E2 c2 it2 (fun n hn => ⟨(l2 n hn).2, s1 n (l2 n hn).1⟩)
    rw [List.drop_zero] at h
    exact h
  | .brk, tc, S, env, envD, h, ht, hE => zs_ret ⟨.refl, hE⟩
  | .cnt, tc, S, env, envD, h, ht, hE => zs_ret ⟨.refl, hE⟩
  | .pass, tc, S, env, envD, h, ht, hE => zs_ret ⟨.refl, hE⟩
  | .bad, tc, S, env, envD, h, ht, hE => trivial
  | .afld _ _ _ _ _, tc, S, env, envD, h, ht, hE => trivial
  | .tri _ _, tc, S, env, envD, h, ht, hE => by rw [okS] at h; cases h
  | .rai c fs es, tc, S, env, envD, h, ht, hE => by
    rw [okS] at h
    rw [vS, evS]
    refine zs_e (vEs_ok hC es h hE) .refl fun xs ds S1 k1 f1 q1 => ?_
    cases hg : (decide (xs.length = fs.length) && xs.all scal) with
    | false => trivial
    | true =>
      have hs := hg
      rw [Bool.and_eq_true] at hs
      have e := scal_eq q1 hs.2
      subst e
      rw [gv_true, rv_ok]
      show wpx (M.bind (guard (decide (xs.length = fs.length) && xs.all scal)) fun _ => raisM ⟨c, fs.zip xs⟩) (fun _ _ => False) (fun x' S' => x' = ⟨c, fs.zip xs⟩ ∧ ∃ e', Fm S S' mt tc envD e') S1
      rw [wpx_bind, wpx_guard, wpx_raisM]
      exact ⟨hg, rfl, envD, f1⟩
theorem vSs_ok (hC : CtxOk C C') : ∀ (s : Sms) {tc : List Nat} {S : Store} {env envD : Nv}, okSs mt s = true → (∀ i ∈ tcSs s, i ∈ tc) → ER S mt Y env envD → SS mt Y tc S envD S (vSs C s env) (evSs C' s envD)
  | .nil, tc, S, env, envD, h, ht, hE => by rw [vSs, evSs]; exact zs_nx .refl hE
  | .cons s r, tc, S, env, envD, h, ht, hE => by
    rw [okSs, Bool.and_eq_true] at h
    rw [tcSs] at ht
    rw [vSs, evSs]
    refine zs_bind (vS_ok hC s h.1 (mem_sub ht).1 hE) .refl fun q q' S1 f1 h1 => ?_
    obtain ⟨fl, e3⟩ := q
    obtain ⟨fl', e3'⟩ := q'
    obtain ⟨g1, g2⟩ := h1
    cases fl <;> cases fl' <;> first | exact g2.elim | skip
    · exact zs_base f1 (vSs_ok hC r h.2 (mem_sub ht).2 g2)
    · exact zs_ret ⟨f1, g2⟩
    · exact zs_ret ⟨f1, g2⟩
    · exact zs_ret ⟨f1, g2⟩
end
end
/-! ### defs -/
section
variable {defs : List (Str × Def)} {glob : Str → Option D}
theorem start_er {d : Def} {vs ds : List D} {S : Store} {X : Nat → Prop} (hX : ∀ n, X n → n < S.length) (h : CRs S X vs ds) (hm : ∀ i ∈ mtSs d.body, vs.length ≤ i) : ER S (mtSs d.body) X (startD d.slots vs) (startD d.slots ds) := by
  have get : ∀ {us : List D} {i : Nat} {v : D}, (startD d.slots us)[i]? = some (some v) ↔ us[i]? = some v := by
    intro us i v
    unfold startD
    rw [List.getElem?_append, List.length_map]
    split
    · rw [List.getElem?_map]
      cases us[i]? <;> simp
    · rename_i hi
      rw [List.getElem?_replicate]
      constructor
      · intro z; split at z <;> cases z
      · intro z; have := (List.getElem?_eq_some_iff.mp z).1; omega
  have no : ∀ i n, i ∈ mtSs d.body → (startD d.slots ds)[i]? = some (some (.loc n)) → False := fun i n hi z => by
    have := (List.getElem?_eq_some_iff.mp (get.mp z)).1
    have := hm i hi
    rw [h.length] at this
    omega
  have xo : ∀ n, XO (mtSs d.body) X (startD d.slots ds) n → X n := fun n z => z.elim id fun ⟨i, a, b⟩ => (no i n a b).elim
  refine ⟨?_, fun i v e => ?_, fun i n a b => (no i n a b).elim, fun i j n a b e f => (no i n a e).elim, hX⟩
  · unfold startD; simp [h.length]
  · obtain ⟨e2, a, b⟩ := h.at (get.mp e)
    have b' := b.go (S' := S) (X' := XO (mtSs d.body) X (startD d.slots ds)) (fun _ _ _ q => q) fun n _ z => xo n z
    exact ⟨e2, get.mpr a, b'.b, fun _ => b'⟩
theorem ctx_ok (hg : ∀ x d, glob x = some d → plain d = true) : ∀ n, CtxOk ⟨glob, callV defs glob n⟩ ⟨glob, callN defs glob n⟩ := by
  intro n
  induction n with
  | zero => exact ⟨rfl, hg, fun f vs ds S X _ _ => trivial⟩
  | succ n ih =>
    refine ⟨rfl, hg, fun f vs ds S X hX h => ?_⟩
    show Sim S _ (callV defs glob (n + 1) f vs) (callN defs glob (n + 1) f ds)
    unfold callV callN
    cases hd : defs.lookup f with
    | none => trivial
    | some d =>
      simp only []
      unfold callD
      by_cases hk : okD d = true ∧ vs.length = d.arity
      · obtain ⟨h1, h2⟩ := hk
        have e1 : (okD d && vs.length == d.arity) = true := by rw [h1, h2]; simp
        rw [e1, gv_true, rv_ok]
        unfold okD at h1
        rw [Bool.and_eq_true] at h1
        have hm : ∀ i ∈ mtSs d.body, vs.length ≤ i := fun i hi => by
          have := List.all_eq_true.mp h1.2 i hi
          rw [h2]; simpa using this
        refine sim_pre (b := ()) (fun P E => by rw [wpx_guard]; exact ⟨fun z => z.2, fun z => ⟨by rw [← h.length, h2]; simp, z⟩⟩) ?_
        have E0 := start_er hX h hm
        have hs := vSs_ok ih d.body h1.1 (fun i hi => hi) E0
        have no : ∀ i n, i ∈ mtSs d.body → (startD d.slots ds)[i]? ≠ some (some (.loc n)) := fun i n hi z => by
          unfold startD at z
          have := hm i hi
          rw [List.getElem?_append_right (by rw [List.length_map, ← h.length]; exact this), List.getElem?_replicate] at z
          split at z <;> cases z
        have kp : ∀ {S' : Store} {e' : Nv}, Fm S S' (mtSs d.body) (tcSs d.body) (startD d.slots ds) e' → Kp S S' := fun f => ⟨f.len, fun n c q => f.keep n c (fun i hi _ => no i n hi) q⟩
        cases r : vSs ⟨glob, callV defs glob n⟩ d.body (startD d.slots vs) with
        | bad => trivial
        | exc x =>
          rw [r] at hs
          show wpx _ _ _ _
          rw [wpx_bind]
          exact wpx_mono (show wpx _ _ _ _ from hs) (fun _ _ z => z.elim) fun _ _ ⟨a, e', f⟩ => ⟨kp f, a⟩
        | ok q =>
          rw [r] at hs
          have hs : wpx (evSs ⟨glob, callN defs glob n⟩ d.body (startD d.slots ds)) (FS (mtSs d.body) X (tcSs d.body) S (startD d.slots ds) q) E0x S := hs
          obtain ⟨fl, e⟩ := q
          rw [rv_ok]
          have fin : ∀ {v : D}, (∀ q' S', FS (mtSs d.body) X (tcSs d.body) S (startD d.slots ds) (fl, e) q' S' → wpx (retOf q') (fun d S'' => Kp S S'' ∧ CR S'' X v d) E0x S') → Sim S (fun S' v d => CR S' X v d) (.ok v) (M.bind (evSs ⟨glob, callN defs glob n⟩ d.body (startD d.slots ds)) retOf) := by
            intro v k
            show wpx _ _ _ _
            rw [wpx_bind]
            exact wpx_of_wp hs k
          cases fl with
          | nx =>
            refine fin fun q' S' ⟨f, z⟩ => ?_
            obtain ⟨fl', e'⟩ := q'
            cases fl' <;> first | exact z.elim | skip
            exact ⟨kp f, cr_non.mpr rfl⟩
          | rt v =>
            refine fin fun q' S' ⟨f, z⟩ => ?_
            obtain ⟨fl', e'⟩ := q'
            cases fl' <;> first | exact z.elim | skip
            exact ⟨kp f, z⟩
          | bk => trivial
          | ct => trivial
      · have e1 : (okD d && vs.length == d.arity) = false := by
          cases a : okD d with
          | false => rfl
          | true =>
            cases b : vs.length == d.arity with
            | false => rfl
            | true => exact (hk ⟨a, by simpa using b⟩).elim
        rw [e1]
        trivial
/-- a call by value, of values, gives a value: it is what the store's call gives -/
theorem of_callV {n : Nat} {f : Str} {ds : List D} {v : D} {S : Store} (hg : ∀ x d, glob x = some d → plain d = true) (h : callV defs glob n f ds = .ok v) (hd : plains ds = true) (hv : plain v = true) : wp (callN defs glob n f ds) (fun d S' => d = v ∧ Kp S S') S := by
  have := (ctx_ok (defs := defs) hg n).call f ds ds S (fun _ => False) (fun _ z => z.elim) ((crs_plain hd).mpr rfl)
  rw [show (CV.call ⟨glob, callV defs glob n⟩ f ds) = .ok v from h] at this
  exact wp_mono (show wpx _ _ _ _ from this) fun d S' ⟨k, c⟩ => ⟨(cr_plain hv).mp c, k⟩
/-- a call by value that raises -/
theorem of_callVx {n : Nat} {f : Str} {ds : List D} {x : Exn} {S : Store} (hg : ∀ x d, glob x = some d → plain d = true) (h : callV defs glob n f ds = .exc x) (hd : plains ds = true) : wpx (callN defs glob n f ds) (fun _ _ => False) (fun y S' => Kp S S' ∧ y = x) S := by
  have := (ctx_ok (defs := defs) hg n).call f ds ds S (fun _ => False) (fun _ z => z.elim) ((crs_plain hd).mpr rfl)
  rw [show (CV.call ⟨glob, callV defs glob n⟩ f ds) = .exc x from h] at this
  exact this
end
end Mn
/-! Mn by value: rules to run with. -/
namespace Mn
open PySem L2 PyProof.Rows PySem.StrLaws
section
variable {i j : Int} {x y : Str} {xs ys : List D} {n m : Nat} {d e : D} {b : Bool}
theorem y_addI : binV .add (.int i) (.int j) = .ok (.int (i + j)) := Eq.trans rfl rfl
theorem y_addS : binV .add (.str x) (.str y) = (guardV (ok2 (x.length + y.length))).bind fun _ => .ok (.str (x ++ y)) := Eq.trans rfl rfl
theorem y_addT : binV .add (.tup xs) (.tup ys) = (guardV (ok2 (xs ++ ys).length)).bind fun _ => .ok (.tup (xs ++ ys)) := Eq.trans rfl rfl
theorem y_addL : binV .add (.lst xs) (.lst ys) = (guardV (ok2 (xs ++ ys).length)).bind fun _ => .ok (.lst (xs ++ ys)) := Eq.trans rfl rfl
theorem y_sub : binV .sub (.int i) (.int j) = .ok (.int (i - j)) := Eq.trans rfl rfl
theorem y_mulT : binV .mul (.tup xs) (.int j) = (guardV (!xs.isEmpty && decide (0 ≤ j) && decide (j ≤ 1000) && decide (xs.length ≤ 1000))).bind fun _ => .ok (.tup (rep xs j.toNat)) := Eq.trans rfl rfl
theorem y_mulL : binV .mul (.lst xs) (.int j) = (guardV (decide (-(2 ^ 63) ≤ j) && decide (j < 2 ^ 63) && ok2 (xs.length * j.toNat))).bind fun _ => .ok (.lst (rep xs j.toNat)) := Eq.trans rfl rfl
theorem y_mul : binV .mul (.int i) (.int j) = (guardV (cMul i j)).bind fun _ => .ok (.int (i * j)) := Eq.trans rfl rfl
theorem y_eqStr : eqV (.str x) (.str y) = .ok (x == y) := by unfold eqV; simp [pyL, py, fitEq, isStrD, PyData.eqv]
theorem y_eqInt : eqV (.int i) (.int j) = .ok (i == j) := by unfold eqV; simp [pyL, py, fitEq, isStrD, PyData.eqv, PyData.canLay0, PyData.depth]
theorem y_eqBl {c : Bool} : eqV (.bl b) (.bl c) = .ok (b == c) := by unfold eqV; simp [pyL, py, fitEq, isStrD, PyData.eqv, PyData.canLay0, PyData.depth]
theorem y_eq : cmpV .eq d e = eqV d e := Eq.trans rfl rfl
theorem y_ne : cmpV .ne d e = (eqV d e).bind fun b => .ok (!b) := Eq.trans rfl rfl
theorem y_ltI : cmpV .lt (.int i) (.int j) = .ok (decide (i < j)) := Eq.trans rfl rfl
theorem y_lt : cmpV .lt d e = optV (ltD 100 d e) := Eq.trans rfl rfl
theorem y_gt : cmpV .gt (.int i) (.int j) = .ok (decide (j < i)) := Eq.trans rfl rfl
theorem y_le : cmpV .le (.int i) (.int j) = .ok (decide (i ≤ j)) := Eq.trans rfl rfl
theorem y_ge : cmpV .ge (.int i) (.int j) = .ok (decide (j ≤ i)) := Eq.trans rfl rfl
theorem y_inn : cmpV .inn d e = inV d e := Eq.trans rfl rfl
theorem y_nin : cmpV .nin d e = (inV d e).bind fun b => .ok (!b) := Eq.trans rfl rfl
theorem y_isnN : cmpV .isn .non .non = .ok true := Eq.trans rfl rfl
theorem y_isnB : cmpV .isn (.bl b) .non = .ok false := Eq.trans rfl rfl
theorem y_isnI : cmpV .isn (.int i) .non = .ok false := Eq.trans rfl rfl
theorem y_isnS : cmpV .isn (.str x) .non = .ok false := Eq.trans rfl rfl
theorem y_isnT : cmpV .isn (.tup xs) .non = .ok false := Eq.trans rfl rfl
theorem y_isnL : cmpV .isn (.lst xs) .non = .ok false := Eq.trans rfl rfl
theorem y_isnnN : cmpV .isnn .non .non = .ok false := Eq.trans rfl rfl
theorem y_isnnB : cmpV .isnn (.bl b) .non = .ok true := Eq.trans rfl rfl
theorem y_isnnI : cmpV .isnn (.int i) .non = .ok true := Eq.trans rfl rfl
theorem y_isnnS : cmpV .isnn (.str x) .non = .ok true := Eq.trans rfl rfl
theorem y_isnnT : cmpV .isnn (.tup xs) .non = .ok true := Eq.trans rfl rfl
theorem y_isnnL : cmpV .isnn (.lst xs) .non = .ok true := Eq.trans rfl rfl
theorem y_inT : inV d (.tup ys) = optV (inAll d ys) := by cases d <;> rfl
theorem y_inL : inV d (.lst ys) = optV (inAll d ys) := by cases d <;> rfl
theorem y_inS : inV (.str x) (.str y) = .ok (!(Builtin.Str.occurrences y x 0 y.length 1).isEmpty) := Eq.trans rfl rfl
theorem y_idxT : idxV (.tup xs) (.int i) = optV (atI xs i) := Eq.trans rfl rfl
theorem y_idxL : idxV (.lst xs) (.int i) = optV (atI xs i) := Eq.trans rfl rfl
theorem y_idxS : idxV (.str x) (.int i) = (guardV (ok2 x.length)).bind fun _ => optV ((atI x.cps.toList i).map fun c => .str ⟨#[c]⟩) := Eq.trans rfl rfl
theorem zip_md : ∀ (kvs : List (NK × D)), (kvs.map (·.1)).zip (kvs.map (·.2)) = kvs
  | [] => rfl
  | p :: r => by rw [List.map_cons, List.map_cons, List.zip_cons_cons, zip_md r]
theorem y_inD {kvs : List (NK × D)} : inV d (mkD kvs) = optV (dHas kvs d) := by
  have : inV d (mkD kvs) = optV (dHas ((kvs.map (·.1)).zip (kvs.map (·.2))) d) := by cases d <;> rfl
  rw [this, zip_md]
theorem y_idxD {kvs : List (NK × D)} : idxV (mkD kvs) d = optV (dGet kvs d) := by
  have : idxV (mkD kvs) d = optV (dGet ((kvs.map (·.1)).zip (kvs.map (·.2))) d) := by cases d <;> rfl
  rw [this, zip_md]
theorem y_lenD {kvs : List (NK × D)} : biV .len [mkD kvs] = .ok (.int kvs.length) := by
  have : biV .len [mkD kvs] = .ok (.int ((kvs.map (·.1)).zip (kvs.map (·.2))).length) := rfl
  rw [this, zip_md]
theorem y_putD {kvs : List (NK × D)} {y v : D} : putV (mkD kvs) y v = (optV (dSet kvs y v)).bind fun k => .ok (mkD k) := by
  have : putV (mkD kvs) y v = (optV (dSet ((kvs.map (·.1)).zip (kvs.map (·.2))) y v)).bind fun k => .ok (mkD k) := by cases y <;> rfl
  rw [this, zip_md]
theorem y_putL {v : D} : putV (.lst xs) (.int i) v = (optV (ixN xs.length i)).bind fun j => .ok (.lst (xs.set j v)) := Eq.trans rfl rfl
theorem y_isnD {kvs : List (NK × D)} : cmpV .isn (mkD kvs) .non = .ok false := Eq.trans rfl rfl
theorem y_isnnD {kvs : List (NK × D)} : cmpV .isnn (mkD kvs) .non = .ok true := Eq.trans rfl rfl
theorem y_slcT {lo hi : Option Int} : slcV (.tup xs) lo hi = .ok (.tup (cutD xs lo hi)) := Eq.trans rfl rfl
theorem y_slcL {lo hi : Option Int} : slcV (.lst xs) lo hi = .ok (.lst (cutD xs lo hi)) := Eq.trans rfl rfl
theorem y_slcS {lo hi : Option Int} : slcV (.str x) lo hi = (guardV (ok2 x.length)).bind fun _ => .ok (.str (cutS x lo hi)) := Eq.trans rfl rfl
theorem y_lenS : biV .len [.str x] = (guardV (ok2 x.length)).bind fun _ => .ok (.int x.length) := Eq.trans rfl rfl
theorem y_lenT : biV .len [.tup xs] = .ok (.int xs.length) := Eq.trans rfl rfl
theorem y_lenL : biV .len [.lst xs] = .ok (.int xs.length) := Eq.trans rfl rfl
theorem y_int : biV .int [.int i] = .ok (.int i) := Eq.trans rfl rfl
theorem y_intB : biV .int [.bl b] = .ok (.int (if b then 1 else 0)) := Eq.trans rfl rfl
theorem y_abs : biV .abs [.int i] = .ok (.int (if i < 0 then -i else i)) := Eq.trans rfl rfl
theorem y_max2 : biV .max2 [.int i, .int j] = .ok (.int (if j > i then j else i)) := Eq.trans rfl rfl
theorem y_min2 : biV .min2 [.int i, .int j] = .ok (.int (if j < i then j else i)) := Eq.trans rfl rfl
theorem y_max1 : biV .max1 [.lst xs] = (optV (intsD xs)).bind fun is => (guardV (!is.isEmpty)).bind fun _ => .ok (.int (maxI is)) := Eq.trans rfl rfl
theorem y_sum : biV .sum [.lst xs] = (optV (intsD xs)).bind fun is => .ok (.int is.sum) := Eq.trans rfl rfl
theorem y_listT : biV .list [.tup xs] = .ok (.lst xs) := Eq.trans rfl rfl
theorem y_listL : biV .list [.lst xs] = .ok (.lst xs) := Eq.trans rfl rfl
theorem y_tupT : biV .tuple [.tup xs] = .ok (.tup xs) := Eq.trans rfl rfl
theorem y_tupL : biV .tuple [.lst xs] = .ok (.tup xs) := Eq.trans rfl rfl
theorem y_strI : biV .str [.int i] = (guardV (decide (i.natAbs.log2 < 1920))).bind fun _ => .ok (.str (toString i)) := Eq.trans rfl rfl
theorem y_all : biV .all [.lst xs] = (optV (boolsD xs)).bind fun bs => .ok (.bl (bs.all id)) := Eq.trans rfl rfl
theorem y_any : biV .any [.lst xs] = (optV (boolsD xs)).bind fun bs => .ok (.bl (bs.any id)) := Eq.trans rfl rfl
theorem y_split : biV .split [.str x, .str y] = (guardV (!(y.length == 0) && decide (x.length + 2 ≤ sizeLine))).bind fun _ => .ok (.lst ((Txt.split x y).map .str)) := Eq.trans rfl rfl
theorem y_starts : biV .startswith [.str x, .str y] = .ok (.bl (Txt.startswith x y)) := Eq.trans rfl rfl
theorem y_joinL : biV .join [.str x, .lst xs] = (optV (strsD xs)).bind fun ys => (guardV (decide (lenJ x ys ≤ 16777216))).bind fun _ => .ok (.str (Txt.join x ys)) := Eq.trans rfl rfl
theorem y_reprB : biV .repr [.bl b] = .ok (.str (if b then "True" else "False")) := Eq.trans rfl rfl
theorem y_rcS : recvV .split (.str x) = .ok () := Eq.trans rfl rfl
theorem y_rcW : recvV .startswith (.str x) = .ok () := Eq.trans rfl rfl
theorem y_rcJ : recvV .join (.str x) = .ok () := Eq.trans rfl rfl
theorem y_asB : asBV (.bl b) = .ok b := Eq.trans rfl rfl
theorem y_asI : asIV (.int i) = .ok i := Eq.trans rfl rfl
theorem y_trN : truV .non = .ok false := Eq.trans rfl rfl
theorem y_trB : truV (.bl b) = .ok b := Eq.trans rfl rfl
theorem y_trI : truV (.int i) = .ok (i != 0) := Eq.trans rfl rfl
theorem y_trT : truV (.tup xs) = .ok (!xs.isEmpty) := Eq.trans rfl rfl
theorem y_trL : truV (.lst xs) = .ok (!xs.isEmpty) := Eq.trans rfl rfl
theorem y_itT : itemsV .seq [.tup xs] = .ok xs := Eq.trans rfl rfl
theorem y_itL : itemsV .seq [.lst xs] = .ok xs := Eq.trans rfl rfl
theorem y_itS : itemsV .seq [.str x] = .ok (strItems x) := Eq.trans rfl rfl
theorem y_itRL : itemsV .rev [.lst xs] = .ok xs.reverse := Eq.trans rfl rfl
theorem y_itRT : itemsV .rev [.tup xs] = .ok xs.reverse := Eq.trans rfl rfl
theorem y_it1 (h0 : 0 ≤ i) (h1 : i ≤ 1000000000) : itemsV .rng1 [.int i] = .ok (rngD 0 i.toNat) := by
  show (guardV (decide (-(2 ^ 62) ≤ i) && decide (i < 2 ^ 62))).bind _ = _
  have : (decide (-(2 ^ 62) ≤ i) && decide (i < 2 ^ 62)) = true := by simp; omega
  rw [this]; rfl
theorem y_it2 (h0 : 0 ≤ i) (h1 : i ≤ 1000000000) (h2 : 0 ≤ j) (h3 : j ≤ 1000000000) : itemsV .rng2 [.int i, .int j] = .ok (rngD i (j - i).toNat) := by
  show (guardV (decide (-(2 ^ 62) ≤ i) && decide (i < 2 ^ 62) && decide (-(2 ^ 62) ≤ j) && decide (j < 2 ^ 62))).bind _ = _
  have : (decide (-(2 ^ 62) ≤ i) && decide (i < 2 ^ 62) && decide (-(2 ^ 62) ≤ j) && decide (j < 2 ^ 62)) = true := by simp; omega
  rw [this]; rfl
theorem y_len {xs : List D} (h : xs.length ≤ 2000000000) : lenOk xs = .ok () := by unfold lenOk; rw [decide_eq_true h]; rfl
theorem y_ok2 (h : n ≤ 16777216) : guardV (ok2 n) = .ok () := by unfold ok2; rw [decide_eq_true (show n ≤ sizeLine from h)]; rfl
theorem y_lstAt {env : Nv} {i : Nat} (h : env[i]? = some (some (.lst xs))) : lstAt env i = .ok xs := by unfold lstAt; rw [h]
theorem y_app : mutV .append xs [d] = (guardV (decide (xs.length < sizeLine))).bind fun _ => .ok (.non, xs ++ [d]) := Eq.trans rfl rfl
theorem y_extT : mutV .extend xs [.tup ys] = (guardV (ok2 (xs.length + ys.length))).bind fun _ => .ok (.non, xs ++ ys) := Eq.trans rfl rfl
theorem y_ext : mutV .extend xs [.lst ys] = (guardV (ok2 (xs.length + ys.length))).bind fun _ => .ok (.non, xs ++ ys) := Eq.trans rfl rfl
theorem y_lt16 (h : n < 16777216) : guardV (decide (n < sizeLine)) = .ok () := by rw [decide_eq_true (show n < sizeLine from h)]; rfl
theorem inAll_strs {x : Str} {zs : List Str} : inAll (.str x) (zs.map .str) = some (zs.any (· == x)) := by
  have p2 : ∀ l : List Str, pyAll (l.map D.str) = some (l.map PyData.str) := by
    intro l
    induction l with
    | nil => rfl
    | cons a l ih => rw [List.map_cons, pyAll, ih]; rfl
  have e : (zs.map D.str).all flatD = true := List.all_eq_true.mpr fun y hy => by obtain ⟨z, _, rfl⟩ := List.mem_map.mp hy; rfl
  unfold inAll
  rw [p2]
  show (if (flatD (.str x) && (zs.map D.str).all flatD) || _ then some ((zs.map PyData.str).any fun z => PyData.eqv z (.str x)) else none) = _
  rw [e]
  show some _ = some _
  congr 1
  rw [List.any_map]
  clear e p2
  induction zs with
  | nil => rfl
  | cons z zs ih =>
    rw [List.any_cons, List.any_cons, ih]
    congr 1
theorem cA_0 {r : Nv} {xs : List D} : cellV (some (.lst xs) :: r) 0 = .ok (.lst xs) := Eq.trans rfl rfl
theorem cA_1 {a0 : Option D} {r : Nv} {xs : List D} : cellV (a0 :: some (.lst xs) :: r) 1 = .ok (.lst xs) := Eq.trans rfl rfl
theorem cA_2 {a0 a1 : Option D} {r : Nv} {xs : List D} : cellV (a0 :: a1 :: some (.lst xs) :: r) 2 = .ok (.lst xs) := Eq.trans rfl rfl
theorem cA_3 {a0 a1 a2 : Option D} {r : Nv} {xs : List D} : cellV (a0 :: a1 :: a2 :: some (.lst xs) :: r) 3 = .ok (.lst xs) := Eq.trans rfl rfl
theorem cA_4 {a0 a1 a2 a3 : Option D} {r : Nv} {xs : List D} : cellV (a0 :: a1 :: a2 :: a3 :: some (.lst xs) :: r) 4 = .ok (.lst xs) := Eq.trans rfl rfl
theorem cA_5 {a0 a1 a2 a3 a4 : Option D} {r : Nv} {xs : List D} : cellV (a0 :: a1 :: a2 :: a3 :: a4 :: some (.lst xs) :: r) 5 = .ok (.lst xs) := Eq.trans rfl rfl
theorem cA_6 {a0 a1 a2 a3 a4 a5 : Option D} {r : Nv} {xs : List D} : cellV (a0 :: a1 :: a2 :: a3 :: a4 :: a5 :: some (.lst xs) :: r) 6 = .ok (.lst xs) := Eq.trans rfl rfl
theorem cA_7 {a0 a1 a2 a3 a4 a5 a6 : Option D} {r : Nv} {xs : List D} : cellV (a0 :: a1 :: a2 :: a3 :: a4 :: a5 :: a6 :: some (.lst xs) :: r) 7 = .ok (.lst xs) := Eq.trans rfl rfl
theorem cA_8 {a0 a1 a2 a3 a4 a5 a6 a7 : Option D} {r : Nv} {xs : List D} : cellV (a0 :: a1 :: a2 :: a3 :: a4 :: a5 :: a6 :: a7 :: some (.lst xs) :: r) 8 = .ok (.lst xs) := Eq.trans rfl rfl
theorem cD_0 {r : Nv} {kvs : List (NK × D)} : cellV (some (mkD kvs) :: r) 0 = .ok (mkD kvs) := Eq.trans rfl rfl
theorem cD_1 {a0 : Option D} {r : Nv} {kvs : List (NK × D)} : cellV (a0 :: some (mkD kvs) :: r) 1 = .ok (mkD kvs) := Eq.trans rfl rfl
theorem cD_2 {a0 a1 : Option D} {r : Nv} {kvs : List (NK × D)} : cellV (a0 :: a1 :: some (mkD kvs) :: r) 2 = .ok (mkD kvs) := Eq.trans rfl rfl
theorem cD_3 {a0 a1 a2 : Option D} {r : Nv} {kvs : List (NK × D)} : cellV (a0 :: a1 :: a2 :: some (mkD kvs) :: r) 3 = .ok (mkD kvs) := Eq.trans rfl rfl
theorem cD_4 {a0 a1 a2 a3 : Option D} {r : Nv} {kvs : List (NK × D)} : cellV (a0 :: a1 :: a2 :: a3 :: some (mkD kvs) :: r) 4 = .ok (mkD kvs) := Eq.trans rfl rfl
theorem cD_5 {a0 a1 a2 a3 a4 : Option D} {r : Nv} {kvs : List (NK × D)} : cellV (a0 :: a1 :: a2 :: a3 :: a4 :: some (mkD kvs) :: r) 5 = .ok (mkD kvs) := Eq.trans rfl rfl
theorem cD_6 {a0 a1 a2 a3 a4 a5 : Option D} {r : Nv} {kvs : List (NK × D)} : cellV (a0 :: a1 :: a2 :: a3 :: a4 :: a5 :: some (mkD kvs) :: r) 6 = .ok (mkD kvs) := Eq.trans rfl rfl
theorem cD_7 {a0 a1 a2 a3 a4 a5 a6 : Option D} {r : Nv} {kvs : List (NK × D)} : cellV (a0 :: a1 :: a2 :: a3 :: a4 :: a5 :: a6 :: some (mkD kvs) :: r) 7 = .ok (mkD kvs) := Eq.trans rfl rfl
theorem cD_8 {a0 a1 a2 a3 a4 a5 a6 a7 : Option D} {r : Nv} {kvs : List (NK × D)} : cellV (a0 :: a1 :: a2 :: a3 :: a4 :: a5 :: a6 :: a7 :: some (mkD kvs) :: r) 8 = .ok (mkD kvs) := Eq.trans rfl rfl
theorem lA_0 {xx : Unit} {r : Nv} {xs : List D} : lstAt (some (.lst xs) :: r) 0 = .ok xs := Eq.trans rfl rfl
theorem lA_1 {a0 : Option D} {r : Nv} {xs : List D} : lstAt (a0 :: some (.lst xs) :: r) 1 = .ok xs := Eq.trans rfl rfl
theorem lA_2 {a0 a1 : Option D} {r : Nv} {xs : List D} : lstAt (a0 :: a1 :: some (.lst xs) :: r) 2 = .ok xs := Eq.trans rfl rfl
theorem lA_3 {a0 a1 a2 : Option D} {r : Nv} {xs : List D} : lstAt (a0 :: a1 :: a2 :: some (.lst xs) :: r) 3 = .ok xs := Eq.trans rfl rfl
theorem lA_4 {a0 a1 a2 a3 : Option D} {r : Nv} {xs : List D} : lstAt (a0 :: a1 :: a2 :: a3 :: some (.lst xs) :: r) 4 = .ok xs := Eq.trans rfl rfl
theorem lA_5 {a0 a1 a2 a3 a4 : Option D} {r : Nv} {xs : List D} : lstAt (a0 :: a1 :: a2 :: a3 :: a4 :: some (.lst xs) :: r) 5 = .ok xs := Eq.trans rfl rfl
theorem lA_6 {a0 a1 a2 a3 a4 a5 : Option D} {r : Nv} {xs : List D} : lstAt (a0 :: a1 :: a2 :: a3 :: a4 :: a5 :: some (.lst xs) :: r) 6 = .ok xs := Eq.trans rfl rfl
theorem lA_7 {a0 a1 a2 a3 a4 a5 a6 : Option D} {r : Nv} {xs : List D} : lstAt (a0 :: a1 :: a2 :: a3 :: a4 :: a5 :: a6 :: some (.lst xs) :: r) 7 = .ok xs := Eq.trans rfl rfl
theorem lA_8 {a0 a1 a2 a3 a4 a5 a6 a7 : Option D} {r : Nv} {xs : List D} : lstAt (a0 :: a1 :: a2 :: a3 :: a4 :: a5 :: a6 :: a7 :: some (.lst xs) :: r) 8 = .ok xs := Eq.trans rfl rfl
def thenV (C : CV) (r : Sms) (q : Rv (Flow × Nv)) : Rv (Flow × Nv) := q.bind fun q => match q with
  | (.nx, env') => vSs C r env'
  | (f, env') => .ok (f, env')
theorem vs_nil {C : CV} {env : Nv} : vSs C .nil env = .ok (.nx, env) := by rw [vSs]
theorem vs_cons {C : CV} {s : Sm} {r : Sms} {env : Nv} : vSs C (.cons s r) env = thenV C r (vS C s env) := by rw [vSs]; rfl
theorem tv_nx {C : CV} {r : Sms} {env : Nv} : thenV C r (.ok (.nx, env)) = vSs C r env := Eq.trans rfl rfl
theorem tv_rt {C : CV} {r : Sms} {env : Nv} {v : D} : thenV C r (.ok (.rt v, env)) = .ok (.rt v, env) := Eq.trans rfl rfl
theorem tv_bk {C : CV} {r : Sms} {env : Nv} : thenV C r (.ok (.bk, env)) = .ok (.bk, env) := Eq.trans rfl rfl
theorem tv_ct {C : CV} {r : Sms} {env : Nv} : thenV C r (.ok (.ct, env)) = .ok (.ct, env) := Eq.trans rfl rfl
/-- a call by value -/
theorem y_call {defs : List (Str × Def)} {glob : Str → Option D} {n : Nat} {f : Str} {d : Def} {ds : List D} {r : Rv D} (hd : defs.lookup f = some d) (hk : okD d = true) (ha : ds.length = d.arity) (h : (vSs ⟨glob, callV defs glob n⟩ d.body (startD d.slots ds)).bind retV = r) :
    callV defs glob (n + 1) f ds = r := by
  unfold callV
  simp only [hd]
  have : (okD d && ds.length == d.arity) = true := by rw [hk, ha]; simp
  rw [this, gv_true, rv_ok]
  exact h
/-- a comprehension -/
theorem compV_fm {put : D → Nv → Nv} {cond elt : Nv → Rv D} {env : Nv} {p : D → Bool} {f : D → D} : ∀ (items acc : List D), (∀ d ∈ items, cond (put d env) = .ok (.bl (p d))) → (∀ d ∈ items, p d = true → elt (put d env) = .ok (f d)) → acc.length + items.length < 16777216 →
    compV put cond elt env items acc = .ok (acc ++ (items.filter p).map f)
  | [], acc, _, _, _ => by rw [compV]; simp
  | d :: ds, acc, hc, he, hl => by
    rw [compV, hc d (List.mem_cons_self ..), nxV_ok, rv_ok, y_asB, rv_ok]
    simp only [List.length_cons] at hl
    have ih := fun a h => compV_fm ds a (fun e h => hc e (List.mem_cons_of_mem _ h)) (fun e h => he e (List.mem_cons_of_mem _ h)) h
    cases hp : p d with
    | true =>
      simp only []
      rw [he d (List.mem_cons_self ..) hp, nxV_ok, rv_ok, y_lt16 (by omega), rv_ok, ih _ (by simp; omega), List.filter_cons_of_pos hp]
      simp
    | false =>
      simp only []
      rw [ih _ (by omega), List.filter_cons_of_neg (by simp [hp])]
theorem compV_map {put : D → Nv → Nv} {cond elt : Nv → Rv D} {env : Nv} {f : D → D} {items : List D} (hc : ∀ d ∈ items, cond (put d env) = .ok (.bl true)) (he : ∀ d ∈ items, elt (put d env) = .ok (f d)) (hl : items.length < 16777216) : compV put cond elt env items [] = .ok (items.map f) := by
  rw [compV_fm (p := fun _ => true) items [] hc (fun d h _ => he d h) (by simpa using hl), List.filter_eq_self.mpr (fun _ _ => rfl)]
  rfl
theorem bools_map {xs : List D} {p : D → Bool} : boolsD (xs.map fun d => .bl (p d)) = some (xs.map p) := by
  induction xs with
  | nil => rfl
  | cons x xs ih => rw [List.map_cons, boolsD, ih]; rfl
theorem ints_map {α : Type} {xs : List α} {p : α → Int} : intsD (xs.map fun d => .int (p d)) = some (xs.map p) := by
  induction xs with
  | nil => rfl
  | cons x xs ih => rw [List.map_cons, intsD, ih]; rfl
/-- a char in a text -/
theorem in_one {z : Str} {c : Nat} : inV (.str ⟨#[c]⟩) (.str z) = .ok (decide (c ∈ z.cps.toList)) := by
  rw [y_inS, found_one]
end
end Mn
namespace Mn
open PySem L2
def kvbl  (b : Bool) : Rv D := Rv.ok (.bl b)
theorem g_bl  {b : Bool} : kvbl  b = Rv.ok (.bl b) := Eq.trans rfl rfl
def kvbin (C : CV) (o : BOp) (b : Mn.E) (env : Nv) (x : D) : Rv D := Rv.bind (vE C b env) (binV o x)
theorem g_bin {C : CV} {o : BOp} {b : Mn.E} {env : Nv} {x : D} : kvbin C o b env x = Rv.bind (vE C b env) (binV o x) := Eq.trans rfl rfl
def kvnegi  (i : Int) : Rv D := Rv.ok (.int (-i))
theorem g_negi  {i : Int} : kvnegi  i = Rv.ok (.int (-i)) := Eq.trans rfl rfl
def kvneg  (x : D) : Rv D := Rv.bind (asIV x) kvnegi
theorem g_neg  {x : D} : kvneg  x = Rv.bind (asIV x) kvnegi := Eq.trans rfl rfl
def kvcmpb (o : COp) (x : D) (y : D) : Rv D := Rv.bind (cmpV o x y) kvbl
theorem g_cmpb {o : COp} {x : D} {y : D} : kvcmpb o x y = Rv.bind (cmpV o x y) kvbl := Eq.trans rfl rfl
def kvcmp (C : CV) (o : COp) (b : Mn.E) (env : Nv) (x : D) : Rv D := Rv.bind (vE C b env) (kvcmpb o x)
theorem g_cmp {C : CV} {o : COp} {b : Mn.E} {env : Nv} {x : D} : kvcmp C o b env x = Rv.bind (vE C b env) (kvcmpb o x) := Eq.trans rfl rfl
def kvc3c (C : CV) (p : COp) (c : Mn.E) (env : Nv) (y : D) (k : Bool) : Rv D := match k with
  | true => Rv.bind (vE C c env) (kvcmpb p y)
  | false => Rv.ok (.bl false)
theorem g_c3cT {C : CV} {p : COp} {c : Mn.E} {env : Nv} {y : D} : kvc3c C p c env y true = Rv.bind (vE C c env) (kvcmpb p y) := Eq.trans rfl rfl
theorem g_c3cF {C : CV} {p : COp} {c : Mn.E} {env : Nv} {y : D} : kvc3c C p c env y false = Rv.ok (.bl false) := Eq.trans rfl rfl
def kvc3b (C : CV) (o p : COp) (c : Mn.E) (env : Nv) (x : D) (y : D) : Rv D := Rv.bind (cmpV o x y) (kvc3c C p c env y)
theorem g_c3b {C : CV} {o p : COp} {c : Mn.E} {env : Nv} {x : D} {y : D} : kvc3b C o p c env x y = Rv.bind (cmpV o x y) (kvc3c C p c env y) := Eq.trans rfl rfl
def kvc3 (C : CV) (o p : COp) (b c : Mn.E) (env : Nv) (x : D) : Rv D := Rv.bind (vE C b env) (kvc3b C o p c env x)
theorem g_c3 {C : CV} {o p : COp} {b c : Mn.E} {env : Nv} {x : D} : kvc3 C o p b c env x = Rv.bind (vE C b env) (kvc3b C o p c env x) := Eq.trans rfl rfl
def kvtr  (x : D) : Rv D := Rv.bind (truV x) kvbl
theorem g_tr  {x : D} : kvtr  x = Rv.bind (truV x) kvbl := Eq.trans rfl rfl
def kvnotb  (b : Bool) : Rv D := Rv.ok (.bl (!b))
theorem g_notb  {b : Bool} : kvnotb  b = Rv.ok (.bl (!b)) := Eq.trans rfl rfl
def kvnot  (x : D) : Rv D := Rv.bind (asBV x) kvnotb
theorem g_not  {x : D} : kvnot  x = Rv.bind (asBV x) kvnotb := Eq.trans rfl rfl
def kvand2 (C : CV) (b : Mn.E) (env : Nv) (k : Bool) : Rv D := match k with
  | true => vE C b env
  | false => Rv.ok (.bl false)
theorem g_and2T {C : CV} {b : Mn.E} {env : Nv} : kvand2 C b env true = vE C b env := Eq.trans rfl rfl
theorem g_and2F {C : CV} {b : Mn.E} {env : Nv} : kvand2 C b env false = Rv.ok (.bl false) := Eq.trans rfl rfl
def kvand (C : CV) (b : Mn.E) (env : Nv) (x : D) : Rv D := Rv.bind (asBV x) (kvand2 C b env)
theorem g_and {C : CV} {b : Mn.E} {env : Nv} {x : D} : kvand C b env x = Rv.bind (asBV x) (kvand2 C b env) := Eq.trans rfl rfl
def kvor2 (C : CV) (b : Mn.E) (env : Nv) (k : Bool) : Rv D := match k with
  | true => Rv.ok (.bl true)
  | false => vE C b env
theorem g_or2T {C : CV} {b : Mn.E} {env : Nv} : kvor2 C b env true = Rv.ok (.bl true) := Eq.trans rfl rfl
theorem g_or2F {C : CV} {b : Mn.E} {env : Nv} : kvor2 C b env false = vE C b env := Eq.trans rfl rfl
def kvor (C : CV) (b : Mn.E) (env : Nv) (x : D) : Rv D := Rv.bind (asBV x) (kvor2 C b env)
theorem g_or {C : CV} {b : Mn.E} {env : Nv} {x : D} : kvor C b env x = Rv.bind (asBV x) (kvor2 C b env) := Eq.trans rfl rfl
def kvvand2 (C : CV) (b : Mn.E) (env : Nv) (x : D) (k : Bool) : Rv D := match k with
  | true => vE C b env
  | false => Rv.ok x
theorem g_vand2T {C : CV} {b : Mn.E} {env : Nv} {x : D} : kvvand2 C b env x true = vE C b env := Eq.trans rfl rfl
theorem g_vand2F {C : CV} {b : Mn.E} {env : Nv} {x : D} : kvvand2 C b env x false = Rv.ok x := Eq.trans rfl rfl
def kvvand (C : CV) (b : Mn.E) (env : Nv) (x : D) : Rv D := Rv.bind (truV x) (kvvand2 C b env x)
theorem g_vand {C : CV} {b : Mn.E} {env : Nv} {x : D} : kvvand C b env x = Rv.bind (truV x) (kvvand2 C b env x) := Eq.trans rfl rfl
def kvvor2 (C : CV) (b : Mn.E) (env : Nv) (x : D) (k : Bool) : Rv D := match k with
  | true => Rv.ok x
  | false => vE C b env
theorem g_vor2T {C : CV} {b : Mn.E} {env : Nv} {x : D} : kvvor2 C b env x true = Rv.ok x := Eq.trans rfl rfl
theorem g_vor2F {C : CV} {b : Mn.E} {env : Nv} {x : D} : kvvor2 C b env x false = vE C b env := Eq.trans rfl rfl
def kvvor (C : CV) (b : Mn.E) (env : Nv) (x : D) : Rv D := Rv.bind (truV x) (kvvor2 C b env x)
theorem g_vor {C : CV} {b : Mn.E} {env : Nv} {x : D} : kvvor C b env x = Rv.bind (truV x) (kvvor2 C b env x) := Eq.trans rfl rfl
def kvite2 (C : CV) (a b : Mn.E) (env : Nv) (k : Bool) : Rv D := match k with
  | true => vE C a env
  | false => vE C b env
theorem g_ite2T {C : CV} {a b : Mn.E} {env : Nv} : kvite2 C a b env true = vE C a env := Eq.trans rfl rfl
theorem g_ite2F {C : CV} {a b : Mn.E} {env : Nv} : kvite2 C a b env false = vE C b env := Eq.trans rfl rfl
def kvite (C : CV) (a b : Mn.E) (env : Nv) (x : D) : Rv D := Rv.bind (asBV x) (kvite2 C a b env)
theorem g_ite {C : CV} {a b : Mn.E} {env : Nv} {x : D} : kvite C a b env x = Rv.bind (asBV x) (kvite2 C a b env) := Eq.trans rfl rfl
def kvidx (C : CV) (b : Mn.E) (env : Nv) (x : D) : Rv D := Rv.bind (vE C b env) (idxV x)
theorem g_idx {C : CV} {b : Mn.E} {env : Nv} {x : D} : kvidx C b env x = Rv.bind (vE C b env) (idxV x) := Eq.trans rfl rfl
def kvsl0  (x : D) : Rv D := slcV x none none
theorem g_sl0  {x : D} : kvsl0  x = slcV x none none := Eq.trans rfl rfl
def kvslL3 (x : D) (l : Int) : Rv D := slcV x (some l) none
theorem g_slL3 {x : D} {l : Int} : kvslL3 x l = slcV x (some l) none := Eq.trans rfl rfl
def kvslL2 (x : D) (y : D) : Rv D := Rv.bind (asIV y) (kvslL3 x)
theorem g_slL2 {x : D} {y : D} : kvslL2 x y = Rv.bind (asIV y) (kvslL3 x) := Eq.trans rfl rfl
def kvslL (C : CV) (lo : Mn.E) (env : Nv) (x : D) : Rv D := Rv.bind (vE C lo env) (kvslL2 x)
theorem g_slL {C : CV} {lo : Mn.E} {env : Nv} {x : D} : kvslL C lo env x = Rv.bind (vE C lo env) (kvslL2 x) := Eq.trans rfl rfl
def kvslH3 (x : D) (l : Int) : Rv D := slcV x none (some l)
theorem g_slH3 {x : D} {l : Int} : kvslH3 x l = slcV x none (some l) := Eq.trans rfl rfl
def kvslH2 (x : D) (y : D) : Rv D := Rv.bind (asIV y) (kvslH3 x)
theorem g_slH2 {x : D} {y : D} : kvslH2 x y = Rv.bind (asIV y) (kvslH3 x) := Eq.trans rfl rfl
def kvslH (C : CV) (lo : Mn.E) (env : Nv) (x : D) : Rv D := Rv.bind (vE C lo env) (kvslH2 x)
theorem g_slH {C : CV} {lo : Mn.E} {env : Nv} {x : D} : kvslH C lo env x = Rv.bind (vE C lo env) (kvslH2 x) := Eq.trans rfl rfl
def kvslB5 (x : D) (l : Int) (h : Int) : Rv D := slcV x (some l) (some h)
theorem g_slB5 {x : D} {l : Int} {h : Int} : kvslB5 x l h = slcV x (some l) (some h) := Eq.trans rfl rfl
def kvslB4 (x : D) (l : Int) (z : D) : Rv D := Rv.bind (asIV z) (kvslB5 x l)
theorem g_slB4 {x : D} {l : Int} {z : D} : kvslB4 x l z = Rv.bind (asIV z) (kvslB5 x l) := Eq.trans rfl rfl
def kvslB3 (C : CV) (hi : Mn.E) (env : Nv) (x : D) (l : Int) : Rv D := Rv.bind (vE C hi env) (kvslB4 x l)
theorem g_slB3 {C : CV} {hi : Mn.E} {env : Nv} {x : D} {l : Int} : kvslB3 C hi env x l = Rv.bind (vE C hi env) (kvslB4 x l) := Eq.trans rfl rfl
def kvslB2 (C : CV) (hi : Mn.E) (env : Nv) (x : D) (y : D) : Rv D := Rv.bind (asIV y) (kvslB3 C hi env x)
theorem g_slB2 {C : CV} {hi : Mn.E} {env : Nv} {x : D} {y : D} : kvslB2 C hi env x y = Rv.bind (asIV y) (kvslB3 C hi env x) := Eq.trans rfl rfl
def kvslB (C : CV) (lo hi : Mn.E) (env : Nv) (x : D) : Rv D := Rv.bind (vE C lo env) (kvslB2 C hi env x)
theorem g_slB {C : CV} {lo hi : Mn.E} {env : Nv} {x : D} : kvslB C lo hi env x = Rv.bind (vE C lo env) (kvslB2 C hi env x) := Eq.trans rfl rfl
def kvme3 (b : Bi) (x : D) (xs : List D) : Rv D := biV b (x :: xs)
theorem g_me3 {b : Bi} {x : D} {xs : List D} : kvme3 b x xs = biV b (x :: xs) := Eq.trans rfl rfl
def kvme2 (C : CV) (b : Bi) (es : Es) (env : Nv) (x : D) (u : Unit) : Rv D := Rv.bind (vEs C es env) (kvme3 b x)
theorem g_me2 {C : CV} {b : Bi} {es : Es} {env : Nv} {x : D} {u : Unit} : kvme2 C b es env x u = Rv.bind (vEs C es env) (kvme3 b x) := Eq.trans rfl rfl
def kvme (C : CV) (b : Bi) (es : Es) (env : Nv) (x : D) : Rv D := Rv.bind (recvV b x) (kvme2 C b es env x)
theorem g_me {C : CV} {b : Bi} {es : Es} {env : Nv} {x : D} : kvme C b es env x = Rv.bind (recvV b x) (kvme2 C b es env x) := Eq.trans rfl rfl
def kves2 (x : D) (xs : List D) : Rv (List D) := Rv.ok (x :: xs)
theorem g_es2 {x : D} {xs : List D} : kves2 x xs = Rv.ok (x :: xs) := Eq.trans rfl rfl
def kves (C : CV) (r : Es) (env : Nv) (x : D) : Rv (List D) := Rv.bind (vEs C r env) (kves2 x)
theorem g_es {C : CV} {r : Es} {env : Nv} {x : D} : kves C r env x = Rv.bind (vEs C r env) (kves2 x) := Eq.trans rfl rfl
theorem ge_c {C : CV} {env : Nv} {d : D} : vE C (.c d) env = Rv.ok d := by first | exact Eq.trans rfl rfl | (rw [vE] <;> rfl)
theorem ge_g {C : CV} {env : Nv} {x : Str} : vE C (.g x) env = optV (C.glob x) := by first | exact Eq.trans rfl rfl | (rw [vE] <;> rfl)
theorem ge_bin {C : CV} {env : Nv} {o : BOp} {a b : Mn.E} : vE C (.bin o a b) env = Rv.bind (vE C a env) (kvbin C o b env) := by first | exact Eq.trans rfl rfl | (rw [vE] <;> rfl)
theorem ge_neg {C : CV} {env : Nv} {a : Mn.E} : vE C (.neg a) env = Rv.bind (vE C a env) kvneg := by first | exact Eq.trans rfl rfl | (rw [vE] <;> rfl)
theorem ge_cmp {C : CV} {env : Nv} {o : COp} {a b : Mn.E} : vE C (.cmp o a b) env = Rv.bind (vE C a env) (kvcmp C o b env) := by first | exact Eq.trans rfl rfl | (rw [vE] <;> rfl)
theorem ge_cmp3 {C : CV} {env : Nv} {o p : COp} {a b c : Mn.E} : vE C (.cmp3 o p a b c) env = Rv.bind (vE C a env) (kvc3 C o p b c env) := by first | exact Eq.trans rfl rfl | (rw [vE] <;> rfl)
theorem ge_tr {C : CV} {env : Nv} {a : Mn.E} : vE C (.tr a) env = Rv.bind (vE C a env) kvtr := by first | exact Eq.trans rfl rfl | (rw [vE] <;> rfl)
theorem ge_not {C : CV} {env : Nv} {a : Mn.E} : vE C (.not a) env = Rv.bind (vE C a env) kvnot := by first | exact Eq.trans rfl rfl | (rw [vE] <;> rfl)
theorem ge_and {C : CV} {env : Nv} {a b : Mn.E} : vE C (.and a b) env = Rv.bind (vE C a env) (kvand C b env) := by first | exact Eq.trans rfl rfl | (rw [vE] <;> rfl)
theorem ge_or {C : CV} {env : Nv} {a b : Mn.E} : vE C (.or a b) env = Rv.bind (vE C a env) (kvor C b env) := by first | exact Eq.trans rfl rfl | (rw [vE] <;> rfl)
theorem ge_vand {C : CV} {env : Nv} {a b : Mn.E} : vE C (.vand a b) env = Rv.bind (vE C a env) (kvvand C b env) := by first | exact Eq.trans rfl rfl | (rw [vE] <;> rfl)
theorem ge_vor {C : CV} {env : Nv} {a b : Mn.E} : vE C (.vor a b) env = Rv.bind (vE C a env) (kvvor C b env) := by first | exact Eq.trans rfl rfl | (rw [vE] <;> rfl)
theorem ge_ite {C : CV} {env : Nv} {c a b : Mn.E} : vE C (.ite c a b) env = Rv.bind (vE C c env) (kvite C a b env) := by first | exact Eq.trans rfl rfl | (rw [vE] <;> rfl)
def kvtup  (xs : List D) : Rv D := Rv.bind (guardV (ok2 xs.length)) fun _ => .ok (.tup xs)
theorem g_tup  {xs : List D} : kvtup  xs = Rv.bind (guardV (ok2 xs.length)) fun _ => .ok (.tup xs) := Eq.trans rfl rfl
def kvlst  (xs : List D) : Rv D := Rv.bind (guardV (ok2 xs.length)) fun _ => .ok (.lst xs)
theorem g_lst  {xs : List D} : kvlst  xs = Rv.bind (guardV (ok2 xs.length)) fun _ => .ok (.lst xs) := Eq.trans rfl rfl
theorem ge_tup {C : CV} {env : Nv} {es : Es} : vE C (.tup es) env = Rv.bind (vEs C es env) kvtup := by first | exact Eq.trans rfl rfl | (rw [vE] <;> rfl)
theorem ge_lst {C : CV} {env : Nv} {es : Es} : vE C (.lst es) env = Rv.bind (vEs C es env) kvlst := by first | exact Eq.trans rfl rfl | (rw [vE] <;> rfl)
theorem ge_idx {C : CV} {env : Nv} {a b : Mn.E} : vE C (.idx a b) env = Rv.bind (vE C a env) (kvidx C b env) := by first | exact Eq.trans rfl rfl | (rw [vE] <;> rfl)
theorem ge_sl0 {C : CV} {env : Nv} {a : Mn.E} : vE C (.slc0 a) env = Rv.bind (vE C a env) kvsl0 := by first | exact Eq.trans rfl rfl | (rw [vE] <;> rfl)
theorem ge_slL {C : CV} {env : Nv} {a b : Mn.E} : vE C (.slcL a b) env = Rv.bind (vE C a env) (kvslL C b env) := by first | exact Eq.trans rfl rfl | (rw [vE] <;> rfl)
theorem ge_slH {C : CV} {env : Nv} {a b : Mn.E} : vE C (.slcH a b) env = Rv.bind (vE C a env) (kvslH C b env) := by first | exact Eq.trans rfl rfl | (rw [vE] <;> rfl)
theorem ge_slB {C : CV} {env : Nv} {a b c : Mn.E} : vE C (.slcB a b c) env = Rv.bind (vE C a env) (kvslB C b c env) := by first | exact Eq.trans rfl rfl | (rw [vE] <;> rfl)
theorem ge_call {C : CV} {env : Nv} {f : Str} {es : Es} : vE C (.call f es) env = Rv.bind (vEs C es env) (C.call f) := by first | exact Eq.trans rfl rfl | (rw [vE] <;> rfl)
theorem ge_bi {C : CV} {env : Nv} {b : Bi} {es : Es} : vE C (.bi b es) env = Rv.bind (vEs C es env) (biV b) := by first | exact Eq.trans rfl rfl | (rw [vE] <;> rfl)
theorem ge_meth {C : CV} {env : Nv} {b : Bi} {a : Mn.E} {es : Es} : vE C (.meth b a es) env = Rv.bind (vE C a env) (kvme C b es env) := by first | exact Eq.trans rfl rfl | (rw [vE] <;> rfl)
def kvco4  (ys : List D) : Rv D := Rv.ok (.lst ys)
theorem g_co4  {ys : List D} : kvco4  ys = Rv.ok (.lst ys) := Eq.trans rfl rfl
def kvco3 (C : CV) (elt : Mn.E) (sl : Nat) (own : List Nat) (cond : Mn.E) (env : Nv) (it : List D) (u : Unit) : Rv D := Rv.bind (compV (putD sl) (vE C cond) (vE C elt) (wipeD env own) it []) kvco4
theorem g_co3 {C : CV} {elt : Mn.E} {sl : Nat} {own : List Nat} {cond : Mn.E} {env : Nv} {it : List D} {u : Unit} : kvco3 C elt sl own cond env it u = Rv.bind (compV (putD sl) (vE C cond) (vE C elt) (wipeD env own) it []) kvco4 := Eq.trans rfl rfl
def kvco2 (C : CV) (elt : Mn.E) (sl : Nat) (own : List Nat) (cond : Mn.E) (env : Nv) (it : List D) : Rv D := Rv.bind (lenOk it) (kvco3 C elt sl own cond env it)
theorem g_co2 {C : CV} {elt : Mn.E} {sl : Nat} {own : List Nat} {cond : Mn.E} {env : Nv} {it : List D} : kvco2 C elt sl own cond env it = Rv.bind (lenOk it) (kvco3 C elt sl own cond env it) := Eq.trans rfl rfl
def kvco (C : CV) (elt : Mn.E) (sl : Nat) (own : List Nat) (i : IK) (cond : Mn.E) (env : Nv) (xs : List D) : Rv D := Rv.bind (itemsV i xs) (kvco2 C elt sl own cond env)
theorem g_co {C : CV} {elt : Mn.E} {sl : Nat} {own : List Nat} {i : IK} {cond : Mn.E} {env : Nv} {xs : List D} : kvco C elt sl own i cond env xs = Rv.bind (itemsV i xs) (kvco2 C elt sl own cond env) := Eq.trans rfl rfl
theorem ge_comp {C : CV} {env : Nv} {elt : Mn.E} {sl : Nat} {own : List Nat} {i : IK} {es : Es} {cond : Mn.E} : vE C (.comp elt sl own i es cond) env = Rv.bind (vEs C es env) (kvco C elt sl own i cond env) := by first | exact Eq.trans rfl rfl | (rw [vE] <;> rfl)
theorem ge_nil {C : CV} {env : Nv} : vEs C .nil env = Rv.ok [] := by first | exact Eq.trans rfl rfl | (rw [vEs] <;> rfl)
theorem ge_cons {C : CV} {env : Nv} {e : Mn.E} {r : Es} : vEs C (.cons e r) env = Rv.bind (vE C e env) (kves C r env) := by first | exact Eq.trans rfl rfl | (rw [vEs] <;> rfl)
def kvnx  (env : Nv) : Rv (Flow × Nv) := Rv.ok (.nx, env)
theorem g_nx  {env : Nv} : kvnx  env = Rv.ok (.nx, env) := Eq.trans rfl rfl
def kvex (env : Nv) (d : D) : Rv (Flow × Nv) := Rv.ok (.nx, env)
theorem g_ex {env : Nv} {d : D} : kvex env d = Rv.ok (.nx, env) := Eq.trans rfl rfl
def kvret (env : Nv) (d : D) : Rv (Flow × Nv) := Rv.ok (.rt d, env)
theorem g_ret {env : Nv} {d : D} : kvret env d = Rv.ok (.rt d, env) := Eq.trans rfl rfl
def kvif2 (C : CV) (a b : Sms) (env : Nv) (k : Bool) : Rv (Flow × Nv) := match k with
  | true => vSs C a env
  | false => vSs C b env
theorem g_if2T {C : CV} {a b : Sms} {env : Nv} : kvif2 C a b env true = vSs C a env := Eq.trans rfl rfl
theorem g_if2F {C : CV} {a b : Sms} {env : Nv} : kvif2 C a b env false = vSs C b env := Eq.trans rfl rfl
def kvif (C : CV) (a b : Sms) (env : Nv) (x : D) : Rv (Flow × Nv) := Rv.bind (asBV x) (kvif2 C a b env)
theorem g_if {C : CV} {a b : Sms} {env : Nv} {x : D} : kvif C a b env x = Rv.bind (asBV x) (kvif2 C a b env) := Eq.trans rfl rfl
def kvpr2 (i j : Nat) (env : Nv) (x : D) (y : D) : Rv (Flow × Nv) := Rv.ok (.nx, (env.set i (some x)).set j (some y))
theorem g_pr2 {i j : Nat} {env : Nv} {x : D} {y : D} : kvpr2 i j env x y = Rv.ok (.nx, (env.set i (some x)).set j (some y)) := Eq.trans rfl rfl
def kvpr (C : CV) (i j : Nat) (b : Mn.E) (env : Nv) (x : D) : Rv (Flow × Nv) := Rv.bind (vE C b env) (kvpr2 i j env x)
theorem g_pr {C : CV} {i j : Nat} {b : Mn.E} {env : Nv} {x : D} : kvpr C i j b env x = Rv.bind (vE C b env) (kvpr2 i j env x) := Eq.trans rfl rfl
theorem ge_ret {C : CV} {env : Nv} {e : Mn.E} : vS C (.ret e) env = Rv.bind (vE C e env) (kvret env) := by first | exact Eq.trans rfl rfl | (rw [vS] <;> rfl)
theorem ge_if {C : CV} {env : Nv} {c : Mn.E} {a b : Sms} : vS C (.ife c a b) env = Rv.bind (vE C c env) (kvif C a b env) := by first | exact Eq.trans rfl rfl | (rw [vS] <;> rfl)
theorem ge_par {C : CV} {env : Nv} {i j : Nat} {a b : Mn.E} : vS C (.par i j a b) env = Rv.bind (vE C a env) (kvpr C i j b env) := by first | exact Eq.trans rfl rfl | (rw [vS] <;> rfl)
theorem ge_brk {C : CV} {env : Nv} : vS C (.brk) env = Rv.ok (.bk, env) := by first | exact Eq.trans rfl rfl | (rw [vS] <;> rfl)
theorem ge_cnt {C : CV} {env : Nv} : vS C (.cnt) env = Rv.ok (.ct, env) := by first | exact Eq.trans rfl rfl | (rw [vS] <;> rfl)
theorem ge_pass {C : CV} {env : Nv} : vS C (.pass) env = Rv.ok (.nx, env) := by first | exact Eq.trans rfl rfl | (rw [vS] <;> rfl)
theorem ge_v {C : CV} {env : Nv} {i : Nat} : vE C (.v i) env = (match env[i]? with | some (some d) => Rv.ok d | _ => Rv.bad) := by rw [vE] <;> rfl
theorem ge_whl {C : CV} {env : Nv} {c : Mn.E} {b : Sms} : vS C (.whl c b) env = whileV (vE C c) (vSs C b) FUEL env := by first | exact Eq.trans rfl rfl | (rw [vS] <;> rfl)
def kvdn3  (kvs : List (NK × D)) : Rv D := Rv.ok (mkD kvs)
theorem g_dn3  {kvs : List (NK × D)} : kvdn3  kvs = Rv.ok (mkD kvs) := Eq.trans rfl rfl
def kvdn2 (y : D) (z : D) : Rv D := Rv.bind (optV (dSet [] y z)) kvdn3
theorem g_dn2 {y : D} {z : D} : kvdn2 y z = Rv.bind (optV (dSet [] y z)) kvdn3 := Eq.trans rfl rfl
def kvdn1 (C : CV) (b : Mn.E) (env : Nv) (y : D) : Rv D := Rv.bind (vE C b env) (kvdn2 y)
theorem g_dn1 {C : CV} {b : Mn.E} {env : Nv} {y : D} : kvdn1 C b env y = Rv.bind (vE C b env) (kvdn2 y) := Eq.trans rfl rfl
theorem ge_dnew1 {C : CV} {env : Nv} {a b : Mn.E} : vE C (.dnew1 a b) env = Rv.bind (vE C a env) (kvdn1 C b env) := by first | exact Eq.trans rfl rfl | (rw [vE] <;> rfl)
theorem ge_dnew {C : CV} {env : Nv} : vE C (.dnew) env = Rv.ok (mkD []) := by first | exact Eq.trans rfl rfl | (rw [vE] <;> rfl)
def kvdc3 (C : CV) (ke ve : Mn.E) (sl : Nat) (own : List Nat) (cond : Mn.E) (env : Nv) (it : List D) (u : Unit) : Rv D := Rv.bind (dcompV (putD sl) (vE C cond) (vE C ke) (vE C ve) (wipeD env own) it []) kvdn3
theorem g_dc3 {C : CV} {ke ve : Mn.E} {sl : Nat} {own : List Nat} {cond : Mn.E} {env : Nv} {it : List D} {u : Unit} : kvdc3 C ke ve sl own cond env it u = Rv.bind (dcompV (putD sl) (vE C cond) (vE C ke) (vE C ve) (wipeD env own) it []) kvdn3 := Eq.trans rfl rfl
def kvdc2 (C : CV) (ke ve : Mn.E) (sl : Nat) (own : List Nat) (cond : Mn.E) (env : Nv) (it : List D) : Rv D := Rv.bind (lenOk it) (kvdc3 C ke ve sl own cond env it)
theorem g_dc2 {C : CV} {ke ve : Mn.E} {sl : Nat} {own : List Nat} {cond : Mn.E} {env : Nv} {it : List D} : kvdc2 C ke ve sl own cond env it = Rv.bind (lenOk it) (kvdc3 C ke ve sl own cond env it) := Eq.trans rfl rfl
def kvdc (C : CV) (ke ve : Mn.E) (sl : Nat) (own : List Nat) (i : IK) (cond : Mn.E) (env : Nv) (xs : List D) : Rv D := Rv.bind (itemsV i xs) (kvdc2 C ke ve sl own cond env)
theorem g_dc {C : CV} {ke ve : Mn.E} {sl : Nat} {own : List Nat} {i : IK} {cond : Mn.E} {env : Nv} {xs : List D} : kvdc C ke ve sl own i cond env xs = Rv.bind (itemsV i xs) (kvdc2 C ke ve sl own cond env) := Eq.trans rfl rfl
theorem ge_dcomp {C : CV} {env : Nv} {ke ve : Mn.E} {sl : Nat} {own : List Nat} {i : IK} {es : Es} {cond : Mn.E} : vE C (.dcomp ke ve sl own i es cond) env = Rv.bind (vEs C es env) (kvdc C ke ve sl own i cond env) := by first | exact Eq.trans rfl rfl | (rw [vE] <;> rfl)
def kvfr3 (C : CV) (p : Pat) (b : Sms) (env : Nv) (it : List D) (u : Unit) : Rv (Flow × Nv) := forV (vP p) (vSs C b) it env
theorem g_fr3 {C : CV} {p : Pat} {b : Sms} {env : Nv} {it : List D} {u : Unit} : kvfr3 C p b env it u = forV (vP p) (vSs C b) it env := Eq.trans rfl rfl
def kvfr2 (C : CV) (p : Pat) (b : Sms) (env : Nv) (it : List D) : Rv (Flow × Nv) := Rv.bind (lenOk it) (kvfr3 C p b env it)
theorem g_fr2 {C : CV} {p : Pat} {b : Sms} {env : Nv} {it : List D} : kvfr2 C p b env it = Rv.bind (lenOk it) (kvfr3 C p b env it) := Eq.trans rfl rfl
def kvfr (C : CV) (p : Pat) (i : IK) (b : Sms) (env : Nv) (xs : List D) : Rv (Flow × Nv) := Rv.bind (itemsV i xs) (kvfr2 C p b env)
theorem g_fr {C : CV} {p : Pat} {i : IK} {b : Sms} {env : Nv} {xs : List D} : kvfr C p i b env xs = Rv.bind (itemsV i xs) (kvfr2 C p b env) := Eq.trans rfl rfl
theorem ge_fr {C : CV} {env : Nv} {p : Pat} {i : IK} {es : Es} {b : Sms} : vS C (.fr p i es b) env = Rv.bind (vEs C es env) (kvfr C p i b env) := by first | exact Eq.trans rfl rfl | (rw [vS] <;> rfl)
def kvag2 (i : Nat) (env : Nv) (z : D) : Rv (Flow × Nv) := Rv.ok (.nx, env.set i (some z))
theorem g_ag2 {i : Nat} {env : Nv} {z : D} : kvag2 i env z = Rv.ok (.nx, env.set i (some z)) := Eq.trans rfl rfl
def kvag (i : Nat) (o : BOp) (x : D) (env : Nv) (y : D) : Rv (Flow × Nv) := Rv.bind (augV o x y) (kvag2 i env)
theorem g_ag {i : Nat} {o : BOp} {x : D} {env : Nv} {y : D} : kvag i o x env y = Rv.bind (augV o x y) (kvag2 i env) := Eq.trans rfl rfl
theorem ge_aug {C : CV} {env : Nv} {i : Nat} {o : BOp} {e : Mn.E} : vS C (.aug i o e) env = (match env[i]? with | some (some x) => Rv.bind (vE C e env) (kvag i o x env) | _ => Rv.bad) := by rw [vS] <;> rfl
def kvmt4 (i : Nat) (env : Nv) (r : D × List D) : Rv (D × Nv) := Rv.ok (r.1, env.set i (some (.lst r.2)))
theorem g_mt4 {i : Nat} {env : Nv} {r : D × List D} : kvmt4 i env r = Rv.ok (r.1, env.set i (some (.lst r.2))) := Eq.trans rfl rfl
def kvmt3 (b : Bi) (i : Nat) (ys : List D) (env : Nv) (xs : List D) : Rv (D × Nv) := Rv.bind (mutV b xs ys) (kvmt4 i env)
theorem g_mt3 {b : Bi} {i : Nat} {ys : List D} {env : Nv} {xs : List D} : kvmt3 b i ys env xs = Rv.bind (mutV b xs ys) (kvmt4 i env) := Eq.trans rfl rfl
def kvmt2 (b : Bi) (i : Nat) (env : Nv) (ys : List D) : Rv (D × Nv) := Rv.bind (lstAt env i) (kvmt3 b i ys env)
theorem g_mt2 {b : Bi} {i : Nat} {env : Nv} {ys : List D} : kvmt2 b i env ys = Rv.bind (lstAt env i) (kvmt3 b i ys env) := Eq.trans rfl rfl
def kvmt (C : CV) (b : Bi) (i : Nat) (es : Es) (env : Nv) (xs : List D) : Rv (D × Nv) := Rv.bind (vEs C es env) (kvmt2 b i env)
theorem g_mt {C : CV} {b : Bi} {i : Nat} {es : Es} {env : Nv} {xs : List D} : kvmt C b i es env xs = Rv.bind (vEs C es env) (kvmt2 b i env) := Eq.trans rfl rfl
def kvmx  (r : D × Nv) : Rv (Flow × Nv) := Rv.ok (.nx, r.2)
theorem g_mx  {r : D × Nv} : kvmx  r = Rv.ok (.nx, r.2) := Eq.trans rfl rfl
def kvms (j : Nat) (r : D × Nv) : Rv (Flow × Nv) := Rv.ok (.nx, r.2.set j (some r.1))
theorem g_ms {j : Nat} {r : D × Nv} : kvms j r = Rv.ok (.nx, r.2.set j (some r.1)) := Eq.trans rfl rfl
theorem ge_mth {C : CV} {env : Nv} {b : Bi} {i : Nat} {es : Es} (h : isMut b = true) : vS C (.expr (.meth b (.v i) es)) env = Rv.bind (Rv.bind (lstAt env i) (kvmt C b i es env)) kvmx := by rw [vS]; simp only [kindS, h]; rfl
theorem ge_mset {C : CV} {env : Nv} {b : Bi} {i j : Nat} {es : Es} (h : isMut b = true) : vS C (.set (.nm j) (.meth b (.v i) es)) env = Rv.bind (Rv.bind (lstAt env i) (kvmt C b i es env)) (kvms j) := by rw [vS]; simp only [kindS, h]; rfl
theorem ge_mappend {C : CV} {env : Nv} {i : Nat} {es : Es} : vS C (.expr (.meth .append (.v i) es)) env = Rv.bind (Rv.bind (lstAt env i) (kvmt C .append i es env)) kvmx := ge_mth rfl
theorem ge_sappend {C : CV} {env : Nv} {i j : Nat} {es : Es} : vS C (.set (.nm j) (.meth .append (.v i) es)) env = Rv.bind (Rv.bind (lstAt env i) (kvmt C .append i es env)) (kvms j) := ge_mset rfl
theorem ge_mpop0 {C : CV} {env : Nv} {i : Nat} {es : Es} : vS C (.expr (.meth .pop0 (.v i) es)) env = Rv.bind (Rv.bind (lstAt env i) (kvmt C .pop0 i es env)) kvmx := ge_mth rfl
theorem ge_spop0 {C : CV} {env : Nv} {i j : Nat} {es : Es} : vS C (.set (.nm j) (.meth .pop0 (.v i) es)) env = Rv.bind (Rv.bind (lstAt env i) (kvmt C .pop0 i es env)) (kvms j) := ge_mset rfl
theorem ge_mpop1 {C : CV} {env : Nv} {i : Nat} {es : Es} : vS C (.expr (.meth .pop1 (.v i) es)) env = Rv.bind (Rv.bind (lstAt env i) (kvmt C .pop1 i es env)) kvmx := ge_mth rfl
theorem ge_spop1 {C : CV} {env : Nv} {i j : Nat} {es : Es} : vS C (.set (.nm j) (.meth .pop1 (.v i) es)) env = Rv.bind (Rv.bind (lstAt env i) (kvmt C .pop1 i es env)) (kvms j) := ge_mset rfl
theorem ge_mextend {C : CV} {env : Nv} {i : Nat} {es : Es} : vS C (.expr (.meth .extend (.v i) es)) env = Rv.bind (Rv.bind (lstAt env i) (kvmt C .extend i es env)) kvmx := ge_mth rfl
theorem ge_sextend {C : CV} {env : Nv} {i j : Nat} {es : Es} : vS C (.set (.nm j) (.meth .extend (.v i) es)) env = Rv.bind (Rv.bind (lstAt env i) (kvmt C .extend i es env)) (kvms j) := ge_mset rfl
theorem ge_minsert {C : CV} {env : Nv} {i : Nat} {es : Es} : vS C (.expr (.meth .insert (.v i) es)) env = Rv.bind (Rv.bind (lstAt env i) (kvmt C .insert i es env)) kvmx := ge_mth rfl
theorem ge_sinsert {C : CV} {env : Nv} {i j : Nat} {es : Es} : vS C (.set (.nm j) (.meth .insert (.v i) es)) env = Rv.bind (Rv.bind (lstAt env i) (kvmt C .insert i es env)) (kvms j) := ge_mset rfl
theorem ge_mreverse {C : CV} {env : Nv} {i : Nat} {es : Es} : vS C (.expr (.meth .reverse (.v i) es)) env = Rv.bind (Rv.bind (lstAt env i) (kvmt C .reverse i es env)) kvmx := ge_mth rfl
theorem ge_sreverse {C : CV} {env : Nv} {i j : Nat} {es : Es} : vS C (.set (.nm j) (.meth .reverse (.v i) es)) env = Rv.bind (Rv.bind (lstAt env i) (kvmt C .reverse i es env)) (kvms j) := ge_mset rfl
def kvsu5 (i : Nat) (env : Nv) (c : D) : Rv (Flow × Nv) := Rv.ok (.nx, env.set i (some c))
theorem g_su5 {i : Nat} {env : Nv} {c : D} : kvsu5 i env c = Rv.ok (.nx, env.set i (some c)) := Eq.trans rfl rfl
def kvsu4 (i : Nat) (d : D) (env : Nv) (y : D) (c : D) : Rv (Flow × Nv) := Rv.bind (putV c y d) (kvsu5 i env)
theorem g_su4 {i : Nat} {d : D} {env : Nv} {y : D} {c : D} : kvsu4 i d env y c = Rv.bind (putV c y d) (kvsu5 i env) := Eq.trans rfl rfl
def kvsu3 (i : Nat) (d : D) (env : Nv) (y : D) : Rv (Flow × Nv) := Rv.bind (cellV env i) (kvsu4 i d env y)
theorem g_su3 {i : Nat} {d : D} {env : Nv} {y : D} : kvsu3 i d env y = Rv.bind (cellV env i) (kvsu4 i d env y) := Eq.trans rfl rfl
def kvsu1 (C : CV) (i : Nat) (k : Mn.E) (d : D) (env : Nv) (c : D) : Rv (Flow × Nv) := Rv.bind (nxV (vE C k env)) (kvsu3 i d env)
theorem g_su1 {C : CV} {i : Nat} {k : Mn.E} {d : D} {env : Nv} {c : D} : kvsu1 C i k d env c = Rv.bind (nxV (vE C k env)) (kvsu3 i d env) := Eq.trans rfl rfl
def kvsu (C : CV) (i : Nat) (k : Mn.E) (env : Nv) (d : D) : Rv (Flow × Nv) := Rv.bind (cellV env i) (kvsu1 C i k d env)
theorem g_su {C : CV} {i : Nat} {k : Mn.E} {env : Nv} {d : D} : kvsu C i k env d = Rv.bind (cellV env i) (kvsu1 C i k d env) := Eq.trans rfl rfl
theorem ge_sub {C : CV} {env : Nv} {i : Nat} {k e : Mn.E} : vS C (.set (.sub (.v i) k) e) env = Rv.bind (vE C e env) (kvsu C i k env) := by first | exact Eq.trans rfl rfl | (rw [vS] <;> rfl)
def kvset (p : Pat) (env : Nv) (d : D) : Rv (Flow × Nv) := Rv.bind (vP p d env) kvnx
theorem g_set {p : Pat} {env : Nv} {d : D} : kvset p env d = Rv.bind (vP p d env) kvnx := Eq.trans rfl rfl
def notM : Mn.E → Bool
  | .meth b (.v _) _ => !isMut b
  | _ => true
theorem ge_set {C : CV} {env : Nv} {j : Nat} {e : Mn.E} (h : notM e = true) : vS C (.set (.nm j) e) env = Rv.bind (vE C e env) (kvset (.nm j) env) := by
  rw [vS]
  have : kindS (.set (.nm j) e) = .other := by
    cases e with
    | meth b o es => cases o <;> first | rfl | (simp only [kindS]; simp only [notM] at h; cases hb : isMut b <;> simp_all)
    | _ => rfl
  simp only [this]
  rfl
theorem ge_setT {C : CV} {env : Nv} {ps : Pats} {e : Mn.E} : vS C (.set (.tup ps) e) env = Rv.bind (vE C e env) (kvset (.tup ps) env) := by rw [vS] <;> rfl
theorem ge_expr {C : CV} {env : Nv} {e : Mn.E} (h : notM e = true) : vS C (.expr e) env = Rv.bind (vE C e env) (kvex env) := by
  rw [vS]
  have : kindS (.expr e) = .other := by
    cases e with
    | meth b o es => cases o <;> first | rfl | (simp only [kindS]; simp only [notM] at h; cases hb : isMut b <;> simp_all)
    | _ => rfl
  simp only [this]
  rfl
theorem ges_c {C : CV} {env : Nv} {j : Nat} {d : D} : vS C (.set (.nm j) (.c d)) env = Rv.bind (vE C (.c d) env) (kvset (.nm j) env) := ge_set (by first | rfl | (cases a <;> rfl))
theorem ges_v {C : CV} {env : Nv} {j : Nat} {i : Nat} : vS C (.set (.nm j) (.v i)) env = Rv.bind (vE C (.v i) env) (kvset (.nm j) env) := ge_set (by first | rfl | (cases a <;> rfl))
theorem ges_g {C : CV} {env : Nv} {j : Nat} {x : Str} : vS C (.set (.nm j) (.g x)) env = Rv.bind (vE C (.g x) env) (kvset (.nm j) env) := ge_set (by first | rfl | (cases a <;> rfl))
theorem ges_bin {C : CV} {env : Nv} {j : Nat} {o : BOp} {a b : Mn.E} : vS C (.set (.nm j) (.bin o a b)) env = Rv.bind (vE C (.bin o a b) env) (kvset (.nm j) env) := ge_set (by first | rfl | (cases a <;> rfl))
theorem ges_neg {C : CV} {env : Nv} {j : Nat} {a : Mn.E} : vS C (.set (.nm j) (.neg a)) env = Rv.bind (vE C (.neg a) env) (kvset (.nm j) env) := ge_set (by first | rfl | (cases a <;> rfl))
theorem ges_cmp {C : CV} {env : Nv} {j : Nat} {o : COp} {a b : Mn.E} : vS C (.set (.nm j) (.cmp o a b)) env = Rv.bind (vE C (.cmp o a b) env) (kvset (.nm j) env) := ge_set (by first | rfl | (cases a <;> rfl))
theorem ges_cmp3 {C : CV} {env : Nv} {j : Nat} {o p : COp} {a b c : Mn.E} : vS C (.set (.nm j) (.cmp3 o p a b c)) env = Rv.bind (vE C (.cmp3 o p a b c) env) (kvset (.nm j) env) := ge_set (by first | rfl | (cases a <;> rfl))
theorem ges_tr {C : CV} {env : Nv} {j : Nat} {a : Mn.E} : vS C (.set (.nm j) (.tr a)) env = Rv.bind (vE C (.tr a) env) (kvset (.nm j) env) := ge_set (by first | rfl | (cases a <;> rfl))
theorem ges_ite {C : CV} {env : Nv} {j : Nat} {c a b : Mn.E} : vS C (.set (.nm j) (.ite c a b)) env = Rv.bind (vE C (.ite c a b) env) (kvset (.nm j) env) := ge_set (by first | rfl | (cases a <;> rfl))
theorem ges_tup {C : CV} {env : Nv} {j : Nat} {es : Es} : vS C (.set (.nm j) (.tup es)) env = Rv.bind (vE C (.tup es) env) (kvset (.nm j) env) := ge_set (by first | rfl | (cases a <;> rfl))
theorem ges_lst {C : CV} {env : Nv} {j : Nat} {es : Es} : vS C (.set (.nm j) (.lst es)) env = Rv.bind (vE C (.lst es) env) (kvset (.nm j) env) := ge_set (by first | rfl | (cases a <;> rfl))
theorem ges_idx {C : CV} {env : Nv} {j : Nat} {a b : Mn.E} : vS C (.set (.nm j) (.idx a b)) env = Rv.bind (vE C (.idx a b) env) (kvset (.nm j) env) := ge_set (by first | rfl | (cases a <;> rfl))
theorem ges_slc0 {C : CV} {env : Nv} {j : Nat} {a : Mn.E} : vS C (.set (.nm j) (.slc0 a)) env = Rv.bind (vE C (.slc0 a) env) (kvset (.nm j) env) := ge_set (by first | rfl | (cases a <;> rfl))
theorem ges_slcL {C : CV} {env : Nv} {j : Nat} {a b : Mn.E} : vS C (.set (.nm j) (.slcL a b)) env = Rv.bind (vE C (.slcL a b) env) (kvset (.nm j) env) := ge_set (by first | rfl | (cases a <;> rfl))
theorem ges_slcH {C : CV} {env : Nv} {j : Nat} {a b : Mn.E} : vS C (.set (.nm j) (.slcH a b)) env = Rv.bind (vE C (.slcH a b) env) (kvset (.nm j) env) := ge_set (by first | rfl | (cases a <;> rfl))
theorem ges_slcB {C : CV} {env : Nv} {j : Nat} {a b c : Mn.E} : vS C (.set (.nm j) (.slcB a b c)) env = Rv.bind (vE C (.slcB a b c) env) (kvset (.nm j) env) := ge_set (by first | rfl | (cases a <;> rfl))
theorem ges_call {C : CV} {env : Nv} {j : Nat} {f : Str} {es : Es} : vS C (.set (.nm j) (.call f es)) env = Rv.bind (vE C (.call f es) env) (kvset (.nm j) env) := ge_set (by first | rfl | (cases a <;> rfl))
theorem gex_call {C : CV} {env : Nv} {f : Str} {es : Es} : vS C (.expr (.call f es)) env = Rv.bind (vE C (.call f es) env) (kvex env) := ge_expr rfl
theorem ges_bi {C : CV} {env : Nv} {j : Nat} {b : Bi} {es : Es} : vS C (.set (.nm j) (.bi b es)) env = Rv.bind (vE C (.bi b es) env) (kvset (.nm j) env) := ge_set (by first | rfl | (cases a <;> rfl))
theorem gex_bi {C : CV} {env : Nv} {b : Bi} {es : Es} : vS C (.expr (.bi b es)) env = Rv.bind (vE C (.bi b es) env) (kvex env) := ge_expr rfl
theorem ges_comp {C : CV} {env : Nv} {j : Nat} {elt : Mn.E} {sl : Nat} {own : List Nat} {i : IK} {es : Es} {cond : Mn.E} : vS C (.set (.nm j) (.comp elt sl own i es cond)) env = Rv.bind (vE C (.comp elt sl own i es cond) env) (kvset (.nm j) env) := ge_set (by first | rfl | (cases a <;> rfl))
theorem ges_dnew {C : CV} {env : Nv} {j : Nat}  : vS C (.set (.nm j) (.dnew)) env = Rv.bind (vE C (.dnew) env) (kvset (.nm j) env) := ge_set (by first | rfl | (cases a <;> rfl))
theorem ges_dnew1 {C : CV} {env : Nv} {j : Nat} {a b : Mn.E} : vS C (.set (.nm j) (.dnew1 a b)) env = Rv.bind (vE C (.dnew1 a b) env) (kvset (.nm j) env) := ge_set (by first | rfl | (cases a <;> rfl))
theorem ges_dcomp {C : CV} {env : Nv} {j : Nat} {ke ve : Mn.E} {sl : Nat} {own : List Nat} {i : IK} {es : Es} {cond : Mn.E} : vS C (.set (.nm j) (.dcomp ke ve sl own i es cond)) env = Rv.bind (vE C (.dcomp ke ve sl own i es cond) env) (kvset (.nm j) env) := ge_set (by first | rfl | (cases a <;> rfl))
theorem ges_and {C : CV} {env : Nv} {j : Nat} {a b : Mn.E} : vS C (.set (.nm j) (.and a b)) env = Rv.bind (vE C (.and a b) env) (kvset (.nm j) env) := ge_set (by first | rfl | (cases a <;> rfl))
theorem ges_or {C : CV} {env : Nv} {j : Nat} {a b : Mn.E} : vS C (.set (.nm j) (.or a b)) env = Rv.bind (vE C (.or a b) env) (kvset (.nm j) env) := ge_set (by first | rfl | (cases a <;> rfl))
theorem ges_vand {C : CV} {env : Nv} {j : Nat} {a b : Mn.E} : vS C (.set (.nm j) (.vand a b)) env = Rv.bind (vE C (.vand a b) env) (kvset (.nm j) env) := ge_set (by first | rfl | (cases a <;> rfl))
theorem ges_vor {C : CV} {env : Nv} {j : Nat} {a b : Mn.E} : vS C (.set (.nm j) (.vor a b)) env = Rv.bind (vE C (.vor a b) env) (kvset (.nm j) env) := ge_set (by first | rfl | (cases a <;> rfl))
theorem ges_not {C : CV} {env : Nv} {j : Nat} {a : Mn.E} : vS C (.set (.nm j) (.not a)) env = Rv.bind (vE C (.not a) env) (kvset (.nm j) env) := ge_set (by first | rfl | (cases a <;> rfl))
theorem ges_split {C : CV} {env : Nv} {j : Nat} {a : Mn.E} {es : Es} : vS C (.set (.nm j) (.meth .split a es)) env = Rv.bind (vE C (.meth .split a es) env) (kvset (.nm j) env) := ge_set (by first | rfl | (cases a <;> rfl))
theorem ges_join {C : CV} {env : Nv} {j : Nat} {a : Mn.E} {es : Es} : vS C (.set (.nm j) (.meth .join a es)) env = Rv.bind (vE C (.meth .join a es) env) (kvset (.nm j) env) := ge_set (by first | rfl | (cases a <;> rfl))
theorem ges_starts {C : CV} {env : Nv} {j : Nat} {a : Mn.E} {es : Es} : vS C (.set (.nm j) (.meth .startswith a es)) env = Rv.bind (vE C (.meth .startswith a es) env) (kvset (.nm j) env) := ge_set (by first | rfl | (cases a <;> rfl))
theorem ge_pnm {env : Nv} {i : Nat} {d : D} : vP (.nm i) d env = Rv.ok (env.set i (some d)) := by first | exact Eq.trans rfl rfl | (rw [vP] <;> rfl)
theorem ge_ptup {env : Nv} {ps : Pats} {xs : List D} : vP (.tup ps) (.tup xs) env = vPs ps xs env := by first | exact Eq.trans rfl rfl | (rw [vP] <;> rfl)
theorem ge_pnil {env : Nv} : vPs .nil [] env = Rv.ok env := by first | exact Eq.trans rfl rfl | (rw [vPs] <;> rfl)
def kvpc (r : Pats) (xs : List D) (env : Nv) : Rv Nv := vPs r xs env
theorem g_pc {r : Pats} {xs : List D} {env : Nv} : kvpc r xs env = vPs r xs env := Eq.trans rfl rfl
theorem ge_pcons {env : Nv} {p : Pat} {r : Pats} {x : D} {xs : List D} : vPs (.cons p r) (x :: xs) env = Rv.bind (vP p x env) (kvpc r xs) := by first | exact Eq.trans rfl rfl | (rw [vPs] <;> rfl)
theorem lk_0 : lenOk [] = .ok () := Eq.trans rfl rfl
theorem lk_1 {a : D} : lenOk [a] = .ok () := Eq.trans rfl rfl
theorem lk_2 {a b : D} : lenOk [a, b] = .ok () := Eq.trans rfl rfl
theorem lk_3 {a b c : D} : lenOk [a, b, c] = .ok () := Eq.trans rfl rfl
/-! loops -/
def nextF (asg : D → Nv → Rv Nv) (b : Nv → Rv (Flow × Nv)) (ds : List D) (q : Rv (Flow × Nv)) : Rv (Flow × Nv) := q.bind fun r => match r with
  | (.nx, env') => forV asg b ds env'
  | (.ct, env') => forV asg b ds env'
  | (.bk, env') => .ok (.nx, env')
  | (.rt d, env') => .ok (.rt d, env')
def kvfor (asg : D → Nv → Rv Nv) (b : Nv → Rv (Flow × Nv)) (ds : List D) (env1 : Nv) : Rv (Flow × Nv) := nextF asg b ds (b env1)
section
variable {asg : D → Nv → Rv Nv} {b : Nv → Rv (Flow × Nv)} {ds : List D} {d : D} {env : Nv}
theorem fo_nil : forV asg b [] env = .ok (.nx, env) := by rw [forV]
theorem fo_cons : forV asg b (d :: ds) env = (asg d env).bind (kvfor asg b ds) := by rw [forV] <;> rfl
theorem fo_app : kvfor asg b ds env = nextF asg b ds (b env) := Eq.trans rfl rfl
theorem fo_nx : nextF asg b ds (.ok (.nx, env)) = forV asg b ds env := Eq.trans rfl rfl
theorem fo_ct : nextF asg b ds (.ok (.ct, env)) = forV asg b ds env := Eq.trans rfl rfl
theorem fo_bk : nextF asg b ds (.ok (.bk, env)) = .ok (.nx, env) := Eq.trans rfl rfl
theorem fo_rt {v : D} : nextF asg b ds (.ok (.rt v, env)) = .ok (.rt v, env) := Eq.trans rfl rfl
/-- a loop that always goes on, its names by a state -/
theorem forV_fold {σ α : Type} {enc : σ → Nv} {ea : α → D} {g : σ → α → σ} : ∀ {items : List α} {s : σ}, (∀ s a, a ∈ items → (asg (ea a) (enc s)).bind b = .ok (.nx, enc (g s a))) → forV asg b (items.map ea) (enc s) = .ok (.nx, enc (items.foldl g s))
  | [], s, _ => by rw [List.map_nil, fo_nil]; rfl
  | a :: items, s, h => by
    have h1 := h s a (List.mem_cons_self ..)
    rw [List.map_cons, fo_cons]
    cases e : asg (ea a) (enc s) with
    | ok e1 =>
      rw [e, rv_ok] at h1
      rw [rv_ok, fo_app, h1, fo_nx, forV_fold fun s b hb => h s b (List.mem_cons_of_mem _ hb)]
      rfl
    | exc x => rw [e] at h1; cases h1
    | bad => rw [e] at h1; cases h1
/-- a loop by what holds before each turn -/
theorem forV_inv {α : Type} {ea : α → D} {R : Rv (Flow × Nv) → Prop} (P : List α → Nv → Prop) : ∀ {items : List α} {env : Nv}, P items env → (∀ a r env, P (a :: r) env → (∃ env', (asg (ea a) env).bind b = .ok (.nx, env') ∧ P r env') ∨ (∃ env', (asg (ea a) env).bind b = .ok (.ct, env') ∧ P r env') ∨ (∃ v env', (asg (ea a) env).bind b = .ok (.rt v, env') ∧ R (.ok (.rt v, env'))) ∨ ∃ env', (asg (ea a) env).bind b = .ok (.bk, env') ∧ R (.ok (.nx, env'))) → (∀ env, P [] env → R (.ok (.nx, env))) → R (forV asg b (items.map ea) env)
  | [], env, hp, _, hd => by rw [List.map_nil, fo_nil]; exact hd _ hp
  | a :: items, env, hp, h, hd => by
    have h1 := h a items env hp
    rw [List.map_cons, fo_cons]
    cases e : asg (ea a) env with
    | ok e1 =>
      rw [e, rv_ok] at h1
      rw [rv_ok, fo_app]
      rcases h1 with ⟨e', q, p⟩ | ⟨e', q, p⟩ | ⟨v, e', q, p⟩ | ⟨e', q, p⟩
      · rw [q, fo_nx]; exact forV_inv P p h hd
      · rw [q, fo_ct]; exact forV_inv P p h hd
      · rw [q, fo_rt]; exact p
      · rw [q, fo_bk]; exact p
    | exc x => rw [e] at h1; simp [Rv.bind] at h1
    | bad => rw [e] at h1; simp [Rv.bind] at h1
end
theorem compV_enc {α : Type} {ea F : α → D} {put : D → Nv → Nv} {cond elt : Nv → Rv D} {env : Nv} : ∀ (items : List α) (acc : List D), (∀ a ∈ items, cond (put (ea a) env) = .ok (.bl true)) → (∀ a ∈ items, elt (put (ea a) env) = .ok (F a)) → acc.length + items.length < 16777216 →
    compV put cond elt env (items.map ea) acc = .ok (acc ++ items.map F)
  | [], acc, _, _, _ => by rw [List.map_nil, compV]; simp
  | a :: items, acc, hc, he, hl => by
    simp only [List.length_cons] at hl
    rw [List.map_cons, compV, hc a (List.mem_cons_self ..), nxV_ok, rv_ok, y_asB, rv_ok]
    simp only []
    rw [he a (List.mem_cons_self ..), nxV_ok, rv_ok, y_lt16 (by omega), rv_ok, compV_enc items _ (fun b hb => hc b (List.mem_cons_of_mem _ hb)) (fun b hb => he b (List.mem_cons_of_mem _ hb)) (by simp; omega)]
    simp
theorem compV_encF {α : Type} {ea F : α → D} {p : α → Bool} {put : D → Nv → Nv} {cond elt : Nv → Rv D} {env : Nv} : ∀ (items : List α) (acc : List D), (∀ a ∈ items, cond (put (ea a) env) = .ok (.bl (p a))) → (∀ a ∈ items, p a = true → elt (put (ea a) env) = .ok (F a)) → acc.length + items.length < 16777216 →
    compV put cond elt env (items.map ea) acc = .ok (acc ++ (items.filter p).map F)
  | [], acc, _, _, _ => by rw [List.map_nil, compV]; simp
  | a :: items, acc, hc, he, hl => by
    simp only [List.length_cons] at hl
    have ih := fun acc h => compV_encF items acc (fun b hb => hc b (List.mem_cons_of_mem _ hb)) (fun b hb => he b (List.mem_cons_of_mem _ hb)) h
    rw [List.map_cons, compV, hc a (List.mem_cons_self ..), nxV_ok, rv_ok, y_asB, rv_ok]
    cases hp : p a with
    | true =>
      simp only []
      rw [he a (List.mem_cons_self ..) hp, nxV_ok, rv_ok, y_lt16 (by omega), rv_ok, ih _ (by simp; omega), List.filter_cons_of_pos hp]
      simp
    | false =>
      simp only []
      rw [ih _ (by omega), List.filter_cons_of_neg (by simp [hp])]
theorem ints_enc {α : Type} {p : α → Int} : ∀ {xs : List α}, intsD (xs.map fun a => .int (p a)) = some (xs.map p)
  | [] => rfl
  | x :: xs => by rw [List.map_cons, intsD, ints_enc]; rfl
/-- a call by value, its lists being such places -/
theorem of_callL {defs : List (Str × Def)} {glob : Str → Option D} {n : Nat} {f : Str} {ds vs : List D} {v : D} {S : Store} (hg : ∀ x d, glob x = some d → plain d = true) (h : callV defs glob n f vs = .ok v) (hd : CRs S (fun _ => False) vs ds) (hv : plain v = true) : wp (callN defs glob n f ds) (fun d S' => d = v ∧ Kp S S') S := by
  have := (ctx_ok (defs := defs) hg n).call f vs ds S (fun _ => False) (fun _ z => z.elim) hd
  rw [show (CV.call ⟨glob, callV defs glob n⟩ f vs) = .ok v from h] at this
  exact wp_mono (show wpx _ _ _ _ from this) fun d S' ⟨k, c⟩ => ⟨(cr_plain hv).mp c, k⟩
theorem cr_list {S : Store} {n : Nat} {xs : List D} (h : S[n]? = some (.lst xs)) (hx : plains xs = true) : CR S (fun _ => False) (.lst xs) (.loc n) := cr_lst.mpr ⟨n, xs, rfl, id, h, (crs_plain hx).mpr rfl⟩
theorem cr_pl {S : Store} {d : D} (h : plain d = true) : CR S (fun _ => False) d d := (cr_plain h).mpr rfl
/-- a new list is given back -/
theorem of_callN {defs : List (Str × Def)} {glob : Str → Option D} {n : Nat} {f : Str} {ds vs us : List D} {S : Store} (hg : ∀ x d, glob x = some d → plain d = true) (h : callV defs glob n f vs = .ok (.lst us)) (hd : CRs S (fun _ => False) vs ds) (hv : plains us = true) : wp (callN defs glob n f ds) (fun d S' => (∃ L, d = .loc L ∧ S'[L]? = some (.lst us)) ∧ Kp S S') S := by
  have := (ctx_ok (defs := defs) hg n).call f vs ds S (fun _ => False) (fun _ z => z.elim) hd
  rw [show (CV.call ⟨glob, callV defs glob n⟩ f vs) = .ok (.lst us) from h] at this
  refine wp_mono (show wpx _ _ _ _ from this) fun d S' ⟨k, c⟩ => ⟨?_, k⟩
  obtain ⟨L, es, e1, _, e3, e4⟩ := cr_lst.mp c
  rw [(crs_plain hv).mp e4] at e3
  exact ⟨L, e1, e3⟩
end Mn
/-! Mn by value: loops with names of no account; ranges. -/
namespace Mn
open PySem L2
section
variable {asg : D → Nv → Rv Nv} {b : Nv → Rv (Flow × Nv)} {ds : List D} {d : D} {env : Nv}
/-- a loop that always goes on: its state, and names of no account -/
theorem forV_j {σ α J : Type} (enc : σ → J → Nv) {ea : α → D} {g : σ → α → σ} : ∀ {items : List α} {s : σ} {j : J}, (∀ s j a, a ∈ items → ∃ j', (asg (ea a) (enc s j)).bind b = .ok (.nx, enc (g s a) j')) → ∃ j', forV asg b (items.map ea) (enc s j) = .ok (.nx, enc (items.foldl g s) j')
  | [], s, j, _ => ⟨j, by rw [List.map_nil, fo_nil]; rfl⟩
  | a :: items, s, j, h => by
    obtain ⟨j1, h1⟩ := h s j a (List.mem_cons_self ..)
    obtain ⟨j2, h2⟩ := forV_j (s := g s a) (j := j1) enc (g := g) (items := items) fun s j c hc => h s j c (List.mem_cons_of_mem _ hc)
    refine ⟨j2, ?_⟩
    rw [List.map_cons, fo_cons]
    cases e : asg (ea a) (enc s j) with
    | ok e1 =>
      rw [e, rv_ok] at h1
      rw [rv_ok, fo_app, h1, fo_nx, h2]
      rfl
    | exc x => rw [e] at h1; cases h1
    | bad => rw [e] at h1; cases h1
/-- a loop whose turns stand in a relation -/
theorem forV_r {σ α : Type} (enc : σ → Nv → Prop) {ea : α → D} {g : σ → α → σ} : ∀ {items : List α} {s : σ} {env : Nv}, enc s env → (∀ s env a, a ∈ items → enc s env → ∃ env', (asg (ea a) env).bind b = .ok (.nx, env') ∧ enc (g s a) env') → ∃ env', forV asg b (items.map ea) env = .ok (.nx, env') ∧ enc (items.foldl g s) env'
  | [], s, env, h0, _ => ⟨env, by rw [List.map_nil, fo_nil], h0⟩
  | a :: items, s, env, h0, h => by
    obtain ⟨e1, h1, h1'⟩ := h s env a (List.mem_cons_self ..) h0
    obtain ⟨e2, h2, h2'⟩ := forV_r enc (g := g) (items := items) h1' fun s j c hc => h s j c (List.mem_cons_of_mem _ hc)
    refine ⟨e2, ?_, h2'⟩
    rw [List.map_cons, fo_cons]
    cases e : asg (ea a) env with
    | ok e3 =>
      rw [e, rv_ok] at h1
      rw [rv_ok, fo_app, h1, fo_nx, h2]
    | exc x => rw [e] at h1; cases h1
    | bad => rw [e] at h1; cases h1
/-- a loop that always goes on, with what holds before each turn -/
theorem forV_s {σ α J : Type} (enc : σ → J → Nv) (P : List α → σ → Prop) {ea : α → D} {g : σ → α → σ} : ∀ {items : List α} {s : σ} {j : J}, P items s → (∀ a r s j, P (a :: r) s → (∃ j', (asg (ea a) (enc s j)).bind b = .ok (.nx, enc (g s a) j')) ∧ P r (g s a)) → ∃ j', forV asg b (items.map ea) (enc s j) = .ok (.nx, enc (items.foldl g s) j')
  | [], s, j, _, _ => ⟨j, by rw [List.map_nil, fo_nil]; rfl⟩
  | a :: items, s, j, hp, h => by
    obtain ⟨⟨j1, h1⟩, hp1⟩ := h a items s j hp
    obtain ⟨j2, h2⟩ := forV_s enc P (ea := ea) (g := g) (items := items) (j := j1) hp1 h
    refine ⟨j2, ?_⟩
    rw [List.map_cons, fo_cons]
    cases e : asg (ea a) (enc s j) with
    | ok e1 =>
      rw [e, rv_ok] at h1
      rw [rv_ok, fo_app, h1, fo_nx, h2]
      rfl
    | exc x => rw [e] at h1; cases h1
    | bad => rw [e] at h1; cases h1
/-- the same where turns may end by continue -/
theorem forV_c {σ α J : Type} (enc : σ → J → Nv) (P : List α → σ → Prop) {ea : α → D} {g : σ → α → σ} : ∀ {items : List α} {s : σ} {j : J}, P items s → (∀ a r s j, P (a :: r) s → (∃ j' f, (f = Mn.Flow.nx ∨ f = Mn.Flow.ct) ∧ (asg (ea a) (enc s j)).bind b = .ok (f, enc (g s a) j')) ∧ P r (g s a)) → ∃ j', forV asg b (items.map ea) (enc s j) = .ok (.nx, enc (items.foldl g s) j')
  | [], s, j, _, _ => ⟨j, by rw [List.map_nil, fo_nil]; rfl⟩
  | a :: items, s, j, hp, h => by
    obtain ⟨⟨j1, f, hf, h1⟩, hp1⟩ := h a items s j hp
    obtain ⟨j2, h2⟩ := forV_c enc P (ea := ea) (g := g) (items := items) (j := j1) hp1 h
    refine ⟨j2, ?_⟩
    rw [List.map_cons, fo_cons]
    cases e : asg (ea a) (enc s j) with
    | ok e1 =>
      rw [e, rv_ok] at h1
      rcases hf with rfl | rfl
      · rw [rv_ok, fo_app, h1, fo_nx, h2]
        rfl
      · rw [rv_ok, fo_app, h1, fo_ct, h2]
        rfl
    | exc x => rw [e] at h1; cases h1
    | bad => rw [e] at h1; cases h1
/-- a walk that may end early -/
def runE {σ α : Type} (g : σ → α → σ) (u : σ → α → Option D) : List α → σ → Sum σ D
  | [], s => .inl s
  | a :: r, s => match u s a with
    | none => runE g u r (g s a)
    | some v => .inr v
/-- a loop that may end early with a value: u tells whether -/
theorem forV_e {σ α J : Type} (enc : σ → J → Nv) {ea : α → D} {g : σ → α → σ} {u : σ → α → Option D} : ∀ {items : List α} {s : σ} {j : J}, (∀ s j a, a ∈ items → (u s a = none → ∃ j', (asg (ea a) (enc s j)).bind b = .ok (.nx, enc (g s a) j')) ∧ (∀ v, u s a = some v → ∃ e', (asg (ea a) (enc s j)).bind b = .ok (.rt v, e'))) →
    match runE g u items s with
    | .inl s' => ∃ j', forV asg b (items.map ea) (enc s j) = .ok (.nx, enc s' j')
    | .inr v => ∃ e', forV asg b (items.map ea) (enc s j) = .ok (.rt v, e')
  | [], s, j, _ => ⟨j, by rw [List.map_nil, fo_nil]⟩
  | a :: items, s, j, h => by
    have h0 := h s j a (List.mem_cons_self ..)
    rw [runE]
    cases e : u s a with
    | none =>
      obtain ⟨j1, h1⟩ := h0.1 e
      have h2 := forV_e (s := g s a) (j := j1) enc (g := g) (u := u) (items := items) fun s j c hc => h s j c (List.mem_cons_of_mem _ hc)
      simp only []
      rw [List.map_cons, fo_cons]
      cases e1 : asg (ea a) (enc s j) with
      | ok e2 =>
        rw [e1, rv_ok] at h1
        rw [rv_ok, fo_app, h1, fo_nx]
        exact h2
      | exc x => rw [e1] at h1; cases h1
      | bad => rw [e1] at h1; cases h1
    | some v =>
      obtain ⟨e', h1⟩ := h0.2 v e
      refine ⟨e', ?_⟩
      rw [List.map_cons, fo_cons]
      cases e1 : asg (ea a) (enc s j) with
      | ok e2 =>
        rw [e1, rv_ok] at h1
        rw [rv_ok, fo_app, h1, fo_rt]
      | exc x => rw [e1] at h1; cases h1
      | bad => rw [e1] at h1; cases h1
end
theorem y_maxN {a b : Nat} : biV .max2 [.int (a : Nat), .int (b : Nat)] = .ok (.int ((max a b : Nat) : Int)) := by
  rw [y_max2]
  congr 2
  split <;> omega
theorem rng_map {n a : Nat} : rngD (a : Nat) n = (List.range n).map fun k => D.int ((a + k : Nat) : Int) := by
  unfold rngD
  refine List.map_congr_left fun k _ => ?_
  congr 1
  push_cast; omega
theorem rng_zip {α : Type} {l : List α} : rngD 0 l.length = l.zipIdx.map fun p => D.int (p.2 : Nat) := by
  unfold rngD
  rw [List.zipIdx_eq_zip_range', List.range_eq_range']
  apply List.ext_getElem
  · simp
  · intro i h1 h2
    simp
theorem zip_at {α : Type} {l : List α} {p : α × Nat} (h : p ∈ l.zipIdx) : l[p.2]? = some p.1 ∧ p.2 < l.length := by
  have := List.mem_zipIdx_iff_getElem?.mp h
  exact ⟨this, (List.getElem?_eq_some_iff.mp this).1⟩
theorem y_atT {xs : List D} {k : Nat} {a : D} (h : xs[k]? = some a) : idxV (.tup xs) (.int (k : Nat)) = .ok a := by rw [y_idxT, atI_nat h]; rfl
theorem y_atL {xs : List D} {k : Nat} {a : D} (h : xs[k]? = some a) : idxV (.lst xs) (.int (k : Nat)) = .ok a := by rw [y_idxL, atI_nat h]; rfl
/-- a walk of a tuple in the store's evaluator, by what is left -/
theorem for_suf {α : Type} {ea : α → D} {asg : D → Nv → M Nv} {b : Nv → M (Mn.Flow × Nv)} {Q : Mn.Flow × Nv → Store → Prop} {E : Exn → Store → Prop} {S : Store} {env : Nv} (P : List α → Nv → Store → Prop) (items : List α) (hl : items.length < 1000000000) (p0 : P items env S)
    (step : ∀ a r env S, P (a :: r) env S → wpx (asg (ea a) env) (fun e1 S1 => wpx (b e1) (turnS (P r) Q) E S1) E S)
    (done : ∀ env S, P [] env S → Q (.nx, env) S) : wpx (forF (.tup (items.map ea)) asg b FUEL 0 env) Q E S := by
  refine for_items (items.map ea) (fun i env S => P (items.drop i) env S) (by rw [List.length_map]; exact fuel_big (by omega)) p0 (fun i env S _ _ => rfl) ?_ ?_
  · intro i d env S hi hp
    rw [List.getElem?_map] at hi
    cases e : items[i]? with
    | none => rw [e] at hi; cases hi
    | some a =>
      rw [e] at hi
      cases hi
      obtain ⟨hlt, rfl⟩ := List.getElem?_eq_some_iff.mp e
      rw [List.drop_eq_getElem_cons hlt] at hp
      exact step _ _ env S hp
  · intro env S hp
    rw [List.length_map, List.drop_length] at hp
    exact done env S hp
end Mn
/-! Mn: an expression by value within a run on the store. -/
namespace Mn
open PySem L2
def plainO : Option D → Bool
  | some d => plain d
  | none => true
theorem er_plain {S : Store} {env : Nv} (h : env.all plainO = true) : ER S [] (fun _ => False) env env :=
  ⟨rfl, fun i v e => by
    have hp : plain v = true := by
      have := List.all_eq_true.mp h (some v) (List.mem_of_getElem? e)
      exact this
    have c : CR S (XO [] (fun _ => False) env) v v := (cr_plain hp).mpr rfl
    exact ⟨v, e, c.b, fun _ => c⟩, fun i n a => (by cases a), fun i j n a => (by cases a), fun n a => a.elim⟩
/-- an expression of plain names, its value a new list of plain things -/
theorem of_vEN {defs : List (Str × Def)} {glob : Str → Option D} {n : Nat} {e : Mn.E} {env : Nv} {us : List D} {S : Store} (hg : ∀ x d, glob x = some d → plain d = true) (ho : okE [] e = true) (he : env.all plainO = true)
    (h : vE ⟨glob, callV defs glob n⟩ e env = .ok (.lst us)) (hv : plains us = true) : wp (evE ⟨glob, callN defs glob n⟩ e env) (fun d S' => (∃ L, d = .loc L ∧ S'[L]? = some (.lst us)) ∧ Kp S S') S := by
  have := vE_ok (ctx_ok (defs := defs) hg n) e (S := S) ho (er_plain he)
  rw [h] at this
  refine wp_mono (show wpx _ _ _ _ from this) fun d S' ⟨k, c, _⟩ => ⟨?_, k⟩
  obtain ⟨L, es, e1, _, e3, e4⟩ := cr_lst.mp c
  rw [(crs_plain hv).mp e4] at e3
  exact ⟨L, e1, e3⟩
/-- .. its value plain -/
theorem of_vEP {defs : List (Str × Def)} {glob : Str → Option D} {n : Nat} {e : Mn.E} {env : Nv} {v : D} {S : Store} (hg : ∀ x d, glob x = some d → plain d = true) (ho : okE [] e = true) (he : env.all plainO = true)
    (h : vE ⟨glob, callV defs glob n⟩ e env = .ok v) (hv : plain v = true) : wp (evE ⟨glob, callN defs glob n⟩ e env) (fun d S' => d = v ∧ Kp S S') S := by
  have := vE_ok (ctx_ok (defs := defs) hg n) e (S := S) ho (er_plain he)
  rw [h] at this
  exact wp_mono (show wpx _ _ _ _ from this) fun d S' ⟨k, c, _⟩ => ⟨(cr_plain hv).mp c, k⟩
/-- name = e; .. -/
theorem ss_setE {C : Ctx} {i : Nat} {e : Mn.E} {r : Sms} {env : Nv} {S : Store} {P : D → Store → Prop} {Q : Flow × Nv → Store → Prop} (h : wp (evE C e env) P S) (k : ∀ d S', P d S' → wpx (evSs C r (env.set i (some d))) Q E0x S') : wpx (evSs C (.cons (.set (.nm i) e) r) env) Q E0x S := by
  rw [evSs, evS, wpx_bind, wpx_bind]
  refine wpx_of_wp h fun d S' hp => ?_
  rw [wpx_bind, evP, wpx_ret, wpx_ret]
  exact k d S' hp
/-! rows of numbers compared -/
def nLs (f : List Nat) : List D := f.map fun i => .int (i : Nat)
def nPy (f : List Nat) : List PyData := f.map fun i => .int (i : Nat)
theorem nL_py : ∀ f, pyAll (nLs f) = some (nPy f)
  | [] => rfl
  | i :: f => by
    show (match py (.int (i : Nat)), pyAll (nLs f) with | some a, some r => some (a :: r) | _, _ => none) = _
    rw [nL_py f]; rfl
theorem nPy_lay : ∀ f, PyData.canLayAll0 (nPy f) = true
  | [] => rfl
  | i :: f => by
    show (PyData.canLay0 (.int (i : Nat)) && PyData.canLayAll0 (nPy f)) = true
    rw [nPy_lay f]; rfl
theorem nPy_dep : ∀ f, PyData.depthAll (nPy f) = 0
  | [] => rfl
  | i :: f => by
    show max (PyData.depth (.int (i : Nat))) (PyData.depthAll (nPy f)) = 0
    rw [nPy_dep f]; rfl
theorem nPy_eq : ∀ f h : List Nat, PyData.eqvAll (nPy f) (nPy h) = decide (f = h)
  | [], [] => by simp [nPy, PyData.eqvAll]
  | [], _ :: _ => by simp [nPy, PyData.eqvAll]
  | _ :: _, [] => by simp [nPy, PyData.eqvAll]
  | i :: f, j :: h => by
    show PyData.eqvAll (PyData.int (i : Nat) :: nPy f) (PyData.int (j : Nat) :: nPy h) = _
    rw [PyData.eqvAll, nPy_eq f h, PyData.eqv]
    by_cases e : i = j
    · subst e; simp
    · have : ((i : Int) == (j : Int)) = false := by simpa using (fun z : (i : Int) = j => e (by omega))
      rw [this]; simp [e]
theorem x_eqNs {S : Store} {E : Exn → Store → Prop} {m n : Nat} {f h : List Nat} {R : Bool → Store → Prop} (h1 : S[m]? = some (.lst (nLs f))) (h2 : S[n]? = some (.lst (nLs h))) : wpx (eqM (.loc m) (.loc n)) R E S ↔ R (decide (f = h)) S := by
  have e1 : py1 S (.loc m) = some (.list (nPy f)) := by
    show (match S[m]? with | some (.lst xs) => (pyAll xs).map PyData.list | some (.ro xs) => (pyAll xs).map PyData.list | _ => none) = _
    rw [h1]; show (pyAll _).map _ = _; rw [nL_py]; rfl
  have e2 : py1 S (.loc n) = some (.list (nPy h)) := by
    show (match S[n]? with | some (.lst xs) => (pyAll xs).map PyData.list | some (.ro xs) => (pyAll xs).map PyData.list | _ => none) = _
    rw [h2]; show (pyAll _).map _ = _; rw [nL_py]; rfl
  unfold wpx eqM
  rw [e1, e2]
  have q1 : (PyData.list (nPy f)).canLay0 = true := nPy_lay f
  have q2 : (PyData.list (nPy h)).canLay0 = true := nPy_lay h
  have q3 : (PyData.list (nPy f)).depth = 1 := by show PyData.depthAll (nPy f) + 1 = 1; rw [nPy_dep]
  have q4 : (PyData.list (nPy h)).depth = 1 := by show PyData.depthAll (nPy h) + 1 = 1; rw [nPy_dep]
  have q : fitEq (.loc m) (.loc n) (.list (nPy f)) (.list (nPy h)) = true := by
    unfold fitEq; rw [q1, q2, q3, q4]; rfl
  simp only [q, if_true]
  rw [show PyData.eqv (.list (nPy f)) (.list (nPy h)) = decide (f = h) from by rw [PyData.eqv, nPy_eq]]
end Mn
namespace Mn
open PySem L2
/-- environments that stand for one another; a name may be left out by value -/
def EnR (S : Store) : Nv → Nv → Prop
  | [], [] => True
  | none :: r, _ :: r' => EnR S r r'
  | some v :: r, some d :: r' => CR S (fun _ => False) v d ∧ EnR S r r'
  | _, _ => False
theorem EnR.len {S : Store} : ∀ {e e' : Nv}, EnR S e e' → e.length = e'.length
  | [], [], _ => rfl
  | none :: r, _ :: r', h => by
    have := EnR.len (e := r) (e' := r') (by simpa [EnR] using h)
    simp [this]
  | some v :: r, some d :: r', h => by
    have := EnR.len (e := r) (e' := r') h.2
    simp [this]
  | [], _ :: _, h => by simp [EnR] at h
  | none :: _, [], h => by simp [EnR] at h
  | some _ :: _, [], h => by simp [EnR] at h
  | some _ :: _, none :: _, h => by simp [EnR] at h
theorem EnR.val {S : Store} : ∀ {e e' : Nv}, EnR S e e' → ∀ (i : Nat) v, e[i]? = some (some v) → ∃ d, e'[i]? = some (some d) ∧ CR S (fun _ => False) v d
  | [], [], _, i, v, q => by cases q
  | none :: r, x :: r', h, i, v, q => by
    have h' : EnR S r r' := by simpa [EnR] using h
    cases i with
    | zero => cases q
    | succ i => exact EnR.val h' i v q
  | some u :: r, some d :: r', h, i, v, q => by
    cases i with
    | zero => cases q; exact ⟨d, rfl, h.1⟩
    | succ i => exact EnR.val h.2 i v q
  | [], _ :: _, h, _, _, _ => by simp [EnR] at h
  | none :: _, [], h, _, _, _ => by simp [EnR] at h
  | some _ :: _, [], h, _, _, _ => by simp [EnR] at h
  | some _ :: _, none :: _, h, _, _, _ => by simp [EnR] at h
/-- the names that are to change are not yet set -/
def unset (mt : List Nat) (e : Nv) : Bool := mt.all fun i => (e[i]?).join.isNone
theorem unset_no {mt : List Nat} {e : Nv} (h : unset mt e = true) : ∀ i n, i ∈ mt → e[i]? ≠ some (some (.loc n)) := fun i n hi z => by
  have := List.all_eq_true.mp h i hi
  rw [z] at this
  cases this
theorem er_of {S : Store} {mt : List Nat} {e e' : Nv} (h : EnR S e e') (hm : unset mt e' = true) : ER S mt (fun _ => False) e e' :=
  ⟨h.len, fun i v q => by
    obtain ⟨d, a, c⟩ := h.val i v q
    have c' := c.go (S' := S) (X' := XO mt (fun _ => False) e') (fun _ _ _ q => q) fun n _ z => z.elim id fun ⟨j, a, b⟩ => unset_no hm j n a b
    exact ⟨d, a, c'.b, fun _ => c'⟩, fun i n a b => (unset_no hm i n a b).elim, fun i j n a b c d => (unset_no hm i n a c).elim, fun n z => z.elim⟩
section
variable {defs : List (Str × Def)} {glob : Str → Option D} {n : Nat} {S : Store} {env envD env' : Nv} {v : D} {us : List D}
theorem of_vEr {e : Mn.E} (hg : ∀ x d, glob x = some d → plain d = true) (ho : okE [] e = true) (he : EnR S env envD) (h : vE ⟨glob, callV defs glob n⟩ e env = .ok v) : wp (evE ⟨glob, callN defs glob n⟩ e envD) (fun d S' => CR S' (fun _ => False) v d ∧ Kp S S') S := by
  have E0 := er_of (mt := []) he rfl
  have := vE_ok (ctx_ok (defs := defs) hg n) e (S := S) ho E0
  rw [h] at this
  exact wp_mono (show wpx _ _ _ _ from this) fun d S' ⟨k, c, _⟩ => ⟨c.go (fun _ _ _ q => q) fun n _ z => z.elim, k⟩
/-- the rest of a body, by value -/
theorem of_vSsC {b : Sms} (hg : ∀ x d, glob x = some d → plain d = true) (ho : okSs (mtSs b) b = true) (he : EnR S env envD) (hm : unset (mtSs b) envD = true) (h : vSs ⟨glob, callV defs glob n⟩ b env = .ok (.rt v, env')) : wpx (evSs ⟨glob, callN defs glob n⟩ b envD) (fun r S' => ∃ d e, r = (.rt d, e) ∧ CR S' (fun _ => False) v d ∧ Kp S S') E0x S := by
  have hs := vSs_ok (ctx_ok (defs := defs) hg n) b ho (fun i hi => hi) (er_of he hm)
  rw [h] at hs
  refine wpx_mono (show wpx _ _ _ _ from hs) (fun q S' z => ?_) fun _ _ z => z
  obtain ⟨fl, e⟩ := q
  obtain ⟨f, z⟩ := z
  cases fl <;> first | exact z.elim | skip
  rename_i d
  exact ⟨d, e, rfl, z, f.len, fun n c q => f.keep n c (fun i hi _ => unset_no hm i n hi) q⟩
theorem of_vSsP {b : Sms} {Q : Flow × Nv → Store → Prop} (hg : ∀ x d, glob x = some d → plain d = true) (ho : okSs (mtSs b) b = true) (he : EnR S env envD) (hm : unset (mtSs b) envD = true) (h : vSs ⟨glob, callV defs glob n⟩ b env = .ok (.rt v, env')) (hv : plain v = true) (q : ∀ e S', Kp S S' → Q (.rt v, e) S') : wpx (evSs ⟨glob, callN defs glob n⟩ b envD) Q E0x S :=
  wpx_mono (of_vSsC hg ho he hm h) (fun r S' ⟨d, e, h1, c, k⟩ => by rw [h1, (cr_plain hv).mp c]; exact q e S' k) fun _ _ z => z
end
/-- a while by value, told turn by turn -/
theorem whileV_w {c : Nv → Rv D} {b : Nv → Rv (Flow × Nv)} (P : Nat → Nv → Prop) (Q : Flow × Nv → Prop)
    (h : ∀ m env, P m env → ∃ k, c env = .ok (.bl k) ∧ (k = false → Q (.nx, env)) ∧ (k = true → ∃ o env', b env = .ok (o, env') ∧ (((o = .nx ∨ o = .ct) ∧ ∃ m', m' < m ∧ P m' env') ∨ ∃ v, o = .rt v ∧ Q (.rt v, env')))) :
    ∀ (f m : Nat) (env : Nv), m < f → P m env → ∃ r, whileV c b f env = .ok r ∧ Q r := by
  intro f
  induction f with
  | zero => intro m env hf; omega
  | succ f ih =>
    intro m env hf p
    obtain ⟨k, h1, h2, h3⟩ := h m env p
    cases k with
    | false => exact ⟨_, by rw [whileV, h1]; rfl, h2 rfl⟩
    | true =>
      obtain ⟨o, e1, h4, h5⟩ := h3 rfl
      rcases h5 with ⟨rfl | rfl, m', h6, h7⟩ | ⟨v, rfl, h6⟩
      · obtain ⟨r, h8, h9⟩ := ih m' e1 (by omega) h7
        exact ⟨r, by rw [whileV, h1]; simp only [rv_ok]; show (b env).bind _ = _; rw [h4]; exact h8, h9⟩
      · obtain ⟨r, h8, h9⟩ := ih m' e1 (by omega) h7
        exact ⟨r, by rw [whileV, h1]; simp only [rv_ok]; show (b env).bind _ = _; rw [h4]; exact h8, h9⟩
      · exact ⟨_, by rw [whileV, h1]; simp only [rv_ok]; show (b env).bind _ = _; rw [h4]; rfl, h6⟩
end Mn
/-! Tk: the tokens of a text (plain). -/
namespace Mn
/-- a while by value, told turn by turn; exceptions too -/
theorem whileV_x {c : Nv → Rv D} {b : Nv → Rv (Flow × Nv)} {R : Rv (Flow × Nv) → Prop} (P : Nat → Nv → Prop)
    (h : ∀ m env, P m env → ∃ k, c env = .ok (.bl k) ∧ (k = false → R (.ok (.nx, env))) ∧ (k = true → (∃ o env', b env = .ok (o, env') ∧ (o = .nx ∨ o = .ct) ∧ ∃ m', m' < m ∧ P m' env') ∨ (∃ v env', b env = .ok (.rt v, env') ∧ R (.ok (.rt v, env'))) ∨ ∃ x, b env = .exc x ∧ R (.exc x))) :
    ∀ (f m : Nat) (env : Nv), m < f → P m env → R (whileV c b f env) := by
  intro f
  induction f with
  | zero => intro m env hf; omega
  | succ f ih =>
    intro m env hf p
    obtain ⟨k, h1, h2, h3⟩ := h m env p
    cases k with
    | false => rw [whileV, h1]; exact h2 rfl
    | true =>
      rcases h3 rfl with ⟨o, e1, h4, ho, m', h6, h7⟩ | ⟨v, e1, h4, h5⟩ | ⟨x, h4, h5⟩
      · have := ih m' e1 (by omega) h7
        rcases ho with rfl | rfl
        · rw [whileV, h1]; simp only [rv_ok]; show R ((b env).bind _); rw [h4]; exact this
        · rw [whileV, h1]; simp only [rv_ok]; show R ((b env).bind _); rw [h4]; exact this
      · rw [whileV, h1]; simp only [rv_ok]; show R ((b env).bind _); rw [h4]; exact h5
      · rw [whileV, h1]; simp only [rv_ok]; show R ((b env).bind _); rw [h4]; exact h5
end Mn
namespace Tk
open PySem Mn L2
def LET : Str := "abcdefghijklmnopqrstuvwxyzABCDEFGHIJKLMNOPQRSTUVWXYZ"
def WRD : Str := "abcdefghijklmnopqrstuvwxyzABCDEFGHIJKLMNOPQRSTUVWXYZ0123456789_"
def DIG : Str := "0123456789"
def SYM : Str := "(){};:=!"
def BLK : Str := " \n\t"
def mem (x : Str) (c : Nat) : Bool := decide (c ∈ x.cps.toList)
/-- where the signs of x from p on end -/
def endW (l : List Nat) (x : Str) (p : Nat) : Nat := p + ((l.drop p).takeWhile (mem x)).length
theorem endW_le {l : List Nat} {x : Str} {p : Nat} (h : p ≤ l.length) : endW l x p ≤ l.length := by
  have : ((l.drop p).takeWhile (mem x)).length ≤ (l.drop p).length := (List.takeWhile_sublist _).length_le
  rw [List.length_drop] at this
  unfold endW
  omega
theorem endW_ge {l : List Nat} {x : Str} {p : Nat} : p ≤ endW l x p := Nat.le_add_right ..
theorem endW_step {l : List Nat} {x : Str} {p c : Nat} (h : l[p]? = some c) (hc : mem x c = true) : endW l x p = endW l x (p + 1) := by
  obtain ⟨hl, e⟩ := List.getElem?_eq_some_iff.mp h
  unfold endW
  rw [List.drop_eq_getElem_cons hl, e, List.takeWhile_cons_of_pos hc, List.length_cons]
  omega
theorem endW_stop {l : List Nat} {x : Str} {p c : Nat} (h : l[p]? = some c) (hc : mem x c = false) : endW l x p = p := by
  obtain ⟨hl, e⟩ := List.getElem?_eq_some_iff.mp h
  unfold endW
  rw [List.drop_eq_getElem_cons hl, e, List.takeWhile_cons_of_neg (by simp [hc])]
  rfl
theorem endW_end {l : List Nat} {x : Str} {p : Nat} (h : l.length ≤ p) : endW l x p = p := by
  unfold endW
  rw [List.drop_eq_nil_of_le h]
  rfl
inductive R
  | tok (k t : Str) (n : Nat)
  | err (r : Str)
def tokAt (s : Str) (p c : Nat) : R :=
  let l := s.cps.toList
  if mem LET c = true then (if 30 < endW l WRD p - p then .err "word too long" else .tok "word" (cutS s (some (p : Nat)) (some (endW l WRD p : Nat))) (endW l WRD p - p))
  else if mem DIG c = true then (if endW l DIG p - p = 1 ∨ (endW l DIG p - p = 2 ∧ c ≠ 48) then .tok "number" (cutS s (some (p : Nat)) (some (endW l DIG p : Nat))) (endW l DIG p - p) else .err "invalid number")
  else if mem SYM c = true then .tok "symbol" ⟨#[c]⟩ 1
  else if cutS s (some (p : Nat)) (some ((p + 2 : Nat) : Int)) = "&&" ∨ cutS s (some (p : Nat)) (some ((p + 2 : Nat) : Int)) = "||" then .tok "symbol" (cutS s (some (p : Nat)) (some ((p + 2 : Nat) : Int))) 2
  else .err "unexpected character"
def tD (k t : Str) (p : Nat) : D := .tup [.str k, .str t, .int p]
def scan (s : Str) : Nat → Nat → List D → (Nat × Str) ⊕ List D
  | 0, _, acc => .inr acc
  | f + 1, p, acc => match s.cps.toList[p]? with
    | none => .inr acc
    | some c => if mem BLK c = true then scan s f (p + 1) acc else match tokAt s p c with
      | .err r => .inl (p, r)
      | .tok k t n => scan s f (p + n) (acc ++ [tD k t p])
end Tk
namespace Tk
open PySem Mn L2 PyProof.Rows PySem.StrLaws
theorem cut_cps {s : Str} {p q : Nat} (hp : p ≤ s.cps.toList.length) : (cutS s (some (p : Nat)) (some (q : Nat))).cps.toList = (s.cps.toList.drop p).take (q - p) := by
  show (List.take (HT.sIx s.length s.length (some (q : Int)) - HT.sIx s.length 0 (some (p : Int))) (List.drop (HT.sIx s.length 0 (some (p : Int))) s.cps.toList)).toArray.toList = _
  rw [List.toList_toArray, HT.sIx_nat, HT.sIx_nat]
  have e : s.length = s.cps.toList.length := (len_cps s).symm
  rw [e, Nat.min_eq_left hp]
  by_cases h : q ≤ s.cps.toList.length
  · rw [Nat.min_eq_left h]
  · rw [Nat.min_eq_right (by omega), List.take_of_length_le (by rw [List.length_drop]; omega), List.take_of_length_le (by rw [List.length_drop]; omega)]
theorem cut_len {s : Str} {p q : Nat} (hp : p ≤ q) (hq : q ≤ s.cps.toList.length) : (cutS s (some (p : Nat)) (some (q : Nat))).length = q - p := by
  rw [← len_cps, cut_cps (by omega), List.length_take, List.length_drop]
  omega
theorem let_wrd {c : Nat} (h : mem LET c = true) : mem WRD c = true := by
  have e : WRD.cps.toList = LET.cps.toList ++ ("0123456789_" : Str).cps.toList := by decide +kernel
  unfold mem at h ⊢
  rw [decide_eq_true_eq] at h
  rw [decide_eq_true_eq, e]
  exact List.mem_append_left _ h
theorem two_len {s : Str} {p : Nat} {t : Str} (hp : p ≤ s.cps.toList.length) (h : cutS s (some (p : Nat)) (some ((p + 2 : Nat) : Int)) = t) (ht : t.cps.toList.length = 2) : p + 2 ≤ s.cps.toList.length := by
  have := congrArg (fun u : Str => u.cps.toList.length) h
  rw [cut_cps hp] at this
  simp only [List.length_take, List.length_drop, ht] at this
  omega
/-- a token is not empty and stands in the text -/
theorem tok_size {s : Str} {p c n : Nat} {k t : Str} (h : s.cps.toList[p]? = some c) (e : tokAt s p c = .tok k t n) : 1 ≤ n ∧ p + n ≤ s.cps.toList.length ∧ t.length = n := by
  obtain ⟨hl, _⟩ := List.getElem?_eq_some_iff.mp h
  unfold tokAt at e
  simp only [] at e
  split at e
  · rename_i h1
    have g1 := endW_step h (let_wrd h1)
    have g2 := endW_le (l := s.cps.toList) (x := WRD) (p := p) (by omega)
    have g3 := endW_ge (l := s.cps.toList) (x := WRD) (p := p + 1)
    split at e
    · cases e
    · cases e
      exact ⟨by omega, by omega, cut_len (by omega) g2⟩
  split at e
  · rename_i h1
    have g1 := endW_step h h1
    have g2 := endW_le (l := s.cps.toList) (x := DIG) (p := p) (by omega)
    have g3 := endW_ge (l := s.cps.toList) (x := DIG) (p := p + 1)
    split at e
    · cases e
      exact ⟨by omega, by omega, cut_len (by omega) g2⟩
    · cases e
  split at e
  · cases e
    exact ⟨by omega, by omega, rfl⟩
  split at e
  · rename_i h1
    cases e
    have : p + 2 ≤ s.cps.toList.length := by
      rcases h1 with h1 | h1
      · exact two_len (by omega) h1 rfl
      · exact two_len (by omega) h1 rfl
    exact ⟨by omega, by omega, by rw [cut_len (by omega) this]; omega⟩
  · cases e
/-- the signs of a token are the text's -/
theorem tok_signs {s : Str} {p c n : Nat} {k t : Str} {P : Nat → Prop} (hs : ∀ x ∈ s.cps.toList, P x) (h : s.cps.toList[p]? = some c) (e : tokAt s p c = .tok k t n) : ∀ x ∈ t.cps.toList, P x := by
  obtain ⟨hl, _⟩ := List.getElem?_eq_some_iff.mp h
  have cut : ∀ q : Nat, ∀ x ∈ (cutS s (some (p : Nat)) (some (q : Nat))).cps.toList, P x := fun q x hx => by
    rw [cut_cps (by omega)] at hx
    exact hs x (List.mem_of_mem_drop (List.mem_of_mem_take hx))
  unfold tokAt at e
  simp only [] at e
  split at e
  · split at e
    · cases e
    · cases e; exact cut _
  split at e
  · split at e
    · cases e; exact cut _
    · cases e
  split at e
  · cases e
    intro x hx
    have : x = c := by simpa using hx
    subst this
    exact hs _ (List.mem_of_getElem? h)
  split at e
  · cases e; exact cut _
  · cases e
theorem tok_kind {s : Str} {p c n : Nat} {k t : Str} (e : tokAt s p c = .tok k t n) : k = "word" ∨ k = "number" ∨ k = "symbol" := by
  unfold tokAt at e
  simp only [] at e
  split at e
  · split at e
    · cases e
    · cases e; simp
  split at e
  · split at e
    · cases e; simp
    · cases e
  split at e
  · cases e; simp
  split at e
  · cases e; simp
  · cases e
end Tk
namespace Lw
open PySem Mn L2
def top (i : Nat) : Stmt := PySem.Challenge.pw_flowform_k10_tokens_of_a_text.main.body.getD i (.Pass ⟨0, 0, 0, 0⟩)
def names : List Str := ["is_number", "end_of", "token_at", "tokens", "_law_tape", "_law_draw", "_law_names", "_law_scanned", "_law_sign", "_law_told", "law"]
def globs : List (Str × D) := [("LETTERS", (.str "abcdefghijklmnopqrstuvwxyzABCDEFGHIJKLMNOPQRSTUVWXYZ")), ("DIGITS", (.str "0123456789")), ("WORD_CHARACTERS", (.str "abcdefghijklmnopqrstuvwxyzABCDEFGHIJKLMNOPQRSTUVWXYZ0123456789_")), ("LONGEST_NAME", (.int (30))), ("BLANKS", (.str " \n\t")), ("SYMBOLS", (.str "(){};:=!")), ("LONG_SYMBOLS", (.tup [(.str "&&"), (.str "||")]))]
def glob (x : Str) : Option D := globs.lookup x
def ob : ObT := ⟨"", [], [], [], [], [("TextError", ["place", "reason"])], [("TextError", ["TextError"]), ("UnknownFlag", []), ("FlagTwice", []), ("OutsideOfLoop", []), ("TooManyFlags", []), ("TooManyConfigurations", []), ("TooManyNodes", []), ("TooManyPositions", []), ("TryInFinally", []), ("TooLarge", []), ("NoStatement", []), ("TooManyVersions", []), ("RunOver", []), ("FlowError", ["TextError"]), ("ValueError", ["TextError"])]⟩
abbrev st_is_number : Stmt := top 20
def N_is_number : List Str := ["text"]
abbrev st_end_of : Stmt := top 25
def N_end_of : List Str := ["text", "place", "characters"]
abbrev st_token_at : Stmt := top 26
def N_token_at : List Str := ["text", "place", "char", "word", "number"]
abbrev st_tokens : Stmt := top 27
def N_tokens : List Str := ["text", "found", "place", "token"]
abbrev st__law_tape : Stmt := top 29
def N__law_tape : List Str := ["_law_script", "_law_total", "_law_cell"]
abbrev st__law_draw : Stmt := top 30
def N__law_draw : List Str := ["_law_tape_here", "_law_many", "_law_number", "_law_place"]
abbrev st__law_names : Stmt := top 31
def N__law_names : List Str := ["_law_tape_here", "_law_many", "_law_signs", "_law_words", "_law_stem", "_law_place", "_law_names_here", "_law_k", "_law_name", "_law_j", "_law_choice"]
abbrev st__law_scanned : Stmt := top 32
def N__law_scanned : List Str := ["_law_text", "_law_letters", "_law_found", "_law_place", "_law_k", "_law_sign_here", "_law_size"]
abbrev st__law_sign : Stmt := top 33
def N__law_sign : List Str := ["_law_tape_here", "_law_signs"]
abbrev st__law_told : Stmt := top 34
def N__law_told : List Str := ["_law_text", "e", "_law_odd"]
abbrev st_law : Stmt := top 35
def N_law : List Str := ["_law_script", "_law_tape_here", "_law_name", "_law_good", "_law_bad", "_law_wild", "_law_text", "_law_k", "_law_due", "_law_piece"]
def b_is_number_1 : Sms :=
  (.cons (.ret (.vand (.cmp .eq (.bi .len (.cons (.v 0) .nil)) (.c (.int 2))) (.vand (.cmp .inn (.idx (.v 0) (.c (.int 0))) (.g "DIGITS")) (.vand (.cmp .ne (.idx (.v 0) (.c (.int 0))) (.c (.str "0"))) (.cmp .inn (.idx (.v 0) (.c (.int 1))) (.g "DIGITS"))))))
  .nil)
def b_is_number : Sms :=
  (.cons (.ife (.cmp .eq (.bi .len (.cons (.v 0) .nil)) (.c (.int 1))) (.cons (.ret (.cmp .inn (.v 0) (.g "DIGITS")))
  .nil) .nil)
  b_is_number_1)
def d_is_number : Def := ⟨1, 1, b_is_number⟩
def e_end_of_1 : Mn.E :=
  (.and (.cmp .lt (.v 1) (.bi .len (.cons (.v 0) .nil))) (.cmp .inn (.idx (.v 0) (.v 1)) (.v 2)))
def b_end_of_2 : Sms :=
  (.cons (.aug 1 .add (.c (.int 1)))
  .nil)
def b_end_of_3 : Sms :=
  (.cons (.ret (.v 1))
  .nil)
def b_end_of : Sms :=
  (.cons (.whl e_end_of_1 b_end_of_2)
  b_end_of_3)
def d_end_of : Def := ⟨3, 3, b_end_of⟩
def b_token_at_1 : Sms :=
  (.cons (.rai "TextError" ["place", "reason"] (.cons (.v 1) (.cons (.c (.str "unexpected character")) .nil)))
  .nil)
def b_token_at_2 : Sms :=
  (.cons (.ife (.cmp .inn (.slcB (.v 0) (.v 1) (.bin .add (.v 1) (.c (.int 2)))) (.g "LONG_SYMBOLS")) (.cons (.ret (.tup (.cons (.c (.str "symbol")) (.cons (.slcB (.v 0) (.v 1) (.bin .add (.v 1) (.c (.int 2)))) (.cons (.v 1) .nil)))))
  .nil) .nil)
  b_token_at_1)
def b_token_at_3 : Sms :=
  (.cons (.ret (.tup (.cons (.c (.str "number")) (.cons (.v 4) (.cons (.v 1) .nil)))))
  .nil)
def b_token_at_4 : Sms :=
  (.cons (.set (.nm 4) (.slcB (.v 0) (.v 1) (.call "end_of" (.cons (.v 0) (.cons (.v 1) (.cons (.g "DIGITS") .nil))))))
  (.cons (.ife (.not (.tr (.call "is_number" (.cons (.v 4) .nil)))) (.cons (.rai "TextError" ["place", "reason"] (.cons (.v 1) (.cons (.c (.str "invalid number")) .nil)))
  .nil) .nil)
  b_token_at_3))
def b_token_at_5 : Sms :=
  (.cons (.ife (.cmp .inn (.v 2) (.g "SYMBOLS")) (.cons (.ret (.tup (.cons (.c (.str "symbol")) (.cons (.v 2) (.cons (.v 1) .nil)))))
  .nil) .nil)
  b_token_at_2)
def b_token_at_6 : Sms :=
  (.cons (.ret (.tup (.cons (.c (.str "word")) (.cons (.v 3) (.cons (.v 1) .nil)))))
  .nil)
def b_token_at_7 : Sms :=
  (.cons (.set (.nm 3) (.slcB (.v 0) (.v 1) (.call "end_of" (.cons (.v 0) (.cons (.v 1) (.cons (.g "WORD_CHARACTERS") .nil))))))
  (.cons (.ife (.cmp .gt (.bi .len (.cons (.v 3) .nil)) (.g "LONGEST_NAME")) (.cons (.rai "TextError" ["place", "reason"] (.cons (.v 1) (.cons (.c (.str "word too long")) .nil)))
  .nil) .nil)
  b_token_at_6))
def b_token_at_8 : Sms :=
  (.cons (.ife (.cmp .inn (.v 2) (.g "DIGITS")) b_token_at_4 .nil)
  b_token_at_5)
def b_token_at : Sms :=
  (.cons (.set (.nm 2) (.idx (.v 0) (.v 1)))
  (.cons (.ife (.cmp .inn (.v 2) (.g "LETTERS")) b_token_at_7 .nil)
  b_token_at_8))
def d_token_at : Def := ⟨2, 5, b_token_at⟩
def e_tokens_1 : Mn.E :=
  (.cmp .lt (.v 2) (.bi .len (.cons (.v 0) .nil)))
def b_tokens_2 : Sms :=
  (.cons (.set (.nm 3) (.call "token_at" (.cons (.v 0) (.cons (.v 2) .nil))))
  (.cons (.expr (.meth .append (.v 1) (.cons (.v 3) .nil)))
  (.cons (.aug 2 .add (.bi .len (.cons (.idx (.v 3) (.c (.int 1))) .nil)))
  .nil)))
def b_tokens_3 : Sms :=
  (.cons (.ife (.cmp .inn (.idx (.v 0) (.v 2)) (.g "BLANKS")) (.cons (.aug 2 .add (.c (.int 1)))
  .nil) b_tokens_2)
  .nil)
def b_tokens_4 : Sms :=
  (.cons (.ret (.bi .tuple (.cons (.v 1) .nil)))
  .nil)
def b_tokens : Sms :=
  (.cons (.set (.nm 1) (.lst .nil))
  (.cons (.set (.nm 2) (.c (.int 0)))
  (.cons (.whl e_tokens_1 b_tokens_3)
  b_tokens_4)))
def d_tokens : Def := ⟨1, 4, b_tokens⟩
def b__law_tape_1 : Sms :=
  (.cons (.set (.nm 1) (.bin .mod (.bi .int (.cons (.bin .add (.bin .mul (.v 1) (.c (.int 31))) (.bi .abs (.cons (.bi .int (.cons (.v 2) .nil)) .nil))) .nil)) (.c (.int 2147483647))))
  .nil)
def b__law_tape_2 : Sms :=
  (.cons (.ret (.lst (.cons (.bi .list (.cons (.v 0) .nil)) (.cons (.c (.int 0)) (.cons (.c (.int 0)) (.cons (.v 1) .nil))))))
  .nil)
def b__law_tape : Sms :=
  (.cons (.set (.nm 1) (.c (.int 7)))
  (.cons (.fr (.nm 2) .seq (.cons (.v 0) .nil) b__law_tape_1)
  b__law_tape_2))
def d__law_tape : Def := ⟨1, 3, b__law_tape⟩
def b__law_draw_1 : Sms :=
  (.cons (.set (.sub (.v 0) (.c (.int 2))) (.v 2))
  .nil)
def b__law_draw_2 : Sms :=
  (.cons (.set (.sub (.v 0) (.c (.int 1))) (.bin .add (.v 3) (.c (.int 1))))
  (.cons (.ife (.cmp .lt (.v 2) (.bin .pow (.c (.int 10)) (.c (.int 18)))) (.cons (.set (.nm 2) (.bin .mod (.bi .int (.cons (.bin .add (.bin .add (.bin .mul (.v 2) (.c (.int 48271))) (.bin .mul (.v 3) (.c (.int 69621)))) (.c (.int 5))) .nil)) (.c (.int 2147483647))))
  (.cons (.set (.nm 2) (.bin .mod (.bi .int (.cons (.bin .mul (.v 2) (.c (.int 69621))) .nil)) (.c (.int 2147483629))))
  (.cons (.ret (.bin .mod (.bi .int (.cons (.v 2) .nil)) (.bi .max2 (.cons (.v 1) (.cons (.c (.int 1)) .nil)))))
  .nil))) .nil)
  b__law_draw_1))
def b__law_draw_3 : Sms :=
  (.cons (.set (.nm 2) (.idx (.v 0) (.c (.int 2))))
  (.cons (.set (.sub (.v 0) (.c (.int 2))) (.bin .fdiv (.v 2) (.bi .max2 (.cons (.v 1) (.cons (.c (.int 2)) .nil)))))
  (.cons (.ret (.bin .mod (.bi .int (.cons (.v 2) .nil)) (.bi .max2 (.cons (.v 1) (.cons (.c (.int 1)) .nil)))))
  .nil)))
def b__law_draw : Sms :=
  (.cons (.ife (.cmp .eq (.idx (.v 0) (.c (.int 2))) (.c (.int 0))) (.cons (.set (.nm 3) (.idx (.v 0) (.c (.int 1))))
  (.cons (.set (.nm 2) (.c (.int 0)))
  (.cons (.ife (.cmp .lt (.v 3) (.bi .len (.cons (.idx (.v 0) (.c (.int 0))) .nil))) (.cons (.set (.nm 2) (.bi .abs (.cons (.bi .int (.cons (.idx (.idx (.v 0) (.c (.int 0))) (.v 3)) .nil)) .nil)))
  .nil) (.cons (.set (.sub (.v 0) (.c (.int 3))) (.bin .mod (.bi .int (.cons (.bin .add (.bin .add (.bin .mul (.idx (.v 0) (.c (.int 3))) (.c (.int 48271))) (.v 3)) (.c (.int 1))) .nil)) (.c (.int 2147483647))))
  (.cons (.set (.nm 2) (.idx (.v 0) (.c (.int 3))))
  .nil)))
  b__law_draw_2))) .nil)
  b__law_draw_3)
def d__law_draw : Def := ⟨2, 4, b__law_draw⟩
def b__law_names_1 : Sms :=
  (.cons (.expr (.meth .append (.v 6) (.cons (.v 8) .nil)))
  .nil)
def b__law_names_2 : Sms :=
  (.cons (.ife (.or (.cmp .inn (.v 8) (.v 3)) (.cmp .inn (.v 8) (.v 6))) (.cons (.set (.nm 8) (.bin .add (.c (.str "one_of_two_equal_names_")) (.bi .str (.cons (.v 7) .nil))))
  .nil) .nil)
  b__law_names_1)
def b__law_names_3 : Sms :=
  (.cons (.ife (.cmp .eq (.v 10) (.c (.int 2))) (.cons (.set (.nm 8) (.slcH (.idx (.v 3) (.call "_law_draw" (.cons (.v 0) (.cons (.c (.int 12)) .nil)))) (.neg (.c (.int 1)))))
  .nil) .nil)
  b__law_names_2)
def b__law_names_4 : Sms :=
  (.cons (.ife (.cmp .eq (.v 10) (.c (.int 1))) (.cons (.set (.nm 8) (.bin .add (.idx (.v 3) (.call "_law_draw" (.cons (.v 0) (.cons (.c (.int 12)) .nil)))) (.slcH (.v 8) (.c (.int 1)))))
  .nil) .nil)
  b__law_names_3)
def b__law_names_5 : Sms :=
  (.cons (.set (.nm 8) (.bin .add (.v 8) (.idx (.v 2) (.call "_law_draw" (.cons (.v 0) (.cons (.c (.int 63)) .nil))))))
  .nil)
def b__law_names_6 : Sms :=
  (.cons (.set (.nm 10) (.call "_law_draw" (.cons (.v 0) (.cons (.c (.int 16)) .nil))))
  (.cons (.ife (.cmp .eq (.v 10) (.c (.int 0))) (.cons (.set (.nm 8) (.bin .add (.v 8) (.bin .mul (.c (.str "x")) (.bin .sub (.c (.int 30)) (.bi .len (.cons (.v 8) .nil))))))
  .nil) .nil)
  b__law_names_4))
def b__law_names_7 : Sms :=
  (.cons (.set (.nm 8) (.bin .add (.bin .add (.slcH (.v 4) (.v 5)) (.idx (.v 2) (.call "_law_draw" (.cons (.v 0) (.cons (.c (.int 52)) .nil))))) (.slcL (.v 4) (.v 5))))
  (.cons (.fr (.nm 9) .rng1 (.cons (.idx (.lst (.cons (.c (.int 0)) (.cons (.c (.int 0)) (.cons (.c (.int 0)) (.cons (.c (.int 1)) (.cons (.c (.int 2)) (.cons (.c (.int 6)) .nil))))))) (.call "_law_draw" (.cons (.v 0) (.cons (.c (.int 6)) .nil)))) .nil) b__law_names_5)
  b__law_names_6))
def b__law_names_8 : Sms :=
  (.cons (.ret (.v 6))
  .nil)
def b__law_names : Sms :=
  (.cons (.set (.nm 2) (.c (.str "abcdefghijklmnopqrstuvwxyzABCDEFGHIJKLMNOPQRSTUVWXYZ0123456789_")))
  (.cons (.set (.nm 3) (.lst (.cons (.c (.str "let")) (.cons (.c (.str "if")) (.cons (.c (.str "else")) (.cons (.c (.str "while")) (.cons (.c (.str "for")) (.cons (.c (.str "break")) (.cons (.c (.str "continue")) (.cons (.c (.str "return")) (.cons (.c (.str "try")) (.cons (.c (.str "finally")) (.cons (.c (.str "true")) (.cons (.c (.str "false")) .nil))))))))))))))
  (.cons (.set (.nm 4) (.idx (.lst (.cons (.c (.str "")) (.cons (.c (.str "")) (.cons (.c (.str "sharedStem")) (.cons (.c (.str "while_x")) .nil))))) (.call "_law_draw" (.cons (.v 0) (.cons (.c (.int 4)) .nil)))))
  (.cons (.set (.nm 5) (.call "_law_draw" (.cons (.v 0) (.cons (.bin .add (.bi .len (.cons (.v 4) .nil)) (.c (.int 1))) .nil))))
  (.cons (.set (.nm 6) (.lst .nil))
  (.cons (.fr (.nm 7) .rng1 (.cons (.v 1) .nil) b__law_names_7)
  b__law_names_8))))))
def d__law_names : Def := ⟨2, 11, b__law_names⟩
def b__law_scanned_1 : Sms :=
  (.cons (.expr (.meth .append (.v 2) (.cons (.tup (.cons (.c (.str "word")) (.cons (.slcB (.v 0) (.v 3) (.bin .add (.v 3) (.v 6))) (.cons (.v 3) .nil)))) .nil)))
  .nil)
def e__law_scanned_2 : Mn.E :=
  (.and (.cmp .lt (.bin .add (.v 3) (.v 6)) (.bi .len (.cons (.v 0) .nil))) (.cmp .inn (.idx (.v 0) (.bin .add (.v 3) (.v 6))) (.bin .add (.v 1) (.c (.str "0123456789_")))))
def b__law_scanned_3 : Sms :=
  (.cons (.set (.nm 6) (.bin .add (.v 6) (.c (.int 1))))
  .nil)
def b__law_scanned_4 : Sms :=
  (.cons (.ife (.cmp .gt (.v 6) (.c (.int 30))) (.cons (.ret (.tup (.cons (.v 3) (.cons (.c (.str "word too long")) .nil))))
  .nil) .nil)
  b__law_scanned_1)
def b__law_scanned_5 : Sms :=
  (.cons (.whl e__law_scanned_2 b__law_scanned_3)
  b__law_scanned_4)
def b__law_scanned_6 : Sms :=
  (.cons (.expr (.meth .append (.v 2) (.cons (.tup (.cons (.c (.str "number")) (.cons (.slcB (.v 0) (.v 3) (.bin .add (.v 3) (.v 6))) (.cons (.v 3) .nil)))) .nil)))
  .nil)
def e__law_scanned_7 : Mn.E :=
  (.and (.cmp .lt (.bin .add (.v 3) (.v 6)) (.bi .len (.cons (.v 0) .nil))) (.cmp .inn (.idx (.v 0) (.bin .add (.v 3) (.v 6))) (.c (.str "0123456789"))))
def b__law_scanned_8 : Sms :=
  (.cons (.set (.nm 6) (.bin .add (.v 6) (.c (.int 1))))
  .nil)
def b__law_scanned_9 : Sms :=
  (.cons (.ife (.or (.cmp .gt (.v 6) (.c (.int 2))) (.and (.cmp .eq (.v 6) (.c (.int 2))) (.cmp .eq (.v 5) (.c (.str "0"))))) (.cons (.ret (.tup (.cons (.v 3) (.cons (.c (.str "invalid number")) .nil))))
  .nil) .nil)
  b__law_scanned_6)
def b__law_scanned_10 : Sms :=
  (.cons (.whl e__law_scanned_7 b__law_scanned_8)
  b__law_scanned_9)
def b__law_scanned_11 : Sms :=
  (.cons (.ife (.cmp .nin (.v 5) (.c (.str " \n\t"))) (.cons (.ret (.tup (.cons (.v 3) (.cons (.c (.str "unexpected character")) .nil))))
  .nil) .nil)
  .nil)
def b__law_scanned_12 : Sms :=
  (.cons (.ife (.cmp .inn (.v 5) (.c (.str "(){};:=!"))) (.cons (.expr (.meth .append (.v 2) (.cons (.tup (.cons (.c (.str "symbol")) (.cons (.v 5) (.cons (.v 3) .nil)))) .nil)))
  .nil) b__law_scanned_11)
  .nil)
def b__law_scanned_13 : Sms :=
  (.cons (.ife (.or (.cmp .eq (.slcB (.v 0) (.v 3) (.bin .add (.v 3) (.c (.int 2)))) (.c (.str "&&"))) (.cmp .eq (.slcB (.v 0) (.v 3) (.bin .add (.v 3) (.c (.int 2)))) (.c (.str "||")))) (.cons (.set (.nm 6) (.c (.int 2)))
  (.cons (.expr (.meth .append (.v 2) (.cons (.tup (.cons (.c (.str "symbol")) (.cons (.slcB (.v 0) (.v 3) (.bin .add (.v 3) (.c (.int 2)))) (.cons (.v 3) .nil)))) .nil)))
  .nil)) b__law_scanned_12)
  .nil)
def b__law_scanned_14 : Sms :=
  (.cons (.ife (.cmp .inn (.v 5) (.c (.str "0123456789"))) b__law_scanned_10 b__law_scanned_13)
  .nil)
def b__law_scanned_15 : Sms :=
  (.cons (.set (.nm 3) (.bin .add (.v 3) (.v 6)))
  .nil)
def b__law_scanned_16 : Sms :=
  (.cons (.set (.nm 5) (.idx (.v 0) (.v 3)))
  (.cons (.set (.nm 6) (.c (.int 1)))
  (.cons (.ife (.cmp .inn (.v 5) (.v 1)) b__law_scanned_5 b__law_scanned_14)
  b__law_scanned_15)))
def b__law_scanned_17 : Sms :=
  (.cons (.ife (.cmp .ge (.v 3) (.bi .len (.cons (.v 0) .nil))) (.cons (.ret (.v 2))
  .nil) .nil)
  b__law_scanned_16)
def b__law_scanned_18 : Sms :=
  (.cons (.ret (.v 2))
  .nil)
def b__law_scanned : Sms :=
  (.cons (.set (.nm 1) (.c (.str "abcdefghijklmnopqrstuvwxyzABCDEFGHIJKLMNOPQRSTUVWXYZ")))
  (.cons (.set (.nm 2) (.lst .nil))
  (.cons (.set (.nm 3) (.c (.int 0)))
  (.cons (.fr (.nm 4) .rng1 (.cons (.bin .add (.bi .len (.cons (.v 0) .nil)) (.c (.int 1))) .nil) b__law_scanned_17)
  b__law_scanned_18))))
def d__law_scanned : Def := ⟨1, 7, b__law_scanned⟩
def b__law_sign : Sms :=
  (.cons (.set (.nm 1) (.c (.str " !\"#$&'()*+,-./0123456789:;<=>?@ABCDEFGHIJKLMNOPQRSTUVWXYZ[\\]^_`abcdefghijklmnopqrstuvwxyz{|}~")))
  (.cons (.ret (.idx (.v 1) (.call "_law_draw" (.cons (.v 0) (.cons (.c (.int 94)) .nil)))))
  .nil))
def d__law_sign : Def := ⟨1, 2, b__law_sign⟩
def b__law_told : Sms :=
  (.cons (.tri (.cons (.ret (.call "tokens" (.cons (.v 0) .nil))) .nil) (.cons ["TextError"] (.some 1) (.set 2 (.is []) (.ife (.and (.is ["TextError"]) (.and (.is ["TextError"]) (.not (.v 2)))) (.tupC (.f "place") (.tupC (.f "reason") .tup0)) .nil)) .nil))
  (.cons (.ret (.c .non))
  .nil))
def d__law_told : Def := ⟨1, 3, b__law_told⟩
def b_law_1 : Sms :=
  (.cons (.ret (.vand (.cmp .eq (.bi .repr (.cons (.call "_law_told" (.cons (.v 6) .nil)) .nil)) (.bi .repr (.cons (.v 8) .nil))) (.cmp .eq (.bi .repr (.cons (.call "_law_told" (.cons (.v 6) .nil)) .nil)) (.bi .repr (.cons (.v 8) .nil)))))
  .nil)
def b_law_2 : Sms :=
  (.cons (.set (.nm 9) (.idx (.bin .add (.v 4) (.lst (.cons (.call "_law_sign" (.cons (.v 1) .nil)) .nil))) (.call "_law_draw" (.cons (.v 1) (.cons (.c (.int 11)) .nil)))))
  .nil)
def b_law_3 : Sms :=
  (.cons (.set (.nm 6) (.bin .add (.v 6) (.v 9)))
  .nil)
def b_law_4 : Sms :=
  (.cons (.set (.nm 9) (.idx (.v 3) (.call "_law_draw" (.cons (.v 1) (.cons (.c (.int 25)) .nil)))))
  (.cons (.ife (.and (.tr (.v 5)) (.cmp .eq (.call "_law_draw" (.cons (.v 1) (.cons (.c (.int 8)) .nil))) (.c (.int 0)))) b_law_2 .nil)
  b_law_3))
def b_law_5 : Sms :=
  (.cons (.set (.nm 8) (.call "_law_scanned" (.cons (.v 6) .nil)))
  (.cons (.ife (.tr (.bi .isList (.cons (.v 8) .nil))) (.cons (.set (.nm 8) (.bi .tuple (.cons (.v 8) .nil)))
  .nil) .nil)
  b_law_1))
def b_law : Sms :=
  (.cons (.set (.nm 1) (.call "_law_tape" (.cons (.v 0) .nil)))
  (.cons (.set (.nm 2) (.idx (.call "_law_names" (.cons (.v 1) (.cons (.c (.int 1)) .nil))) (.c (.int 0))))
  (.cons (.set (.nm 3) (.lst (.cons (.v 2) (.cons (.v 2) (.cons (.c (.str "while")) (.cons (.c (.str "true")) (.cons (.c (.str "0")) (.cons (.c (.str "7")) (.cons (.c (.str "10")) (.cons (.c (.str "99")) (.cons (.c (.str "&&")) (.cons (.c (.str "||")) (.cons (.c (.str "(")) (.cons (.c (.str ")")) (.cons (.c (.str "{")) (.cons (.c (.str "}")) (.cons (.c (.str ";")) (.cons (.c (.str ":")) (.cons (.c (.str "=")) (.cons (.c (.str "!")) (.cons (.c (.str " ")) (.cons (.c (.str " ")) (.cons (.c (.str "\n")) (.cons (.c (.str "\t")) (.cons (.c (.str "if")) (.cons (.bin .add (.slcH (.v 2) (.c (.int 1))) (.bin .mul (.c (.str "_")) (.c (.int 29)))) (.cons (.c (.str "let")) .nil)))))))))))))))))))))))))))
  (.cons (.set (.nm 4) (.lst (.cons (.c (.str "&")) (.cons (.c (.str "|")) (.cons (.c (.str "07")) (.cons (.c (.str "100")) (.cons (.c (.str "00")) (.cons (.c (.str "_")) (.cons (.bin .add (.v 2) (.bin .mul (.c (.str "x")) (.bin .sub (.c (.int 31)) (.bi .len (.cons (.v 2) .nil))))) (.cons (.bin .mul (.c (.str "5")) (.c (.int 40))) (.cons (.c (.str "$")) (.cons (.bin .add (.c (.str "_")) (.v 2)) .nil))))))))))))
  (.cons (.set (.nm 5) (.cmp .eq (.call "_law_draw" (.cons (.v 1) (.cons (.c (.int 2)) .nil))) (.c (.int 0))))
  (.cons (.set (.nm 6) (.c (.str "")))
  (.cons (.fr (.nm 7) .rng1 (.cons (.call "_law_draw" (.cons (.v 1) (.cons (.c (.int 41)) .nil))) .nil) b_law_4)
  b_law_5)))))))
def d_law : Def := ⟨1, 10, b_law⟩
def defs : List (Str × Def) := [(("is_number" : Str), d_is_number), (("end_of" : Str), d_end_of), (("token_at" : Str), d_token_at), (("tokens" : Str), d_tokens), (("_law_tape" : Str), d__law_tape), (("_law_draw" : Str), d__law_draw), (("_law_names" : Str), d__law_names), (("_law_scanned" : Str), d__law_scanned), (("_law_sign" : Str), d__law_sign), (("_law_told" : Str), d__law_told), (("law" : Str), d_law)]
end Lw
namespace Lw
open PySem Mn L2
local macro_rules | `(tactic| walk_at "mn") => `(tactic| try simp only [run_cons, run_nil, then_nx, then_rt, then_bk, then_ct, List.set_set, true_and, and_true, and_self, wpx_ret, wpx_opt_some, wpx_opt_none, wpx_guard, x_asB, x_asI, x_newL, x_newT, o_0, o_1, o_2, o_3, o_4, o_5, o_6, o_7, o_8, o_9, o_10, o_11, o_12, o_13, o_14, o_15, o_16, o_17, o_18, o_19, o_20, o_21, o_22, o_23, o_24, e_rdL, e_owL, rdC_lst, rdC_ro, owC_lst, ex_some, x_wrL, x_alloc, List.getElem?_cons_zero, List.getElem?_cons_succ, List.set_cons_zero, List.set_cons_succ, List.length_cons, List.length_nil, x_eqStr, x_eqInt, x_eqBl, atI_0, atI_1, atI_2, atI_3, ixN_0, ixN_1, ixN_2, ixN_3, ret_rt, ret_nx, b_addI, b_addS, b_addT, b_sub, b_mul, b_mod, b_fdiv, b_pow, c_eq, c_ne, c_ltI, c_gt, c_le, c_ge, c_isn, c_isnS, c_isnI, c_isnT, c_isnn, c_isnnS, c_isnnI, c_isnnT, i_T, i_L, u_lenT, u_lenL, u_int, u_intB, u_abs, u_max2, u_min2, u_tupL, u_tupT, u_append, u_listT, u_listL, sl_T, k_T, k_L, u_isListN, u_isListB, u_isListI, u_isListS, u_isListT, u_isListL, u_isTupleN, u_isTupleB, u_isTupleI, u_isTupleS, u_isTupleT, u_isTupleL, u_isStrN, u_isStrB, u_isStrI, u_isStrS, u_isStrT, u_isStrL, u_isIntN, u_isIntB, u_isIntI, u_isIntS, u_isIntT, u_isIntL, u_isBoolN, u_isBoolB, u_isBoolI, u_isBoolS, u_isBoolT, u_isBoolL, c_isnB, c_isnL, c_isnnB, c_isnnL, v_append, v_pop1, v_pop0, v_join, v_extend, v_insert, v_reverse, v_split, v_startswith, t_non, t_bl, t_T, t_L, u_extL, u_extT, fd_loc, fd_obj, rc_loc, rc_obj, st_loc, st_obj, no_loc, no_l, no_r, no_d, lk_nil, lk_cons, fp_nil, fp_cons, ai_add, ai_sub, cond_true, cond_false, decide_true, eq_self, Option.isNone_none, Option.isNone_some, Bool.and_true, Bool.and_self, few_0, few_1, few_2, few_3, few_4, few_5, few_6, few_7, few_8, few_9, few_10, few_11, few_12, sl_L, b_addL, atI_4, atI_5, ixN_4, ixN_5, str_beq, String.reduceBEq, q_inT, q_inL, c_inn, c_nin, e_getC, x_wrC, ix_l, ix_r, ix_d, ln_l, ln_r, ln_d, in_l, in_r, in_d, pc_l, pc_d, pe_d, u_strI, sl_S, u_lenS, q_bind, q_seq, q_bl, q_bin, q_negi, q_neg, q_cmpb, q_cmp, q_c3cT, q_c3cF, q_c3b, q_c3, q_tr, q_notb, q_not, q_and2T, q_and2F, q_and, q_or2T, q_or2F, q_or, q_vand2T, q_vand2F, q_vand, q_vor2T, q_vor2F, q_vor, q_ite2T, q_ite2F, q_ite, q_idx, q_sl0, q_slL3, q_slL2, q_slL, q_slH3, q_slH2, q_slH, q_slB5, q_slB4, q_slB3, q_slB2, q_slB, q_me3, q_me2, q_me, q_es2, q_es, qe_c, qe_g, qe_bin, qe_neg, qe_cmp, qe_cmp3, qe_tr, qe_not, qe_and, qe_or, qe_vand, qe_vor, qe_ite, qe_tup, qe_lst, qe_idx, qe_sl0, qe_slL, qe_slH, qe_slB, qe_call, qe_bi, qe_meth, q_co2, q_co, qe_comp, qe_nil, qe_cons, q_nx, q_ex, q_ret, q_if2T, q_if2F, q_if, q_pr2, q_pr, qe_ret, qe_if, qe_par, qe_brk, qe_cnt, qe_pass, qe_expr, q_set, qe_set, qe_whl, q_fr2, q_fr, qe_fr, q_ag2, q_ag, qe_aug, qe_v, qe_pnm, qe_ptup, qe_pnil, q_pc, qe_pcons, qe_fld, q_mc3, q_mc2, q_mc, qe_mcall, q_nw2, q_nw, qe_new, q_sf2, q_sf, qe_pfld, q_af4, q_af3, q_af2, q_af1, q_af, qe_afld, qe_bad, q_nox, q_rai, qe_rai, q_tri, q_trp, q_hdT, q_sl0x, q_slS, q_wo0, q_woS, q_hdF, qe_hds, q_hd0, qe_h0, qe_hr, q_hset, qe_hset, q_hif2T, q_hif2F, q_hif, qe_hif, qe_hgen, q_sb4, q_sb3, q_sb2, q_dn5, q_dn4, q_dn3, q_dn2, q_dn1, q_dn, qe_dnew, q_dc2, q_dc, qe_dcomp, q_sb, qe_psub])
local macro_rules | `(tactic| walk_at "mn*") => `(tactic| try simp only [run_cons, run_nil, then_nx, then_rt, then_bk, then_ct, List.set_set, true_and, and_true, and_self, wpx_ret, wpx_opt_some, wpx_opt_none, wpx_guard, x_asB, x_asI, x_newL, x_newT, o_0, o_1, o_2, o_3, o_4, o_5, o_6, o_7, o_8, o_9, o_10, o_11, o_12, o_13, o_14, o_15, o_16, o_17, o_18, o_19, o_20, o_21, o_22, o_23, o_24, e_rdL, e_owL, rdC_lst, rdC_ro, owC_lst, ex_some, x_wrL, x_alloc, List.getElem?_cons_zero, List.getElem?_cons_succ, List.set_cons_zero, List.set_cons_succ, List.length_cons, List.length_nil, x_eqStr, x_eqInt, x_eqBl, atI_0, atI_1, atI_2, atI_3, ixN_0, ixN_1, ixN_2, ixN_3, ret_rt, ret_nx, b_addI, b_addS, b_addT, b_sub, b_mul, b_mod, b_fdiv, b_pow, c_eq, c_ne, c_ltI, c_gt, c_le, c_ge, c_isn, c_isnS, c_isnI, c_isnT, c_isnn, c_isnnS, c_isnnI, c_isnnT, i_T, i_L, u_lenT, u_lenL, u_int, u_intB, u_abs, u_max2, u_min2, u_tupL, u_tupT, u_append, u_listT, u_listL, sl_T, k_T, k_L, u_isListN, u_isListB, u_isListI, u_isListS, u_isListT, u_isListL, u_isTupleN, u_isTupleB, u_isTupleI, u_isTupleS, u_isTupleT, u_isTupleL, u_isStrN, u_isStrB, u_isStrI, u_isStrS, u_isStrT, u_isStrL, u_isIntN, u_isIntB, u_isIntI, u_isIntS, u_isIntT, u_isIntL, u_isBoolN, u_isBoolB, u_isBoolI, u_isBoolS, u_isBoolT, u_isBoolL, c_isnB, c_isnL, c_isnnB, c_isnnL, v_append, v_pop1, v_pop0, v_join, v_extend, v_insert, v_reverse, v_split, v_startswith, t_non, t_bl, t_T, t_L, u_extL, u_extT, fd_loc, fd_obj, rc_loc, rc_obj, st_loc, st_obj, no_loc, no_l, no_r, no_d, lk_nil, lk_cons, fp_nil, fp_cons, ai_add, ai_sub, cond_true, cond_false, decide_true, eq_self, Option.isNone_none, Option.isNone_some, Bool.and_true, Bool.and_self, few_0, few_1, few_2, few_3, few_4, few_5, few_6, few_7, few_8, few_9, few_10, few_11, few_12, sl_L, b_addL, atI_4, atI_5, ixN_4, ixN_5, str_beq, String.reduceBEq, q_inT, q_inL, c_inn, c_nin, e_getC, x_wrC, ix_l, ix_r, ix_d, ln_l, ln_r, ln_d, in_l, in_r, in_d, pc_l, pc_d, pe_d, u_strI, sl_S, u_lenS, q_bind, q_seq, q_bl, q_bin, q_negi, q_neg, q_cmpb, q_cmp, q_c3cT, q_c3cF, q_c3b, q_c3, q_tr, q_notb, q_not, q_and2T, q_and2F, q_and, q_or2T, q_or2F, q_or, q_vand2T, q_vand2F, q_vand, q_vor2T, q_vor2F, q_vor, q_ite2T, q_ite2F, q_ite, q_idx, q_sl0, q_slL3, q_slL2, q_slL, q_slH3, q_slH2, q_slH, q_slB5, q_slB4, q_slB3, q_slB2, q_slB, q_me3, q_me2, q_me, q_es2, q_es, qe_c, qe_g, qe_bin, qe_neg, qe_cmp, qe_cmp3, qe_tr, qe_not, qe_and, qe_or, qe_vand, qe_vor, qe_ite, qe_tup, qe_lst, qe_idx, qe_sl0, qe_slL, qe_slH, qe_slB, qe_call, qe_bi, qe_meth, q_co2, q_co, qe_comp, qe_nil, qe_cons, q_nx, q_ex, q_ret, q_if2T, q_if2F, q_if, q_pr2, q_pr, qe_ret, qe_if, qe_par, qe_brk, qe_cnt, qe_pass, qe_expr, q_set, qe_set, qe_whl, q_fr2, q_fr, qe_fr, q_ag2, q_ag, qe_aug, qe_v, qe_pnm, qe_ptup, qe_pnil, q_pc, qe_pcons, qe_fld, q_mc3, q_mc2, q_mc, qe_mcall, q_nw2, q_nw, qe_new, q_sf2, q_sf, qe_pfld, q_af4, q_af3, q_af2, q_af1, q_af, qe_afld, qe_bad, q_nox, q_rai, qe_rai, q_tri, q_trp, q_hdT, q_sl0x, q_slS, q_wo0, q_woS, q_hdF, qe_hds, q_hd0, qe_h0, qe_hr, q_hset, qe_hset, q_hif2T, q_hif2F, q_hif, qe_hif, qe_hgen, q_sb4, q_sb3, q_sb2, q_dn5, q_dn4, q_dn3, q_dn2, q_dn1, q_dn, qe_dnew, q_dc2, q_dc, qe_dcomp, q_sb, qe_psub, *])
local macro_rules | `(tactic| walk_at "vl") => `(tactic| try simp only [str_beq, String.reduceBEq, beq_self_eq_true, Option.map_some, vs_nil, vs_cons, tv_nx, tv_rt, tv_bk, tv_ct, Bool.not_true, Bool.not_false, if_true, rv_ok, rv_exc, ov_some, gv_true, nxV_ok, retV, putD, wipeD, List.getElem?_cons_zero, List.getElem?_cons_succ, List.set_cons_zero, List.set_cons_succ, List.length_cons, List.length_nil, atI_0, atI_1, atI_2, atI_3, atI_4, atI_5, ixN_0, ixN_1, ixN_2, ixN_3, lA_0, lA_1, lA_2, lA_3, lA_4, lA_5, lA_6, lA_7, lA_8, cA_0, cA_1, cA_2, cA_3, cA_4, cA_5, cA_6, cA_7, cA_8, cD_0, cD_1, cD_2, cD_3, cD_4, cD_5, cD_6, cD_7, cD_8, o_0, o_1, o_2, o_3, o_4, o_5, o_6, o_7, o_8, o_9, o_10, o_11, o_12, o_13, o_14, o_15, o_16, o_17, o_18, o_19, o_20, o_21, o_22, o_23, o_24, y_addI, y_addS, y_addT, y_addL, y_sub, y_eqStr, y_eqInt, y_eqBl, y_eq, y_ne, y_ltI, y_gt, y_le, y_ge, y_inn, y_nin, y_isnN, y_isnB, y_isnI, y_isnS, y_isnT, y_isnL, y_isnnN, y_isnnB, y_isnnI, y_isnnS, y_isnnT, y_isnnL, y_inT, y_inL, y_inS, y_idxT, y_idxL, y_idxS, y_inD, y_idxD, y_lenD, y_putD, y_putL, y_isnD, y_isnnD, y_slcT, y_slcL, y_slcS, y_lenS, y_lenT, y_lenL, y_int, y_intB, y_abs, y_max2, y_min2, y_max1, y_sum, y_listT, y_listL, y_tupT, y_tupL, y_strI, y_all, y_any, y_split, y_starts, y_joinL, y_reprB, y_rcS, y_rcW, y_rcJ, y_asB, y_asI, y_trN, y_trB, y_trI, y_trT, y_trL, y_itT, y_itL, y_itS, y_itRL, y_itRT, y_app, y_extT, y_ext, g_bl, g_bin, g_negi, g_neg, g_cmpb, g_cmp, g_c3cT, g_c3cF, g_c3b, g_c3, g_tr, g_notb, g_not, g_and2T, g_and2F, g_and, g_or2T, g_or2F, g_or, g_vand2T, g_vand2F, g_vand, g_vor2T, g_vor2F, g_vor, g_ite2T, g_ite2F, g_ite, g_idx, g_sl0, g_slL3, g_slL2, g_slL, g_slH3, g_slH2, g_slH, g_slB5, g_slB4, g_slB3, g_slB2, g_slB, g_me3, g_me2, g_me, g_es2, g_es, ge_c, ge_g, ge_bin, ge_neg, ge_cmp, ge_cmp3, ge_tr, ge_not, ge_and, ge_or, ge_vand, ge_vor, ge_ite, g_tup, g_lst, ge_tup, ge_lst, ge_idx, ge_sl0, ge_slL, ge_slH, ge_slB, ge_call, ge_bi, ge_meth, g_co4, g_co3, g_co2, g_co, ge_comp, ge_nil, ge_cons, g_nx, g_ex, g_ret, g_if2T, g_if2F, g_if, g_pr2, g_pr, ge_ret, ge_if, ge_par, ge_brk, ge_cnt, ge_pass, ge_v, ge_whl, g_dn3, g_dn2, g_dn1, ge_dnew1, ge_dnew, g_dc3, g_dc2, g_dc, ge_dcomp, g_fr3, g_fr2, g_fr, ge_fr, g_ag2, g_ag, ge_aug, g_mt4, g_mt3, g_mt2, g_mt, g_mx, g_ms, ge_mappend, ge_sappend, ge_mpop0, ge_spop0, ge_mpop1, ge_spop1, ge_mextend, ge_sextend, ge_minsert, ge_sinsert, ge_mreverse, ge_sreverse, g_su5, g_su4, g_su3, g_su1, g_su, ge_sub, g_set, ge_setT, ges_c, ges_v, ges_g, ges_bin, ges_neg, ges_cmp, ges_cmp3, ges_tr, ges_ite, ges_tup, ges_lst, ges_idx, ges_slc0, ges_slcL, ges_slcH, ges_slcB, ges_call, gex_call, ges_bi, gex_bi, ges_comp, ges_dnew, ges_dnew1, ges_dcomp, ges_and, ges_or, ges_vand, ges_vor, ges_not, ges_split, ges_join, ges_starts, ge_pnm, ge_ptup, ge_pnil, g_pc, ge_pcons, lk_0, lk_1, lk_2, lk_3, fo_nil, fo_cons, fo_app, fo_nx, fo_ct, fo_bk, fo_rt])
local macro_rules | `(tactic| walk_at "vl*") => `(tactic| try simp only [str_beq, String.reduceBEq, beq_self_eq_true, Option.map_some, vs_nil, vs_cons, tv_nx, tv_rt, tv_bk, tv_ct, Bool.not_true, Bool.not_false, if_true, rv_ok, rv_exc, ov_some, gv_true, nxV_ok, retV, putD, wipeD, List.getElem?_cons_zero, List.getElem?_cons_succ, List.set_cons_zero, List.set_cons_succ, List.length_cons, List.length_nil, atI_0, atI_1, atI_2, atI_3, atI_4, atI_5, ixN_0, ixN_1, ixN_2, ixN_3, lA_0, lA_1, lA_2, lA_3, lA_4, lA_5, lA_6, lA_7, lA_8, cA_0, cA_1, cA_2, cA_3, cA_4, cA_5, cA_6, cA_7, cA_8, cD_0, cD_1, cD_2, cD_3, cD_4, cD_5, cD_6, cD_7, cD_8, o_0, o_1, o_2, o_3, o_4, o_5, o_6, o_7, o_8, o_9, o_10, o_11, o_12, o_13, o_14, o_15, o_16, o_17, o_18, o_19, o_20, o_21, o_22, o_23, o_24, y_addI, y_addS, y_addT, y_addL, y_sub, y_eqStr, y_eqInt, y_eqBl, y_eq, y_ne, y_ltI, y_gt, y_le, y_ge, y_inn, y_nin, y_isnN, y_isnB, y_isnI, y_isnS, y_isnT, y_isnL, y_isnnN, y_isnnB, y_isnnI, y_isnnS, y_isnnT, y_isnnL, y_inT, y_inL, y_inS, y_idxT, y_idxL, y_idxS, y_inD, y_idxD, y_lenD, y_putD, y_putL, y_isnD, y_isnnD, y_slcT, y_slcL, y_slcS, y_lenS, y_lenT, y_lenL, y_int, y_intB, y_abs, y_max2, y_min2, y_max1, y_sum, y_listT, y_listL, y_tupT, y_tupL, y_strI, y_all, y_any, y_split, y_starts, y_joinL, y_reprB, y_rcS, y_rcW, y_rcJ, y_asB, y_asI, y_trN, y_trB, y_trI, y_trT, y_trL, y_itT, y_itL, y_itS, y_itRL, y_itRT, y_app, y_extT, y_ext, g_bl, g_bin, g_negi, g_neg, g_cmpb, g_cmp, g_c3cT, g_c3cF, g_c3b, g_c3, g_tr, g_notb, g_not, g_and2T, g_and2F, g_and, g_or2T, g_or2F, g_or, g_vand2T, g_vand2F, g_vand, g_vor2T, g_vor2F, g_vor, g_ite2T, g_ite2F, g_ite, g_idx, g_sl0, g_slL3, g_slL2, g_slL, g_slH3, g_slH2, g_slH, g_slB5, g_slB4, g_slB3, g_slB2, g_slB, g_me3, g_me2, g_me, g_es2, g_es, ge_c, ge_g, ge_bin, ge_neg, ge_cmp, ge_cmp3, ge_tr, ge_not, ge_and, ge_or, ge_vand, ge_vor, ge_ite, g_tup, g_lst, ge_tup, ge_lst, ge_idx, ge_sl0, ge_slL, ge_slH, ge_slB, ge_call, ge_bi, ge_meth, g_co4, g_co3, g_co2, g_co, ge_comp, ge_nil, ge_cons, g_nx, g_ex, g_ret, g_if2T, g_if2F, g_if, g_pr2, g_pr, ge_ret, ge_if, ge_par, ge_brk, ge_cnt, ge_pass, ge_v, ge_whl, g_dn3, g_dn2, g_dn1, ge_dnew1, ge_dnew, g_dc3, g_dc2, g_dc, ge_dcomp, g_fr3, g_fr2, g_fr, ge_fr, g_ag2, g_ag, ge_aug, g_mt4, g_mt3, g_mt2, g_mt, g_mx, g_ms, ge_mappend, ge_sappend, ge_mpop0, ge_spop0, ge_mpop1, ge_spop1, ge_mextend, ge_sextend, ge_minsert, ge_sinsert, ge_mreverse, ge_sreverse, g_su5, g_su4, g_su3, g_su1, g_su, ge_sub, g_set, ge_setT, ges_c, ges_v, ges_g, ges_bin, ges_neg, ges_cmp, ges_cmp3, ges_tr, ges_ite, ges_tup, ges_lst, ges_idx, ges_slc0, ges_slcL, ges_slcH, ges_slcB, ges_call, gex_call, ges_bi, gex_bi, ges_comp, ges_dnew, ges_dnew1, ges_dcomp, ges_and, ges_or, ges_vand, ges_vor, ges_not, ges_split, ges_join, ges_starts, ge_pnm, ge_ptup, ge_pnil, g_pc, ge_pcons, lk_0, lk_1, lk_2, lk_3, fo_nil, fo_cons, fo_app, fo_nx, fo_ct, fo_bk, fo_rt, *])
/-- the tape -/
structure Tp (S : Store) (t : Nat) : Prop where
  ex : ∃ l xs p b c, S[t]? = some (.lst [.loc l, .int p, .int b, .int c]) ∧ S[l]? = some (.lst xs) ∧ (∀ x ∈ xs, ∃ i, x = D.int i) ∧ 0 ≤ p ∧ 0 ≤ b ∧ 0 ≤ c ∧ l < t
/-- all but the tape stands -/
structure Fr (t : Nat) (S S' : Store) : Prop where
  len : S.length ≤ S'.length
  keep : ∀ (i : Nat) c, i ≠ t → S[i]? = some c → S'[i]? = some c
  tp : Tp S' t
theorem tp_lt {S : Store} {t : Nat} (h : Tp S t) : t < S.length := by
  obtain ⟨l, xs, p, b, c, ht, _⟩ := h
  exact (List.getElem?_eq_some_iff.mp ht).1
/-- the tape's cell is written -/
theorem fr_set {S : Store} {t l : Nat} {xs : List D} {p b c p' b' c' : Int} (ht : S[t]? = some (.lst [.loc l, .int p, .int b, .int c])) (hl : S[l]? = some (.lst xs)) (hx : ∀ x ∈ xs, ∃ i, x = D.int i) (hp : 0 ≤ p') (hb : 0 ≤ b') (hc : 0 ≤ c') (hne : l < t) :
    Fr t S (S.set t (.lst [.loc l, .int p', .int b', .int c'])) := by
  have hlt := (List.getElem?_eq_some_iff.mp ht).1
  refine ⟨by simp, fun i c hi h => ?_, l, xs, p', b', c', ?_, ?_, hx, hp, hb, hc, hne⟩
  · rw [List.getElem?_set_ne (fun z => hi z.symm)]; exact h
  · rw [List.getElem?_set_self hlt]
  · rw [List.getElem?_set_ne (by omega)]; exact hl
set_option maxHeartbeats 4000000 in
theorem r_draw {n t : Nat} {S : Store} {m : Int} (hn : 1 ≤ n) (h : Tp S t) (hm : m < 1000000) : wp (callN defs glob n "_law_draw" [.loc t, .int m]) (fun d S' => ∃ v, d = .int v ∧ 0 ≤ v ∧ v < max m 1 ∧ Fr t S S') S := by
  obtain ⟨n, rfl⟩ : ∃ k, n = k + 1 := ⟨n - 1, by omega⟩
  obtain ⟨l, xs, p, b, c, ht, hl, hx, hp, hb, hc, hne⟩ := h
  have hlt := (List.getElem?_eq_some_iff.mp ht).1
  have s1 : ∀ c, (S.set t c)[t]? = some c := fun c => List.getElem?_set_self hlt
  have s2 : ∀ c, (S.set t c)[l]? = some (.lst xs) := fun c => by rw [List.getElem?_set_ne (by omega)]; exact hl
  have md : ∀ v : Int, 0 ≤ v → 0 ≤ v % max m 1 ∧ v % max m 1 < max m 1 := fun v hv => ⟨Int.emod_nonneg _ (by omega), Int.emod_lt_of_pos _ (by omega)⟩
  have mx1 : (if (1 : Int) > m then 1 else m) = max m 1 := by split <;> omega
  have mx2 : (if (2 : Int) > m then 2 else m) = max m 2 := by split <;> omega
  have g1 : decide (0 < max m 1) = true := by simp; omega
  have g2 : (decide (0 < max m 2) && decide (max m 2 < 1073741824)) = true := by simp; omega
  have g3 : decide ((0 : Int) < 2147483647) = true := by decide
  have g4 : decide ((0 : Int) < 2147483629) = true := by decide
  have g5 : ∀ v : Int, cMul v 48271 = true := fun v => by simp [cMul]
  have g6 : ∀ v : Int, cMul v 69621 = true := fun v => by simp [cMul]
  have g7 : (decide ((0 : Int) ≤ 18) && decide ((18 : Int) ≤ 1000000) && decide ((10 : Int).natAbs < 2 ^ 64)) = true := by decide
  have g8 : ∀ v : Int, 0 ≤ v % 2147483647 := fun v => Int.emod_nonneg _ (by decide)
  have g9 : ∀ v : Int, 0 ≤ v % 2147483629 := fun v => Int.emod_nonneg _ (by decide)
  have keep : S.set t (.lst [.loc l, .int p, .int b, .int c]) = S := by
    apply List.ext_getElem?
    intro j
    by_cases hj : t = j
    · subst hj; rw [s1, ht]
    · rw [List.getElem?_set_ne hj]
  -- the last three statements
  have last : ∀ p' b' c' : Int, 0 ≤ p' → 0 ≤ b' → 0 ≤ c' → (∃ v, D.int (b' % max m 1) = D.int v ∧ 0 ≤ v ∧ v < max m 1 ∧ Fr t S (S.set t (.lst [.loc l, .int p', .int (b' / max m 2), .int c']))) := fun p' b' c' h1 h2 h3 =>
    ⟨_, rfl, (md _ h2).1, (md _ h2).2, fr_set ht hl hx h1 (Int.ediv_nonneg h2 (by omega)) h3 hne⟩
  have last2 : ∀ v p' c' : Int, 0 ≤ v → 0 ≤ p' → 0 ≤ c' → (∃ w, D.int (v % max m 1) = D.int w ∧ 0 ≤ w ∧ w < max m 1 ∧ Fr t S (S.set t (.lst [.loc l, .int p', .int 0, .int c']))) := fun v p' c' h0 h1 h3 =>
    ⟨_, rfl, (md _ h0).1, (md _ h0).2, fr_set ht hl hx h1 (by omega) h3 hne⟩
  refine x_call (d := d__law_draw) rfl rfl ?_
  show wp (evSs _ b__law_draw [some (.loc t), some (.int m), none, none]) _ S
  simp only [b__law_draw, b__law_draw_1, b__law_draw_2, b__law_draw_3]
  walk_at "mn"
  simp only [ht]
  walk_at "mn"
  by_cases hb0 : b = 0
  · subst hb0
    simp only [beq_self_eq_true]
    walk_at "mn*"
    by_cases hpl : p < xs.length
    · have hpx : xs[p.toNat]? = some (xs[p.toNat]'(by omega)) := List.getElem?_eq_getElem (by omega)
      obtain ⟨i, hi⟩ := hx _ (List.getElem_mem (show p.toNat < xs.length by omega))
      rw [hi] at hpx
      have hi0 : 0 ≤ (if i < 0 then -i else i) := by split <;> omega
      generalize hv : (if i < 0 then -i else i) = v at *
      have hat := atI_lt hp hpx
      simp only [hpl, decide_true]
      walk_at "mn*"
      by_cases hs : v < 10 ^ (18 : Int).toNat
      · simp only [hs, decide_true]
        walk_at "mn*"
        exact last2 _ _ _ (g9 _) (by omega) hc
      · simp only [hs, decide_false]
        walk_at "mn*"
        exact last _ _ _ (by omega) hi0 hc
    · simp only [hpl, decide_false]
      walk_at "mn*"
      have hs : (c * 48271 + p + 1) % 2147483647 < 10 ^ (18 : Int).toNat := by
        have := Int.emod_lt_of_pos (c * 48271 + p + 1) (show (0 : Int) < 2147483647 by decide)
        have e : (10 : Int) ^ (18 : Int).toNat = 1000000000000000000 := by decide
        omega
      simp only [hs, decide_true]
      walk_at "mn*"
      exact last2 _ _ _ (g9 _) (by omega) (g8 _)
  · have : (b == 0) = false := by simpa using hb0
    simp only [this]
    walk_at "mn*"
theorem Tp.push {S : Store} {t : Nat} (h : Tp S t) (c : Cell) : Tp (S ++ [c]) t := by
  obtain ⟨l, xs, p, b, d, ht, hl, r⟩ := h
  exact ⟨l, xs, p, b, d, ap_old ht, ap_old hl, r⟩
theorem Tp.set {S : Store} {t L : Nat} (h : Tp S t) (hL : t < L) (c : Cell) : Tp (S.set L c) t := by
  obtain ⟨l, xs, p, b, d, ht, hl, h1, h2, h3, h4, h5⟩ := h
  exact ⟨l, xs, p, b, d, by rw [List.getElem?_set_ne (by omega)]; exact ht, by rw [List.getElem?_set_ne (by omega)]; exact hl, h1, h2, h3, h4, h5⟩
theorem Fr.refl {S : Store} {t : Nat} (h : Tp S t) : Fr t S S := ⟨Nat.le_refl _, fun _ _ _ h => h, h⟩
theorem Fr.trans {S S1 S2 : Store} {t : Nat} (a : Fr t S S1) (b : Fr t S1 S2) : Fr t S S2 :=
  ⟨Nat.le_trans a.len b.len, fun i c h g => b.keep i c h (a.keep i c h g), b.tp⟩
theorem Fr.push {S S1 : Store} {t : Nat} (a : Fr t S S1) (c : Cell) : Fr t S (S1 ++ [c]) :=
  ⟨by have := a.len; simp; omega, fun i d h g => ap_old (a.keep i d h g), a.tp.push c⟩
theorem Fr.set {S S1 : Store} {t L : Nat} (a : Fr t S S1) (ht : t < S.length) (hL : S.length ≤ L) (c : Cell) : Fr t S (S1.set L c) :=
  ⟨by have := a.len; simp; omega, fun i d h g => by
    have := (List.getElem?_eq_some_iff.mp g).1
    rw [List.getElem?_set_ne (by omega)]; exact a.keep i d h g, a.tp.set (by omega) c⟩
/-- the words of a file -/
def wordsD : List D := [D.str "let", D.str "if", D.str "else", D.str "while", D.str "for", D.str "break", D.str "continue", D.str "return", D.str "try", D.str "finally", D.str "true", D.str "false"]
theorem wordsD_eq : [D.str (Str.ofString "let"), D.str (Str.ofString "if"), D.str (Str.ofString "else"), D.str (Str.ofString "while"), D.str (Str.ofString "for"), D.str (Str.ofString "break"), D.str (Str.ofString "continue"), D.str (Str.ofString "return"), D.str (Str.ofString "try"), D.str (Str.ofString "finally"), D.str (Str.ofString "true"), D.str (Str.ofString "false")] = wordsD := rfl
def NmL (xs : List D) : Prop := ∀ x ∈ xs, ∃ s, x = D.str s ∧ Ws 70 s
theorem NmL.flat {xs : List D} (h : NmL xs) : ∀ x ∈ xs, flatD x = true := fun x hx => by obtain ⟨s, rfl, _⟩ := h x hx; rfl
theorem NmL.snoc {xs : List D} {s : Str} (h : NmL xs) (hs : Ws 70 s) : NmL (xs ++ [.str s]) := fun x hx => by
  rcases List.mem_append.mp hx with hx | hx
  · exact h x hx
  · have : x = .str s := by simpa using hx
    exact ⟨s, this, hs⟩
theorem wordsD_nm : NmL wordsD := fun d hd => by
  obtain ⟨s, h, hs⟩ := all_ws (k := 8) (xs := wordsD) (by decide +kernel) d hd
  exact ⟨s, h, hs.mono (by decide)⟩
structure NInv (t W L : Nat) (S0 : Store) (acc : List D) (S : Store) : Prop where
  f : Fr t S0 S
  w : S[W]? = some (.lst wordsD)
  l : S[L]? = some (.lst acc)
  a : NmL acc
  n : acc.length < 2000000
structure NCtx (t W L : Nat) (S0 : Store) : Prop where
  a : t < S0.length
  b : S0.length ≤ W
  c : W < L
abbrev sgn : Str := "abcdefghijklmnopqrstuvwxyzABCDEFGHIJKLMNOPQRSTUVWXYZ0123456789_"
theorem sgn_ws : Ws 63 sgn := by decide +kernel
theorem sgn_len : sgn.length = 63 := by decide +kernel
abbrev nenv (t W L : Nat) (m st pl k nm j ch : Option D) : Nv := [some (.loc t), m, some (.str sgn), some (.loc W), st, pl, some (.loc L), k, nm, j, ch]
theorem NInv.fr {t W L : Nat} {S0 S S' : Store} {acc : List D} (c : NCtx t W L S0) (i : NInv t W L S0 acc S) (f : Fr t S S') : NInv t W L S0 acc S' :=
  have := c.a; have := c.b; have := c.c
  ⟨i.f.trans f, f.keep _ _ (by omega) i.w, f.keep _ _ (by omega) i.l, i.a, i.n⟩
section
variable {n t W L : Nat} {S0 S : Store} {m st pl j : Option D} {acc : List D} {nm : Str} {k ch : Int} {Q : Mn.Flow × Nv → Store → Prop}
/-- what the row of a name leads to -/
def NOut (t W L : Nat) (S0 : Store) (acc : List D) (m st pl j : Option D) (k ch : Int) (Q : Mn.Flow × Nv → Store → Prop) : Prop :=
  ∀ S' s, Ws 70 s → Fr t S0 S' → S'[W]? = some (.lst wordsD) → S'[L]? = some (.lst (acc ++ [.str s])) → Q (.nx, nenv t W L m st pl (some (.int k)) (some (.str s)) j (some (.int ch))) S'
theorem names_1 (c : NCtx t W L S0) (i : NInv t W L S0 acc S) (hw : Ws 70 nm) (q : NOut t W L S0 acc m st pl j k ch Q) : wpx (evSs ⟨glob, callN defs glob n⟩ b__law_names_1 (nenv t W L m st pl (some (.int k)) (some (.str nm)) j (some (.int ch)))) Q E0x S := by
  simp only [b__law_names_1, nenv]
  walk_at "mn"
  simp only [i.l]
  walk_at "mn"
  have := c.a; have := c.b; have := c.c
  have := (List.getElem?_eq_some_iff.mp i.l).1
  refine ⟨by have := i.n; rw [decide_eq_true_eq]; show _ < 16777216; omega, q _ _ hw (i.f.set c.a (by omega) _) ?_ ?_⟩
  · rw [List.getElem?_set_ne (by omega)]; exact i.w
  · rw [List.getElem?_set_self (by omega)]
theorem names_2 (c : NCtx t W L S0) (i : NInv t W L S0 acc S) (hw : Ws 70 nm) (hk : 0 ≤ k) (hk2 : k < 1000000) (q : NOut t W L S0 acc m st pl j k ch Q) : wpx (evSs ⟨glob, callN defs glob n⟩ b__law_names_2 (nenv t W L m st pl (some (.int k)) (some (.str nm)) j (some (.int ch)))) Q E0x S := by
  simp only [b__law_names_2, nenv]
  walk_at "mn"
  try simp only [c_inn, inM]
  walk_at "mn"
  simp only [i.w]
  walk_at "mn"
  obtain ⟨b1, e1⟩ := inAll_flat (x := .str nm) rfl wordsD_nm.flat
  simp only [e1]
  walk_at "mn"
  have fin : Ws 70 (Str.ofString "one_of_two_equal_names_" ++ Str.ofString (toString k)) :=
    (Ws.add (show Ws 23 _ by decide +kernel) (Ws.num hk (by omega))).mono (by decide)
  have g : decide (k.natAbs.log2 < 1920) = true := log_small (by omega)
  have g2 : ok2 ((Str.ofString "one_of_two_equal_names_").length + (Str.ofString (toString k)).length) = true :=
    Ws.ok22 (show Ws 23 _ by decide +kernel) (Ws.num hk (by omega)) (by decide)
  cases b1 with
  | true =>
    walk_at "mn"
    try simp only [u_strI]
    walk_at "mn*"
    exact names_1 c i fin q
  | false =>
    walk_at "mn"
    simp only [i.l]
    walk_at "mn"
    obtain ⟨b2, e2⟩ := inAll_flat (x := .str nm) rfl i.a.flat
    simp only [e2]
    walk_at "mn"
    cases b2 with
    | true =>
      walk_at "mn"
      try simp only [u_strI]
      walk_at "mn*"
      exact names_1 c i fin q
    | false =>
      walk_at "mn"
      exact names_1 c i hw q
theorem w_word {W : Nat} {S : Store} {v : Int} {R : D → Store → Prop} (hW : S[W]? = some (.lst wordsD)) (h0 : 0 ≤ v) (h1 : v < 12) (h : ∀ s, Ws 8 s → R (.str s) S) : ∃ xs, rdC S[W]? = some xs ∧ wpx (opt (atI xs v)) R E0x S := by
  rw [hW, rdC_lst, ex_some]
  refine w_pick (P := fun d => ∃ s, d = .str s ∧ Ws 8 s) h0 h1 (all_ws (by decide +kernel)) ?_
  rintro _ ⟨s, rfl, hs⟩
  exact h s hs
theorem names_3 (c : NCtx t W L S0) (hn : 1 ≤ n) (i : NInv t W L S0 acc S) (hw : Ws 70 nm) (hk : 0 ≤ k) (hk2 : k < 1000000) (q : NOut t W L S0 acc m st pl j k ch Q) : wpx (evSs ⟨glob, callN defs glob n⟩ b__law_names_3 (nenv t W L m st pl (some (.int k)) (some (.str nm)) j (some (.int ch)))) Q E0x S := by
  simp only [b__law_names_3, nenv]
  walk_at "mn"
  by_cases h : ch = 2
  · subst h
    simp only [beq_self_eq_true]
    walk_at "mn"
    refine wpx_of_wp (r_draw hn i.f.tp (by decide)) ?_
    rintro _ S1 ⟨v, rfl, v0, v1, f1⟩
    walk_at "mn"
    refine gc_of (w_word (i.fr c f1).w v0 v1 ?_)
    intro s hs
    walk_at "mn"
    try simp only [sl_S, wpx_bind, wpx_guard]
    refine ⟨hs.ok2 (by decide), ?_⟩
    walk_at "mn"
    exact names_2 c (i.fr c f1) (hs.cut.mono (by decide)) hk hk2 q
  · have e : (ch == 2) = false := by simpa using h
    simp only [e]
    walk_at "mn"
    exact names_2 c i hw hk hk2 q
theorem names_4 (c : NCtx t W L S0) (hn : 1 ≤ n) (i : NInv t W L S0 acc S) (hw : Ws 60 nm) (hk : 0 ≤ k) (hk2 : k < 1000000) (q : NOut t W L S0 acc m st pl j k ch Q) : wpx (evSs ⟨glob, callN defs glob n⟩ b__law_names_4 (nenv t W L m st pl (some (.int k)) (some (.str nm)) j (some (.int ch)))) Q E0x S := by
  simp only [b__law_names_4, nenv]
  walk_at "mn"
  by_cases h : ch = 1
  · subst h
    simp only [beq_self_eq_true]
    walk_at "mn"
    refine wpx_of_wp (r_draw hn i.f.tp (by decide)) ?_
    rintro _ S1 ⟨v, rfl, v0, v1, f1⟩
    walk_at "mn"
    refine gc_of (w_word (i.fr c f1).w v0 v1 ?_)
    intro s hs
    walk_at "mn"
    try simp only [sl_S, wpx_bind, wpx_guard]
    refine ⟨hw.ok2 (by decide), ?_⟩
    walk_at "mn"
    refine ⟨hs.ok22 hw.cut (by decide), ?_⟩
    exact names_3 c hn (i.fr c f1) ((hs.add hw.cut).mono (by decide)) hk hk2 q
  · have e : (ch == 1) = false := by simpa using h
    simp only [e]
    walk_at "mn"
    exact names_3 c hn i (hw.mono (by decide)) hk hk2 q
theorem names_6 {ch : Option D} {k : Int} (c : NCtx t W L S0) (hn : 1 ≤ n) (i : NInv t W L S0 acc S) (hw : Ws 30 nm) (hk : 0 ≤ k) (hk2 : k < 1000000) (q : ∀ ch : Int, NOut t W L S0 acc m st pl j k ch Q) : wpx (evSs ⟨glob, callN defs glob n⟩ b__law_names_6 (nenv t W L m st pl (some (.int k)) (some (.str nm)) j ch)) Q E0x S := by
  simp only [b__law_names_6, nenv]
  walk_at "mn"
  refine wpx_of_wp (r_draw hn i.f.tp (by decide)) ?_
  rintro _ S1 ⟨v, rfl, v0, v1, f1⟩
  walk_at "mn"
  by_cases h : v = 0
  · subst h
    simp only [beq_self_eq_true]
    walk_at "mn"
    try simp only [u_lenS]
    walk_at "mn"
    refine ⟨hw.ok2 (by decide), ?_⟩
    simp only [b_mulS]
    walk_at "mn"
    have := hw.1
    have e : (⟨(Mn.rep (Str.ofString "x").cps.toList (30 - (nm.length : Int)).toNat).toArray⟩ : Str) = ⟨(Mn.rep [120] (30 - (nm.length : Int)).toNat).toArray⟩ := rfl
    have hx := (Ws.repeat (n := (30 - (nm.length : Int)).toNat) (show 120 < 128 by decide)).mono (show _ ≤ 30 by omega)
    refine ⟨by rw [show (Str.ofString "x").length = 1 from rfl]; simp; omega, ?_⟩
    rw [e]
    refine ⟨hw.ok22 hx (by decide), ?_⟩
    exact names_4 c hn (i.fr c f1) (hw.add hx) hk hk2 (q _)
  · have e : (v == 0) = false := by simpa using h
    simp only [e]
    walk_at "mn"
    exact names_4 c hn (i.fr c f1) (hw.mono (by decide)) hk hk2 (q _)
end
section
variable {n t W L : Nat} {S0 S : Store} {m st pl j : Option D} {acc : List D} {nm : Str} {k ch : Int} {Q : Mn.Flow × Nv → Store → Prop}
theorem names_7 {nm j ch : Option D} {s : Str} {p : Int} {k : Int} (c : NCtx t W L S0) (hn : 1 ≤ n) (i : NInv t W L S0 acc S) (hs : Ws 10 s) (hk : 0 ≤ k) (hk2 : k < 1000000) (q : ∀ j, ∀ ch : Int, NOut t W L S0 acc m (some (.str s)) (some (.int p)) j k ch Q) : wpx (evSs ⟨glob, callN defs glob n⟩ b__law_names_7 (nenv t W L m (some (.str s)) (some (.int p)) (some (.int k)) nm j ch)) Q E0x S := by
  simp only [b__law_names_7, nenv]
  walk_at "mn"
  try simp only [sl_S]
  walk_at "mn"
  refine ⟨hs.ok2 (by decide), ?_⟩
  refine wpx_of_wp (r_draw hn i.f.tp (by decide)) ?_
  rintro _ S1 ⟨v, rfl, v0, v1, f1⟩
  walk_at "mn"
  refine w_sign sgn_ws (by decide) v0 (by rw [sgn_len]; omega) ?_
  intro x hx
  walk_at "mn"
  have w1 := (hs.cut (lo := none) (hi := some p)).add hx
  have w2 := w1.add (hs.cut (lo := some p) (hi := none))
  refine ⟨(hs.cut (lo := none) (hi := some p)).ok22 hx (by decide), ?_⟩
  walk_at "mn"
  refine ⟨hs.ok2 (by decide), ?_⟩
  walk_at "mn"
  refine ⟨w1.ok22 hs.cut (by decide), ?_⟩
  walk_at "mn"
  refine wpx_of_wp (r_draw hn (f1.push _).tp (by decide)) ?_
  rintro _ S2 ⟨v', rfl, v0', v1', f2⟩
  walk_at "mn"
  have f12 := (f1.push _).trans f2
  have hl := f2.keep _ _ (by have := tp_lt f1.tp; omega) ap_self
  simp only [hl]
  walk_at "mn"
  refine w_pick (P := fun d => ∃ i, d = .int i ∧ 0 ≤ i ∧ i ≤ 6) v0' v1' (all_in (by decide +kernel)) ?_
  rintro _ ⟨g, rfl, g0, g1⟩
  walk_at "mn"
  simp only [k_r1n g0 (show g < 1000000000 by omega)]
  walk_at "mn"
  have i2 := i.fr c f12
  refine for_rng (fun q env S' => ∃ (nm' : Str) (j' : Option D), env = nenv t W L m (some (.str s)) (some (.int p)) (some (.int k)) (some (.str nm')) j' ch ∧ Ws (21 + q) nm' ∧ NInv t W L S0 acc S') g0 (by omega) ⟨_, _, rfl, w2.mono (by decide), i2⟩ ?_ ?_
  · rintro q env S' hq ⟨nm', j', rfl, hw', i'⟩
    simp only [nenv, b__law_names_5]
    walk_at "mn"
    refine wpx_of_wp (r_draw hn i'.f.tp (by decide)) ?_
    rintro _ S3 ⟨v3, rfl, v30, v31, f3⟩
    walk_at "mn"
    refine w_sign sgn_ws (by decide) v30 (by rw [sgn_len]; omega) ?_
    intro y hy
    walk_at "mn"
    exact ⟨hw'.ok22 hy (by omega), _, _, rfl, hw'.add hy, i'.fr c f3⟩
  · rintro env S' ⟨nm', j', rfl, hw', i'⟩
    rw [then_nx]
    exact names_6 c hn i' (hw'.mono (by omega)) hk hk2 (q _)
end
set_option maxHeartbeats 4000000 in
theorem r_names {n t : Nat} {S : Store} {m : Int} (hn : 2 ≤ n) (h : Tp S t) (h0 : 0 ≤ m) (hm : m < 1000000) : wp (callN defs glob n "_law_names" [.loc t, .int m]) (fun d S' => ∃ L xs, d = .loc L ∧ S.length ≤ L ∧ S'[L]? = some (.lst xs) ∧ xs.length = m.toNat ∧ NmL xs ∧ Fr t S S') S := by
  obtain ⟨n, rfl⟩ : ∃ k, n = k + 1 := ⟨n - 1, by omega⟩
  refine x_call (d := d__law_names) rfl rfl ?_
  show wp (evSs _ b__law_names [some (.loc t), some (.int m), none, none, none, none, none, none, none, none, none]) _ S
  simp only [b__law_names]
  walk_at "mn"
  have ht := tp_lt h
  simp only [wordsD_eq]
  have f0 := ((Fr.refl h).push (.lst wordsD)).push (.lst [D.str (Str.ofString ""), D.str (Str.ofString ""), D.str (Str.ofString "sharedStem"), D.str (Str.ofString "while_x")])
  refine wpx_of_wp (r_draw (by omega) f0.tp (by decide)) ?_
  rintro _ S1 ⟨v, rfl, v0, v1, f1⟩
  walk_at "mn"
  have e1 := f1.keep _ _ (by simp only [List.length_append]; omega) ap_self
  have e0 := f1.keep _ _ (by omega) (ap_old ap_self)
  simp only [e1]
  walk_at "mn"
  refine w_pick (P := fun d => ∃ s, d = .str s ∧ Ws 10 s) v0 v1 (all_ws (by decide +kernel)) ?_
  rintro _ ⟨s, rfl, hs⟩
  try simp only [u_lenS]
  walk_at "mn"
  refine ⟨hs.ok2 (by decide), ?_⟩
  refine wpx_of_wp (r_draw (by omega) f1.tp (by have := hs.1; omega)) ?_
  rintro _ S2 ⟨p, rfl, p0, p1, f2⟩
  walk_at "mn"
  walk_at "mn"
  simp only [k_r1n h0 (show m < 1000000000 by omega)]
  walk_at "mn"
  have f12 := (f0.trans f1).trans f2
  have hl0 := f0.len
  have hl1 := f1.len
  have hl2 := f2.len
  simp only [List.length_append, List.length_cons, List.length_nil] at hl0 hl1
  have c : NCtx t S.length S2.length S := ⟨ht, Nat.le_refl _, by omega⟩
  refine for_rng (fun q env S' => ∃ (acc : List D) (k nm j ch : Option D), env = nenv t S.length S2.length (some (.int m)) (some (.str s)) (some (.int p)) k nm j ch ∧ NInv t S.length S2.length S acc S' ∧ acc.length = q) h0 (by omega) ⟨[], _, _, _, _, rfl, ⟨f12.push _, ap_old (f2.keep _ _ (by omega) e0), ap_self, fun _ h => (nomatch h), by decide⟩, rfl⟩ ?_ ?_
  · rintro q env S' hq ⟨acc, k, nm, j, ch, rfl, i', hq'⟩
    simp only [nenv]
    walk_at "mn"
    refine names_7 c (by omega) i' hs (by omega) (by omega) ?_
    intro j ch S3 s3 hs3 f3 w3 l3
    exact ⟨_, _, _, _, _, rfl, ⟨f3, w3, l3, i'.a.snoc hs3, by simp; omega⟩, by simp; omega⟩
  · rintro env S' ⟨acc, k, nm, j, ch, rfl, i', hq'⟩
    rw [then_nx]
    simp only [nenv, b__law_names_8]
    walk_at "mn"
    exact ⟨_, _, rfl, by omega, i'.l, hq', i'.a, i'.f⟩
set_option maxHeartbeats 4000000 in
theorem r_tape {n : Nat} {ns : List Int} (hn : 1 ≤ n) (hl : ns.length ≤ 63) : wp (callN defs glob n "_law_tape" [.loc 0]) (fun d S' => ∃ t, d = .loc t ∧ Tp S' t) [.ro (ns.map D.int)] := by
  obtain ⟨n, rfl⟩ : ∃ k, n = k + 1 := ⟨n - 1, by omega⟩
  refine x_call (d := d__law_tape) rfl rfl ?_
  show wp (evSs _ b__law_tape [some (.loc 0), none, none]) _ _
  simp only [b__law_tape]
  walk_at "mn"
  refine for_items (ns.map D.int) (fun i env S' => ∃ (v : Int) (z : Option D), env = [some (.loc 0), some (.int v), z] ∧ 0 ≤ v ∧ S' = [.ro (ns.map D.int)]) (fuel_big (by simp; omega)) ⟨7, none, rfl, by decide, rfl⟩ (fun i env S _ h => by obtain ⟨v, z, _, _, rfl⟩ := h; exact k_Lit rfl) ?_ ?_
  · rintro i d env S' hd ⟨v, z, rfl, hv, rfl⟩
    rw [List.getElem?_map] at hd
    cases ea : ns[i]? with
    | none => rw [ea] at hd; cases hd
    | some b =>
      rw [ea] at hd
      cases hd
      have g5 : ∀ v : Int, cMul v 31 = true := fun v => by simp [cMul]
      have g3 : decide ((0 : Int) < 2147483647) = true := by decide
      simp only [b__law_tape_1]
      walk_at "mn*"
      exact ⟨_, _, rfl, Int.emod_nonneg _ (by decide), rfl⟩
  · rintro env S' ⟨v, z, rfl, hv, rfl⟩
    rw [then_nx]
    simp only [b__law_tape_2]
    walk_at "mn"
    refine ⟨2, rfl, 1, ns.map D.int, 0, 0, v, rfl, rfl, ?_, by decide, by decide, hv, by decide⟩
    intro x hx
    obtain ⟨i, _, rfl⟩ := List.mem_map.mp hx
    exact ⟨i, rfl⟩
open PySem.StrLaws PyProof.Rows
theorem g_WRD : glob "WORD_CHARACTERS" = some (.str Tk.WRD) := rfl
theorem g_LET : glob "LETTERS" = some (.str Tk.LET) := rfl
theorem g_DIG : glob "DIGITS" = some (.str Tk.DIG) := rfl
theorem g_LON : glob "LONGEST_NAME" = some (.int 30) := rfl
theorem g_BLK : glob "BLANKS" = some (.str Tk.BLK) := rfl
theorem g_SYM : glob "SYMBOLS" = some (.str Tk.SYM) := rfl
theorem g_LSY : glob "LONG_SYMBOLS" = some (.tup [.str "&&", .str "||"]) := rfl
/-- a sign of the text -/
theorem y_sign {s : Str} {p c : Nat} (hs : s.length ≤ 100000) (h : s.cps.toList[p]? = some c) : idxV (.str s) (.int (p : Nat)) = .ok (.str ⟨#[c]⟩) := by
  have hl : guardV (ok2 s.length) = .ok () := y_ok2 (by omega)
  rw [y_idxS, hl, rv_ok, atI_nat h]
  rfl
theorem in_sign {x : Str} {c : Nat} : inV (.str ⟨#[c]⟩) (.str x) = .ok (Tk.mem x c) := by
  rw [y_inS, found_one]
  rfl
theorem v_end_of {n p : Nat} {s X : Str} (hn : 1 ≤ n) (hs : s.length ≤ 100000) (hp : p ≤ s.cps.toList.length) : callV defs glob n "end_of" [.str s, .int (p : Nat), .str X] = .ok (.int (Tk.endW s.cps.toList X p : Nat)) := by
  obtain ⟨n, rfl⟩ : ∃ k, n = k + 1 := ⟨n - 1, by omega⟩
  refine y_call (d := d_end_of) rfl (by decide +kernel) rfl ?_
  show (vSs _ b_end_of [some (.str s), some (.int (p : Nat)), some (.str X)]).bind retV = _
  have hl : guardV (ok2 s.length) = .ok () := y_ok2 (by omega)
  have hL : s.cps.toList.length = s.length := len_cps s
  simp only [b_end_of]
  walk_at "vl"
  have hw : whileV (vE ⟨glob, callV defs glob n⟩ e_end_of_1) (vSs ⟨glob, callV defs glob n⟩ b_end_of_2) FUEL [some (.str s), some (.int (p : Nat)), some (.str X)] = .ok (.nx, [some (.str s), some (.int (Tk.endW s.cps.toList X p : Nat)), some (.str X)]) := by
    refine whileV_x (R := fun r => r = .ok (.nx, [some (.str s), some (.int (Tk.endW s.cps.toList X p : Nat)), some (.str X)])) (fun m env => ∃ q : Nat, env = [some (.str s), some (.int (q : Nat)), some (.str X)] ∧ m = s.length - q ∧ q ≤ s.length ∧ Tk.endW s.cps.toList X q = Tk.endW s.cps.toList X p) ?_ FUEL (s.length - p) _ (by unfold FUEL; omega) ⟨p, rfl, rfl, by omega, rfl⟩
    rintro m env ⟨q, rfl, rfl, hq, he⟩
    simp only [e_end_of_1]
    walk_at "vl*"
    by_cases h1 : (q : Int) < (s.length : Int)
    · have h1' : q < s.cps.toList.length := by omega
      obtain ⟨c, hc⟩ : ∃ c, s.cps.toList[q]? = some c := ⟨_, List.getElem?_eq_getElem h1'⟩
      simp only [h1, decide_true]
      walk_at "vl"
      rw [atI_nat hc, hl]
      walk_at "vl"
      rw [found_one]
      walk_at "vl"
      refine ⟨Tk.mem X c, rfl, fun k => ?_, fun k => .inl ?_⟩
      · rw [← he, Tk.endW_stop hc k]
      · simp only [b_end_of_2]
        walk_at "vl"
        exact ⟨_, _, rfl, .inl rfl, _, Nat.lt_of_lt_of_eq (show s.length - (q + 1) < s.length - q by omega) rfl, q + 1, rfl, rfl, by omega, by rw [← he, Tk.endW_step hc k]⟩
    · simp only [h1, decide_false]
      walk_at "vl"
      refine ⟨_, rfl, fun _ => ?_, fun k => nomatch k⟩
      rw [← he, Tk.endW_end (by omega)]
  rw [hw]
  walk_at "vl"
  simp only [b_end_of_3]
  walk_at "vl"
open PySem.StrLaws PyProof.Rows
def nOk (t : Str) : Bool := match t.cps.toList with
  | [c] => Tk.mem Tk.DIG c
  | [c, d] => Tk.mem Tk.DIG c && (c != 48 && Tk.mem Tk.DIG d)
  | _ => false
theorem str_of {t : Str} {l : List Nat} (h : t.cps.toList = l) : t = ⟨l.toArray⟩ := by
  cases t
  subst h
  rfl
theorem sg_ne {c : Nat} : ((⟨#[c]⟩ : Str) == (Str.ofString "0")) = (c == 48) := by
  rw [Bool.eq_iff_iff, beq_iff_eq, beq_iff_eq]
  constructor
  · intro h
    have := congrArg (fun u : Str => u.cps.toList) h
    have : [c] = [48] := this
    simpa using this
  · rintro rfl
    rfl
theorem v_is_number {n : Nat} {t : Str} (hn : 1 ≤ n) (hs : t.length ≤ 100000) : callV defs glob n "is_number" [.str t] = .ok (.bl (nOk t)) := by
  obtain ⟨n, rfl⟩ : ∃ k, n = k + 1 := ⟨n - 1, by omega⟩
  refine y_call (d := d_is_number) rfl (by decide +kernel) rfl ?_
  show (vSs _ b_is_number [some (.str t)]).bind retV = _
  have hl : guardV (ok2 t.length) = .ok () := y_ok2 (by omega)
  have gA := g_DIG
  simp only [b_is_number, b_is_number_1]
  have hL := len_cps t
  unfold nOk
  rcases h : t.cps.toList with _ | ⟨c, _ | ⟨d, _ | ⟨e, r⟩⟩⟩
  · rw [h] at hL
    have b1 : ((t.length : Int) == 1) = false := by rw [← hL]; rfl
    have b2 : ((t.length : Int) == 2) = false := by rw [← hL]; rfl
    clear hL
    walk_at "vl*"
    walk_at "vl*"
  · rw [h] at hL
    have b1 : ((t.length : Int) == 1) = true := by rw [← hL]; rfl
    clear hL
    walk_at "vl*"
    rw [str_of h, found_one]
    rfl
  · rw [h] at hL
    have b1 : ((t.length : Int) == 1) = false := by rw [← hL]; rfl
    have b2 : ((t.length : Int) == 2) = true := by rw [← hL]; rfl
    clear hL
    walk_at "vl*"
    walk_at "vl*"
    rw [found_one]
    show _ = Rv.ok (D.bl (decide (c ∈ Tk.DIG.cps.toList) && _))
    cases h1 : decide (c ∈ Tk.DIG.cps.toList) with
    | false => walk_at "vl*"; rfl
    | true =>
      walk_at "vl*"
      rw [sg_ne]
      cases h2 : c == 48 with
      | true =>
        have h3 : (c != 48) = false := by rw [bne, h2]; rfl
        walk_at "vl*"
        rfl
      | false =>
        have h3 : (c != 48) = true := by rw [bne, h2]; rfl
        walk_at "vl*"
        rw [found_one]
        walk_at "vl*"
        rfl
  · rw [h] at hL
    have b1 : ((t.length : Int) == 1) = false := by rw [← hL]; simp; omega
    have b2 : ((t.length : Int) == 2) = false := by rw [← hL]; simp; omega
    clear hL
    walk_at "vl*"
    walk_at "vl*"
open PySem.StrLaws PyProof.Rows
theorem cut_end {s X : Str} {p : Nat} (hp : p ≤ s.cps.toList.length) : (cutS s (some (p : Nat)) (some (Tk.endW s.cps.toList X p : Nat))).cps.toList = (s.cps.toList.drop p).takeWhile (Tk.mem X) := by
  rw [Tk.cut_cps hp]
  have e : Tk.endW s.cps.toList X p - p = ((s.cps.toList.drop p).takeWhile (Tk.mem X)).length := by unfold Tk.endW; omega
  rw [e]
  exact (List.prefix_iff_eq_take.mp (List.takeWhile_prefix _)).symm
theorem num_cut {s : Str} {p c : Nat} (h : s.cps.toList[p]? = some c) (hc : Tk.mem Tk.DIG c = true) : nOk (cutS s (some (p : Nat)) (some (Tk.endW s.cps.toList Tk.DIG p : Nat))) = decide (Tk.endW s.cps.toList Tk.DIG p - p = 1 ∨ (Tk.endW s.cps.toList Tk.DIG p - p = 2 ∧ c ≠ 48)) := by
  obtain ⟨hl, e⟩ := List.getElem?_eq_some_iff.mp h
  have e1 : Tk.endW s.cps.toList Tk.DIG p - p = ((s.cps.toList.drop p).takeWhile (Tk.mem Tk.DIG)).length := by unfold Tk.endW; omega
  have e2 : (s.cps.toList.drop p).takeWhile (Tk.mem Tk.DIG) = c :: (s.cps.toList.drop (p + 1)).takeWhile (Tk.mem Tk.DIG) := by
    rw [List.drop_eq_getElem_cons hl, e, List.takeWhile_cons_of_pos hc]
  have hall : ∀ d ∈ (s.cps.toList.drop (p + 1)).takeWhile (Tk.mem Tk.DIG), Tk.mem Tk.DIG d = true := fun d hd => by
    have := List.all_takeWhile (p := Tk.mem Tk.DIG) (l := s.cps.toList.drop (p + 1))
    exact List.all_eq_true.mp this d hd
  unfold nOk
  rw [cut_end (by omega), e1, e2]
  generalize (s.cps.toList.drop (p + 1)).takeWhile (Tk.mem Tk.DIG) = r at hall
  rcases r with _ | ⟨d, _ | ⟨f, r⟩⟩
  · simp [hc]
  · have hd := hall d (by simp)
    simp [hc, hd, bne_iff_ne]
    rw [Bool.eq_iff_iff]; simp
  · simp
set_option maxHeartbeats 4000000 in
theorem v_token_at {n p c : Nat} {s : Str} (hn : 2 ≤ n) (hs : s.length ≤ 100000) (h : s.cps.toList[p]? = some c) : callV defs glob n "token_at" [.str s, .int (p : Nat)] = match Tk.tokAt s p c with
    | .tok k t _ => .ok (Tk.tD k t p)
    | .err r => .exc ⟨"TextError", [("place", .int (p : Nat)), ("reason", .str r)]⟩ := by
  obtain ⟨n, rfl⟩ : ∃ k, n = k + 1 := ⟨n - 1, by omega⟩
  refine y_call (d := d_token_at) rfl (by decide +kernel) rfl ?_
  show (vSs _ b_token_at [some (.str s), some (.int (p : Nat)), none, none, none]).bind retV = _
  have hl : guardV (ok2 s.length) = .ok () := y_ok2 (by omega)
  have hL : s.cps.toList.length = s.length := len_cps s
  obtain ⟨hp, _⟩ := List.getElem?_eq_some_iff.mp h
  have gA := g_LET
  have gB := g_WRD
  have gC := g_DIG
  have gD := g_LON
  have gE := g_SYM
  have gF := g_LSY
  have hA := atI_nat h
  simp only [b_token_at]
  walk_at "vl*"
  rw [found_one]
  unfold Tk.tokAt
  simp only []
  have m1 : ∀ X : Str, decide (c ∈ X.cps.toList) = Tk.mem X c := fun _ => rfl
  rw [m1]
  cases h1 : Tk.mem Tk.LET c with
  | true =>
    rw [if_pos rfl]
    simp only [b_token_at_7]
    walk_at "vl"
    simp only [gB]
    walk_at "vl"
    rw [v_end_of (by omega) hs (by omega)]
    walk_at "vl"
    have q1 := Tk.endW_le (l := s.cps.toList) (x := Tk.WRD) (p := p) (by omega)
    have q2 := Tk.endW_ge (l := s.cps.toList) (x := Tk.WRD) (p := p)
    have hw := Tk.cut_len q2 q1
    generalize Tk.endW s.cps.toList Tk.WRD p = q at *
    generalize cutS s (some (p : Nat)) (some (q : Nat)) = w at hw ⊢
    have hlw : guardV (ok2 w.length) = .ok () := y_ok2 (by omega)
    rw [hl]
    clear hL
    by_cases h30 : 30 < q - p
    · have d30 : decide ((30 : Int) < (w.length : Int)) = true := by rw [hw]; exact decide_eq_true (by omega)
      clear hw
      rw [if_pos h30]
      walk_at "vl*"
      rfl
    · have d30 : decide ((30 : Int) < (w.length : Int)) = false := by rw [hw]; exact decide_eq_false (by omega)
      clear hw
      rw [if_neg h30]
      walk_at "vl*"
      simp only [b_token_at_6]
      walk_at "vl*"
      rfl
  | false =>
    rw [if_neg Bool.false_ne_true]
    walk_at "vl*"
    simp only [b_token_at_8]
    walk_at "vl*"
    rw [found_one, m1]
    cases h2 : Tk.mem Tk.DIG c with
    | true =>
      rw [if_pos rfl]
      simp only [b_token_at_4]
      walk_at "vl"
      simp only [gC]
      walk_at "vl"
      rw [v_end_of (by omega) hs (by omega)]
      walk_at "vl"
      rw [hl]
      walk_at "vl"
      have q1 := Tk.endW_le (l := s.cps.toList) (x := Tk.DIG) (p := p) (by omega)
      have q2 := Tk.endW_ge (l := s.cps.toList) (x := Tk.DIG) (p := p)
      have hw := Tk.cut_len q2 q1
      rw [v_is_number (by omega) (by rw [hw]; omega), num_cut h h2]
      walk_at "vl"
      generalize cutS s (some (p : Nat)) (some (Tk.endW s.cps.toList Tk.DIG p : Nat)) = w at hw ⊢
      by_cases hk : Tk.endW s.cps.toList Tk.DIG p - p = 1 ∨ Tk.endW s.cps.toList Tk.DIG p - p = 2 ∧ c ≠ 48
      · rw [if_pos hk, decide_eq_true hk]
        walk_at "vl"
        simp only [b_token_at_3]
        walk_at "vl"
        rfl
      · rw [if_neg hk, decide_eq_false hk]
        walk_at "vl"
        rfl
    | false =>
      rw [if_neg Bool.false_ne_true]
      walk_at "vl*"
      simp only [b_token_at_5]
      walk_at "vl*"
      rw [found_one, m1]
      cases h3 : Tk.mem Tk.SYM c with
      | true =>
        rw [if_pos rfl]
        walk_at "vl*"
        rfl
      | false =>
        rw [if_neg Bool.false_ne_true]
        walk_at "vl*"
        simp only [b_token_at_2]
        walk_at "vl"
        rw [hl]
        walk_at "vl"
        simp only [gF]
        walk_at "vl"
        have e2 : ((p : Int) + 2) = ((p + 2 : Nat) : Int) := by omega
        rw [e2]
        generalize hW : cutS s (some (p : Nat)) (some ((p + 2 : Nat) : Int)) = w
        rw [show [D.str (Str.ofString "&&"), D.str (Str.ofString "||")] = [(Str.ofString "&&"), (Str.ofString "||")].map D.str from rfl, inAll_strs]
        by_cases hk : w = Str.ofString "&&" ∨ w = Str.ofString "||"
        · have ha : ([(Str.ofString "&&"), (Str.ofString "||")].any fun x => x == w) = true := by
            rw [List.any_eq_true]
            rcases hk with hk | hk
            · exact ⟨_, List.mem_cons_self .., by rw [hk, beq_self_eq_true]⟩
            · exact ⟨_, List.mem_cons_of_mem _ (List.mem_cons_self ..), by rw [hk, beq_self_eq_true]⟩
          rw [if_pos hk, ha]
          walk_at "vl"
          rw [hl]
          walk_at "vl"
          rw [e2, hW]
          rfl
        · have ha : ([(Str.ofString "&&"), (Str.ofString "||")].any fun x => x == w) = false := by
            rw [List.any_eq_false]
            intro x hx
            simp only [List.mem_cons, List.mem_nil_iff, or_false] at hx
            rcases hx with rfl | rfl
            · intro z; exact hk (.inl (eq_of_beq z).symm)
            · intro z; exact hk (.inr (eq_of_beq z).symm)
          rw [if_neg hk, ha]
          walk_at "vl"
          simp only [b_token_at_1]
          walk_at "vl"
          rfl
open PySem.StrLaws PyProof.Rows
/-- what tokens makes of a text -/
def tkR : (Nat × Str) ⊕ List D → Rv D
  | .inr acc => .ok (.tup acc)
  | .inl (p, r) => .exc ⟨"TextError", [("place", .int (p : Nat)), ("reason", .str r)]⟩
set_option maxHeartbeats 4000000 in
theorem v_tokens {n : Nat} {s : Str} (hn : 3 ≤ n) (hs : s.length ≤ 100000) : callV defs glob n "tokens" [.str s] = tkR (Tk.scan s (s.length + 1) 0 []) := by
  obtain ⟨n, rfl⟩ : ∃ k, n = k + 1 := ⟨n - 1, by omega⟩
  refine y_call (d := d_tokens) rfl (by decide +kernel) rfl ?_
  show (vSs _ b_tokens [some (.str s), none, none, none]).bind retV = _
  have hl : guardV (ok2 s.length) = .ok () := y_ok2 (by omega)
  have hL : s.cps.toList.length = s.length := len_cps s
  have gA := g_BLK
  simp only [b_tokens]
  walk_at "vl"
  generalize hR : Tk.scan s (s.length + 1) 0 [] = R0
  refine whileV_x (R := fun r => (thenV ⟨glob, callV defs glob n⟩ b_tokens_4 r).bind retV = tkR R0) (fun m env => ∃ (p f : Nat) (acc : List D) (z : Option D), env = [some (.str s), some (.lst acc), some (.int (p : Nat)), z] ∧ m = s.length - p ∧ p ≤ s.length ∧ s.length - p < f ∧ acc.length ≤ p ∧ Tk.scan s f p acc = R0) ?_ FUEL (s.length - 0) _ (by unfold FUEL; omega) ⟨0, s.length + 1, [], none, rfl, rfl, by omega, by omega, by simp, hR⟩
  rintro m env ⟨p, f, acc, z, rfl, rfl, hp, hf, ha, hsc⟩
  simp only [e_tokens_1]
  walk_at "vl"
  rw [hl]
  walk_at "vl"
  obtain ⟨f, rfl⟩ : ∃ k, f = k + 1 := ⟨f - 1, by omega⟩
  rw [Tk.scan] at hsc
  by_cases h1 : p < s.length
  · have h1' : p < s.cps.toList.length := by omega
    obtain ⟨c, hc⟩ : ∃ c, s.cps.toList[p]? = some c := ⟨_, List.getElem?_eq_getElem h1'⟩
    rw [hc] at hsc
    simp only [] at hsc
    refine ⟨true, by rw [decide_eq_true (show (p : Int) < (s.length : Int) by omega)], (fun k => nomatch k), fun _ => ?_⟩
    have hA := atI_nat hc
    simp only [b_tokens_3]
    walk_at "vl*"
    rw [found_one]
    have m1 : ∀ X : Str, decide (c ∈ X.cps.toList) = Tk.mem X c := fun _ => rfl
    rw [m1]
    cases h2 : Tk.mem Tk.BLK c with
    | true =>
      rw [if_pos h2] at hsc
      walk_at "vl"
      exact .inl ⟨_, _, rfl, .inl rfl, s.length - (p + 1), by omega, p + 1, f, acc, z, rfl, rfl, by omega, by omega, by omega, hsc⟩
    | false =>
      rw [if_neg (by rw [h2]; exact Bool.false_ne_true)] at hsc
      walk_at "vl"
      simp only [b_tokens_2]
      walk_at "vl"
      rw [v_token_at (by omega) hs hc]
      cases ht : Tk.tokAt s p c with
      | err r =>
        rw [ht] at hsc
        subst hsc
        walk_at "vl"
        exact .inr (.inr ⟨_, rfl, rfl⟩)
      | tok k t nn =>
        rw [ht] at hsc
        obtain ⟨t1, t2, t3⟩ := Tk.tok_size hc ht
        have hlt : guardV (ok2 t.length) = .ok () := y_ok2 (by omega)
        walk_at "vl"
        rw [y_lt16 (by omega)]
        simp only [Tk.tD]
        walk_at "vl"
        rw [hlt]
        walk_at "vl"
        exact .inl ⟨_, _, rfl, .inl rfl, s.length - (p + nn), by omega, p + nn, f, _, _, by rw [t3]; rfl, rfl, by omega, by omega, by simp; omega, hsc⟩
  · rw [List.getElem?_eq_none (by omega)] at hsc
    refine ⟨false, by rw [decide_eq_false (show ¬ (p : Int) < (s.length : Int) by omega)], fun _ => ?_, fun k => nomatch k⟩
    subst hsc
    walk_at "vl"
    simp only [b_tokens_4]
    walk_at "vl"
    rfl
open PySem.StrLaws PyProof.Rows
/-- what the law makes of a text -/
def scR : (Nat × Str) ⊕ List D → D
  | .inr acc => .lst acc
  | .inl (p, r) => .tup [.int (p : Nat), .str r]
theorem wrd_eq : ("abcdefghijklmnopqrstuvwxyzABCDEFGHIJKLMNOPQRSTUVWXYZ" : Str) ++ ("0123456789_" : Str) = Tk.WRD := by decide +kernel
/-- the law's row of signs -/
theorem sc_loop {n p c : Nat} {s X : Str} {e : Mn.E} {b : Sms} {A f k sg : Option D} (hs : s.length ≤ 100000) (h : s.cps.toList[p]? = some c) (hX : Tk.mem X c = true)
    (he : ∀ z : Nat, vE ⟨glob, callV defs glob n⟩ e [some (.str s), A, f, some (.int (p : Nat)), k, sg, some (.int (z : Nat))] = .ok (.bl (match s.cps.toList[p + z]? with | none => false | some d => Tk.mem X d)))
    (hb : ∀ z : Nat, vSs ⟨glob, callV defs glob n⟩ b [some (.str s), A, f, some (.int (p : Nat)), k, sg, some (.int (z : Nat))] = .ok (.nx, [some (.str s), A, f, some (.int (p : Nat)), k, sg, some (.int ((z + 1 : Nat) : Int))])) :
    whileV (vE ⟨glob, callV defs glob n⟩ e) (vSs ⟨glob, callV defs glob n⟩ b) FUEL [some (.str s), A, f, some (.int (p : Nat)), k, sg, some (.int ((1 : Nat) : Int))] = .ok (.nx, [some (.str s), A, f, some (.int (p : Nat)), k, sg, some (.int ((Tk.endW s.cps.toList X p - p : Nat) : Int))]) := by
  have hL : s.cps.toList.length = s.length := len_cps s
  have st := Tk.endW_step h hX
  refine whileV_x (R := fun r => r = .ok (.nx, [some (.str s), A, f, some (.int (p : Nat)), k, sg, some (.int ((Tk.endW s.cps.toList X p - p : Nat) : Int))])) (fun m env => ∃ z : Nat, env = [some (.str s), A, f, some (.int (p : Nat)), k, sg, some (.int (z : Nat))] ∧ m = s.length + 1 - z ∧ p + z ≤ s.length ∧ Tk.endW s.cps.toList X (p + z) = Tk.endW s.cps.toList X p) ?_ FUEL (s.length + 1 - 1) _ (by unfold FUEL; omega) ⟨1, rfl, rfl, by have := (List.getElem?_eq_some_iff.mp h).1; omega, st.symm⟩
  rintro m env ⟨z, rfl, rfl, hz, hq⟩
  refine ⟨_, he z, fun k => ?_, fun k => .inl ?_⟩
  · cases hc : s.cps.toList[p + z]? with
    | none =>
      have : s.cps.toList.length ≤ p + z := List.getElem?_eq_none_iff.mp hc
      rw [Tk.endW_end this] at hq
      rw [← hq, Nat.add_sub_cancel_left]
    | some d =>
      rw [hc] at k
      rw [Tk.endW_stop hc k] at hq
      rw [← hq, Nat.add_sub_cancel_left]
  · cases hc : s.cps.toList[p + z]? with
    | none => rw [hc] at k; cases k
    | some d =>
      rw [hc] at k
      have := (List.getElem?_eq_some_iff.mp hc).1
      exact ⟨_, _, hb z, .inl rfl, s.length + 1 - (z + 1), by omega, z + 1, rfl, rfl, by omega, by rw [← hq, Tk.endW_step hc k]; rfl⟩
theorem at_none {s : Str} {q : Nat} (h : s.length ≤ q) : s.cps.toList[q]? = none := List.getElem?_eq_none (by rw [len_cps]; exact h)
theorem sc_test2 {n p z : Nat} {s : Str} {A f k sg : Option D} (hs : s.length ≤ 100000) (hA : A = some (.str "abcdefghijklmnopqrstuvwxyzABCDEFGHIJKLMNOPQRSTUVWXYZ")) :
    vE ⟨glob, callV defs glob n⟩ e__law_scanned_2 [some (.str s), A, f, some (.int (p : Nat)), k, sg, some (.int (z : Nat))] = .ok (.bl (match s.cps.toList[p + z]? with | none => false | some d => Tk.mem Tk.WRD d)) := by
  have hl : guardV (ok2 s.length) = .ok () := y_ok2 (by omega)
  have hL : s.cps.toList.length = s.length := len_cps s
  subst hA
  simp only [e__law_scanned_2]
  walk_at "vl"
  rw [hl]
  walk_at "vl"
  have e2 : ((p : Int) + (z : Int)) = ((p + z : Nat) : Int) := by omega
  rw [e2]
  by_cases h1 : p + z < s.length
  · obtain ⟨d, hd⟩ : ∃ d, s.cps.toList[p + z]? = some d := ⟨_, List.getElem?_eq_getElem (by omega)⟩
    rw [decide_eq_true (show ((p + z : Nat) : Int) < (s.length : Int) by omega)]
    walk_at "vl"
    rw [e2, atI_nat hd, hl]
    walk_at "vl"
    have o : guardV (ok2 ((Str.ofString "abcdefghijklmnopqrstuvwxyzABCDEFGHIJKLMNOPQRSTUVWXYZ").length + (Str.ofString "0123456789_").length)) = .ok () := rfl
    rw [o]
    walk_at "vl"
    rw [wrd_eq, found_one, hd]
    walk_at "vl"
    rfl
  · rw [decide_eq_false (show ¬ ((p + z : Nat) : Int) < (s.length : Int) by omega), at_none (by omega)]
    walk_at "vl"
theorem sc_test7 {n p z : Nat} {s : Str} {A f k sg : Option D} (hs : s.length ≤ 100000) :
    vE ⟨glob, callV defs glob n⟩ e__law_scanned_7 [some (.str s), A, f, some (.int (p : Nat)), k, sg, some (.int (z : Nat))] = .ok (.bl (match s.cps.toList[p + z]? with | none => false | some d => Tk.mem Tk.DIG d)) := by
  have hl : guardV (ok2 s.length) = .ok () := y_ok2 (by omega)
  have hL : s.cps.toList.length = s.length := len_cps s
  simp only [e__law_scanned_7]
  walk_at "vl"
  rw [hl]
  walk_at "vl"
  have e2 : ((p : Int) + (z : Int)) = ((p + z : Nat) : Int) := by omega
  rw [e2]
  by_cases h1 : p + z < s.length
  · obtain ⟨d, hd⟩ : ∃ d, s.cps.toList[p + z]? = some d := ⟨_, List.getElem?_eq_getElem (by omega)⟩
    rw [decide_eq_true (show ((p + z : Nat) : Int) < (s.length : Int) by omega)]
    walk_at "vl"
    rw [e2, atI_nat hd, hl]
    walk_at "vl"
    rw [found_one, hd]
    walk_at "vl"
    rfl
  · rw [decide_eq_false (show ¬ ((p + z : Nat) : Int) < (s.length : Int) by omega), at_none (by omega)]
    walk_at "vl"
open PySem.StrLaws PyProof.Rows
abbrev LETs : Str := Str.ofString "abcdefghijklmnopqrstuvwxyzABCDEFGHIJKLMNOPQRSTUVWXYZ"
def scE (s : Str) (acc : List D) (p : Nat) (k : Option D) (c m : Nat) : Nv := [some (.str s), some (.str LETs), some (.lst acc), some (.int (p : Nat)), k, some (.str ⟨#[c]⟩), some (.int (m : Nat))]
theorem blk_in {c : Nat} (h : Tk.mem Tk.BLK c = true) : Tk.mem Tk.LET c = false ∧ Tk.mem Tk.DIG c = false ∧ Tk.mem Tk.SYM c = false ∧ c ≠ 38 ∧ c ≠ 124 := by
  have hm : c ∈ [32, 10, 9] := by
    unfold Tk.mem at h
    exact of_decide_eq_true h
  simp only [List.mem_cons, List.mem_nil_iff, or_false] at hm
  rcases hm with rfl | rfl | rfl <;> exact ⟨by decide +kernel, by decide +kernel, by decide +kernel, by decide, by decide⟩
theorem cut_head {s t : Str} {p c q d : Nat} (h : s.cps.toList[p]? = some c) (e : cutS s (some (p : Nat)) (some (q : Nat)) = t) (ht : t.cps.toList.head? = some d) : c = d := by
  obtain ⟨hl, e1⟩ := List.getElem?_eq_some_iff.mp h
  rw [← e, Tk.cut_cps (by omega), List.drop_eq_getElem_cons hl, e1] at ht
  cases hk : q - p with
  | zero => rw [hk] at ht; cases ht
  | succ k => rw [hk] at ht; exact Option.some.inj ht
set_option maxHeartbeats 8000000 in
theorem sc_mid {n p c : Nat} {s : Str} {acc : List D} {k : Option D} (hs : s.length ≤ 100000) (ha : acc.length ≤ 100000) (hc : s.cps.toList[p]? = some c) :
    ∃ r, kvif2 ⟨glob, callV defs glob n⟩ b__law_scanned_5 b__law_scanned_14 (scE s acc p k c 1) (Tk.mem LETs c) = .ok r ∧ (Tk.mem Tk.BLK c = true → r = (.nx, scE s acc p k c 1)) ∧
      (Tk.mem Tk.BLK c = false → ∀ R0, Tk.tokAt s p c = R0 → (∀ e, R0 = .err e → r.1 = .rt (.tup [.int (p : Nat), .str e])) ∧ ∀ w t m, R0 = .tok w t m → r = (.nx, scE s (acc ++ [Tk.tD w t p]) p k c m)) := by
  have hl : guardV (ok2 s.length) = .ok () := y_ok2 (by omega)
  have hL : s.cps.toList.length = s.length := len_cps s
  obtain ⟨hp, _⟩ := List.getElem?_eq_some_iff.mp hc
  have m1 : ∀ X : Str, decide (c ∈ X.cps.toList) = Tk.mem X c := fun _ => rfl
  have hla : guardV (decide (acc.length < sizeLine)) = .ok () := y_lt16 (by omega)
  unfold scE
  cases h1 : Tk.mem LETs c with
  | true =>
    have h1 : Tk.mem Tk.LET c = true := h1
    have hb : Tk.mem Tk.BLK c = false := by
      cases hb : Tk.mem Tk.BLK c with
      | false => rfl
      | true => rw [(blk_in hb).1] at h1; cases h1
    walk_at "vl"
    simp only [b__law_scanned_5]
    walk_at "vl"
    rw [sc_loop (A := some (.str LETs)) (f := some (.lst acc)) (k := k) (sg := some (.str ⟨#[c]⟩)) (e := e__law_scanned_2) (b := b__law_scanned_3) hs hc (Tk.let_wrd h1) (fun z => sc_test2 hs rfl) (fun z => by simp only [b__law_scanned_3]; walk_at "vl"; rfl)]
    walk_at "vl"
    simp only [b__law_scanned_4]
    walk_at "vl"
    have q1 := Tk.endW_le (l := s.cps.toList) (x := Tk.WRD) (p := p) (by omega)
    have q2 := Tk.endW_ge (l := s.cps.toList) (x := Tk.WRD) (p := p)
    have e2 : (p : Int) + ((Tk.endW s.cps.toList Tk.WRD p - p : Nat) : Int) = ((Tk.endW s.cps.toList Tk.WRD p : Nat) : Int) := by omega
    by_cases h30 : 30 < Tk.endW s.cps.toList Tk.WRD p - p
    · rw [decide_eq_true (show (30 : Int) < ((Tk.endW s.cps.toList Tk.WRD p - p : Nat) : Int) by omega)]
      walk_at "vl"
      refine ⟨_, rfl, fun z => (by rw [hb] at z; cases z), fun _ R0 hR => ?_⟩
      unfold Tk.tokAt at hR
      simp only [] at hR
      rw [if_pos h1, if_pos h30] at hR
      subst hR
      exact ⟨fun e he => (by cases he; rfl), fun w t m he => (by cases he)⟩
    · rw [decide_eq_false (show ¬ (30 : Int) < ((Tk.endW s.cps.toList Tk.WRD p - p : Nat) : Int) by omega)]
      walk_at "vl"
      simp only [b__law_scanned_1]
      walk_at "vl"
      rw [e2, hl]
      walk_at "vl"
      rw [hla]
      walk_at "vl"
      refine ⟨_, rfl, fun z => (by rw [hb] at z; cases z), fun _ R0 hR => ?_⟩
      unfold Tk.tokAt at hR
      simp only [] at hR
      rw [if_pos h1, if_neg h30] at hR
      subst hR
      exact ⟨fun e he => (by cases he), fun w t m he => (by cases he; rfl)⟩
  | false =>
    have h1 : Tk.mem Tk.LET c = false := h1
    walk_at "vl"
    simp only [b__law_scanned_14]
    walk_at "vl"
    rw [found_one, m1]
    cases h2 : Tk.mem (Str.ofString "0123456789") c with
    | true =>
      have h2 : Tk.mem Tk.DIG c = true := h2
      have hb : Tk.mem Tk.BLK c = false := by
        cases hb : Tk.mem Tk.BLK c with
        | false => rfl
        | true => rw [(blk_in hb).2.1] at h2; cases h2
      walk_at "vl"
      simp only [b__law_scanned_10]
      walk_at "vl"
      rw [sc_loop (A := some (.str LETs)) (f := some (.lst acc)) (k := k) (sg := some (.str ⟨#[c]⟩)) (e := e__law_scanned_7) (b := b__law_scanned_8) hs hc h2 (fun z => sc_test7 hs) (fun z => by simp only [b__law_scanned_8]; walk_at "vl"; rfl)]
      walk_at "vl"
      simp only [b__law_scanned_9]
      walk_at "vl"
      have q1 := Tk.endW_le (l := s.cps.toList) (x := Tk.DIG) (p := p) (by omega)
      have q2 := Tk.endW_ge (l := s.cps.toList) (x := Tk.DIG) (p := p + 1)
      have q3 := Tk.endW_step hc h2
      have e2 : (p : Int) + ((Tk.endW s.cps.toList Tk.DIG p - p : Nat) : Int) = ((Tk.endW s.cps.toList Tk.DIG p : Nat) : Int) := by omega
      have bad : ∀ {A : Nv}, ¬ (Tk.endW s.cps.toList Tk.DIG p - p = 1 ∨ Tk.endW s.cps.toList Tk.DIG p - p = 2 ∧ c ≠ 48) → ∀ R0, Tk.tokAt s p c = R0 → (∀ e, R0 = .err e → (Flow.rt (D.tup [.int (p : Nat), .str "invalid number"]), A).1 = .rt (.tup [.int (p : Nat), .str e])) ∧ ∀ w t m, R0 = .tok w t m → (Flow.rt (D.tup [.int (p : Nat), .str "invalid number"]), A) = (.nx, scE s (acc ++ [Tk.tD w t p]) p k c m) := fun hk R0 hR => by
        unfold Tk.tokAt at hR
        simp only [] at hR
        rw [if_neg (by rw [h1]; exact Bool.false_ne_true), if_pos h2, if_neg hk] at hR
        subst hR
        exact ⟨fun e he => (by cases he; rfl), fun w t m he => (by cases he)⟩
      have good : (Tk.endW s.cps.toList Tk.DIG p - p = 1 ∨ Tk.endW s.cps.toList Tk.DIG p - p = 2 ∧ c ≠ 48) → ∀ R0, Tk.tokAt s p c = R0 → (∀ e, R0 ≠ .err e) ∧ ∀ w t m, R0 = .tok w t m → w = "number" ∧ t = cutS s (some (p : Nat)) (some (Tk.endW s.cps.toList Tk.DIG p : Nat)) ∧ m = Tk.endW s.cps.toList Tk.DIG p - p := fun hk R0 hR => by
        unfold Tk.tokAt at hR
        simp only [] at hR
        rw [if_neg (by rw [h1]; exact Bool.false_ne_true), if_pos h2, if_pos hk] at hR
        subst hR
        exact ⟨fun e he => (by cases he), fun w t m he => (by cases he; exact ⟨rfl, rfl, rfl⟩)⟩
      by_cases hk : Tk.endW s.cps.toList Tk.DIG p - p = 1 ∨ Tk.endW s.cps.toList Tk.DIG p - p = 2 ∧ c ≠ 48
      · have good := good hk
        generalize hm : Tk.endW s.cps.toList Tk.DIG p - p = m at *
        rw [decide_eq_false (show ¬ (2 : Int) < (m : Int) by omega)]
        walk_at "vl"
        have b6 : vSs ⟨glob, callV defs glob n⟩ b__law_scanned_6 [some (.str s), some (.str LETs), some (.lst acc), some (.int (p : Nat)), k, some (.str ⟨#[c]⟩), some (.int (m : Nat))] = .ok (.nx, scE s (acc ++ [Tk.tD "number" (cutS s (some (p : Nat)) (some (Tk.endW s.cps.toList Tk.DIG p : Nat))) p]) p k c m) := by
          simp only [b__law_scanned_6]
          walk_at "vl"
          rw [e2, hl]
          walk_at "vl"
          rw [hla]
          walk_at "vl"
          rfl
        have fin : ∀ R0, Tk.tokAt s p c = R0 → (∀ e, R0 = .err e → (Flow.nx, scE s (acc ++ [Tk.tD "number" (cutS s (some (p : Nat)) (some (Tk.endW s.cps.toList Tk.DIG p : Nat))) p]) p k c m).1 = .rt (.tup [.int (p : Nat), .str e])) ∧ ∀ w t m', R0 = .tok w t m' → (Flow.nx, scE s (acc ++ [Tk.tD "number" (cutS s (some (p : Nat)) (some (Tk.endW s.cps.toList Tk.DIG p : Nat))) p]) p k c m) = (.nx, scE s (acc ++ [Tk.tD w t p]) p k c m') := fun R0 hR => ⟨fun e he => absurd he ((good R0 hR).1 e), fun w t m' he => (by obtain ⟨rfl, rfl, rfl⟩ := (good R0 hR).2 w t m' he; rfl)⟩
        rcases Nat.lt_or_ge m 2 with h5 | h5
        · rw [show ((m : Int) == 2) = false by rw [beq_eq_false_iff_ne]; omega]
          walk_at "vl"
          rw [b6]
          walk_at "vl"
          exact ⟨_, rfl, fun z => (by rw [hb] at z; cases z), fun _ => fin⟩
        · have hm2 : m = 2 := by omega
          have hc48 : c ≠ 48 := by omega
          subst hm2
          walk_at "vl"
          rw [show (((2 : Nat) : Int) == 2) = true from rfl]
          walk_at "vl"
          rw [sg_ne, beq_eq_false_iff_ne.mpr hc48]
          walk_at "vl"
          rw [b6]
          walk_at "vl"
          exact ⟨_, rfl, fun z => (by rw [hb] at z; cases z), fun _ => fin⟩
      · have bad2 := fun A => bad (A := A) hk
        clear bad good
        generalize hm : Tk.endW s.cps.toList Tk.DIG p - p = m at *
        by_cases h5 : 2 < m
        · rw [decide_eq_true (show (2 : Int) < (m : Int) by omega)]
          walk_at "vl"
          exact ⟨_, rfl, fun z => (by rw [hb] at z; cases z), fun _ R0 hR => bad2 _ R0 hR⟩
        · have hm2 : m = 2 := by omega
          have hc48 : c = 48 := by omega
          subst hm2
          subst hc48
          rw [decide_eq_false (show ¬ (2 : Int) < ((2 : Nat) : Int) by omega)]
          walk_at "vl"
          rw [show (((2 : Nat) : Int) == 2) = true from rfl]
          walk_at "vl"
          rw [sg_ne]
          walk_at "vl"
          exact ⟨_, rfl, fun z => (by rw [hb] at z; cases z), fun _ R0 hR => bad2 _ R0 hR⟩
    | false =>
      have h2 : Tk.mem Tk.DIG c = false := h2
      walk_at "vl"
      simp only [b__law_scanned_13]
      walk_at "vl"
      rw [hl]
      walk_at "vl"
      have e2 : ((p : Int) + 2) = ((p + 2 : Nat) : Int) := by omega
      rw [e2]
      have tk : Tk.tokAt s p c = if Tk.mem Tk.SYM c = true then .tok "symbol" ⟨#[c]⟩ 1 else if cutS s (some (p : Nat)) (some ((p + 2 : Nat) : Int)) = "&&" ∨ cutS s (some (p : Nat)) (some ((p + 2 : Nat) : Int)) = "||" then .tok "symbol" (cutS s (some (p : Nat)) (some ((p + 2 : Nat) : Int))) 2 else .err "unexpected character" := by
        unfold Tk.tokAt
        simp only []
        rw [if_neg (by rw [h1]; exact Bool.false_ne_true), if_neg (by rw [h2]; exact Bool.false_ne_true)]
      have ch : ∀ t : Str, ∀ d, cutS s (some (p : Nat)) (some ((p + 2 : Nat) : Int)) = t → t.cps.toList.head? = some d → c = d := fun t d z1 z2 => cut_head hc z1 z2
      generalize hW : cutS s (some (p : Nat)) (some ((p + 2 : Nat) : Int)) = w at tk ch ⊢
      by_cases hw : w = "&&" ∨ w = "||"
      · have hcd : Tk.mem Tk.SYM c = false ∧ Tk.mem Tk.BLK c = false := by
          rcases hw with hw | hw
          · rw [ch _ 38 hw rfl]; exact ⟨by decide +kernel, by decide +kernel⟩
          · rw [ch _ 124 hw rfl]; exact ⟨by decide +kernel, by decide +kernel⟩
        rw [if_neg (by rw [hcd.1]; exact Bool.false_ne_true), if_pos hw] at tk
        have fin : ∀ R0, Tk.tokAt s p c = R0 → (∀ e, R0 = .err e → (Flow.nx, scE s (acc ++ [Tk.tD "symbol" w p]) p k c 2).1 = .rt (.tup [.int (p : Nat), .str e])) ∧ ∀ w' t m', R0 = .tok w' t m' → (Flow.nx, scE s (acc ++ [Tk.tD "symbol" w p]) p k c 2) = (.nx, scE s (acc ++ [Tk.tD w' t p]) p k c m') := fun R0 hR => by
          rw [tk] at hR
          subst hR
          exact ⟨fun e he => (by cases he), fun w t m he => (by cases he; rfl)⟩
        cases hb1 : w == Str.ofString "&&" with
        | true =>
          walk_at "vl"
          rw [hl]
          walk_at "vl"
          rw [e2, hW, hla]
          walk_at "vl"
          exact ⟨_, rfl, fun z => (by rw [hcd.2] at z; cases z), fun _ => fin⟩
        | false =>
          have hb2 : (w == Str.ofString "||") = true := by
            rcases hw with hw | hw
            · rw [hw] at hb1; cases hb1
            · rw [hw]; rfl
          walk_at "vl"
          rw [hl]
          walk_at "vl"
          rw [e2, hW, hb2]
          walk_at "vl"
          rw [hl]
          walk_at "vl"
          rw [e2, hW, hla]
          walk_at "vl"
          exact ⟨_, rfl, fun z => (by rw [hcd.2] at z; cases z), fun _ => fin⟩
      · have hb1 : (w == Str.ofString "&&") = false := by rw [beq_eq_false_iff_ne]; intro z; exact hw (.inl z)
        have hb2 : (w == Str.ofString "||") = false := by rw [beq_eq_false_iff_ne]; intro z; exact hw (.inr z)
        rw [if_neg hw] at tk
        rw [hb1]
        walk_at "vl"
        rw [hl]
        walk_at "vl"
        rw [e2, hW, hb2]
        walk_at "vl"
        simp only [b__law_scanned_12]
        walk_at "vl"
        rw [found_one, m1]
        cases h3 : Tk.mem (Str.ofString "(){};:=!") c with
        | true =>
          have h3 : Tk.mem Tk.SYM c = true := h3
          rw [if_pos h3] at tk
          walk_at "vl"
          rw [hla]
          walk_at "vl"
          refine ⟨_, rfl, fun z => (by rw [(blk_in z).2.2.1] at h3; cases h3), fun _ R0 hR => ?_⟩
          rw [tk] at hR
          subst hR
          exact ⟨fun e he => (by cases he), fun w t m he => (by cases he; rfl)⟩
        | false =>
          have h3 : Tk.mem Tk.SYM c = false := h3
          rw [if_neg (by rw [h3]; exact Bool.false_ne_true)] at tk
          walk_at "vl"
          simp only [b__law_scanned_11]
          walk_at "vl"
          rw [found_one, m1]
          cases hb : Tk.mem (Str.ofString " \n\t") c with
          | true =>
            have hb : Tk.mem Tk.BLK c = true := hb
            walk_at "vl"
            exact ⟨_, rfl, fun _ => rfl, fun z => (by rw [hb] at z; cases z)⟩
          | false =>
            have hb : Tk.mem Tk.BLK c = false := hb
            walk_at "vl"
            refine ⟨_, rfl, fun z => (by rw [hb] at z; cases z), fun _ R0 hR => ?_⟩
            rw [tk] at hR
            subst hR
            exact ⟨fun e he => (by cases he; rfl), fun w t m he => (by cases he)⟩
open PySem.StrLaws PyProof.Rows
set_option maxHeartbeats 8000000 in
theorem v_scanned {n : Nat} {s : Str} (hn : 1 ≤ n) (hs : s.length ≤ 99990) : callV defs glob n "_law_scanned" [.str s] = .ok (scR (Tk.scan s (s.length + 1) 0 [])) := by
  obtain ⟨n, rfl⟩ : ∃ k, n = k + 1 := ⟨n - 1, by omega⟩
  refine y_call (d := d__law_scanned) rfl (by decide +kernel) rfl ?_
  show (vSs _ b__law_scanned [some (.str s), none, none, none, none, none, none]).bind retV = _
  have hl : guardV (ok2 s.length) = .ok () := y_ok2 (by omega)
  have hL : s.cps.toList.length = s.length := len_cps s
  simp only [b__law_scanned]
  walk_at "vl"
  rw [hl]
  walk_at "vl"
  rw [show ((s.length : Int) + 1) = ((s.length + 1 : Nat) : Int) by omega, y_it1 (by omega) (by omega)]
  walk_at "vl"
  rw [y_len (by rw [rngD_len]; omega)]
  walk_at "vl"
  have er : rngD 0 ((s.length + 1 : Nat) : Int).toNat = (List.range (s.length + 1)).map fun k => D.int ((0 + k : Nat) : Int) := rng_map (a := 0)
  rw [er]
  generalize hR : Tk.scan s (s.length + 1) 0 [] = R0
  refine forV_inv (R := fun r => (thenV ⟨glob, callV defs glob n⟩ b__law_scanned_18 r).bind retV = .ok (scR R0)) (fun items env => ∃ (p : Nat) (acc : List D) (z4 z5 z6 : Option D), env = [some (.str s), some (.str LETs), some (.lst acc), some (.int (p : Nat)), z4, z5, z6] ∧ p ≤ s.length ∧ s.length - p < items.length ∧ acc.length ≤ p ∧ Tk.scan s items.length p acc = R0) ⟨0, [], none, none, none, rfl, by omega, by simp, by simp, by rw [List.length_range]; exact hR⟩ ?_ ?_
  · rintro a items env ⟨p, acc, z4, z5, z6, rfl, hp, hf, ha, hsc⟩
    rw [List.length_cons] at hf hsc
    rw [Tk.scan] at hsc
    walk_at "vl"
    simp only [b__law_scanned_17]
    walk_at "vl"
    rw [hl]
    walk_at "vl"
    by_cases h1 : p < s.length
    · have h1' : p < s.cps.toList.length := by omega
      obtain ⟨c, hc⟩ : ∃ c, s.cps.toList[p]? = some c := ⟨_, List.getElem?_eq_getElem h1'⟩
      rw [hc] at hsc
      simp only [] at hsc
      rw [decide_eq_false (show ¬ (s.length : Int) ≤ (p : Int) by omega)]
      have hA := atI_nat hc
      walk_at "vl"
      simp only [b__law_scanned_16]
      walk_at "vl*"
      rw [found_one]
      have m1 : ∀ X : Str, decide (c ∈ X.cps.toList) = Tk.mem X c := fun _ => rfl
      rw [m1]
      obtain ⟨r, hr, hB, hT⟩ := sc_mid (n := n) (k := some (.int ((0 + a : Nat) : Int))) (acc := acc) (by omega) (by omega) hc
      have hr : kvif2 ⟨glob, callV defs glob n⟩ b__law_scanned_5 b__law_scanned_14 [some (.str s), some (.str LETs), some (.lst acc), some (.int (p : Nat)), some (.int ((0 + a : Nat) : Int)), some (.str ⟨#[c]⟩), some (.int 1)] (Tk.mem LETs c) = .ok r := hr
      rw [hr]
      cases hb : Tk.mem Tk.BLK c with
      | true =>
        rw [if_pos hb] at hsc
        rw [hB hb]
        unfold scE
        walk_at "vl"
        simp only [b__law_scanned_15]
        walk_at "vl"
        exact .inl ⟨_, rfl, p + 1, acc, _, _, _, rfl, by omega, by omega, by omega, hsc⟩
      | false =>
        rw [if_neg (by rw [hb]; exact Bool.false_ne_true)] at hsc
        cases ht : Tk.tokAt s p c with
        | err e =>
          rw [ht] at hsc
          obtain ⟨fl, en⟩ := r
          obtain rfl : fl = _ := (hT hb _ ht).1 e rfl
          walk_at "vl"
          refine .inr (.inr (.inl ⟨_, _, rfl, ?_⟩))
          subst hsc
          rfl
        | tok w t m =>
          rw [ht] at hsc
          obtain ⟨t1, t2, t3⟩ := Tk.tok_size hc ht
          rw [(hT hb _ ht).2 w t m rfl]
          unfold scE
          walk_at "vl"
          simp only [b__law_scanned_15]
          walk_at "vl"
          exact .inl ⟨_, rfl, p + m, _, _, _, _, rfl, by omega, by omega, by simp; omega, hsc⟩
    · rw [List.getElem?_eq_none (by omega)] at hsc
      rw [decide_eq_true (show (s.length : Int) ≤ (p : Int) by omega)]
      walk_at "vl"
      subst hsc
      exact .inr (.inr (.inl ⟨_, _, rfl, rfl⟩))
  · rintro env ⟨p, acc, z4, z5, z6, rfl, hp, hf, _⟩
    cases hf
open PySem.StrLaws PyProof.Rows
theorem tok_n {s t k : Str} {p c m : Nat} (h : s.cps.toList[p]? = some c) (e : Tk.tokAt s p c = .tok k t m) : m ≤ 30 ∧ Ws 6 k := by
  unfold Tk.tokAt at e
  simp only [] at e
  split at e
  · split at e
    · cases e
    · cases e; exact ⟨by omega, by decide +kernel⟩
  split at e
  · split at e
    · rename_i hk
      cases e; exact ⟨by omega, by decide +kernel⟩
    · cases e
  split at e
  · cases e; exact ⟨by omega, by decide +kernel⟩
  split at e
  · cases e; exact ⟨by omega, by decide +kernel⟩
  · cases e
def TkD (N : Nat) (d : D) : Prop := ∃ k t p, d = Tk.tD k t p ∧ Ws 6 k ∧ Ws 30 t ∧ p ≤ N
def dueD : (Nat × Str) ⊕ List D → D
  | .inr acc => .tup acc
  | .inl (p, r) => .tup [.int (p : Nat), .str r]
def ScOk (N : Nat) : (Nat × Str) ⊕ List D → Prop
  | .inr acc => acc.length ≤ N ∧ ∀ d ∈ acc, TkD N d
  | .inl (p, r) => p ≤ N ∧ Ws 40 r
theorem scan_ok {s : Str} (hs : ∀ c ∈ s.cps.toList, c < 128) : ∀ (f p : Nat) (acc : List D), p ≤ s.length → acc.length ≤ p → (∀ d ∈ acc, TkD s.length d) → ScOk s.length (Tk.scan s f p acc)
  | 0, p, acc, hp, ha, hd => ⟨by omega, hd⟩
  | f + 1, p, acc, hp, ha, hd => by
    have hL : s.cps.toList.length = s.length := len_cps s
    rw [Tk.scan]
    cases hc : s.cps.toList[p]? with
    | none => exact ⟨by omega, hd⟩
    | some c =>
      have h1 := (List.getElem?_eq_some_iff.mp hc).1
      simp only []
      split
      · exact scan_ok hs f (p + 1) acc (by omega) (by omega) hd
      · cases ht : Tk.tokAt s p c with
        | err r =>
          refine ⟨by omega, ?_⟩
          unfold Tk.tokAt at ht
          simp only [] at ht
          split at ht
          · split at ht
            · cases ht; decide +kernel
            · cases ht
          split at ht
          · split at ht
            · cases ht
            · cases ht; decide +kernel
          split at ht
          · cases ht
          split at ht
          · cases ht
          · cases ht; decide +kernel
        | tok k t m =>
          obtain ⟨t1, t2, t3⟩ := Tk.tok_size hc ht
          obtain ⟨t4, t5⟩ := tok_n hc ht
          refine scan_ok hs f (p + m) _ (by omega) (by simp; omega) fun d hdm => ?_
          rcases List.mem_append.mp hdm with hdm | hdm
          · exact hd d hdm
          · have e : d = Tk.tD k t p := by simpa using hdm
            exact ⟨k, t, p, e, t5, ⟨by omega, Tk.tok_signs hs hc ht⟩, hp⟩
theorem int_fine {p : Nat} (h : p ≤ 100000) : (decide ((p : Int).natAbs.log2 < 1920)) = true := by
  rw [decide_eq_true_eq]
  have : (p : Int).natAbs < 2 ^ 1920 := Nat.lt_of_le_of_lt (show (p : Int).natAbs ≤ 100000 by omega) (by decide)
  by_cases h0 : (p : Int).natAbs = 0
  · rw [h0]; decide
  · exact (Nat.log2_lt h0).mpr this
theorem tk_fine {N : Nat} (hN : N ≤ 100000) : ∀ {acc : List D}, (∀ d ∈ acc, TkD N d) → fines acc = true ∧ deps acc ≤ 1 ∧ wts acc ≤ 2400 * acc.length ∧ plains acc = true
  | [], _ => ⟨rfl, by decide, by decide, rfl⟩
  | d :: acc, h => by
    obtain ⟨i1, i2, i3, i4⟩ := tk_fine hN (acc := acc) fun x hx => h x (List.mem_cons_of_mem _ hx)
    obtain ⟨k, t, p, rfl, hk, ht, hp⟩ := h d (List.mem_cons_self ..)
    have f1 := hk.fine
    have f2 := ht.fine
    have w1 := hk.wt
    have w2 := ht.wt
    have f3 := int_fine (p := p) (by omega)
    refine ⟨?_, ?_, ?_, ?_⟩
    · rw [fines, Tk.tD, Mn.fine, fines, fines, fines, fines, f1, f2, Mn.fine, f3, i1]; rfl
    · rw [deps, Tk.tD, dep, deps, deps, deps, deps, dep, dep, dep]
      · omega
      all_goals (intro x z; cases z)
    · rw [wts, Tk.tD, Mn.wt, wts, wts, wts, wts, List.length_cons]
      have w3 : Mn.wt (.int (p : Nat)) = 1921 := rfl
      omega
    · rw [plains, i4, Tk.tD]; rfl
theorem due_fine {N : Nat} {R0 : (Nat × Str) ⊕ List D} (hN : N ≤ 5000) (h : ScOk N R0) : fine (dueD R0) = true ∧ dep (dueD R0) ≤ 150 ∧ wt (dueD R0) ≤ 16777216 ∧ plain (dueD R0) = true := by
  cases R0 with
  | inr acc =>
    obtain ⟨h1, h2⟩ := h
    obtain ⟨i1, i2, i3, i4⟩ := tk_fine (N := N) (by omega) h2
    refine ⟨?_, ?_, ?_, ?_⟩
    · rw [dueD, Mn.fine, i1]
    · rw [dueD, dep]; omega
    · rw [dueD, Mn.wt]; omega
    · rw [dueD, Mn.plain, i4]
  | inl q =>
    obtain ⟨p, r⟩ := q
    obtain ⟨h1, h2⟩ := h
    have f2 := h2.fine
    have w2 := h2.wt
    have f3 := int_fine (p := p) (by omega)
    refine ⟨?_, ?_, ?_, rfl⟩
    · rw [dueD, Mn.fine, fines, fines, fines, f2, Mn.fine, f3]; rfl
    · have : dep (dueD (.inl (p, r))) = 1 := rfl
      omega
    · have w3 : Mn.wt (.int (p : Nat)) = 1921 := rfl
      rw [dueD, Mn.wt, wts, wts, wts]
      omega
open PySem.StrLaws PyProof.Rows
theorem gpl : ∀ x d, glob x = some d → Mn.plain d = true := fun x d h => by
  have : globs.all (fun p => Mn.plain p.2) = true := by decide +kernel
  obtain ⟨l1, l2, e, _⟩ := List.lookup_eq_some_iff.mp h
  exact List.all_eq_true.mp this (x, d) (by rw [e]; simp)
theorem r_told {n : Nat} {s : Str} {S : Store} (hn : 4 ≤ n) (hs : s.length ≤ 5000) (ha : ∀ c ∈ s.cps.toList, c < 128) :
    wp (callN defs glob n "_law_told" [.str s]) (fun d S' => d = dueD (Tk.scan s (s.length + 1) 0 []) ∧ Kp S S') S := by
  obtain ⟨n, rfl⟩ : ∃ k, n = k + 1 := ⟨n - 1, by omega⟩
  refine x_call (d := d__law_told) rfl rfl ?_
  show wp (evSs _ b__law_told [some (.str s), none, none]) _ S
  have ok := scan_ok ha (s.length + 1) 0 [] (by omega) (by simp) (fun _ h => nomatch h)
  have v := v_tokens (n := n) (s := s) (by omega) (by omega)
  simp only [b__law_told]
  walk_at "mn"
  generalize Tk.scan s (s.length + 1) 0 [] = R0 at ok v ⊢
  cases R0 with
  | inr acc =>
    obtain ⟨f1, f2, f3, f4⟩ := due_fine (N := s.length) (R0 := .inr acc) (by omega) ok
    refine wpx_of_wp (of_callV gpl v rfl f4) ?_
    rintro _ S1 ⟨rfl, k⟩
    walk_at "mn"
    exact ⟨rfl, k⟩
  | inl q =>
    obtain ⟨p, r⟩ := q
    refine wpx_mono (of_callVx gpl v rfl) (fun _ _ z => z.elim) ?_
    rintro _ S1 ⟨k, rfl⟩
    walk_at "mn"
    have ct : [Str.ofString "TextError"].contains (Str.ofString "TextError") = true := by decide +kernel
    have cn : ([] : List Str).contains (Str.ofString "TextError") = false := rfl
    rw [ct]
    walk_at "mn"
    simp only [evX, ct, cn]
    walk_at "mn"
    refine ⟨by first | rfl | exact decide_eq_true (by omega), ?_⟩
    simp only [evX, ct, cn, List.getElem?_cons_succ, List.getElem?_cons_zero, Bool.not_false]
    walk_at "mn"
    have l1 : List.lookup (Str.ofString "place") [(Str.ofString "place", D.int (p : Nat)), (Str.ofString "reason", D.str r)] = some (.int (p : Nat)) := by
      rw [List.lookup_cons, show (Str.ofString "place" == Str.ofString "place") = true from by decide +kernel]
    have l2 : List.lookup (Str.ofString "reason") [(Str.ofString "place", D.int (p : Nat)), (Str.ofString "reason", D.str r)] = some (.str r) := by
      rw [List.lookup_cons, show (Str.ofString "reason" == Str.ofString "place") = false from by decide +kernel]
      simp only []
      rw [List.lookup_cons, show (Str.ofString "reason" == Str.ofString "reason") = true from by decide +kernel]
    simp only [evX, l1, l2]
    walk_at "mn"
    exact ⟨rfl, k⟩
open PySem.StrLaws PyProof.Rows
def TxL (k : Nat) (xs : List D) : Prop := ∀ x ∈ xs, ∃ s, x = D.str s ∧ Ws k s
theorem TxL.pick {k : Nat} {xs : List D} {v : Int} {R : D → Store → Prop} {S : Store} (h : TxL k xs) (h0 : 0 ≤ v) (h1 : v < xs.length) (q : ∀ s, Ws k s → R (.str s) S) : wpx (opt (atI xs v)) R E0x S :=
  w_pick h0 h1 h fun d ⟨s, e, hs⟩ => e ▸ q s hs
theorem TxL.nil {k : Nat} : TxL k [] := fun _ h => nomatch h
theorem TxL.cons {k : Nat} {s : Str} {xs : List D} (h : Ws k s) (t : TxL k xs) : TxL k (.str s :: xs) := fun x hx => by
  rcases List.mem_cons.mp hx with rfl | hx
  · exact ⟨s, rfl, h⟩
  · exact t x hx
theorem r_sign {n t : Nat} {S : Store} (hn : 2 ≤ n) (h : Tp S t) : wp (callN defs glob n "_law_sign" [.loc t]) (fun d S' => ∃ s, d = .str s ∧ Ws 1 s ∧ Fr t S S') S := by
  obtain ⟨n, rfl⟩ : ∃ k, n = k + 1 := ⟨n - 1, by omega⟩
  refine x_call (d := d__law_sign) rfl rfl ?_
  show wp (evSs _ b__law_sign [some (.loc t), none]) _ S
  simp only [b__law_sign]
  walk_at "mn"
  refine wpx_of_wp (r_draw (by omega) h (by decide)) ?_
  rintro _ S1 ⟨v, rfl, v0, v1, f1⟩
  walk_at "mn"
  refine w_sign (k := 94) (by decide +kernel) (by decide) v0 (by rw [show (Str.ofString " !\"#$&'()*+,-./0123456789:;<=>?@ABCDEFGHIJKLMNOPQRSTUVWXYZ[\\]^_`abcdefghijklmnopqrstuvwxyz{|}~").length = 94 from by decide +kernel]; omega) ?_
  intro c hc
  walk_at "mn"
  exact ⟨_, rfl, hc, f1⟩
set_option maxHeartbeats 8000000 in
theorem law_true (ns : List Int) (hl : ns.length ≤ 63) : wp (callN defs glob 210 "law" [.loc 0]) (fun d _ => d = .bl true) [.ro (ns.map D.int)] := by
  refine x_call (d := d_law) rfl rfl ?_
  show wp (evSs _ b_law [some (.loc 0), none, none, none, none, none, none, none, none, none]) _ _
  simp only [b_law]
  walk_at "mn"
  refine wpx_of_wp (r_tape (by decide) hl) ?_
  rintro _ S0 ⟨t, rfl, hT⟩
  have ht := tp_lt hT
  walk_at "mn"
  refine wpx_of_wp (r_names (by decide) hT (by decide) (by decide)) ?_
  rintro _ S1 ⟨N, nsL, rfl, N0, hN, hns, wns, f1⟩
  walk_at "mn"
  simp only [hN]
  walk_at "mn"
  refine TxL.pick (k := 70) wns (by decide) (by rw [hns]; decide) ?_
  intro nm hnm
  walk_at "mn"
  refine ⟨hnm.ok2 (by decide), ?_⟩
  simp only [b_mulS]
  walk_at "mn"
  have us : Ws 29 (⟨(Mn.rep (Str.ofString "_").cps.toList (Int.toNat 29)).toArray⟩ : Str) := by decide +kernel
  have fv : Ws 40 (⟨(Mn.rep (Str.ofString "5").cps.toList (Int.toNat 40)).toArray⟩ : Str) := by decide +kernel
  have xs : Ws 31 (⟨(Mn.rep (Str.ofString "x").cps.toList (31 - (nm.length : Int)).toNat).toArray⟩ : Str) := (Ws.repeat (n := (31 - (nm.length : Int)).toNat) (c := 120) (by decide)).mono (by omega)
  generalize (⟨(Mn.rep (Str.ofString "_").cps.toList (Int.toNat 29)).toArray⟩ : Str) = u29 at us ⊢
  refine ⟨by rfl, ?_⟩
  refine ⟨(hnm.cut).ok22 us (by decide), ?_⟩
  walk_at "mn"
  generalize hG : [D.str nm, D.str nm, D.str (Str.ofString "while"), D.str (Str.ofString "true"), D.str (Str.ofString "0"), D.str (Str.ofString "7"), D.str (Str.ofString "10"), D.str (Str.ofString "99"), D.str (Str.ofString "&&"), D.str (Str.ofString "||"), D.str (Str.ofString "("), D.str (Str.ofString ")"), D.str (Str.ofString "{"), D.str (Str.ofString "}"), D.str (Str.ofString ";"), D.str (Str.ofString ":"), D.str (Str.ofString "="), D.str (Str.ofString "!"), D.str (Str.ofString " "), D.str (Str.ofString " "), D.str (Str.ofString "\n"), D.str (Str.ofString "\t"), D.str (Str.ofString "if"), D.str (cutS nm none (some 1) ++ u29), D.str (Str.ofString "let")] = good
  have gL : TxL 100 good := by
    have w : ∀ {k : Nat} {s : Str}, Ws k s → k ≤ 100 → Ws 100 s := fun h hk => h.mono hk
    rw [← hG]
    refine .cons (w hnm (by decide)) (.cons (w hnm (by decide)) (.cons (by decide +kernel) (.cons (by decide +kernel) (.cons (by decide +kernel) (.cons (by decide +kernel) (.cons (by decide +kernel) (.cons (by decide +kernel) (.cons (by decide +kernel) (.cons (by decide +kernel) (.cons (by decide +kernel) (.cons (by decide +kernel) (.cons (by decide +kernel) (.cons (by decide +kernel) (.cons (by decide +kernel) (.cons (by decide +kernel) (.cons (by decide +kernel) (.cons (by decide +kernel) (.cons (by decide +kernel) (.cons (by decide +kernel) (.cons (by decide +kernel) (.cons (by decide +kernel) (.cons (by decide +kernel) (.cons (w (hnm.cut.add us) (by decide)) (.cons (by decide +kernel) .nil))))))))))))))))))))))))
  have gN : good.length = 25 := by rw [← hG]; rfl
  clear hG
  have hlen := hnm.1
  refine ⟨by rfl, hnm.ok2 (by decide), ?_⟩
  simp only [b_mulS]
  walk_at "mn"
  generalize (⟨(Mn.rep (Str.ofString "x").cps.toList (31 - (nm.length : Int)).toNat).toArray⟩ : Str) = x31 at xs ⊢
  refine ⟨by rw [show (Str.ofString "x").length = 1 from rfl]; simp; omega, hnm.ok22 xs (by decide), ?_⟩
  walk_at "mn"
  simp only [b_mulS]
  walk_at "mn"
  generalize (⟨(Mn.rep (Str.ofString "5").cps.toList (Int.toNat 40)).toArray⟩ : Str) = f40 at fv ⊢
  refine ⟨by rfl, Ws.ok22 (show Ws 1 _ by decide +kernel) hnm (by decide), ?_⟩
  walk_at "mn"
  generalize hB : [D.str (Str.ofString "&"), D.str (Str.ofString "|"), D.str (Str.ofString "07"), D.str (Str.ofString "100"), D.str (Str.ofString "00"), D.str (Str.ofString "_"), D.str (nm ++ x31), D.str f40, D.str (Str.ofString "$"), D.str (Str.ofString "_" ++ nm)] = badl
  have bL : TxL 101 badl := by
    have w : ∀ {k : Nat} {s : Str}, Ws k s → k ≤ 101 → Ws 101 s := fun h hk => h.mono hk
    rw [← hB]
    exact .cons (by decide +kernel) (.cons (by decide +kernel) (.cons (by decide +kernel) (.cons (by decide +kernel) (.cons (by decide +kernel) (.cons (by decide +kernel) (.cons (w (hnm.add xs) (by decide)) (.cons (w fv (by decide)) (.cons (by decide +kernel) (.cons (w (Ws.add (show Ws 1 _ by decide +kernel) hnm) (by decide)) .nil)))))))))
  have bN : badl.length = 10 := by rw [← hB]; rfl
  clear hB
  have fA := (f1.push (.lst good)).push (.lst badl)
  have hl1 := f1.len
  refine wpx_of_wp (r_draw (by decide) fA.tp (by decide)) ?_
  rintro _ S2 ⟨v, rfl, v0, v1, f2⟩
  have f12 := fA.trans f2
  have g2 := f2.keep S1.length (.lst good) (by omega) (ap_old ap_self)
  have b2 := f2.keep (S1 ++ [Cell.lst good]).length (.lst badl) (by simp only [List.length_append]; omega) ap_self
  walk_at "mn"
  refine wpx_of_wp (r_draw (by decide) f12.tp (by decide)) ?_
  rintro _ S3 ⟨u, rfl, u0, u1, f3⟩
  have f13 := f12.trans f3
  have hl2 := f2.len
  simp only [List.length_append, List.length_cons, List.length_nil] at hl2
  have g3 := f3.keep _ _ (by omega) g2
  have b3 := f3.keep _ _ (by simp only [List.length_append]; omega) b2
  walk_at "mn"
  generalize hL2 : List.length (S1 ++ [Cell.lst good]) = L2 at b2 b3 ⊢
  have hL2 : L2 = S1.length + 1 := by rw [← hL2]; simp
  simp only [k_r1n u0 (show u < 1000000000 by omega)]
  walk_at "mn"
  refine for_rng (fun q env S' => ∃ (tx : Str) (k pc : Option D), env = [some (.loc 0), some (.loc t), some (.str nm), some (.loc S1.length), some (.loc L2), some (.bl (v == 0)), some (.str tx), k, none, pc] ∧ Ws (101 * q) tx ∧ Fr t S0 S' ∧ S'[S1.length]? = some (.lst good) ∧ S'[L2]? = some (.lst badl)) u0 (by omega) ⟨_, _, _, rfl, by decide +kernel, f13, g3, b3⟩ ?_ ?_
  · rintro q env S4 hq ⟨tx, k, pc, rfl, htx, f4, g4, b4⟩
    simp only [b_law_4]
    walk_at "mn"
    refine wpx_of_wp (r_draw (by decide) f4.tp (by decide)) ?_
    rintro _ S5 ⟨w, rfl, w0, w1, f5⟩
    have g5 := f5.keep _ _ (by omega) g4
    have b5 := f5.keep _ _ (by omega) b4
    walk_at "mn"
    simp only [g5]
    walk_at "mn"
    refine TxL.pick gL w0 (by rw [gN]; omega) ?_
    intro p1 hp1
    walk_at "mn"
    have last : ∀ (S6 : Store) (pz : Str), Ws 101 pz → Fr t S0 S6 → S6[S1.length]? = some (.lst good) → S6[L2]? = some (.lst badl) → ∀ Q : Mn.Flow × Nv → Store → Prop,
        (∀ tx', Ws (101 * (q + 1)) tx' → Q (.nx, [some (.loc 0), some (.loc t), some (.str nm), some (.loc S1.length), some (.loc L2), some (.bl (v == 0)), some (.str tx'), some (.int (q : Nat)), none, some (.str pz)]) S6) →
        wpx (evSs ⟨glob, callN defs glob 209⟩ b_law_3 [some (.loc 0), some (.loc t), some (.str nm), some (.loc S1.length), some (.loc L2), some (.bl (v == 0)), some (.str tx), some (.int (q : Nat)), none, some (.str pz)]) Q E0x S6 := by
      intro S6 pz hpz h1 h2 h3 Q hQ
      simp only [b_law_3]
      walk_at "mn"
      refine ⟨htx.ok22 hpz (by omega), ?_⟩
      exact hQ _ ((htx.add hpz).mono (by omega))
    cases hv : v == 0 with
    | false =>
      rw [hv] at last
      walk_at "mn"
      refine last S5 p1 (hp1.mono (by decide)) (f4.trans f5) g5 b5 _ fun tx' h' => ?_
      exact ⟨tx', _, _, rfl, h', f4.trans f5, g5, b5⟩
    | true =>
      rw [hv] at last
      walk_at "mn"
      refine wpx_of_wp (r_draw (by decide) f5.tp (by decide)) ?_
      rintro _ S6 ⟨y, rfl, y0, y1, f6⟩
      have f46 := (f4.trans f5).trans f6
      have g6 := f6.keep _ _ (by omega) g5
      have b6 := f6.keep _ _ (by omega) b5
      walk_at "mn"
      cases hy : y == 0 with
      | false =>
        walk_at "mn"
        refine last S6 p1 (hp1.mono (by decide)) f46 g6 b6 _ fun tx' h' => ?_
        exact ⟨tx', _, _, rfl, h', f46, g6, b6⟩
      | true =>
        walk_at "mn"
        simp only [b_law_2]
        walk_at "mn"
        refine wpx_of_wp (r_sign (by decide) f46.tp) ?_
        rintro _ S7 ⟨sg, rfl, hsg, f7⟩
        have f47 := f46.trans f7
        have g7 := f7.keep _ _ (by omega) g6
        have b7 := f7.keep _ _ (by omega) b6
        walk_at "mn"
        have b8 : (S7 ++ [Cell.lst [D.str sg]])[L2]? = some (.lst badl) := ap_old b7
        have s8 : (S7 ++ [Cell.lst [D.str sg]])[S7.length]? = some (.lst [D.str sg]) := ap_self
        simp only [b8, s8]
        walk_at "mn"
        refine ⟨by rw [show (badl ++ [D.str sg]).length = 11 from by simp [bN]]; rfl, ?_⟩
        have f48 := (f47.push (.lst [D.str sg])).push (.lst (badl ++ [D.str sg]))
        have hl7 := f47.len
        refine wpx_of_wp (r_draw (by decide) f48.tp (by decide)) ?_
        rintro _ S8 ⟨z, rfl, z0, z1, f8⟩
        have f49 := f48.trans f8
        have c8 := f8.keep (S7 ++ [Cell.lst [D.str sg]]).length (.lst (badl ++ [D.str sg])) (by simp only [List.length_append]; omega) ap_self
        have g8 := f8.keep _ _ (by omega) (ap_old (c := .lst (badl ++ [D.str sg])) (ap_old (c := .lst [D.str sg]) g7))
        have b9 := f8.keep _ _ (by omega) (ap_old (c := .lst (badl ++ [D.str sg])) (ap_old (c := .lst [D.str sg]) b7))
        walk_at "mn"
        simp only [c8]
        walk_at "mn"
        have pL : TxL 101 (badl ++ [D.str sg]) := fun x hx => by
          rcases List.mem_append.mp hx with hx | hx
          · exact bL x hx
          · have e : x = D.str sg := by simpa using hx
            exact ⟨sg, e, hsg.mono (by decide)⟩
        refine TxL.pick pL z0 (by rw [show (badl ++ [D.str sg]).length = 11 from by simp [bN]]; omega) ?_
        intro p2 hp2
        walk_at "mn"
        refine last S8 p2 hp2 f49 g8 b9 _ fun tx' h' => ?_
        exact ⟨tx', _, _, rfl, h', f49, g8, b9⟩
  · rintro env S4 ⟨tx, k, pc, rfl, htx, f4, g4, b4⟩
    rw [then_nx]
    simp only [b_law_5]
    walk_at "mn"
    have hlen : tx.length ≤ 4100 := by have := htx.1; omega
    have vs := v_scanned (n := 209) (s := tx) (by decide) (by omega)
    have vt : ∀ S : Store, wp (callN defs glob 209 "_law_told" [.str tx]) (fun d S' => d = dueD (Tk.scan tx (tx.length + 1) 0 []) ∧ Kp S S') S := fun S => r_told (by decide) (by omega) htx.2
    have ok := scan_ok htx.2 (tx.length + 1) 0 [] (by omega) (by simp) (fun _ h => nomatch h)
    generalize Tk.scan tx (tx.length + 1) 0 [] = R0 at vs vt ok
    obtain ⟨d1, d2, d3, d4⟩ := due_fine (N := tx.length) (by omega) ok
    have fin : ∀ (S5 : Store) (k pc : Option D), wpx (evSs ⟨glob, callN defs glob 209⟩ b_law_1 [some (.loc 0), some (.loc t), some (.str nm), some (.loc S1.length), some (.loc L2), some (.bl (v == 0)), some (.str tx), k, some (dueD R0), pc]) (fun r S' => wp (retOf r) (fun d x => d = D.bl true) S') E0x S5 := by
      intro S5 k pc
      simp only [b_law_1]
      walk_at "mn"
      refine wpx_of_wp (vt S5) ?_
      rintro _ S6 ⟨rfl, _⟩
      walk_at "mn"
      rw [x_repr d1 d2 d3]
      walk_at "mn"
      rw [x_repr d1 d2 d3]
      walk_at "mn"
      rw [beq_self_eq_true]
      walk_at "mn"
      refine wpx_of_wp (vt S6) ?_
      rintro _ S7 ⟨rfl, _⟩
      walk_at "mn"
      rw [x_repr d1 d2 d3]
      walk_at "mn"
      rw [x_repr d1 d2 d3]
      walk_at "mn"
      rw [beq_self_eq_true]
    cases R0 with
    | inr acc =>
      have pl : plains acc = true := by have := d4; rw [dueD, Mn.plain] at this; exact this
      refine wpx_of_wp (of_callN gpl vs (.cons (cr_pl rfl) .nil) pl) ?_
      rintro _ S5 ⟨⟨L, rfl, hL5⟩, _⟩
      walk_at "mn"
      simp only [hL5]
      walk_at "mn"
      exact fin _ _ _
    | inl q =>
      obtain ⟨p, r⟩ := q
      refine wpx_of_wp (of_callV gpl vs rfl d4) ?_
      rintro _ S5 ⟨rfl, _⟩
      simp only [scR]
      walk_at "mn"
      exact fin _ _ _
end Lw
namespace Lw
open PySem Mn L2
theorem ok_is_number : StOk st_is_number "is_number" "is_number" "" N_is_number ["text"] d_is_number names glob ob := ⟨⟨rfl, rfl, rfl, by decide +kernel, rfl, by decide +kernel, by decide +kernel⟩, rfl, rfl, by kernel_rfl, fun _ _ _ _ _ _ us hl => match us, hl with | [_], _ => rfl⟩
theorem ok_end_of : StOk st_end_of "end_of" "end_of" "" N_end_of ["text", "place", "characters"] d_end_of names glob ob := ⟨⟨rfl, rfl, rfl, by decide +kernel, rfl, by decide +kernel, by decide +kernel⟩, rfl, rfl, by kernel_rfl, fun _ _ _ _ _ _ us hl => match us, hl with | [_, _, _], _ => rfl⟩
theorem ok_token_at : StOk st_token_at "token_at" "token_at" "" N_token_at ["text", "place"] d_token_at names glob ob := ⟨⟨rfl, rfl, rfl, by decide +kernel, rfl, by decide +kernel, by decide +kernel⟩, rfl, rfl, by kernel_rfl, fun _ _ _ _ _ _ us hl => match us, hl with | [_, _], _ => rfl⟩
theorem ok_tokens : StOk st_tokens "tokens" "tokens" "" N_tokens ["text"] d_tokens names glob ob := ⟨⟨rfl, rfl, rfl, by decide +kernel, rfl, by decide +kernel, by decide +kernel⟩, rfl, rfl, by kernel_rfl, fun _ _ _ _ _ _ us hl => match us, hl with | [_], _ => rfl⟩
theorem ok__law_tape : StOk st__law_tape "_law_tape" "_law_tape" "" N__law_tape ["_law_script"] d__law_tape names glob ob := ⟨⟨rfl, rfl, rfl, by decide +kernel, rfl, by decide +kernel, by decide +kernel⟩, rfl, rfl, by kernel_rfl, fun _ _ _ _ _ _ us hl => match us, hl with | [_], _ => rfl⟩
theorem ok__law_draw : StOk st__law_draw "_law_draw" "_law_draw" "" N__law_draw ["_law_tape_here", "_law_many"] d__law_draw names glob ob := ⟨⟨rfl, rfl, rfl, by decide +kernel, rfl, by decide +kernel, by decide +kernel⟩, rfl, rfl, by kernel_rfl, fun _ _ _ _ _ _ us hl => match us, hl with | [_, _], _ => rfl⟩
theorem ok__law_names : StOk st__law_names "_law_names" "_law_names" "" N__law_names ["_law_tape_here", "_law_many"] d__law_names names glob ob := ⟨⟨rfl, rfl, rfl, by decide +kernel, rfl, by decide +kernel, by decide +kernel⟩, rfl, rfl, by kernel_rfl, fun _ _ _ _ _ _ us hl => match us, hl with | [_, _], _ => rfl⟩
theorem ok__law_scanned : StOk st__law_scanned "_law_scanned" "_law_scanned" "" N__law_scanned ["_law_text"] d__law_scanned names glob ob := ⟨⟨rfl, rfl, rfl, by decide +kernel, rfl, by decide +kernel, by decide +kernel⟩, rfl, rfl, by kernel_rfl, fun _ _ _ _ _ _ us hl => match us, hl with | [_], _ => rfl⟩
theorem ok__law_sign : StOk st__law_sign "_law_sign" "_law_sign" "" N__law_sign ["_law_tape_here"] d__law_sign names glob ob := ⟨⟨rfl, rfl, rfl, by decide +kernel, rfl, by decide +kernel, by decide +kernel⟩, rfl, rfl, by kernel_rfl, fun _ _ _ _ _ _ us hl => match us, hl with | [_], _ => rfl⟩
theorem ok__law_told : StOk st__law_told "_law_told" "_law_told" "" N__law_told ["_law_text"] d__law_told names glob ob := ⟨⟨rfl, rfl, rfl, by decide +kernel, rfl, by decide +kernel, by decide +kernel⟩, rfl, rfl, by kernel_rfl, fun _ _ _ _ _ _ us hl => match us, hl with | [_], _ => rfl⟩
theorem ok_law : StOk st_law "law" "law" "" N_law ["_law_script"] d_law names glob ob := ⟨⟨rfl, rfl, rfl, by decide +kernel, rfl, by decide +kernel, by decide +kernel⟩, rfl, rfl, by kernel_rfl, fun _ _ _ _ _ _ us hl => match us, hl with | [_], _ => rfl⟩
theorem ini_TextError : IniOk (inClass (top 5) 0) "self" ["place", "reason"] ["place", "reason"] := ⟨⟨_, _, _, _, _, _, _, rfl, by decide +kernel, by decide +kernel, by kernel_rfl⟩, ⟨rfl, rfl, rfl, by decide +kernel, rfl, by decide +kernel, by decide +kernel, by decide +kernel, by decide +kernel⟩, by kernel_rfl, ⟨_, rfl, rfl⟩, by decide, by decide +kernel, by decide +kernel, by decide, fun _ _ _ _ _ _ _ _ _ us hl => match us, hl with | [_, _, _], _ => rfl⟩
theorem all_mk {P : Program} {K : PySem.W.Frag} {h : Heap} {mg : Str → Option Value} {fa f0 f1 f2 f3 f4 f5 f6 f7 f8 f9 f10 : Addr} (X : K.In h) (G : h.Ns mainGlobals mg) (hfa : mg "law" = some (.ref fa)) {od0 an0 od1 an1 od2 an2 od3 an3 od4 an4 od5 an5 od6 an6 od7 an7 od8 an8 od9 an9 od10 an10 : Option Addr} {sl0 sl1 sl2 sl3 sl4 sl5 sl6 sl7 sl8 sl9 sl10 : Array (Option Value)} {oc0 kV0 dc0 pm0 cd0 ct0 oc1 kV1 dc1 pm1 cd1 ct1 oc2 kV2 dc2 pm2 cd2 ct2 oc3 kV3 dc3 pm3 cd3 ct3 oc4 kV4 dc4 pm4 cd4 ct4 oc5 kV5 dc5 pm5 cd5 ct5 oc6 kV6 dc6 pm6 cd6 ct6 oc7 kV7 dc7 pm7 cd7 ct7 oc8 kV8 dc8 pm8 cd8 ct8 oc9 kV9 dc9 pm9 cd9 ct9 oc10 kV10 dc10 pm10 cd10 ct10 : Value} {X0 : Addr} {X1 : Addr} {X2 : Addr} {X3 : Addr} {X4 : Addr} {X5 : Addr} {X6 : Addr} {X7 : Addr} {X8 : Addr} {X9 : Addr} {X10 : Addr} {X11 : Addr} {X12 : Addr} {X13 : Addr} {xnm0 xq0 : Str} {xN0 : Addr} {xbs0 xbm0 : List Value} {xsn0 : List Str} {xsub0 : List Value} {xab0 : Bool} {xcol0 : Option Bool} {xdd0 : Option Addr} {xk00 xk10 xk20 xk30 xk50 : Option Value} {xf0 xc0 xcc0 : Addr} {xoc0 xcl0 xccl0 xkV0 xdoc0 xpm0 xct0 : Value} {xan0 xod0 xcld0 xcdd0 : Option Addr} {xosl0 xcsl0 xccs0 : Array (Option Value)} {xvs0 : Array Value} {xfile0 : Str} {xtf0 : Tok} {ga6 : Addr} {go6 : Option Addr} {gn6 : Nat} {gs6 : Array (Option Value)} {gt6_0 : Tok} {gt6_1 : Tok} {gt5 : Tok} {gt4 : Tok} {gt3 : Tok} {gt2 : Tok} {gt1 : Tok} {gt0 : Tok} 
    (a0 : PySem.W.nsIn K mainGlobals "is_number" = some (some (.ref f0)))
    (l0 : K.lookup f0 = some ⟨oc0, od0, .func (PySem.W.fnOf "is_number" "is_number" (defArgs st_is_number) (defBody st_is_number) (defScope st_is_number) .none kV0 dc0 pm0 an0 cd0 ct0), sl0⟩) (c0 : PySem.W.codeIn K cd0 "is_number" = true) (k0 : PySem.W.keepIn K (.ref f0) = true)
    (a1 : PySem.W.nsIn K mainGlobals "end_of" = some (some (.ref f1)))
    (l1 : K.lookup f1 = some ⟨oc1, od1, .func (PySem.W.fnOf "end_of" "end_of" (defArgs st_end_of) (defBody st_end_of) (defScope st_end_of) .none kV1 dc1 pm1 an1 cd1 ct1), sl1⟩) (c1 : PySem.W.codeIn K cd1 "end_of" = true) (k1 : PySem.W.keepIn K (.ref f1) = true)
    (a2 : PySem.W.nsIn K mainGlobals "token_at" = some (some (.ref f2)))
    (l2 : K.lookup f2 = some ⟨oc2, od2, .func (PySem.W.fnOf "token_at" "token_at" (defArgs st_token_at) (defBody st_token_at) (defScope st_token_at) .none kV2 dc2 pm2 an2 cd2 ct2), sl2⟩) (c2 : PySem.W.codeIn K cd2 "token_at" = true) (k2 : PySem.W.keepIn K (.ref f2) = true)
    (a3 : PySem.W.nsIn K mainGlobals "tokens" = some (some (.ref f3)))
    (l3 : K.lookup f3 = some ⟨oc3, od3, .func (PySem.W.fnOf "tokens" "tokens" (defArgs st_tokens) (defBody st_tokens) (defScope st_tokens) .none kV3 dc3 pm3 an3 cd3 ct3), sl3⟩) (c3 : PySem.W.codeIn K cd3 "tokens" = true) (k3 : PySem.W.keepIn K (.ref f3) = true)
    (a4 : PySem.W.nsIn K mainGlobals "_law_tape" = some (some (.ref f4)))
    (l4 : K.lookup f4 = some ⟨oc4, od4, .func (PySem.W.fnOf "_law_tape" "_law_tape" (defArgs st__law_tape) (defBody st__law_tape) (defScope st__law_tape) .none kV4 dc4 pm4 an4 cd4 ct4), sl4⟩) (c4 : PySem.W.codeIn K cd4 "_law_tape" = true) (k4 : PySem.W.keepIn K (.ref f4) = true)
    (a5 : PySem.W.nsIn K mainGlobals "_law_draw" = some (some (.ref f5)))
    (l5 : K.lookup f5 = some ⟨oc5, od5, .func (PySem.W.fnOf "_law_draw" "_law_draw" (defArgs st__law_draw) (defBody st__law_draw) (defScope st__law_draw) .none kV5 dc5 pm5 an5 cd5 ct5), sl5⟩) (c5 : PySem.W.codeIn K cd5 "_law_draw" = true) (k5 : PySem.W.keepIn K (.ref f5) = true)
    (a6 : PySem.W.nsIn K mainGlobals "_law_names" = some (some (.ref f6)))
    (l6 : K.lookup f6 = some ⟨oc6, od6, .func (PySem.W.fnOf "_law_names" "_law_names" (defArgs st__law_names) (defBody st__law_names) (defScope st__law_names) .none kV6 dc6 pm6 an6 cd6 ct6), sl6⟩) (c6 : PySem.W.codeIn K cd6 "_law_names" = true) (k6 : PySem.W.keepIn K (.ref f6) = true)
    (a7 : PySem.W.nsIn K mainGlobals "_law_scanned" = some (some (.ref f7)))
    (l7 : K.lookup f7 = some ⟨oc7, od7, .func (PySem.W.fnOf "_law_scanned" "_law_scanned" (defArgs st__law_scanned) (defBody st__law_scanned) (defScope st__law_scanned) .none kV7 dc7 pm7 an7 cd7 ct7), sl7⟩) (c7 : PySem.W.codeIn K cd7 "_law_scanned" = true) (k7 : PySem.W.keepIn K (.ref f7) = true)
    (a8 : PySem.W.nsIn K mainGlobals "_law_sign" = some (some (.ref f8)))
    (l8 : K.lookup f8 = some ⟨oc8, od8, .func (PySem.W.fnOf "_law_sign" "_law_sign" (defArgs st__law_sign) (defBody st__law_sign) (defScope st__law_sign) .none kV8 dc8 pm8 an8 cd8 ct8), sl8⟩) (c8 : PySem.W.codeIn K cd8 "_law_sign" = true) (k8 : PySem.W.keepIn K (.ref f8) = true)
    (a9 : PySem.W.nsIn K mainGlobals "_law_told" = some (some (.ref f9)))
    (l9 : K.lookup f9 = some ⟨oc9, od9, .func (PySem.W.fnOf "_law_told" "_law_told" (defArgs st__law_told) (defBody st__law_told) (defScope st__law_told) .none kV9 dc9 pm9 an9 cd9 ct9), sl9⟩) (c9 : PySem.W.codeIn K cd9 "_law_told" = true) (k9 : PySem.W.keepIn K (.ref f9) = true)
    (a10 : PySem.W.nsIn K mainGlobals "law" = some (some (.ref f10)))
    (l10 : K.lookup f10 = some ⟨oc10, od10, .func (PySem.W.fnOf "law" "law" (defArgs st_law) (defBody st_law) (defScope st_law) .none kV10 dc10 pm10 an10 cd10 ct10), sl10⟩) (c10 : PySem.W.codeIn K cd10 "law" = true) (k10 : PySem.W.keepIn K (.ref f10) = true)
    (z0 : PySem.W.nsIn K mainGlobals "len" = some none)
    (z1 : PySem.W.nsIn K mainGlobals "int" = some none)
    (z2 : PySem.W.nsIn K mainGlobals "abs" = some none)
    (z3 : PySem.W.nsIn K mainGlobals "max" = some none)
    (z4 : PySem.W.nsIn K mainGlobals "min" = some none)
    (z5 : PySem.W.nsIn K mainGlobals "sum" = some none)
    (z6 : PySem.W.nsIn K mainGlobals "list" = some none)
    (z7 : PySem.W.nsIn K mainGlobals "tuple" = some none)
    (z8 : PySem.W.nsIn K mainGlobals "str" = some none)
    (z9 : PySem.W.nsIn K mainGlobals "repr" = some none)
    (z10 : PySem.W.nsIn K mainGlobals "all" = some none)
    (z11 : PySem.W.nsIn K mainGlobals "any" = some none)
    (z12 : PySem.W.nsIn K mainGlobals "range" = some none)
    (z13 : PySem.W.nsIn K mainGlobals "reversed" = some none)
    (z14 : PySem.W.nsIn K mainGlobals "isinstance" = some none)
    (z15 : PySem.W.nsIn K mainGlobals "bool" = some none)
    (xa0 : PySem.W.nsIn K mainGlobals "TextError" = some (some (.ref X0)))
    (xa1 : PySem.W.nsIn K mainGlobals "UnknownFlag" = some (some (.ref X1)))
    (xa2 : PySem.W.nsIn K mainGlobals "FlagTwice" = some (some (.ref X2)))
    (xa3 : PySem.W.nsIn K mainGlobals "OutsideOfLoop" = some (some (.ref X3)))
    (xa4 : PySem.W.nsIn K mainGlobals "TooManyFlags" = some (some (.ref X4)))
    (xa5 : PySem.W.nsIn K mainGlobals "TooManyConfigurations" = some (some (.ref X5)))
    (xa6 : PySem.W.nsIn K mainGlobals "TooManyNodes" = some (some (.ref X6)))
    (xa7 : PySem.W.nsIn K mainGlobals "TooManyPositions" = some (some (.ref X7)))
    (xa8 : PySem.W.nsIn K mainGlobals "TryInFinally" = some (some (.ref X8)))
    (xa9 : PySem.W.nsIn K mainGlobals "TooLarge" = some (some (.ref X9)))
    (xa10 : PySem.W.nsIn K mainGlobals "NoStatement" = some (some (.ref X10)))
    (xa11 : PySem.W.nsIn K mainGlobals "TooManyVersions" = some (some (.ref X11)))
    (xa12 : PySem.W.nsIn K mainGlobals "RunOver" = some (some (.ref X12)))
    (xa13 : PySem.W.nsIn K mainGlobals "FlowError" = some (some (.ref X13)))
    (xkC0 : PySem.W.keepIn K (.ref X0) = true)
    (xeC0 : PySem.W.subIn K (.ref X0) (.type "BaseException") = some true)
    (xtC0 : PySem.W.typeIn K (.ref X0) = some (.type "type"))
    (xhg0 : PySem.W.findIn K (.ref X0) "__getattribute__" = some (some (.builtin "BaseException.__getattribute__")))
    (xhk0 : PySem.W.findIn K (.ref X0) "__getattr__" = some none)
    (xhd0 : PySem.W.hasDictIn K X0 = true)
    (xhc0 : PySem.W.findIn K (.ref X0) "__class__" = some (some (.builtin "object.__class__")))
    (xhm0 : PySem.W.mroIn K X0 (.type "object") = some true)
    (xn0_place : PySem.W.findIn K (.ref X0) "place" = some none)
    (xn0_reason : PySem.W.findIn K (.ref X0) "reason" = some none)
    (xL0 : K.lookup X0 = some (excClassObj xnm0 xq0 X0 xN0 xbs0 xbm0 true xsn0 xsub0 xab0 xcol0 xdd0 xk00 xk10 xk20 xk30 xk50 "ValueError.__new__"))
    (xbb0 : HandSPX.refsVE xbm0 = true)
    (xsa0 : PySem.W.findIn K (.ref X0) "__setattr__" = some (some (.builtin "object.__setattr__")))
    (xi0 : PySem.W.findIn K (.ref X0) "__init__" = some (some (.ref xf0)))
    (xt0 : PySem.W.typeIn K (.ref xf0) = some (.type "function"))
    (xl0 : K.lookup xf0 = some ⟨xoc0, xod0, .func (PySem.W.fnX "__init__" "TextError.__init__" (defArgs (inClass (top 5) 0)) (defBody (inClass (top 5) 0)) (defScope (inClass (top 5) 0)) [("__class__", xcc0)] .none xkV0 xdoc0 xpm0 xan0 (.ref xc0) xct0), xosl0⟩)
    (xco0 : PySem.W.codeIn K (.ref xc0) "TextError.__init__" = true)
    (xlc0 : K.lookup xcc0 = some ⟨xcl0, xcld0, .cell (some (.ref X0)), xcsl0⟩)
    (xlo0 : K.lookup xc0 = some ⟨xccl0, xcdd0, .fields xvs0, xccs0⟩)
    (xhv0 : xvs0[2]? = some (.str xfile0 xtf0))
    (xhf0 : ((P.main.file : Str) == xfile0) = true)
    (xsu0 : PySem.W.ks_superIn K X0 X0 "__init__" = some (some (.builtin "ValueError.__init__")))
    (xVE0 : PySem.W.subIn K (.ref X0) (.type "ValueError") = some true)
    (xse0 : PySem.W.mroIn K X0 (.ref X0) = some true)
    (xo0_0 : PySem.W.kitOne K (.ref X0) (.ref X0) = some true)
    (xe0_0 : PySem.W.exmOne K (.ref X0) (.ref X0) = some true)
    (xo1_0 : PySem.W.kitOne K (.ref X0) (.ref X1) = some false)
    (xe1_0 : PySem.W.exmOne K (.ref X0) (.ref X1) = some false)
    (xo2_0 : PySem.W.kitOne K (.ref X0) (.ref X2) = some false)
    (xe2_0 : PySem.W.exmOne K (.ref X0) (.ref X2) = some false)
    (xo3_0 : PySem.W.kitOne K (.ref X0) (.ref X3) = some false)
    (xe3_0 : PySem.W.exmOne K (.ref X0) (.ref X3) = some false)
    (xo4_0 : PySem.W.kitOne K (.ref X0) (.ref X4) = some false)
    (xe4_0 : PySem.W.exmOne K (.ref X0) (.ref X4) = some false)
    (xo5_0 : PySem.W.kitOne K (.ref X0) (.ref X5) = some false)
    (xe5_0 : PySem.W.exmOne K (.ref X0) (.ref X5) = some false)
    (xo6_0 : PySem.W.kitOne K (.ref X0) (.ref X6) = some false)
    (xe6_0 : PySem.W.exmOne K (.ref X0) (.ref X6) = some false)
    (xo7_0 : PySem.W.kitOne K (.ref X0) (.ref X7) = some false)
    (xe7_0 : PySem.W.exmOne K (.ref X0) (.ref X7) = some false)
    (xo8_0 : PySem.W.kitOne K (.ref X0) (.ref X8) = some false)
    (xe8_0 : PySem.W.exmOne K (.ref X0) (.ref X8) = some false)
    (xo9_0 : PySem.W.kitOne K (.ref X0) (.ref X9) = some false)
    (xe9_0 : PySem.W.exmOne K (.ref X0) (.ref X9) = some false)
    (xo10_0 : PySem.W.kitOne K (.ref X0) (.ref X10) = some false)
    (xe10_0 : PySem.W.exmOne K (.ref X0) (.ref X10) = some false)
    (xo11_0 : PySem.W.kitOne K (.ref X0) (.ref X11) = some false)
    (xe11_0 : PySem.W.exmOne K (.ref X0) (.ref X11) = some false)
    (xo12_0 : PySem.W.kitOne K (.ref X0) (.ref X12) = some false)
    (xe12_0 : PySem.W.exmOne K (.ref X0) (.ref X12) = some false)
    (xo13_0 : PySem.W.kitOne K (.ref X0) (.ref X13) = some true)
    (xe13_0 : PySem.W.exmOne K (.ref X0) (.ref X13) = some true)
    (xo14_0 : PySem.W.kitOne K (.ref X0) (.type "ValueError") = some true)
    (xe14_0 : PySem.W.exmOne K (.ref X0) (.type "ValueError") = some true)
    (xhn : PySem.W.specialIn K (.builtin "object.__class__") "__get__" = some (some (.builtin "getset_descriptor.__get__")))
    (xht : PySem.W.takesIn K (.builtin "object.__class__") = some true)
    (xtop : (P.main.scope.names.lookup ("super" : Str)).isSome = false)
    (xop : PySem.W.nsIn K cStatics "thirdparty.any" = some none)
    (xzs : PySem.W.nsIn K mainGlobals "super" = some none)
    (xzv : PySem.W.nsIn K mainGlobals "ValueError" = some none)
    (cg6 : PySem.W.nsIn K mainGlobals "LONG_SYMBOLS" = some (some (.ref ga6))) (ch6 : K.lookup ga6 = some ⟨.type "tuple", go6, .seq #[.str "&&" gt6_0, .str "||" gt6_1] gn6, gs6⟩)
    (cg5 : PySem.W.nsIn K mainGlobals "SYMBOLS" = some (some (.str "(){};:=!" gt5)))
    (cg4 : PySem.W.nsIn K mainGlobals "BLANKS" = some (some (.str " \n\t" gt4)))
    (cg3 : PySem.W.nsIn K mainGlobals "LONGEST_NAME" = some (some (.int 30 gt3)))
    (cg2 : PySem.W.nsIn K mainGlobals "WORD_CHARACTERS" = some (some (.str "abcdefghijklmnopqrstuvwxyzABCDEFGHIJKLMNOPQRSTUVWXYZ0123456789_" gt2)))
    (cg1 : PySem.W.nsIn K mainGlobals "DIGITS" = some (some (.str "0123456789" gt1)))
    (cg0 : PySem.W.nsIn K mainGlobals "LETTERS" = some (some (.str "abcdefghijklmnopqrstuvwxyzABCDEFGHIJKLMNOPQRSTUVWXYZ" gt0))) :
    PrOk P K mg defs names glob ob ∧ ∃ dl fd, defs.lookup ("law" : Str) = some dl ∧ DefT K names glob ob "law" dl fa fd ["_law_script"] ∧ ∀ (s : Shared) (u : Value), BindsTo s fd ⟨[u], []⟩ [("_law_script", u)] := by
  have e := hfa.symm.trans (PySem.W.mg_of X G a10)
  cases e
  refine ⟨⟨(al_cons (def_at X G ok_is_number (fun_mk l0 c0 k0) a0 (by kernel_rfl)) (al_cons (def_at X G ok_end_of (fun_mk l1 c1 k1) a1 (by kernel_rfl)) (al_cons (def_at X G ok_token_at (fun_mk l2 c2 k2) a2 (by kernel_rfl)) (al_cons (def_at X G ok_tokens (fun_mk l3 c3 k3) a3 (by kernel_rfl)) (al_cons (def_at X G ok__law_tape (fun_mk l4 c4 k4) a4 (by kernel_rfl)) (al_cons (def_at X G ok__law_draw (fun_mk l5 c5 k5) a5 (by kernel_rfl)) (al_cons (def_at X G ok__law_names (fun_mk l6 c6 k6) a6 (by kernel_rfl)) (al_cons (def_at X G ok__law_scanned (fun_mk l7 c7 k7) a7 (by kernel_rfl)) (al_cons (def_at X G ok__law_sign (fun_mk l8 c8 k8) a8 (by kernel_rfl)) (al_cons (def_at X G ok__law_told (fun_mk l9 c9 k9) a9 (by kernel_rfl)) (al_cons (def_at X G ok_law (fun_mk l10 c10 k10) a10 (by kernel_rfl)) al_nil))))))))))), al_nil, al_nil, al_nil, bts_all X G (l := btNames) ⟨z0, z1, z2, z3, z4, z5, z6, z7, z8, z9, z10, z11, z12, z13, z14, z15, trivial⟩, (gbs_cons (gb_str X G cg0) (gbs_cons (gb_str X G cg1) (gbs_cons (gb_str X G cg2) (gbs_cons (gb_int X G cg3) (gbs_cons (gb_str X G cg4) (gbs_cons (gb_str X G cg5) (gbs_cons (gb_tupS (xs := ["&&", "||"]) X G cg6 ch6 (show 2 ≤ sizeLine by decide) (.cons ⟨_, rfl⟩ (.cons ⟨_, rfl⟩ .nil))) gbs_nil))))))), ⟨(eco_mk (al_cons ⟨_, PySem.W.mg_of X G xa0, ⟨xhg0, xhk0, xeC0, xhd0, xhc0, xhn, xht, xhm0⟩, NoF.all ⟨xn0_place, xn0_reason, trivial⟩⟩ al_nil)), (al_cons (fun _ => exi_mk X G ini_TextError xa0 (oexc_mk xL0 xbb0 xsa0 xeC0 xtC0 xkC0) ⟨xn0_place, xn0_reason, trivial⟩ xi0 xt0 xl0 xco0 xlc0 xlo0 xhv0 xhf0 xtop xsu0 xVE0 xse0 xop xzs) al_nil), (al_cons (fun q => nomatch q) al_nil), (al_cons (ehk_ref X G (by decide) xa0 (al_cons (one_mk X G xa0 xo0_0 xe0_0 (by kernel_rfl)) al_nil)) (al_cons (ehk_ref X G (by decide) xa1 (al_cons (one_mk X G xa0 xo1_0 xe1_0 (by kernel_rfl)) al_nil)) (al_cons (ehk_ref X G (by decide) xa2 (al_cons (one_mk X G xa0 xo2_0 xe2_0 (by kernel_rfl)) al_nil)) (al_cons (ehk_ref X G (by decide) xa3 (al_cons (one_mk X G xa0 xo3_0 xe3_0 (by kernel_rfl)) al_nil)) (al_cons (ehk_ref X G (by decide) xa4 (al_cons (one_mk X G xa0 xo4_0 xe4_0 (by kernel_rfl)) al_nil)) (al_cons (ehk_ref X G (by decide) xa5 (al_cons (one_mk X G xa0 xo5_0 xe5_0 (by kernel_rfl)) al_nil)) (al_cons (ehk_ref X G (by decide) xa6 (al_cons (one_mk X G xa0 xo6_0 xe6_0 (by kernel_rfl)) al_nil)) (al_cons (ehk_ref X G (by decide) xa7 (al_cons (one_mk X G xa0 xo7_0 xe7_0 (by kernel_rfl)) al_nil)) (al_cons (ehk_ref X G (by decide) xa8 (al_cons (one_mk X G xa0 xo8_0 xe8_0 (by kernel_rfl)) al_nil)) (al_cons (ehk_ref X G (by decide) xa9 (al_cons (one_mk X G xa0 xo9_0 xe9_0 (by kernel_rfl)) al_nil)) (al_cons (ehk_ref X G (by decide) xa10 (al_cons (one_mk X G xa0 xo10_0 xe10_0 (by kernel_rfl)) al_nil)) (al_cons (ehk_ref X G (by decide) xa11 (al_cons (one_mk X G xa0 xo11_0 xe11_0 (by kernel_rfl)) al_nil)) (al_cons (ehk_ref X G (by decide) xa12 (al_cons (one_mk X G xa0 xo12_0 xe12_0 (by kernel_rfl)) al_nil)) (al_cons (ehk_ref X G (by decide) xa13 (al_cons (one_mk X G xa0 xo13_0 xe13_0 (by kernel_rfl)) al_nil)) (al_cons (ehk_ve X G xzv (al_cons (one_mk X G xa0 xo14_0 xe14_0 (by kernel_rfl)) al_nil)) al_nil)))))))))))))))⟩⟩, d_law, _, by kernel_rfl, defT_mk ok_law (fun_mk l10 c10 k10), fun s v => .of_eq rfl⟩
end Lw
open PySem PySem.W PyProof.Rows
set_option maxRecDepth 100000 in
set_option maxHeartbeats 0 in
theorem PySem.Challenge.cw_flowform_k10_tokens_of_a_text_holds : PySem.Challenge.rw_flowform_k10_tokens_of_a_text.Holds := by
  w_on; o_law; k_head; (case hw => w_witness2)
  k_fill
  refine Mn.row_walk (l := PySem.Challenge.rw_flowform_k10_tokens_of_a_text) (defs := Lw.defs) (names := Lw.names) (glob := Lw.glob) (ob := Lw.ob) (n := 210) (x := "_law_script") rfl rfl (by decide) (fun w h Y => PySem.W.kIn_of Y) ?F (fun ns hl => Lw.law_true ns hl)
  case F =>
    intro w mg fa h KX G hmg
    refine' Lw.all_mk KX G hmg ?a0 ?l0 ?c0 ?k0 ?a1 ?l1 ?c1 ?k1 ?a2 ?l2 ?c2 ?k2 ?a3 ?l3 ?c3 ?k3 ?a4 ?l4 ?c4 ?k4 ?a5 ?l5 ?c5 ?k5 ?a6 ?l6 ?c6 ?k6 ?a7 ?l7 ?c7 ?k7 ?a8 ?l8 ?c8 ?k8 ?a9 ?l9 ?c9 ?k9 ?a10 ?l10 ?c10 ?k10 ?z0 ?z1 ?z2 ?z3 ?z4 ?z5 ?z6 ?z7 ?z8 ?z9 ?z10 ?z11 ?z12 ?z13 ?z14 ?z15 ?xa0 ?xa1 ?xa2 ?xa3 ?xa4 ?xa5 ?xa6 ?xa7 ?xa8 ?xa9 ?xa10 ?xa11 ?xa12 ?xa13 ?xkC0 ?xeC0 ?xtC0 ?xhg0 ?xhk0 ?xhd0 ?xhc0 ?xhm0 ?xn0_place ?xn0_reason ?xL0 ?xbb0 ?xsa0 ?xi0 ?xt0 ?xl0 ?xco0 ?xlc0 ?xlo0 ?xhv0 ?xhf0 ?xsu0 ?xVE0 ?xse0 ?xo0_0 ?xe0_0 ?xo1_0 ?xe1_0 ?xo2_0 ?xe2_0 ?xo3_0 ?xe3_0 ?xo4_0 ?xe4_0 ?xo5_0 ?xe5_0 ?xo6_0 ?xe6_0 ?xo7_0 ?xe7_0 ?xo8_0 ?xe8_0 ?xo9_0 ?xe9_0 ?xo10_0 ?xe10_0 ?xo11_0 ?xe11_0 ?xo12_0 ?xe12_0 ?xo13_0 ?xe13_0 ?xo14_0 ?xe14_0 ?xhn ?xht ?xtop ?xop ?xzs ?xzv ?cg6 ?ch6 ?cg5 ?cg4 ?cg3 ?cg2 ?cg1 ?cg0
    (case a0 => k_is)
    (case l0 => k_is)
    (case c0 => k_is)
    (case k0 => k_is)
    (case a1 => k_is)
    (case l1 => k_is)
    (case c1 => k_is)
    (case k1 => k_is)
    (case a2 => k_is)
    (case l2 => k_is)
    (case c2 => k_is)
    (case k2 => k_is)
    (case a3 => k_is)
    (case l3 => k_is)
    (case c3 => k_is)
    (case k3 => k_is)
    (case a4 => k_is)
    (case l4 => k_is)
    (case c4 => k_is)
    (case k4 => k_is)
    (case a5 => k_is)
    (case l5 => k_is)
    (case c5 => k_is)
    (case k5 => k_is)
    (case a6 => k_is)
    (case l6 => k_is)
    (case c6 => k_is)
    (case k6 => k_is)
    (case a7 => k_is)
    (case l7 => k_is)
    (case c7 => k_is)
    (case k7 => k_is)
    (case a8 => k_is)
    (case l8 => k_is)
    (case c8 => k_is)
    (case k8 => k_is)
    (case a9 => k_is)
    (case l9 => k_is)
    (case c9 => k_is)
    (case k9 => k_is)
    (case a10 => k_is)
    (case l10 => k_is)
    (case c10 => k_is)
    (case k10 => k_is)
    (case z0 => k_is)
    (case z1 => k_is)
    (case z2 => k_is)
    (case z3 => k_is)
    (case z4 => k_is)
    (case z5 => k_is)
    (case z6 => k_is)
    (case z7 => k_is)
    (case z8 => k_is)
    (case z9 => k_is)
    (case z10 => k_is)
    (case z11 => k_is)
    (case z12 => k_is)
    (case z13 => k_is)
    (case z14 => k_is)
    (case z15 => k_is)
    (case cg6 => k_is)
    (case ch6 => k_is)
    (case cg5 => k_is)
    (case cg4 => k_is)
    (case cg3 => k_is)
    (case cg2 => k_is)
    (case cg1 => k_is)
    (case cg0 => k_is)
    (case xa0 => first | k_is | ks_is | rfl | decide +kernel)
    (case xa1 => first | k_is | ks_is | rfl | decide +kernel)
    (case xa2 => first | k_is | ks_is | rfl | decide +kernel)
    (case xa3 => first | k_is | ks_is | rfl | decide +kernel)
    (case xa4 => first | k_is | ks_is | rfl | decide +kernel)
    (case xa5 => first | k_is | ks_is | rfl | decide +kernel)
    (case xa6 => first | k_is | ks_is | rfl | decide +kernel)
    (case xa7 => first | k_is | ks_is | rfl | decide +kernel)
    (case xa8 => first | k_is | ks_is | rfl | decide +kernel)
    (case xa9 => first | k_is | ks_is | rfl | decide +kernel)
    (case xa10 => first | k_is | ks_is | rfl | decide +kernel)
    (case xa11 => first | k_is | ks_is | rfl | decide +kernel)
    (case xa12 => first | k_is | ks_is | rfl | decide +kernel)
    (case xa13 => first | k_is | ks_is | rfl | decide +kernel)
    (case xL0 => first | k_is | ks_is | rfl | decide +kernel)
    (case xi0 => first | k_is | ks_is | rfl | decide +kernel)
    (case xl0 => first | k_is | ks_is | rfl | decide +kernel)
    (case xkC0 => first | k_is | ks_is | rfl | decide +kernel)
    (case xeC0 => first | k_is | ks_is | rfl | decide +kernel)
    (case xtC0 => first | k_is | ks_is | rfl | decide +kernel)
    (case xhg0 => first | k_is | ks_is | rfl | decide +kernel)
    (case xhk0 => first | k_is | ks_is | rfl | decide +kernel)
    (case xhd0 => first | k_is | ks_is | rfl | decide +kernel)
    (case xhc0 => first | k_is | ks_is | rfl | decide +kernel)
    (case xhm0 => first | k_is | ks_is | rfl | decide +kernel)
    (case xn0_place => first | k_is | ks_is | rfl | decide +kernel)
    (case xn0_reason => first | k_is | ks_is | rfl | decide +kernel)
    (case xbb0 => first | k_is | ks_is | rfl | decide +kernel)
    (case xsa0 => first | k_is | ks_is | rfl | decide +kernel)
    (case xt0 => first | k_is | ks_is | rfl | decide +kernel)
    (case xco0 => first | k_is | ks_is | rfl | decide +kernel)
    (case xlc0 => first | k_is | ks_is | rfl | decide +kernel)
    (case xlo0 => first | k_is | ks_is | rfl | decide +kernel)
    (case xsu0 => first | k_is | ks_is | rfl | decide +kernel)
    (case xVE0 => first | k_is | ks_is | rfl | decide +kernel)
    (case xse0 => first | k_is | ks_is | rfl | decide +kernel)
    (case xhn => first | k_is | ks_is | rfl | decide +kernel)
    (case xht => first | k_is | ks_is | rfl | decide +kernel)
    (case xtop => first | k_is | ks_is | rfl | decide +kernel)
    (case xop => first | k_is | ks_is | rfl | decide +kernel)
    (case xzs => first | k_is | ks_is | rfl | decide +kernel)
    (case xzv => first | k_is | ks_is | rfl | decide +kernel)
    (case xhv0 => first | k_is | ks_is | rfl | decide +kernel)
    (case xhf0 => first | k_is | ks_is | rfl | decide +kernel)
    (case xo0_0 => first | k_is | ks_is | rfl | decide +kernel)
    (case xe0_0 => first | k_is | ks_is | rfl | decide +kernel)
    (case xo1_0 => first | k_is | ks_is | rfl | decide +kernel)
    (case xe1_0 => first | k_is | ks_is | rfl | decide +kernel)
    (case xo2_0 => first | k_is | ks_is | rfl | decide +kernel)
    (case xe2_0 => first | k_is | ks_is | rfl | decide +kernel)
    (case xo3_0 => first | k_is | ks_is | rfl | decide +kernel)
    (case xe3_0 => first | k_is | ks_is | rfl | decide +kernel)
    (case xo4_0 => first | k_is | ks_is | rfl | decide +kernel)
    (case xe4_0 => first | k_is | ks_is | rfl | decide +kernel)
    (case xo5_0 => first | k_is | ks_is | rfl | decide +kernel)
    (case xe5_0 => first | k_is | ks_is | rfl | decide +kernel)
    (case xo6_0 => first | k_is | ks_is | rfl | decide +kernel)
    (case xe6_0 => first | k_is | ks_is | rfl | decide +kernel)
    (case xo7_0 => first | k_is | ks_is | rfl | decide +kernel)
    (case xe7_0 => first | k_is | ks_is | rfl | decide +kernel)
    (case xo8_0 => first | k_is | ks_is | rfl | decide +kernel)
    (case xe8_0 => first | k_is | ks_is | rfl | decide +kernel)
    (case xo9_0 => first | k_is | ks_is | rfl | decide +kernel)
    (case xe9_0 => first | k_is | ks_is | rfl | decide +kernel)
    (case xo10_0 => first | k_is | ks_is | rfl | decide +kernel)
    (case xe10_0 => first | k_is | ks_is | rfl | decide +kernel)
    (case xo11_0 => first | k_is | ks_is | rfl | decide +kernel)
    (case xe11_0 => first | k_is | ks_is | rfl | decide +kernel)
    (case xo12_0 => first | k_is | ks_is | rfl | decide +kernel)
    (case xe12_0 => first | k_is | ks_is | rfl | decide +kernel)
    (case xo13_0 => first | k_is | ks_is | rfl | decide +kernel)
    (case xe13_0 => first | k_is | ks_is | rfl | decide +kernel)
    (case xo14_0 => first | k_is | ks_is | rfl | decide +kernel)
    (case xe14_0 => first | k_is | ks_is | rfl | decide +kernel)
