import PyProof.Rows.All
import Wide.All
import OpenK.AllK
import Wide.FinOn
import HandS.ForMost
import HandS.TupAny
import HandS.TupMul
import HandS.Deep
import HandS.Flow
import HandS.TupLe
import HandS.More
import HandS.RaiseMore
import HandS.Rev
import PySem.Challenge.RW_flowform_k13_printed_programs
set_option Elab.async false
set_option linter.all false
set_option maxRecDepth 100000
/-! Mn, part 1: values by value, a store of cells, the evaluator. -/
namespace Mn
open PySem L2
inductive D where
  | non | bl (b : Bool) | int (i : Int) | str (s : Str) | tup (xs : List D) | loc (n : Nat) | lst (xs : List D) | dct (ks vs : List D)
inductive Cell where
  | lst (xs : List D)
  | ro (xs : List D)
abbrev Store := List Cell
/-- an exception: its class, its attributes -/
structure Exn where
  cls : Str
  fs : List (Str × D)
inductive Res (α : Type) where
  | ok (a : α) (S : Store)
  | exc (e : Exn) (S : Store)
  | bad
abbrev M (α : Type) := Store → Res α
namespace M
def ret {α : Type} (a : α) : M α := fun S => .ok a S
def bad {α : Type} : M α := fun _ => .bad
def bind {α β : Type} (m : M α) (f : α → M β) : M β := fun S =>
  match m S with
  | .ok a S' => f a S'
  | .exc e S' => .exc e S'
  | .bad => .bad
end M
def opt {α : Type} : Option α → M α
  | some a => M.ret a
  | none => M.bad
def guard (c : Bool) : M Unit := match c with
  | true => M.ret ()
  | false => M.bad
/-- what must hold so that the run ends well, with Q of its end (E: of an exception) -/
def wpx {α : Type} (m : M α) (Q : α → Store → Prop) (E : Exn → Store → Prop) (S : Store) : Prop :=
  match m S with
  | .ok a S' => Q a S'
  | .exc e S' => E e S'
  | .bad => False
abbrev E0x : Exn → Store → Prop := fun _ _ => False
abbrev wp {α : Type} (m : M α) (Q : α → Store → Prop) (S : Store) : Prop := wpx m Q E0x S
section
variable {α β : Type} {Q Q' : α → Store → Prop} {E E' : Exn → Store → Prop} {S : Store}
@[simp] theorem wpx_ret {a : α} : wpx (M.ret a) Q E S ↔ Q a S := Iff.rfl
@[simp] theorem wpx_bad : wpx (M.bad : M α) Q E S ↔ False := Iff.rfl
@[simp] theorem wpx_bind {m : M β} {f : β → M α} : wpx (M.bind m f) Q E S ↔ wpx m (fun b S' => wpx (f b) Q E S') E S := by
  show (match M.bind m f S with | .ok a S' => Q a S' | .exc e S' => E e S' | .bad => False) ↔ (match m S with | .ok a S' => _ | .exc e S' => E e S' | .bad => False)
  unfold M.bind
  cases m S <;> exact Iff.rfl
@[simp] theorem wpx_opt_some {a : α} : wpx (opt (some a)) Q E S ↔ Q a S := Iff.rfl
@[simp] theorem wpx_opt_none : wpx (opt (none : Option α)) Q E S ↔ False := Iff.rfl
theorem wpx_opt {o : Option α} : wpx (opt o) Q E S ↔ ∃ a, o = some a ∧ Q a S := by
  cases o with
  | none => exact ⟨fun h => h.elim, fun ⟨_, h, _⟩ => nomatch h⟩
  | some a => exact ⟨fun h => ⟨a, rfl, h⟩, fun ⟨_, h, q⟩ => by cases h; exact q⟩
@[simp] theorem wpx_guard {c : Bool} {Q : Unit → Store → Prop} : wpx (guard c) Q E S ↔ c = true ∧ Q () S := by
  cases c
  · exact ⟨fun h => h.elim, fun h => nomatch h.1⟩
  · exact ⟨fun h => ⟨rfl, h⟩, fun h => h.2⟩
theorem wpx_mono {m : M α} (h : wpx m Q E S) (hq : ∀ a S', Q a S' → Q' a S') (he : ∀ e S', E e S' → E' e S') : wpx m Q' E' S := by
  unfold wpx at *
  cases e : m S with
  | ok a S' => rw [e] at h; exact hq _ _ h
  | exc x S' => rw [e] at h; exact he _ _ h
  | bad => rw [e] at h; exact h
theorem wp_mono {m : M α} (h : wp m Q S) (hq : ∀ a S', Q a S' → Q' a S') : wp m Q' S := wpx_mono h hq fun _ _ x => x
theorem wpx_of_wp {m : M α} (h : wp m Q S) (hq : ∀ a S', Q a S' → Q' a S') : wpx m Q' E S := wpx_mono h hq fun _ _ x => x.elim
end
/-! ### data as the library reads it -/
mutual
def py : D → Option PyData
  | .non => some .none
  | .bl b => some (.bool b)
  | .int i => some (.int i)
  | .str x => some (.str x)
  | .tup xs => (pyAll xs).map .tuple
  | .loc _ => none
  | .lst _ => none
  | .dct _ _ => none
def pyAll : List D → Option (List PyData)
  | [] => some []
  | x :: xs => match py x, pyAll xs with
    | some a, some r => some (a :: r)
    | _, _ => none
end
/-- a tuple, a text, an int ..; or a list of such -/
def py1 (S : Store) : D → Option PyData
  | .loc n => match S[n]? with
    | some (.lst xs) => (pyAll xs).map .list
    | some (.ro xs) => (pyAll xs).map .list
    | none => none
  | d => py d
inductive BOp where
  | add | sub | mul | mod | fdiv | pow
  deriving DecidableEq
inductive COp where
  | eq | ne | lt | le | gt | ge | isn | isnn | inn | nin
  deriving DecidableEq
inductive Bi where
  | len | int | abs | max2 | min2 | max1 | min1 | sum | list | tuple | str | repr | all | any
  | append | pop0 | pop1 | extend | reverse | insert | join | split | startswith
  | isTuple | isStr | isInt | isBool
  deriving DecidableEq
inductive IK where
  | rng1 | rng2 | rng3 | seq | rev
  deriving DecidableEq
mutual
inductive E where
  | c (d : D) | v (i : Nat) | g (x : Str)
  | bin (o : BOp) (a b : E) | neg (a : E) | cmp (o : COp) (a b : E)
  | cmp3 (o o2 : COp) (a b c : E)
  | tr (a : E) | not (a : E) | and (a b : E) | or (a b : E) | vand (a b : E) | vor (a b : E)
  | ite (c a b : E)
  | tup (es : Es) | lst (es : Es)
  | idx (a b : E) | slc0 (a : E) | slcL (a lo : E) | slcH (a hi : E) | slcB (a lo hi : E)
  | call (f : Str) (es : Es) | bi (b : Bi) (es : Es) | meth (b : Bi) (o : E) (es : Es)
  | comp (elt : E) (sl : Nat) (own : List Nat) (k : IK) (es : Es) (cond : E)
inductive Es where
  | nil | cons (e : E) (r : Es)
end
mutual
inductive Pat where
  | nm (i : Nat) | tup (ps : Pats) | sub (o i : E)
inductive Pats where
  | nil | cons (p : Pat) (r : Pats)
end
mutual
inductive Sm where
  | expr (e : E) | set (p : Pat) (e : E) | par (i j : Nat) (a b : E) | aug (i : Nat) (o : BOp) (e : E) | ret (e : E)
  | ife (c : E) (a b : Sms) | whl (c : E) (b : Sms) | fr (p : Pat) (k : IK) (es : Es) (b : Sms)
  | brk | cnt | pass
inductive Sms where
  | nil | cons (s : Sm) (r : Sms)
end
abbrev Nv := List (Option D)
def alloc (c : Cell) : M D := fun S => .ok (.loc S.length) (S ++ [c])
def rdL (n : Nat) : M (List D) := fun S => match S[n]? with
  | some (.lst xs) => .ok xs S
  | some (.ro xs) => .ok xs S
  | none => .bad
/-- a list that may be changed -/
def owL (n : Nat) : M (List D) := fun S => match S[n]? with
  | some (.lst xs) => .ok xs S
  | _ => .bad
def wrL (n : Nat) (xs : List D) : M Unit := fun S => .ok () (S.set n (.lst xs))
def ok2 (n : Nat) : Bool := decide (n ≤ sizeLine)
def newL (xs : List D) : M D := M.bind (guard (ok2 xs.length)) fun _ => alloc (.lst xs)
def newT (xs : List D) : M D := M.bind (guard (ok2 xs.length)) fun _ => M.ret (.tup xs)
def cMul (i j : Int) : Bool := (decide (-(2 ^ 64) < i) && decide (i < 2 ^ 64)) || (decide (-(2 ^ 64) < j) && decide (j < 2 ^ 64))
def rep {α : Type} (xs : List α) (n : Nat) : List α := (List.replicate n xs).flatten
def binop : BOp → D → D → M D
  | .add, .int i, .int j => M.ret (.int (i + j))
  | .add, .str x, .str y => M.bind (guard (ok2 (x.length + y.length))) fun _ => M.ret (.str (x ++ y))
  | .add, .tup xs, .tup ys => newT (xs ++ ys)
  | .add, .loc n, .loc m => M.bind (owL n) fun xs => M.bind (owL m) fun ys => newL (xs ++ ys)
  | .sub, .int i, .int j => M.ret (.int (i - j))
  | .mul, .int i, .int j => M.bind (guard (cMul i j)) fun _ => M.ret (.int (i * j))
  | .mul, .str x, .int j => M.bind (guard (decide (x.length ≤ 1000) && decide (-1000 ≤ j) && decide (j ≤ 1000))) fun _ => M.ret (.str ⟨(rep x.cps.toList j.toNat).toArray⟩)
  | .mul, .tup xs, .int j => M.bind (guard (!xs.isEmpty && decide (2 ≤ j) && decide (j ≤ 1000) && decide (xs.length ≤ 1000))) fun _ => M.ret (.tup (rep xs j.toNat))
  | .mul, .loc n, .int j => M.bind (owL n) fun xs => M.bind (guard (decide (-(2 ^ 63) ≤ j) && decide (j < 2 ^ 63) && ok2 (xs.length * j.toNat))) fun _ => alloc (.lst (rep xs j.toNat))
  | .mod, .int i, .int j => M.bind (guard (decide (0 < j))) fun _ => M.ret (.int (i % j))
  | .fdiv, .int i, .int j => M.bind (guard (decide (0 < j) && decide (j < 1073741824))) fun _ => M.ret (.int (i / j))
  | .pow, .int i, .int j => M.bind (guard (decide (0 ≤ j) && decide (j ≤ 1000000) && decide (i.natAbs < 2 ^ 64))) fun _ => M.ret (.int (i ^ j.toNat))
  | _, _, _ => M.bad
def flatD : D → Bool
  | .tup _ => false
  | .loc _ => false
  | .lst _ => false
  | .dct _ _ => false
  | _ => true
/-- data that may be compared -/
def isStrD : D → Bool
  | .str _ => true
  | _ => false
def fitEq (x y : D) (a b : PyData) : Bool := (isStrD x && isStrD y) || (a.canLay0 && b.canLay0 && decide (min a.depth b.depth ≤ 150))
/-! order of data: ints, texts, tuples -/
mutual
def ltD : Nat → D → D → Option Bool
  | _, .int i, .int j => some (decide (i < j))
  | _, .str x, .str y => some (decide (x.cps.toList < y.cps.toList))
  | n + 1, .tup xs, .tup ys => ltDs n xs ys
  | _, _, _ => none
def ltDs : Nat → List D → List D → Option Bool
  | _, [], [] => some false
  | _, [], _ :: _ => some true
  | _, _ :: _, [] => some false
  | n, x :: xs, y :: ys => match py x, py y with
    | some a, some b => if fitEq x y a b = true then (if PyData.eqv a b = true then ltDs n xs ys else ltD n x y) else none
    | _, _ => none
end
def eqM (x y : D) : M Bool := fun S => match py1 S x, py1 S y with
  | some a, some b => if fitEq x y a b = true then .ok (PyData.eqv a b) S else .bad
  | _, _ => .bad
def inAll (x : D) (ys : List D) : Option Bool := match py x, pyAll ys with
  | some a, some bs => if (flatD x && ys.all flatD) || (a.canLay0 && PyData.canLayAll0 bs && decide (min (PyData.depthAll bs) a.depth ≤ 150)) then some (bs.any fun z => PyData.eqv z a) else none
  | _, _ => none
def inM (x y : D) : M Bool := match y with
  | .str z => match x with
    | .str w => M.ret (!(Builtin.Str.occurrences z w 0 z.length 1).isEmpty)
    | _ => M.bad
  | .tup ys => opt (inAll x ys)
  | .loc n => M.bind (rdL n) fun ys => opt (inAll x ys)
  | _ => M.bad
def cmpop : COp → D → D → M Bool
  | .eq, x, y => eqM x y
  | .ne, x, y => M.bind (eqM x y) fun b => M.ret (!b)
  | .lt, x, y => opt (ltD 100 x y)
  | .gt, .int i, .int j => M.ret (decide (j < i))
  | .le, .int i, .int j => M.ret (decide (i ≤ j))
  | .ge, .int i, .int j => M.ret (decide (j ≤ i))
  | .isn, x, .non => M.ret (match x with | .non => true | _ => false)
  | .isnn, x, .non => M.ret (match x with | .non => false | _ => true)
  | .inn, x, y => inM x y
  | .nin, x, y => M.bind (inM x y) fun b => M.ret (!b)
  | _, _, _ => M.bad
def truth : D → M Bool
  | .non => M.ret false
  | .bl b => M.ret b
  | .int i => M.ret (i != 0)
  | .str x => M.bind (guard (ok2 x.length)) fun _ => M.ret ((x.length : Int) != 0)
  | .tup xs => M.ret (!xs.isEmpty)
  | .loc n => M.bind (rdL n) fun xs => M.ret (!xs.isEmpty)
  | .lst _ => M.bad
  | .dct _ _ => M.bad
/-- x op= y -/
def augop : BOp → D → D → M D
  | .add, .int i, .int j => M.ret (.int (i + j))
  | .add, .str x, .str y => M.bind (guard (ok2 (x.length + y.length))) fun _ => M.ret (.str (x ++ y))
  | .sub, .int i, .int j => M.ret (.int (i - j))
  | _, _, _ => M.bad
def asB : D → M Bool
  | .bl b => M.ret b
  | _ => M.bad
def asI : D → M Int
  | .int i => M.ret i
  | _ => M.bad
def intsD : List D → Option (List Int)
  | [] => some []
  | .int i :: r => (intsD r).map (i :: ·)
  | _ => none
def strsD : List D → Option (List Str)
  | [] => some []
  | .str x :: r => (strsD r).map (x :: ·)
  | _ => none
def boolsD : List D → Option (List Bool)
  | [] => some []
  | .bl x :: r => (boolsD r).map (x :: ·)
  | _ => none
def index : D → D → M D
  | .tup xs, .int i => opt (atI xs i)
  | .str x, .int i => M.bind (guard (ok2 x.length)) fun _ => opt ((atI x.cps.toList i).map fun c => .str ⟨#[c]⟩)
  | .loc n, .int i => M.bind (rdL n) fun xs => opt (atI xs i)
  | _, _ => M.bad
def cutD (xs : List D) (lo hi : Option Int) : List D := (xs.drop (HT.sIx xs.length 0 lo)).take (HT.sIx xs.length xs.length hi - HT.sIx xs.length 0 lo)
def slice (x : D) (lo hi : Option Int) : M D := match x with
  | .tup xs => M.ret (.tup (cutD xs lo hi))
  | .str z => M.bind (guard (ok2 z.length)) fun _ => M.ret (.str (cutS z lo hi))
  | .loc n => M.bind (rdL n) fun xs => alloc (.lst (cutD xs lo hi))
  | _ => M.bad
def seqOf : D → M (List D)
  | .tup xs => M.ret xs
  | .loc n => rdL n
  | _ => M.bad
def maxI : List Int → Int
  | [] => 0
  | [x] => x
  | x :: xs => max x (maxI xs)
def minI : List Int → Int
  | [] => 0
  | [x] => x
  | x :: xs => min x (minI xs)
def lenJ (a : Str) (ys : List Str) : Nat := (ys.map (·.length)).sum + ys.length * a.length
def reprM (d : D) : M D := fun S => match py1 S d with
  | some a => if a.showable && !a.hasDict && decide (a.depth ≤ 150) && decide (a.shown.length ≤ sizeLine) then .ok (.str a.shown) S else .bad
  | none => .bad
def builtin : Bi → List D → M D
  | .len, [.str x] => M.bind (guard (ok2 x.length)) fun _ => M.ret (.int x.length)
  | .len, [d] => M.bind (seqOf d) fun xs => M.ret (.int xs.length)
  | .int, [.int i] => M.ret (.int i)
  | .int, [.bl b] => M.ret (.int (if b then 1 else 0))
  | .abs, [.int i] => M.ret (.int (if i < 0 then -i else i))
  | .max2, [.int i, .int j] => M.ret (.int (if j > i then j else i))
  | .min2, [.int i, .int j] => M.ret (.int (if j < i then j else i))
  | .max1, [.loc n] => M.bind (rdL n) fun xs => M.bind (opt (intsD xs)) fun is => M.bind (guard (!is.isEmpty)) fun _ => M.ret (.int (maxI is))
  | .min1, [.loc n] => M.bind (rdL n) fun xs => M.bind (opt (intsD xs)) fun is => M.bind (guard (!is.isEmpty)) fun _ => M.ret (.int (minI is))
  | .sum, [.loc n] => M.bind (rdL n) fun xs => M.bind (opt (intsD xs)) fun is => M.ret (.int is.sum)
  | .list, [d] => M.bind (seqOf d) fun xs => alloc (.lst xs)
  | .tuple, [d] => M.bind (seqOf d) fun xs => M.ret (.tup xs)
  | .str, [.int i] => M.bind (guard (decide (i.natAbs.log2 < 1920))) fun _ => M.ret (.str (toString i))
  | .str, [.str x] => M.ret (.str x)
  | .repr, [.int i] => M.bind (guard (decide (i.natAbs.log2 < 1920))) fun _ => M.ret (.str (toString i))
  | .repr, [.str x] => M.bind (guard (ok2 (reprText x).length)) fun _ => M.ret (.str (reprText x))
  | .repr, [.bl b] => M.ret (.str (if b then "True" else "False"))
  | .repr, [.non] => M.ret (.str "None")
  | .repr, [.tup xs] => reprM (.tup xs)
  | .repr, [.loc n] => reprM (.loc n)
  | .all, [.loc n] => M.bind (rdL n) fun xs => M.bind (opt (boolsD xs)) fun bs => M.ret (.bl (bs.all id))
  | .any, [.loc n] => M.bind (rdL n) fun xs => M.bind (opt (boolsD xs)) fun bs => M.ret (.bl (bs.any id))
  | .append, [.loc n, d] => M.bind (owL n) fun xs => M.bind (guard (decide (xs.length < sizeLine))) fun _ => M.bind (wrL n (xs ++ [d])) fun _ => M.ret .non
  | .pop0, [.loc n] => M.bind (owL n) fun xs => M.bind (opt xs[xs.length - 1]?) fun d => M.bind (wrL n xs.dropLast) fun _ => M.ret d
  | .pop1, [.loc n, .int i] => M.bind (owL n) fun xs => M.bind (guard (decide (-(2 ^ 63) ≤ i) && decide (i < 2 ^ 63))) fun _ =>
      M.bind (opt (seqIndex? i xs.length)) fun k => M.bind (opt xs[k]?) fun d => M.bind (wrL n (xs.eraseIdx k)) fun _ => M.ret d
  | .extend, [.loc n, .loc m] => M.bind (owL n) fun xs => M.bind (owL m) fun ys => M.bind (guard (ok2 (xs.length + ys.length))) fun _ => M.bind (wrL n (xs ++ ys)) fun _ => M.ret .non
  | .insert, [.loc n, .int i, d] => M.bind (owL n) fun xs => M.bind (guard (decide (xs.length < sizeLine) && decide (0 ≤ i) && decide (i < 2 ^ 63))) fun _ => M.bind (wrL n (xs.take i.toNat ++ [d] ++ xs.drop i.toNat)) fun _ => M.ret .non
  | .reverse, [.loc n] => M.bind (owL n) fun xs => M.bind (wrL n xs.reverse) fun _ => M.ret .non
  | .join, [.str a, d] => M.bind (seqOf d) fun xs => M.bind (opt (strsD xs)) fun ys => M.bind (guard (decide (lenJ a ys ≤ 16777216))) fun _ => M.ret (.str (Txt.join a ys))
  | .split, [.str a, .str b] => M.bind (guard (!(b.length == 0) && decide (a.length + 2 ≤ sizeLine))) fun _ => alloc (.lst ((Txt.split a b).map .str))
  | .startswith, [.str a, .str b] => M.ret (.bl (Txt.startswith a b))
  | .isTuple, [d] => M.ret (.bl (match d with | .tup _ => true | _ => false))
  | .isStr, [d] => M.ret (.bl (match d with | .str _ => true | _ => false))
  | .isInt, [d] => M.ret (.bl (match d with | .int _ => true | .bl _ => true | _ => false))
  | .isBool, [d] => M.ret (.bl (match d with | .bl _ => true | _ => false))
  | _, _ => M.bad
/-- the receiver of a method -/
def recv : Bi → D → M Unit
  | .join, .str _ => M.ret ()
  | .split, .str _ => M.ret ()
  | .startswith, .str _ => M.ret ()
  | .append, .loc n => M.bind (rdL n) fun _ => M.ret ()
  | .pop0, .loc n => M.bind (rdL n) fun _ => M.ret ()
  | .pop1, .loc n => M.bind (rdL n) fun _ => M.ret ()
  | .extend, .loc n => M.bind (rdL n) fun _ => M.ret ()
  | .insert, .loc n => M.bind (rdL n) fun _ => M.ret ()
  | .reverse, .loc n => M.bind (rdL n) fun _ => M.ret ()
  | _, _ => M.bad
/-! ### what is walked -/
inductive ItV where
  | rng (lo st : Int) (n : Nat)
  | tup (xs : List D)
  | str (x : Str)
  | lst (n : Nat)
  | rev (n k : Nat)
  | revT (xs : List D)
def mkIt : IK → List D → M ItV
  | .rng1, [.int j] => M.bind (guard (decide (-(2 ^ 62) ≤ j) && decide (j < 2 ^ 62))) fun _ => M.ret (.rng 0 1 j.toNat)
  | .rng2, [.int i, .int j] => M.bind (guard (decide (-(2 ^ 62) ≤ i) && decide (i < 2 ^ 62) && decide (-(2 ^ 62) ≤ j) && decide (j < 2 ^ 62))) fun _ => M.ret (.rng i 1 (j - i).toNat)
  | .rng3, [.int i, .int j, .int c] => M.bind (guard (decide (c ≠ 0) && decide (c.natAbs < 1073741824) && Builtin.Range.small i j c && decide (0 ≤ Builtin.Range.rangeSize i j c))) fun _ => M.ret (.rng i c (Builtin.Range.rangeSize i j c).toNat)
  | .seq, [.tup xs] => M.ret (.tup xs)
  | .seq, [.str x] => M.ret (.str x)
  | .seq, [.loc n] => M.bind (rdL n) fun _ => M.ret (.lst n)
  | .rev, [.loc n] => M.bind (rdL n) fun xs => M.ret (.rev n xs.length)
  | .rev, [.tup xs] => M.ret (.revT xs)
  | _, _ => M.bad
def rd (S : Store) (n : Nat) : Option (List D) := match S[n]? with
  | some (.lst xs) => some xs
  | some (.ro xs) => some xs
  | none => none
/-- the item of turn i; some none: the walk is over -/
def itO : ItV → Nat → Store → Option (Option D)
  | .rng lo st n, i, _ => some (if i < n then some (.int (lo + (i : Int) * st)) else none)
  | .tup xs, i, _ => some xs[i]?
  | .str x, i, _ => some (x.cps[i]?.map fun c => .str ⟨#[c]⟩)
  | .lst n, i, S => (rd S n).map (·[i]?)
  | .rev n k, i, S => match rd S n with
    | some xs => if xs.length = k then some (if i < k then xs[k - 1 - i]? else none) else none
    | none => none
  | .revT xs, i, _ => some (if i < xs.length then xs[xs.length - 1 - i]? else none)
def itAt (J : ItV) (i : Nat) : M (Option D) := fun S => match itO J i S with
  | some o => .ok o S
  | none => .bad
def FUEL : Nat := 2 ^ 40
inductive Flow where
  | nx | bk | ct | rt (d : D)
/-- one list comprehension's turns, acc the new list's place -/
def compF (J : ItV) (put : D → Nv → Nv) (cond : Nv → M D) (elt : Nv → M D) (env : Nv) (n : Nat) : Nat → Nat → M D
  | 0, _ => M.bad
  | f + 1, i => M.bind (itAt J i) fun o => match o with
    | none => M.ret (.loc n)
    | some d => M.bind (cond (put d env)) fun b => M.bind (asB b) fun b => match b with
      | true => M.bind (elt (put d env)) fun y => M.bind (owL n) fun xs => M.bind (guard (decide (xs.length < sizeLine))) fun _ => M.bind (wrL n (xs ++ [y])) fun _ => compF J put cond elt env n f (i + 1)
      | false => compF J put cond elt env n f (i + 1)
def whileF (c : Nv → M D) (b : Nv → M (Flow × Nv)) : Nat → Nv → M (Flow × Nv)
  | 0, _ => M.bad
  | f + 1, env => M.bind (c env) fun x => M.bind (asB x) fun x => match x with
    | false => M.ret (.nx, env)
    | true => M.bind (b env) fun r => match r with
      | (.nx, env') => whileF c b f env'
      | (.ct, env') => whileF c b f env'
      | (.bk, env') => M.ret (.nx, env')
      | (.rt d, env') => M.ret (.rt d, env')
def forF (J : ItV) (asg : D → Nv → M Nv) (b : Nv → M (Flow × Nv)) : Nat → Nat → Nv → M (Flow × Nv)
  | 0, _, _ => M.bad
  | f + 1, i, env => M.bind (itAt J i) fun o => match o with
    | none => M.ret (.nx, env)
    | some d => M.bind (asg d env) fun env1 => M.bind (b env1) fun r => match r with
      | (.nx, env') => forF J asg b f (i + 1) env'
      | (.ct, env') => forF J asg b f (i + 1) env'
      | (.bk, env') => M.ret (.nx, env')
      | (.rt d, env') => M.ret (.rt d, env')
/-! ### the evaluator -/
structure Ctx where
  glob : Str → Option D
  call : Str → List D → M D
def wipeD (env : Nv) : List Nat → Nv
  | [] => env
  | v :: vs => (wipeD env vs).set v none
def putD (i : Nat) (d : D) (env : Nv) : Nv := env.set i (some d)
mutual
def evE (C : Ctx) : E → Nv → M D
  | .c d, _ => M.ret d
  | .v i, env => match env[i]? with
    | some (some d) => M.ret d
    | _ => M.bad
  | .g x, _ => opt (C.glob x)
  | .bin o a b, env => M.bind (evE C a env) fun x => M.bind (evE C b env) fun y => binop o x y
  | .neg a, env => M.bind (evE C a env) fun x => M.bind (asI x) fun i => M.ret (.int (-i))
  | .cmp o a b, env => M.bind (evE C a env) fun x => M.bind (evE C b env) fun y => M.bind (cmpop o x y) fun b => M.ret (.bl b)
  | .cmp3 o o2 a b c, env => M.bind (evE C a env) fun x => M.bind (evE C b env) fun y => M.bind (cmpop o x y) fun k => match k with
    | true => M.bind (evE C c env) fun z => M.bind (cmpop o2 y z) fun k => M.ret (.bl k)
    | false => M.ret (.bl false)
  | .tr a, env => M.bind (evE C a env) fun x => M.bind (truth x) fun b => M.ret (.bl b)
  | .not a, env => M.bind (evE C a env) fun x => M.bind (asB x) fun b => M.ret (.bl (!b))
  | .and a b, env => M.bind (evE C a env) fun x => M.bind (asB x) fun k => match k with
    | true => evE C b env
    | false => M.ret (.bl false)
  | .or a b, env => M.bind (evE C a env) fun x => M.bind (asB x) fun k => match k with
    | true => M.ret (.bl true)
    | false => evE C b env
  | .vand a b, env => M.bind (evE C a env) fun x => M.bind (truth x) fun k => match k with
    | true => evE C b env
    | false => M.ret x
  | .vor a b, env => M.bind (evE C a env) fun x => M.bind (truth x) fun k => match k with
    | true => M.ret x
    | false => evE C b env
  | .ite c a b, env => M.bind (evE C c env) fun x => M.bind (asB x) fun k => match k with
    | true => evE C a env
    | false => evE C b env
  | .tup es, env => M.bind (evEs C es env) fun xs => newT xs
  | .lst es, env => M.bind (evEs C es env) fun xs => newL xs
  | .idx a b, env => M.bind (evE C a env) fun x => M.bind (evE C b env) fun y => index x y
  | .slc0 a, env => M.bind (evE C a env) fun x => slice x none none
  | .slcL a lo, env => M.bind (evE C a env) fun x => M.bind (evE C lo env) fun y => M.bind (asI y) fun l => slice x (some l) none
  | .slcH a hi, env => M.bind (evE C a env) fun x => M.bind (evE C hi env) fun z => M.bind (asI z) fun h => slice x none (some h)
  | .slcB a lo hi, env => M.bind (evE C a env) fun x => M.bind (evE C lo env) fun y => M.bind (asI y) fun l => M.bind (evE C hi env) fun z => M.bind (asI z) fun h => slice x (some l) (some h)
  | .call f es, env => M.bind (evEs C es env) fun xs => C.call f xs
  | .bi b es, env => M.bind (evEs C es env) fun xs => builtin b xs
  | .meth b o es, env => M.bind (evE C o env) fun x => M.bind (recv b x) fun _ => M.bind (evEs C es env) fun xs => builtin b (x :: xs)
  | .comp elt sl own k es cond, env => M.bind (evEs C es env) fun xs => M.bind (mkIt k xs) fun J => fun S =>
      compF J (putD sl) (evE C cond) (evE C elt) (wipeD env own) S.length FUEL 0 (S ++ [.lst []])
def evEs (C : Ctx) : Es → Nv → M (List D)
  | .nil, _ => M.ret []
  | .cons e r, env => M.bind (evE C e env) fun x => M.bind (evEs C r env) fun xs => M.ret (x :: xs)
end
mutual
def evP (C : Ctx) : Pat → D → Nv → M Nv
  | .nm i, d, env => M.ret (env.set i (some d))
  | .tup ps, d, env => match d with
    | .tup xs => evPs C ps xs env
    | _ => M.bad
  | .sub o i, d, env => M.bind (evE C o env) fun x => M.bind (evE C i env) fun y => match x, y with
    | .loc n, .int k => M.bind (owL n) fun xs => M.bind (opt (ixN xs.length k)) fun j => M.bind (wrL n (xs.set j d)) fun _ => M.ret env
    | _, _ => M.bad
def evPs (C : Ctx) : Pats → List D → Nv → M Nv
  | .nil, [], env => M.ret env
  | .cons p r, x :: xs, env => M.bind (evP C p x env) fun env' => evPs C r xs env'
  | _, _, _ => M.bad
end
mutual
def evS (C : Ctx) : Sm → Nv → M (Flow × Nv)
  | .expr e, env => M.bind (evE C e env) fun _ => M.ret (.nx, env)
  | .set p e, env => M.bind (evE C e env) fun d => M.bind (evP C p d env) fun env' => M.ret (.nx, env')
  | .par i j a b, env => M.bind (evE C a env) fun x => M.bind (evE C b env) fun y => M.ret (.nx, (env.set i (some x)).set j (some y))
  | .aug i o e, env => match env[i]? with
    | some (some x) => M.bind (evE C e env) fun y => M.bind (augop o x y) fun z => M.ret (.nx, env.set i (some z))
    | _ => M.bad
  | .ret e, env => M.bind (evE C e env) fun d => M.ret (.rt d, env)
  | .ife c a b, env => M.bind (evE C c env) fun x => M.bind (asB x) fun k => match k with
    | true => evSs C a env
    | false => evSs C b env
  | .whl c b, env => whileF (evE C c) (evSs C b) FUEL env
  | .fr p k es b, env => M.bind (evEs C es env) fun xs => M.bind (mkIt k xs) fun J => forF J (evP C p) (evSs C b) FUEL 0 env
  | .brk, env => M.ret (.bk, env)
  | .cnt, env => M.ret (.ct, env)
  | .pass, env => M.ret (.nx, env)
def evSs (C : Ctx) : Sms → Nv → M (Flow × Nv)
  | .nil, env => M.ret (.nx, env)
  | .cons s r, env => M.bind (evS C s env) fun q => match q with
    | (.nx, env') => evSs C r env'
    | (f, env') => M.ret (f, env')
end
/-- a def: its parameters, the number of its names, its body -/
structure Def where
  arity : Nat
  slots : Nat
  body : Sms
def retOf : Flow × Nv → M D
  | (.nx, _) => M.ret .non
  | (.rt d, _) => M.ret d
  | _ => M.bad
def startD (n : Nat) (ds : List D) : Nv := ds.map some ++ List.replicate (n - ds.length) none
def callD (C : Ctx) (d : Def) (ds : List D) : M D := M.bind (guard (ds.length == d.arity)) fun _ => M.bind (evSs C d.body (startD d.slots ds)) retOf
/-- the defs, called at most n deep -/
def callN (defs : List (Str × Def)) (glob : Str → Option D) : Nat → Str → List D → M D
  | 0, _, _ => M.bad
  | n + 1, f, ds => match defs.lookup f with
    | some d => callD ⟨glob, callN defs glob n⟩ d ds
    | none => M.bad
end Mn
/-! Mn, part 2: how values and stores stand for the abstract heap. -/
namespace Mn
open PySem PySem.Spec PyProof.Rows L2
/-- a list of the written part -/
def KL (K : PySem.W.Frag) (a : Addr) (xs : List V) : Prop := ∀ H : Hp, SqL K H a xs
mutual
def Rp (K : PySem.W.Frag) (H : Hp) (ρ : List Addr) : D → V → Prop
  | .non, v => v = .non
  | .bl b, v => v = .bl b
  | .int i, v => v = .int i
  | .str x, v => v = .str x
  | .tup ds, v => ∃ a vs, v = .ref a ∧ SqT K H a vs ∧ Rps K H ρ ds vs
  | .loc n, v => ∃ a, ρ[n]? = some a ∧ v = .ref a
  | .lst _, _ => False
  | .dct _ _, _ => False
def Rps (K : PySem.W.Frag) (H : Hp) (ρ : List Addr) : List D → List V → Prop
  | [], vs => vs = []
  | d :: ds, vs => ∃ v r, vs = v :: r ∧ Rp K H ρ d v ∧ Rps K H ρ ds r
end
/-- tuples stay -/
def Ex (K : PySem.W.Frag) (H H' : Hp) : Prop := ∀ a xs, SqT K H a xs → SqT K H' a xs
section
variable {K : PySem.W.Frag} {H H' H2 : Hp} {ρ ρ' ρ2 : List Addr}
theorem Ex.refl : Ex K H H := fun _ _ h => h
theorem Ex.trans (a : Ex K H H') (b : Ex K H' H2) : Ex K H H2 := fun _ _ h => b _ _ (a _ _ h)
theorem pre_get {n : Nat} {a : Addr} (p : ρ <+: ρ') (h : ρ[n]? = some a) : ρ'[n]? = some a := by
  obtain ⟨t, rfl⟩ := p
  obtain ⟨hl, _⟩ := List.getElem?_eq_some_iff.mp h
  rw [List.getElem?_append_left hl]; exact h
mutual
theorem Rp.mono (p : ρ <+: ρ') (e : Ex K H H') : ∀ {d : D} {v : V}, Rp K H ρ d v → Rp K H' ρ' d v
  | .non, _, h => h
  | .bl _, _, h => h
  | .int _, _, h => h
  | .str _, _, h => h
  | .tup ds, v, h => by
    unfold Rp at h ⊢
    obtain ⟨a, vs, e1, e2, e3⟩ := h
    exact ⟨a, vs, e1, e _ _ e2, Rps.mono p e e3⟩
  | .loc n, v, h => by
    unfold Rp at h ⊢
    obtain ⟨a, e1, e2⟩ := h
    exact ⟨a, pre_get p e1, e2⟩
  | .lst _, v, h => by unfold Rp at h; exact h.elim
  | .dct _ _, v, h => by unfold Rp at h; exact h.elim
theorem Rps.mono (p : ρ <+: ρ') (e : Ex K H H') : ∀ {ds : List D} {vs : List V}, Rps K H ρ ds vs → Rps K H' ρ' ds vs
  | [], _, h => by unfold Rps at h ⊢; exact h
  | d :: ds, vs, h => by
    unfold Rps at h ⊢
    obtain ⟨v, r, e1, e2, e3⟩ := h
    exact ⟨v, r, e1, Rp.mono p e e2, Rps.mono p e e3⟩
end
theorem rps_iff : ∀ {ds : List D} {vs : List V}, Rps K H ρ ds vs ↔ ds.length = vs.length ∧ ∀ (i : Nat) d v, ds[i]? = some d → vs[i]? = some v → Rp K H ρ d v
  | [], vs => by
    unfold Rps
    constructor
    · rintro rfl
      exact ⟨rfl, fun i d v h => by simp at h⟩
    · rintro ⟨h, _⟩
      exact List.eq_nil_of_length_eq_zero h.symm
  | d :: ds, vs => by
    unfold Rps
    constructor
    · rintro ⟨v, r, rfl, h1, h2⟩
      obtain ⟨l, h3⟩ := rps_iff.mp h2
      refine ⟨by simp [l], fun i d' v' e1 e2 => ?_⟩
      cases i with
      | zero =>
        simp at e1 e2
        subst e1; subst e2
        exact h1
      | succ i => exact h3 i d' v' (by simpa using e1) (by simpa using e2)
    · rintro ⟨l, h⟩
      cases vs with
      | nil => simp at l
      | cons v r =>
        refine ⟨v, r, rfl, h 0 d v rfl rfl, rps_iff.mpr ⟨by simpa using l, fun i d' v' e1 e2 => h (i + 1) d' v' (by simpa using e1) (by simpa using e2)⟩⟩
theorem Rps.length {ds : List D} {vs : List V} (h : Rps K H ρ ds vs) : ds.length = vs.length := (rps_iff.mp h).1
theorem Rps.at {ds : List D} {vs : List V} (h : Rps K H ρ ds vs) {i : Nat} {d : D} (e : ds[i]? = some d) : ∃ v, vs[i]? = some v ∧ Rp K H ρ d v := by
  obtain ⟨l, q⟩ := rps_iff.mp h
  obtain ⟨hl, _⟩ := List.getElem?_eq_some_iff.mp e
  have hv : i < vs.length := by omega
  exact ⟨vs[i], List.getElem?_eq_getElem hv, q i d _ e (List.getElem?_eq_getElem hv)⟩
theorem Rps.nil : Rps K H ρ [] [] := by unfold Rps; rfl
theorem Rps.cons {d : D} {ds : List D} {v : V} {vs : List V} (h1 : Rp K H ρ d v) (h2 : Rps K H ρ ds vs) : Rps K H ρ (d :: ds) (v :: vs) := by
  unfold Rps; exact ⟨v, vs, rfl, h1, h2⟩
theorem Rps.append {ds es : List D} {vs us : List V} (h1 : Rps K H ρ ds vs) (h2 : Rps K H ρ es us) : Rps K H ρ (ds ++ es) (vs ++ us) := by
  induction ds generalizing vs with
  | nil => unfold Rps at h1; subst h1; exact h2
  | cons d ds ih =>
    unfold Rps at h1
    obtain ⟨v, r, rfl, a, b⟩ := h1
    exact .cons a (ih b)
theorem Rps.take {ds : List D} {vs : List V} (n : Nat) (h : Rps K H ρ ds vs) : Rps K H ρ (ds.take n) (vs.take n) := by
  obtain ⟨l, q⟩ := rps_iff.mp h
  refine rps_iff.mpr ⟨by simp [l], fun i d v e1 e2 => ?_⟩
  rw [List.getElem?_take] at e1 e2
  split at e1
  · rename_i hi
    rw [if_pos hi] at e2
    exact q i d v e1 e2
  · cases e1
theorem Rps.drop {ds : List D} {vs : List V} (n : Nat) (h : Rps K H ρ ds vs) : Rps K H ρ (ds.drop n) (vs.drop n) := by
  obtain ⟨l, q⟩ := rps_iff.mp h
  refine rps_iff.mpr ⟨by simp [l], fun i d v e1 e2 => ?_⟩
  rw [List.getElem?_drop] at e1 e2
  exact q _ d v e1 e2
theorem Rps.set {ds : List D} {vs : List V} {d : D} {v : V} (n : Nat) (h : Rps K H ρ ds vs) (hd : Rp K H ρ d v) : Rps K H ρ (ds.set n d) (vs.set n v) := by
  obtain ⟨l, q⟩ := rps_iff.mp h
  refine rps_iff.mpr ⟨by simp [l], fun i d' v' e1 e2 => ?_⟩
  rw [List.getElem?_set] at e1 e2
  by_cases hi : n = i
  · rw [if_pos hi] at e1 e2
    split at e1
    · split at e2
      · cases e1; cases e2; exact hd
      · cases e2
    · cases e1
  · rw [if_neg hi] at e1 e2
    exact q i d' v' e1 e2
theorem Rps.reverse {ds : List D} {vs : List V} (h : Rps K H ρ ds vs) : Rps K H ρ ds.reverse vs.reverse := by
  induction ds generalizing vs with
  | nil => unfold Rps at h; subst h; exact .nil
  | cons d ds ih =>
    unfold Rps at h
    obtain ⟨v, r, rfl, a, b⟩ := h
    rw [List.reverse_cons, List.reverse_cons]
    exact (ih b).append (.cons a .nil)
theorem Rps.eraseIdx {ds : List D} {vs : List V} (n : Nat) (h : Rps K H ρ ds vs) : Rps K H ρ (ds.eraseIdx n) (vs.eraseIdx n) := by
  rw [List.eraseIdx_eq_take_drop_succ, List.eraseIdx_eq_take_drop_succ]
  exact (h.take n).append (h.drop (n + 1))
theorem Rps.dropLast {ds : List D} {vs : List V} (h : Rps K H ρ ds vs) : Rps K H ρ ds.dropLast vs.dropLast := by
  rw [List.dropLast_eq_take, List.dropLast_eq_take, h.length]
  exact h.take _
theorem Rps.rep {ds : List D} {vs : List V} (h : Rps K H ρ ds vs) : ∀ n, Rps K H ρ (Mn.rep ds n) (Mn.rep vs n)
  | 0 => .nil
  | n + 1 => by
    unfold Mn.rep
    rw [List.replicate_succ, List.replicate_succ, List.flatten_cons, List.flatten_cons]
    exact h.append (Rps.rep h n)
theorem Rps.intsR : ∀ {ds : List D} {vs : List V} {is : List Int}, Rps K H ρ ds vs → intsD ds = some is → vs = is.map V.int
  | [], vs, is, h, e => by unfold Rps at h; unfold intsD at e; subst h; cases e; rfl
  | .int i :: ds, vs, is, h, e => by
    unfold Rps at h
    obtain ⟨v, r, rfl, a, b⟩ := h
    unfold intsD at e
    cases q : intsD ds with
    | none => rw [q] at e; cases e
    | some js =>
      rw [q] at e; cases e
      unfold Rp at a
      rw [a, Rps.intsR b q]; rfl
  | .non :: _, _, _, _, e => by simp [intsD] at e
  | .bl _ :: _, _, _, _, e => by simp [intsD] at e
  | .str _ :: _, _, _, _, e => by simp [intsD] at e
  | .tup _ :: _, _, _, _, e => by simp [intsD] at e
  | .loc _ :: _, _, _, _, e => by simp [intsD] at e
  | .lst _ :: _, _, _, _, e => by simp [intsD] at e
  | .dct _ _ :: _, _, _, _, e => by simp [intsD] at e
theorem Rps.strsR : ∀ {ds : List D} {vs : List V} {is : List Str}, Rps K H ρ ds vs → strsD ds = some is → vs = is.map V.str
  | [], vs, is, h, e => by unfold Rps at h; unfold strsD at e; subst h; cases e; rfl
  | .str i :: ds, vs, is, h, e => by
    unfold Rps at h
    obtain ⟨v, r, rfl, a, b⟩ := h
    unfold strsD at e
    cases q : strsD ds with
    | none => rw [q] at e; cases e
    | some js =>
      rw [q] at e; cases e
      unfold Rp at a
      rw [a, Rps.strsR b q]; rfl
  | .non :: _, _, _, _, e => by simp [strsD] at e
  | .bl _ :: _, _, _, _, e => by simp [strsD] at e
  | .int _ :: _, _, _, _, e => by simp [strsD] at e
  | .tup _ :: _, _, _, _, e => by simp [strsD] at e
  | .loc _ :: _, _, _, _, e => by simp [strsD] at e
  | .lst _ :: _, _, _, _, e => by simp [strsD] at e
  | .dct _ _ :: _, _, _, _, e => by simp [strsD] at e
theorem Rps.boolsR : ∀ {ds : List D} {vs : List V} {is : List Bool}, Rps K H ρ ds vs → boolsD ds = some is → vs = is.map V.bl
  | [], vs, is, h, e => by unfold Rps at h; unfold boolsD at e; subst h; cases e; rfl
  | .bl i :: ds, vs, is, h, e => by
    unfold Rps at h
    obtain ⟨v, r, rfl, a, b⟩ := h
    unfold boolsD at e
    cases q : boolsD ds with
    | none => rw [q] at e; cases e
    | some js =>
      rw [q] at e; cases e
      unfold Rp at a
      rw [a, Rps.boolsR b q]; rfl
  | .non :: _, _, _, _, e => by simp [boolsD] at e
  | .str _ :: _, _, _, _, e => by simp [boolsD] at e
  | .int _ :: _, _, _, _, e => by simp [boolsD] at e
  | .tup _ :: _, _, _, _, e => by simp [boolsD] at e
  | .loc _ :: _, _, _, _, e => by simp [boolsD] at e
  | .lst _ :: _, _, _, _, e => by simp [boolsD] at e
  | .dct _ _ :: _, _, _, _, e => by simp [boolsD] at e
theorem Rps.of_strs : ∀ (xs : List Str), Rps K H ρ (xs.map D.str) (xs.map V.str)
  | [] => .nil
  | x :: xs => .cons (by unfold Rp; rfl) (Rps.of_strs xs)
theorem Rps.of_ints : ∀ (xs : List Int), Rps K H ρ (xs.map D.int) (xs.map V.int)
  | [] => .nil
  | x :: xs => .cons (by unfold Rp; rfl) (Rps.of_ints xs)
/-- a cell stands at a -/
def CellR (K : PySem.W.Frag) (H : Hp) (ρ : List Addr) : Cell → Addr → Prop
  | .lst ds, a => ∃ vs, H a = some (.lst vs) ∧ Rps K H ρ ds vs
  | .ro ds, a => ∃ vs, ((∃ o, H a = some (.frz o (.lst vs))) ∨ KL K a vs) ∧ Rps K H ρ ds vs
structure SR (K : PySem.W.Frag) (H : Hp) (ρ : List Addr) (S : Store) : Prop where
  len : ρ.length = S.length
  cell : ∀ (n : Nat) c a, S[n]? = some c → ρ[n]? = some a → CellR K H ρ c a
  dis : ∀ (n m : Nat) a xs ys, n ≠ m → S[n]? = some (.lst xs) → S[m]? = some (.lst ys) → ρ[n]? = some a → ρ[m]? ≠ some a
theorem SR.addr {S : Store} (h : SR K H ρ S) {n : Nat} {c : Cell} (e : S[n]? = some c) : ∃ a, ρ[n]? = some a ∧ CellR K H ρ c a := by
  obtain ⟨hl, _⟩ := List.getElem?_eq_some_iff.mp e
  have hv : n < ρ.length := by rw [h.len]; exact hl
  exact ⟨ρ[n], List.getElem?_eq_getElem hv, h.cell n c _ e (List.getElem?_eq_getElem hv)⟩
theorem SR.loc {S : Store} (h : SR K H ρ S) {n : Nat} {v : V} (r : Rp K H ρ (.loc n) v) {c : Cell} (e : S[n]? = some c) : ∃ a, v = .ref a ∧ ρ[n]? = some a ∧ CellR K H ρ c a := by
  unfold Rp at r
  obtain ⟨a, h1, h2⟩ := r
  exact ⟨a, h2, h1, h.cell n c a e h1⟩
theorem CellR.sql {xs : List D} {a : Addr} {c : Cell} (h : CellR K H ρ c a) (hc : c = .lst xs ∨ c = .ro xs) : ∃ vs, SqL K H a vs ∧ Rps K H ρ xs vs := by
  rcases hc with rfl | rfl
  · obtain ⟨vs, h1, h2⟩ := h
    exact ⟨vs, .inl (.inl h1), h2⟩
  · obtain ⟨vs, h1, h2⟩ := h
    refine ⟨vs, ?_, h2⟩
    rcases h1 with ⟨o, h1⟩ | h1
    · exact .inl (.inr ⟨o, h1⟩)
    · exact h1 H
/-- a new object keeps all -/
theorem ex_new {p : Addr} {o : HO} (h : H p = none) : Ex K H (upd H p o) := by
  intro a xs q
  rcases q with (q | ⟨ob, q⟩) | q
  · exact .inl (.inl (by rw [upd_ne (ne_of_none q h)]; exact q))
  · exact .inl (.inr ⟨ob, by rw [upd_ne (ne_of_none q h)]; exact q⟩)
  · exact .inr q
/-- a list that is written keeps all tuples -/
theorem ex_put {p : Addr} {vs us : List V} (h : H p = some (.lst vs)) : Ex K H (upd H p (.lst us)) := by
  intro a xs q
  rcases q with (q | ⟨ob, q⟩) | q
  · exact .inl (.inl (by rw [upd_ne (ne_of q h (by intro z; cases z))]; exact q))
  · exact .inl (.inr ⟨ob, by rw [upd_ne (ne_of q h (by intro z; cases z))]; exact q⟩)
  · exact .inr q
theorem CellR.mono {c : Cell} {a : Addr} (p : ρ <+: ρ') (e : Ex K H H') (h : CellR K H ρ c a) (k : ∀ o, H a = some o → H' a = some o) : CellR K H' ρ' c a := by
  cases c with
  | lst ds =>
    obtain ⟨vs, h1, h2⟩ := h
    exact ⟨vs, k _ h1, h2.mono p e⟩
  | ro ds =>
    obtain ⟨vs, h1, h2⟩ := h
    exact ⟨vs, h1.imp (fun ⟨o, q⟩ => ⟨o, k _ q⟩) id, h2.mono p e⟩
/-- a new untracked-by-us object (a tuple) -/
theorem SR.tup {S : Store} (h : SR K H ρ S) {p : Addr} {o : HO} (hp : H p = none) : SR K (upd H p o) ρ S :=
  ⟨h.len, fun n c a e1 e2 => (h.cell n c a e1 e2).mono List.prefix_rfl (ex_new hp) fun o' q => by rw [upd_ne (ne_of_none q hp)]; exact q, h.dis⟩
theorem SR.alloc {S : Store} (h : SR K H ρ S) {p : Addr} {xs : List D} {vs : List V} (hp : H p = none) (hr : Rps K H ρ xs vs) : SR K (upd H p (.lst vs)) (ρ ++ [p]) (S ++ [.lst xs]) := by
  refine ⟨by simp [h.len], fun n c a e1 e2 => ?_, fun n m a ys zs hnm e1 e2 e3 e4 => ?_⟩
  · by_cases hn : n < S.length
    · rw [List.getElem?_append_left hn] at e1
      rw [List.getElem?_append_left (by rw [h.len]; exact hn)] at e2
      exact (h.cell n c a e1 e2).mono (List.prefix_append _ _) (ex_new hp) fun o' q => by rw [upd_ne (ne_of_none q hp)]; exact q
    · have hl : n = S.length := by
        obtain ⟨q, _⟩ := List.getElem?_eq_some_iff.mp e1
        simp at q; omega
      subst hl
      simp at e1
      rw [← h.len] at e2
      simp at e2
      subst e1; subst e2
      exact ⟨vs, upd_same, hr.mono (List.prefix_append _ _) (ex_new hp)⟩
  · have key : ∀ (n m : Nat) (ys : List D), n < S.length → m = S.length → (S ++ [Cell.lst xs])[n]? = some (.lst ys) → (ρ ++ [p])[n]? = some a → (ρ ++ [p])[m]? = some a → False := by
      intro n m ys hn hm e1 e3 e4
      rw [List.getElem?_append_left hn] at e1
      rw [List.getElem?_append_left (by rw [h.len]; exact hn)] at e3
      subst hm
      rw [← h.len] at e4
      simp at e4
      subst e4
      obtain ⟨us, q, _⟩ := h.cell n _ _ e1 e3
      rw [hp] at q; cases q
    have ln : n < S.length + 1 := by obtain ⟨q, _⟩ := List.getElem?_eq_some_iff.mp e1; simpa using q
    have lm : m < S.length + 1 := by obtain ⟨q, _⟩ := List.getElem?_eq_some_iff.mp e2; simpa using q
    by_cases hn : n < S.length
    · by_cases hm : m < S.length
      · rw [List.getElem?_append_left hn] at e1
        rw [List.getElem?_append_left hm] at e2
        rw [List.getElem?_append_left (by rw [h.len]; exact hn)] at e3
        rw [List.getElem?_append_left (by rw [h.len]; exact hm)] at e4
        exact h.dis n m a ys zs hnm e1 e2 e3 e4
      · exact key n m ys hn (by omega) e1 e3 e4
    · exact key m n zs (by omega) (by omega) e2 e4 e3
theorem SR.put {S : Store} (h : SR K H ρ S) {n : Nat} {p : Addr} {xs ys : List D} {us vs : List V} (e : S[n]? = some (.lst xs)) (ep : ρ[n]? = some p) (hp : H p = some (.lst us)) (hr : Rps K H ρ ys vs) : SR K (upd H p (.lst vs)) ρ (S.set n (.lst ys)) := by
  have hx := ex_put (K := K) (us := vs) hp
  refine ⟨by simp [h.len], fun m c a e1 e2 => ?_, fun m k a zs ws hmk e1 e2 e3 e4 => ?_⟩
  · by_cases hm : n = m
    · subst hm
      rw [ep] at e2; cases e2
      obtain ⟨hl, _⟩ := List.getElem?_eq_some_iff.mp e
      rw [List.getElem?_set_self hl] at e1
      cases e1
      exact ⟨vs, upd_same, hr.mono List.prefix_rfl hx⟩
    · rw [List.getElem?_set_ne hm] at e1
      have hc := h.cell m c a e1 e2
      cases c with
      | lst zs =>
        have na : a ≠ p := fun z => h.dis n m p xs zs hm e e1 ep (z ▸ e2)
        obtain ⟨ws, h1, h2⟩ := hc
        exact ⟨ws, by rw [upd_ne na]; exact h1, h2.mono List.prefix_rfl hx⟩
      | ro zs =>
        obtain ⟨ws, h1, h2⟩ := hc
        refine ⟨ws, h1.imp (fun ⟨o, q⟩ => ⟨o, ?_⟩) id, h2.mono List.prefix_rfl hx⟩
        rw [upd_ne (ne_of q hp (by intro z; cases z))]; exact q
  · have back : ∀ (m : Nat) zs, (S.set n (.lst ys))[m]? = some (Cell.lst zs) → ∃ zs', S[m]? = some (.lst zs') := by
      intro m zs e1
      by_cases hm : n = m
      · subst hm; exact ⟨_, e⟩
      · rw [List.getElem?_set_ne hm] at e1; exact ⟨_, e1⟩
    obtain ⟨z1, q1⟩ := back m zs e1
    obtain ⟨z2, q2⟩ := back k ws e2
    exact h.dis m k a z1 z2 hmk q1 q2 e3 e4
/-- the names -/
structure EnvR (K : PySem.W.Frag) (H : Hp) (ρ : List Addr) (env : Nv) (σ : L2.St) : Prop where
  len : env.length = σ.length
  val : ∀ (i : Nat) d, env[i]? = some (some d) → ∃ v, σ[i]? = some (some v) ∧ Rp K H ρ d v
theorem EnvR.mono {env : Nv} {σ : L2.St} (h : EnvR K H ρ env σ) (p : ρ <+: ρ') (e : Ex K H H') : EnvR K H' ρ' env σ :=
  ⟨h.len, fun i d q => let ⟨v, h1, h2⟩ := h.val i d q; ⟨v, h1, h2.mono p e⟩⟩
theorem EnvR.set {env : Nv} {σ : L2.St} (h : EnvR K H ρ env σ) {d : D} {v : V} (r : Rp K H ρ d v) (i : Nat) : EnvR K H ρ (env.set i (some d)) (σ.set i (some v)) := by
  refine ⟨by simp [h.len], fun j d' e => ?_⟩
  rw [List.getElem?_set] at e
  by_cases hi : i = j
  · subst hi
    rw [if_pos rfl] at e
    split at e
    · rename_i hl
      cases e
      exact ⟨v, by rw [List.getElem?_set_self (by rw [← h.len]; exact hl)], r⟩
    · cases e
  · rw [if_neg hi] at e
    obtain ⟨w, h1, h2⟩ := h.val j d' e
    exact ⟨w, by rw [List.getElem?_set_ne hi]; exact h1, h2⟩
theorem EnvR.wipe {env : Nv} {σ : L2.St} (h : EnvR K H ρ env σ) : ∀ own : List Nat, EnvR K H ρ (wipeD env own) (wipe σ own)
  | [] => h
  | w :: ws => by
    have ih := EnvR.wipe h ws
    unfold wipeD L2.wipe
    refine ⟨by simp [ih.len], fun j d e => ?_⟩
    rw [List.getElem?_set] at e
    by_cases hi : w = j
    · rw [if_pos hi] at e
      split at e
      · cases e
      · cases e
    · rw [if_neg hi] at e
      obtain ⟨v, h1, h2⟩ := ih.val j d e
      exact ⟨v, by rw [List.getElem?_set_ne hi]; exact h1, h2⟩
/-! ### what is wanted, lifted -/
def LQ (K : PySem.W.Frag) (Q : VK) (ρ : List Addr) (H : Hp) : D → Store → Prop := fun d S => ∀ v H' ρ', ρ <+: ρ' → Ex K H H' → SR K H' ρ' S → Rp K H' ρ' d v → Q v H'
def LB (K : PySem.W.Frag) (Q : Bool → Hp → Prop) (ρ : List Addr) (H : Hp) : D → Store → Prop := fun d S => ∃ b, d = .bl b ∧ ∀ H' ρ', ρ <+: ρ' → Ex K H H' → SR K H' ρ' S → Q b H'
def LA (K : PySem.W.Frag) (Q : List V → Hp → Prop) (ρ : List Addr) (H : Hp) : List D → Store → Prop := fun ds S => ∀ vs H' ρ', ρ <+: ρ' → Ex K H H' → SR K H' ρ' S → Rps K H' ρ' ds vs → Q vs H'
theorem LQ.later {Q : VK} {d : D} {S : Store} (h : LQ K Q ρ H d S) (p : ρ <+: ρ') (e : Ex K H H') : LQ K Q ρ' H' d S := fun v H2 ρ2 p2 e2 => h v H2 ρ2 (p.trans p2) (e.trans e2)
theorem LB.later {Q : Bool → Hp → Prop} {d : D} {S : Store} (h : LB K Q ρ H d S) (p : ρ <+: ρ') (e : Ex K H H') : LB K Q ρ' H' d S := let ⟨b, e1, h⟩ := h; ⟨b, e1, fun H2 ρ2 p2 e2 => h H2 ρ2 (p.trans p2) (e.trans e2)⟩
theorem LA.later {Q : List V → Hp → Prop} {d : List D} {S : Store} (h : LA K Q ρ H d S) (p : ρ <+: ρ') (e : Ex K H H') : LA K Q ρ' H' d S := fun v H2 ρ2 p2 e2 => h v H2 ρ2 (p.trans p2) (e.trans e2)
end
def tD (K : PySem.W.Frag) (C : Ctx) (ir : E) : TE := fun σ H Q => ∃ ρ S env, SR K H ρ S ∧ EnvR K H ρ env σ ∧ wp (evE C ir env) (LQ K Q ρ H) S
def tDB (K : PySem.W.Frag) (C : Ctx) (ir : E) : TT := fun σ H Q => ∃ ρ S env, SR K H ρ S ∧ EnvR K H ρ env σ ∧ wp (evE C ir env) (LB K Q ρ H) S
def tDA (K : PySem.W.Frag) (C : Ctx) (es : Es) : TA := fun σ H Q => ∃ ρ S env, SR K H ρ S ∧ EnvR K H ρ env σ ∧ wp (evEs C es env) (LA K Q ρ H) S
section
variable {X : Cx} {e : Expr} {es : List Expr} {st : Stmt} {sts : List Stmt}
theorem pe_imp {t u : TE} (h : PE X e t) (k : ∀ σ H Q, u σ H Q → t σ H Q) : PE X e u := ⟨fun pins s σ H Q I q => h.run pins s σ H Q I (k σ H Q q)⟩
theorem pt_imp {t u : TT} (h : PT X e t) (k : ∀ σ H Q, u σ H Q → t σ H Q) : PT X e u := ⟨fun pins s σ H Q I q => h.run pins s σ H Q I (k σ H Q q)⟩
theorem pw_imp {t u : TT} (h : PW X e t) (k : ∀ σ H Q, u σ H Q → t σ H Q) : PW X e u := ⟨fun wh pins s σ H Q I q => h.run wh pins s σ H Q I (k σ H Q q)⟩
theorem pa_imp {t u : TA} (h : PA X es t) (k : ∀ σ H Q, u σ H Q → t σ H Q) : PA X es u := ⟨fun pos pins s σ H Q I q => h.run pos pins s σ H Q I (k σ H Q q)⟩
theorem ps_imp {t u : TS} (h : PS X st t) (k : ∀ D σ H, u D σ H → t D σ H) : PS X st u := ⟨fun pins s σ H D I q => h.run pins s σ H D I (k D σ H q)⟩
theorem pss_imp {t u : TS} (h : PSs X sts t) (k : ∀ D σ H, u D σ H → t D σ H) : PSs X sts u := ⟨fun pins s σ H D I q => h.run pins s σ H D I (k D σ H q)⟩
end
section
variable {K : PySem.W.Frag} {C : Ctx} {H : Hp} {ρ : List Addr} {S : Store} {env : Nv} {σ : L2.St}
theorem tD_of {ir : E} {Q : VK} {R : D → Store → Prop} (hS : SR K H ρ S) (hE : EnvR K H ρ env σ) (h : wp (evE C ir env) R S)
    (k : ∀ d S1 v H1 ρ1, R d S1 → ρ <+: ρ1 → Ex K H H1 → SR K H1 ρ1 S1 → EnvR K H1 ρ1 env σ → Rp K H1 ρ1 d v → Q v H1) : tD K C ir σ H Q :=
  ⟨ρ, S, env, hS, hE, wp_mono h fun d S1 r v H1 ρ1 p e s1 q => k d S1 v H1 ρ1 r p e s1 (hE.mono p e) q⟩
theorem tDA_of {ir : Es} {Q : List V → Hp → Prop} {R : List D → Store → Prop} (hS : SR K H ρ S) (hE : EnvR K H ρ env σ) (h : wp (evEs C ir env) R S)
    (k : ∀ d S1 v H1 ρ1, R d S1 → ρ <+: ρ1 → Ex K H H1 → SR K H1 ρ1 S1 → EnvR K H1 ρ1 env σ → Rps K H1 ρ1 d v → Q v H1) : tDA K C ir σ H Q :=
  ⟨ρ, S, env, hS, hE, wp_mono h fun d S1 r v H1 ρ1 p e s1 q => k d S1 v H1 ρ1 r p e s1 (hE.mono p e) q⟩
theorem tDB_of {ir : E} {Q : Bool → Hp → Prop} {R : D → Store → Prop} (hS : SR K H ρ S) (hE : EnvR K H ρ env σ) (h : wp (evE C ir env) R S)
    (k : ∀ d S1, R d S1 → ∃ b, d = .bl b ∧ ∀ H1 ρ1, ρ <+: ρ1 → Ex K H H1 → SR K H1 ρ1 S1 → EnvR K H1 ρ1 env σ → Q b H1) : tDB K C ir σ H Q :=
  ⟨ρ, S, env, hS, hE, wp_mono h fun d S1 r => let ⟨b, e, q⟩ := k d S1 r; ⟨b, e, fun H1 ρ1 p e s1 => q H1 ρ1 p e s1 (hE.mono p e)⟩⟩
end
end Mn
/-! Mn, part 3: the operators keep to the evaluator. -/
namespace Mn
open PySem PySem.Spec PyProof.Rows L2
section
variable {K : PySem.W.Frag} {H : Hp} {ρ : List Addr} {S : Store} {Q : VK} {v : V}
theorem Rp.intE {i : Int} (h : Rp K H ρ (.int i) v) : v = .int i := by unfold Rp at h; exact h
theorem Rp.strE {i : Str} (h : Rp K H ρ (.str i) v) : v = .str i := by unfold Rp at h; exact h
theorem Rp.blE {i : Bool} (h : Rp K H ρ (.bl i) v) : v = .bl i := by unfold Rp at h; exact h
theorem Rp.nonE (h : Rp K H ρ .non v) : v = .non := by unfold Rp at h; exact h
theorem Rp.tupE {xs : List D} (h : Rp K H ρ (.tup xs) v) : ∃ a vs, v = .ref a ∧ SqT K H a vs ∧ Rps K H ρ xs vs := by unfold Rp at h; exact h
theorem Rp.int {i : Int} : Rp K H ρ (.int i) (.int i) := by unfold Rp; rfl
theorem Rp.str {i : Str} : Rp K H ρ (.str i) (.str i) := by unfold Rp; rfl
theorem Rp.bl {i : Bool} : Rp K H ρ (.bl i) (.bl i) := by unfold Rp; rfl
theorem Rp.non : Rp K H ρ .non .non := by unfold Rp; rfl
theorem Rp.tup {xs : List D} {a : Addr} {vs : List V} (h : SqT K H a vs) (r : Rps K H ρ xs vs) : Rp K H ρ (.tup xs) (.ref a) := by unfold Rp; exact ⟨a, vs, rfl, h, r⟩
theorem LQ.here {d : D} (h : LQ K Q ρ H d S) (hS : SR K H ρ S) (r : Rp K H ρ d v) : Q v H := h v H ρ List.prefix_rfl Ex.refl hS r
theorem LQ.tup {xs : List D} {vs : List V} (h : LQ K Q ρ H (.tup xs) S) (hS : SR K H ρ S) (r : Rps K H ρ xs vs) {p : Addr} (hp : H p = none) : Q (.ref p) (upd H p (.tup vs)) :=
  h _ _ ρ List.prefix_rfl (ex_new hp) (hS.tup hp) (.tup (.inl (.inl upd_same)) (r.mono List.prefix_rfl (ex_new hp)))
theorem LQ.new {xs : List D} {vs : List V} (h : LQ K Q ρ H (.loc S.length) (S ++ [.lst xs])) (hS : SR K H ρ S) (r : Rps K H ρ xs vs) {p : Addr} (hp : H p = none) : Q (.ref p) (upd H p (.lst vs)) :=
  h _ _ (ρ ++ [p]) (List.prefix_append _ _) (ex_new hp) (hS.alloc hp r) (by unfold Rp; exact ⟨p, by rw [← hS.len]; simp, rfl⟩)
theorem wp_owL {n : Nat} {R : List D → Store → Prop} : wp (owL n) R S ↔ ∃ xs, S[n]? = some (.lst xs) ∧ R xs S := by
  unfold wp wpx owL
  cases e : S[n]? with
  | none => exact ⟨fun h => h.elim, fun ⟨_, h, _⟩ => nomatch h⟩
  | some c =>
    cases c with
    | lst xs => exact ⟨fun h => ⟨xs, rfl, h⟩, fun ⟨_, h, q⟩ => by cases h; exact q⟩
    | ro xs => exact ⟨fun h => h.elim, fun ⟨_, h, _⟩ => nomatch h⟩
theorem wp_rdL {n : Nat} {R : List D → Store → Prop} : wp (rdL n) R S ↔ ∃ xs, (S[n]? = some (.lst xs) ∨ S[n]? = some (.ro xs)) ∧ R xs S := by
  unfold wp wpx rdL
  cases e : S[n]? with
  | none => exact ⟨fun h => h.elim, fun ⟨_, h, _⟩ => h.elim (fun z => nomatch z) fun z => nomatch z⟩
  | some c =>
    cases c with
    | lst xs => exact ⟨fun h => ⟨xs, .inl rfl, h⟩, fun ⟨_, h, q⟩ => by rcases h with h | h <;> cases h; exact q⟩
    | ro xs => exact ⟨fun h => ⟨xs, .inr rfl, h⟩, fun ⟨_, h, q⟩ => by rcases h with h | h <;> cases h; exact q⟩
theorem wp_alloc {c : Cell} {R : D → Store → Prop} : wp (alloc c) R S ↔ R (.loc S.length) (S ++ [c]) := Iff.rfl
theorem wp_wrL {n : Nat} {xs : List D} {R : Unit → Store → Prop} : wp (wrL n xs) R S ↔ R () (S.set n (.lst xs)) := Iff.rfl
theorem wp_newL {xs : List D} {R : D → Store → Prop} : wp (newL xs) R S ↔ xs.length ≤ sizeLine ∧ R (.loc S.length) (S ++ [.lst xs]) := by
  unfold newL
  simp only [wpx_bind, wpx_guard, ok2, decide_eq_true_eq]
  exact Iff.rfl
theorem wp_newT {xs : List D} {R : D → Store → Prop} : wp (newT xs) R S ↔ xs.length ≤ sizeLine ∧ R (.tup xs) S := by
  unfold newT
  simp only [wpx_bind, wpx_guard, ok2, decide_eq_true_eq, wpx_ret]
theorem wp_asB {d : D} {R : Bool → Store → Prop} : wp (asB d) R S ↔ ∃ b, d = .bl b ∧ R b S := by
  cases d <;> first | exact ⟨fun h => h.elim, fun ⟨_, h, _⟩ => nomatch h⟩ | exact ⟨fun h => ⟨_, rfl, h⟩, fun ⟨_, h, q⟩ => by cases h; exact q⟩
theorem wp_asI {d : D} {R : Int → Store → Prop} : wp (asI d) R S ↔ ∃ b, d = .int b ∧ R b S := by
  cases d <;> first | exact ⟨fun h => h.elim, fun ⟨_, h, _⟩ => nomatch h⟩ | exact ⟨fun h => ⟨_, rfl, h⟩, fun ⟨_, h, q⟩ => by cases h; exact q⟩
theorem wp_seqOf {d : D} {R : List D → Store → Prop} : wp (seqOf d) R S ↔ (∃ xs, d = .tup xs ∧ R xs S) ∨ ∃ n xs, d = .loc n ∧ (S[n]? = some (.lst xs) ∨ S[n]? = some (.ro xs)) ∧ R xs S := by
  cases d with
  | tup xs => exact ⟨fun h => .inl ⟨_, rfl, h⟩, fun h => h.elim (fun ⟨_, e, q⟩ => by cases e; exact q) fun ⟨_, _, e, _⟩ => nomatch e⟩
  | loc n => exact ⟨fun h => let ⟨xs, h1, h2⟩ := wp_rdL.mp h; .inr ⟨n, xs, rfl, h1, h2⟩, fun h => h.elim (fun ⟨_, e, q⟩ => nomatch e) fun ⟨_, xs, e, h1, h2⟩ => by cases e; exact wp_rdL.mpr ⟨xs, h1, h2⟩⟩
  | _ => exact ⟨fun h => h.elim, fun h => h.elim (fun ⟨_, e, q⟩ => nomatch e) fun ⟨_, _, e, _⟩ => nomatch e⟩
/-- a sequence is read -/
theorem seq_read {d : D} {xs : List D} (hS : SR K H ρ S) (r : Rp K H ρ d v) (h : d = .tup xs ∨ ∃ n, d = .loc n ∧ (S[n]? = some (.lst xs) ∨ S[n]? = some (.ro xs))) :
    ∃ a vs, v = .ref a ∧ (SqL K H a vs ∨ SqT K H a vs) ∧ Rps K H ρ xs vs := by
  rcases h with rfl | ⟨n, rfl, h⟩
  · obtain ⟨a, vs, e, h1, h2⟩ := r.tupE
    exact ⟨a, vs, e, .inr h1, h2⟩
  · rcases h with h | h
    · obtain ⟨a, e, _, hc⟩ := hS.loc r h
      obtain ⟨vs, h1, h2⟩ := hc.sql (.inl rfl)
      exact ⟨a, vs, e, .inl h1, h2⟩
    · obtain ⟨a, e, _, hc⟩ := hS.loc r h
      obtain ⟨vs, h1, h2⟩ := hc.sql (.inr rfl)
      exact ⟨a, vs, e, .inl h1, h2⟩
theorem lst_read {n : Nat} {xs : List D} (hS : SR K H ρ S) (r : Rp K H ρ (.loc n) v) (h : S[n]? = some (.lst xs)) : ∃ a vs, v = .ref a ∧ ρ[n]? = some a ∧ H a = some (.lst vs) ∧ Rps K H ρ xs vs := by
  obtain ⟨a, e, q, hc⟩ := hS.loc r h
  obtain ⟨vs, h1, h2⟩ := hc
  exact ⟨a, vs, e, q, h1, h2⟩
end
section
variable {X : Cx}
def rBin (K : PySem.W.Frag) (o : BOp) : R2 := fun x y H Q => ∃ ρ S d e, SR K H ρ S ∧ Rp K H ρ d x ∧ Rp K H ρ e y ∧ wp (binop o d e) (LQ K Q ρ H) S
theorem opr_add : OpR X (binaryOp .Add) (rBin X.K .add) := by
  intro pins s σ H x y v u Q I rx ry ⟨ρ, S, d, e, hS, hd, he, h⟩
  cases d with
  | int i => cases e with
    | int j =>
      cases hd.intE; cases he.intE
      exact op_add pins s σ H _ _ v u Q I rx ry ⟨i, j, rfl, rfl, LQ.here h hS .int⟩
    | _ => exact False.elim h
  | str i => cases e with
    | str j =>
      cases hd.strE; cases he.strE
      unfold binop at h
      simp only [wpx_bind, wpx_guard, wpx_ret, ok2, decide_eq_true_eq] at h
      exact op_add_str pins s σ H _ _ v u Q I rx ry ⟨i, j, rfl, rfl, h.1, LQ.here h.2 hS .str⟩
    | _ => exact False.elim h
  | tup xs => cases e with
    | tup ys =>
      obtain ⟨a, vs, rfl, h1, r1⟩ := hd.tupE
      obtain ⟨b, us, rfl, h2, r2⟩ := he.tupE
      unfold binop at h
      rw [wp_newT] at h
      obtain ⟨hz, q⟩ := h
      have l1 := r1.length
      have l2 := r2.length
      rw [List.length_append] at hz
      refine op_catA pins s σ H _ _ v u Q I rx ry ⟨a, b, vs, us, rfl, rfl, h1, h2, by omega, fun e => ?_, fun _ e => ?_, fun _ _ p hp => LQ.tup q hS (r1.append r2) hp⟩
      · subst e
        have : xs = [] := List.eq_nil_of_length_eq_zero l1
        subst this
        exact LQ.here q hS (.tup h2 r2)
      · subst e
        have : ys = [] := List.eq_nil_of_length_eq_zero l2
        subst this
        exact LQ.here q hS (.tup h1 (by simpa using r1))
    | _ => exact False.elim h
  | loc n => cases e with
    | loc m =>
      unfold binop at h
      simp only [wpx_bind] at h
      obtain ⟨xs, e1, h⟩ := wp_owL.mp h
      obtain ⟨ys, e2, h⟩ := wp_owL.mp h
      obtain ⟨hz, q⟩ := wp_newL.mp h
      obtain ⟨a, vs, rfl, _, h1, r1⟩ := lst_read hS hd e1
      obtain ⟨b, us, rfl, _, h2, r2⟩ := lst_read hS he e2
      have l1 := r1.length
      have l2 := r2.length
      rw [List.length_append] at hz
      exact op_cat pins s σ H _ _ v u Q I rx ry ⟨a, b, vs, us, rfl, rfl, h1, h2, by omega, fun p hp => LQ.new q hS (r1.append r2) hp⟩
    | _ => exact False.elim h
  | _ => exact False.elim h
theorem opr_sub : OpR X (binaryOp .Sub) (rBin X.K .sub) := by
  intro pins s σ H x y v u Q I rx ry ⟨ρ, S, d, e, hS, hd, he, h⟩
  cases d with
  | int i => cases e with
    | int j =>
      cases hd.intE; cases he.intE
      exact op_sub pins s σ H _ _ v u Q I rx ry ⟨i, j, rfl, rfl, LQ.here h hS .int⟩
    | _ => exact False.elim h
  | _ => exact False.elim h
theorem opr_mod : OpR X (binaryOp .Mod) (rBin X.K .mod) := by
  intro pins s σ H x y v u Q I rx ry ⟨ρ, S, d, e, hS, hd, he, h⟩
  cases d with
  | int i => cases e with
    | int j =>
      cases hd.intE; cases he.intE
      unfold binop at h
      simp only [wpx_bind, wpx_guard, wpx_ret, decide_eq_true_eq] at h
      exact op_mod pins s σ H _ _ v u Q I rx ry ⟨i, j, rfl, rfl, h.1, LQ.here h.2 hS .int⟩
    | _ => exact False.elim h
  | _ => exact False.elim h
theorem opr_fdiv : OpR X (binaryOp .FloorDiv) (rBin X.K .fdiv) := by
  intro pins s σ H x y v u Q I rx ry ⟨ρ, S, d, e, hS, hd, he, h⟩
  cases d with
  | int i => cases e with
    | int j =>
      cases hd.intE; cases he.intE
      unfold binop at h
      simp only [wpx_bind, wpx_guard, wpx_ret, decide_eq_true_eq, Bool.and_eq_true] at h
      exact op_fdiv pins s σ H _ _ v u Q I rx ry ⟨i, j, rfl, rfl, h.1, LQ.here h.2 hS .int⟩
    | _ => exact False.elim h
  | _ => exact False.elim h
theorem opr_pow : OpR X (binaryOp .Pow) (rBin X.K .pow) := by
  intro pins s σ H x y v u Q I rx ry ⟨ρ, S, d, e, hS, hd, he, h⟩
  cases d with
  | int i => cases e with
    | int j =>
      cases hd.intE; cases he.intE
      unfold binop at h
      simp only [wpx_bind, wpx_guard, wpx_ret, decide_eq_true_eq, Bool.and_eq_true] at h
      exact op_pow pins s σ H _ _ v u Q I rx ry ⟨i, j, rfl, rfl, ⟨h.1.1.1, h.1.1.2, h.1.2⟩, LQ.here h.2 hS .int⟩
    | _ => exact False.elim h
  | _ => exact False.elim h
theorem fold_rep (l : List Nat) : ∀ (n : Nat) (acc : Array Nat), (List.replicate n l.toArray).foldl (· ++ ·) acc = acc ++ (rep l n).toArray
  | 0, acc => by simp [rep]
  | n + 1, acc => by
    rw [List.replicate_succ, List.foldl_cons, fold_rep l n]
    simp [rep, List.replicate_succ]
theorem rep_len {α : Type} (l : List α) : ∀ n, (rep l n).length = n * l.length
  | 0 => by simp [rep]
  | n + 1 => by
    have := rep_len l n
    unfold rep at *
    rw [List.replicate_succ, List.flatten_cons, List.length_append, this, Nat.succ_mul, Nat.add_comm]
theorem mul_le {a b c d : Nat} (h1 : a ≤ c) (h2 : b ≤ d) : a * b ≤ c * d := Nat.mul_le_mul h1 h2
theorem opr_mul : OpR X (binaryOp .Mult) (rBin X.K .mul) := by
  intro pins s σ H x y v u Q I rx ry ⟨ρ, S, d, e, hS, hd, he, h⟩
  have hline : sizeLine = 16777216 := sizeLine_eq
  cases d with
  | int i => cases e with
    | int j =>
      cases hd.intE; cases he.intE
      unfold binop cMul at h
      simp only [wpx_bind, wpx_guard, wpx_ret, decide_eq_true_eq, Bool.and_eq_true, Bool.or_eq_true] at h
      exact op_mul pins s σ H _ _ v u Q I rx ry ⟨i, j, rfl, rfl, h.1, LQ.here h.2 hS .int⟩
    | _ => exact False.elim h
  | str z => cases e with
    | int j =>
      cases hd.strE; cases he.intE
      unfold binop at h
      simp only [wpx_bind, wpx_guard, wpx_ret, decide_eq_true_eq, Bool.and_eq_true] at h
      obtain ⟨⟨⟨hz, hlo⟩, hhi⟩, q⟩ := h
      obtain ⟨t, rfl⟩ := rx
      obtain ⟨t', rfl⟩ := ry
      have hm : z.length * j.toNat ≤ 1000 * 1000 := mul_le hz (by omega)
      have q' := LQ.here (v := .str ⟨(rep z.cps.toList j.toNat).toArray⟩) q hS .str
      refine PySem.P.mul_str (by simp; omega) (fun h1 h2 => ?_) (fun h1 h2 => ?_) ?_
      · have : (2 ^ 63 - 1 : Int) / 1000 ≤ (2 ^ 63 - 1) / j := by
          apply Int.le_ediv_of_mul_le (by omega)
          have : (2 ^ 63 - 1 : Int) / 1000 * j ≤ (2 ^ 63 - 1 : Int) / 1000 * 1000 := Int.mul_le_mul_of_nonneg_left (by omega) (by decide)
          refine Int.le_trans this (by decide)
        have c : (1000 : Int) ≤ (2 ^ 63 - 1 : Int) / 1000 := by decide
        omega
      · unfold Builtin.Str.tooLong
        rw [decide_eq_false (by omega)]
      · by_cases hj : j < 1
        · rw [if_pos hj]
          have e0 : j.toNat = 0 := by omega
          rw [e0] at q'
          exact ⟨by decide, ⟨.str _, H, I.tok _, ⟨_, rfl⟩, q'⟩⟩
        · rw [if_neg hj]
          by_cases h1 : (j == 1 || z.length == 0) = true
          · rw [if_pos h1]
            have e0 : (⟨(rep z.cps.toList j.toNat).toArray⟩ : Str) = z := by
              have : rep z.cps.toList j.toNat = z.cps.toList := by
                rcases Bool.or_eq_true _ _ ▸ h1 with h1 | h1
                · have : j = 1 := by simpa using h1
                  subst this
                  simp [rep]
                · have : z.length = 0 := by simpa using h1
                  have : z.cps.toList = [] := List.eq_nil_of_length_eq_zero (by simpa [Str.length] using this)
                  rw [this]
                  exact List.eq_nil_of_length_eq_zero (by rw [rep_len]; simp)
              rw [this]
            rw [e0] at q'
            exact ⟨.str z, H, I, ⟨_, rfl⟩, q'⟩
          · rw [if_neg h1]
            have e0 : (List.replicate j.toNat z.cps).foldl (· ++ ·) #[] = (rep z.cps.toList j.toNat).toArray := by
              have := fold_rep z.cps.toList j.toNat #[]
              simpa using this
            refine ⟨?_, ⟨.str _, H, I.tok _, ⟨_, rfl⟩, ?_⟩⟩
            · show Str.length ⟨_⟩ ≤ sizeLine
              rw [e0]
              show (rep z.cps.toList j.toNat).toArray.size ≤ _
              rw [List.size_toArray, rep_len, hline, Nat.mul_comm]
              have : z.cps.toList.length = z.length := by simp [Str.length]
              rw [this]
              omega
            · rw [e0]
              exact q'
    | _ => exact False.elim h
  | tup xs => cases e with
    | int j =>
      cases he.intE
      obtain ⟨a, vs, rfl, h1, r1⟩ := hd.tupE
      unfold binop at h
      simp only [wpx_bind, wpx_guard, wpx_ret, decide_eq_true_eq, Bool.and_eq_true] at h
      obtain ⟨⟨⟨⟨hne, h2⟩, h3⟩, h4⟩, q⟩ := h
      have l1 := r1.length
      refine op_repT pins s σ H _ _ v u Q I rx ry ⟨a, j, vs, rfl, rfl, h1, ?_, h2, h3, by omega, fun p hp => LQ.tup q hS (r1.rep j.toNat) hp⟩
      rintro rfl
      have : xs = [] := List.eq_nil_of_length_eq_zero l1
      subst this
      simp at hne
    | _ => exact False.elim h
  | loc n => cases e with
    | int j =>
      cases he.intE
      unfold binop at h
      simp only [wpx_bind] at h
      obtain ⟨xs, e1, h⟩ := wp_owL.mp h
      simp only [wpx_bind, wpx_guard, wp_alloc, ok2, decide_eq_true_eq, Bool.and_eq_true] at h
      obtain ⟨⟨⟨h2, h3⟩, h4⟩, q⟩ := h
      obtain ⟨a, vs, rfl, _, h1, r1⟩ := lst_read hS hd e1
      have l1 := r1.length
      exact op_rep pins s σ H _ _ v u Q I rx ry ⟨a, j, vs, rfl, rfl, h1, h2, h3, by rw [← l1]; exact h4, fun p hp => LQ.new q hS (r1.rep j.toNat) hp⟩
    | _ => exact False.elim h
  | _ => exact False.elim h
end
end Mn
/-! Mn, part 4: comparisons. -/
namespace Mn
open PySem PySem.Spec PyProof.Rows L2
section
variable {K : PySem.W.Frag} {H : Hp} {ρ : List Addr} {S : Store}
mutual
theorem dp_of : ∀ {d : D} {v : V} {p : PyData}, Rp K H ρ d v → py d = some p → Dp K H v p
  | .non, v, p, h, e => by cases h.nonE; unfold py at e; cases e; exact .non
  | .bl b, v, p, h, e => by cases h.blE; unfold py at e; cases e; exact .bl b
  | .int i, v, p, h, e => by cases h.intE; unfold py at e; cases e; exact .int i
  | .str x, v, p, h, e => by cases h.strE; unfold py at e; cases e; exact .str x
  | .tup ds, v, p, h, e => by
    obtain ⟨a, vs, rfl, h1, h2⟩ := h.tupE
    unfold py at e
    cases q : pyAll ds with
    | none => rw [q] at e; cases e
    | some ps => rw [q] at e; cases e; exact .tup h1 (dps_of h2 q)
  | .loc n, v, p, h, e => by unfold py at e; cases e
  | .lst _, v, p, h, e => by unfold py at e; cases e
  | .dct _ _, v, p, h, e => by unfold py at e; cases e
theorem dps_of : ∀ {ds : List D} {vs : List V} {ps : List PyData}, Rps K H ρ ds vs → pyAll ds = some ps → DpAll K H vs ps
  | [], vs, ps, h, e => by unfold Rps at h; unfold pyAll at e; cases e; subst h; exact .nil
  | d :: ds, vs, ps, h, e => by
    unfold Rps at h
    obtain ⟨v, r, rfl, h1, h2⟩ := h
    unfold pyAll at e
    cases q1 : py d with
    | none => simp only [q1] at e; cases e
    | some a =>
      cases q2 : pyAll ds with
      | none => simp only [q1, q2] at e; cases e
      | some r =>
        simp only [q1, q2] at e
        cases e
        exact .cons (dp_of h1 q1) (dps_of h2 q2)
end
theorem dp1_of (hS : SR K H ρ S) {d : D} {v : V} {p : PyData} (h : Rp K H ρ d v) (e : py1 S d = some p) : Dp K H v p := by
  cases d with
  | loc n =>
    unfold py1 at e
    simp only at e
    cases q : S[n]? with
    | none => rw [q] at e; cases e
    | some c =>
      obtain ⟨a, rfl, _, hc⟩ := hS.loc h q
      rw [q] at e
      cases c with
      | lst xs =>
        obtain ⟨vs, h1, h2⟩ := hc.sql (.inl rfl)
        simp only at e
        cases q2 : pyAll xs with
        | none => rw [q2] at e; cases e
        | some ps => rw [q2] at e; cases e; exact .lst h1 (dps_of h2 q2)
      | ro xs =>
        obtain ⟨vs, h1, h2⟩ := hc.sql (.inr rfl)
        simp only at e
        cases q2 : pyAll xs with
        | none => rw [q2] at e; cases e
        | some ps => rw [q2] at e; cases e; exact .lst h1 (dps_of h2 q2)
  | _ => exact dp_of h e
theorem flat_of {d : D} {v : V} (h : Rp K H ρ d v) (f : flatD d = true) : flatV v = true := by
  cases d with
  | non => cases h.nonE; rfl
  | bl b => cases h.blE; rfl
  | int b => cases h.intE; rfl
  | str b => cases h.strE; rfl
  | tup xs => cases f
  | loc xs => cases f
  | lst xs => cases f
  | dct ks vs => cases f
theorem eqV_of {d e : D} {v u : V} {a b : PyData} (h : Rp K H ρ d v) (h2 : Rp K H ρ e u) (f : flatD d = true) (g : flatD e = true) (ea : py d = some a) (eb : py e = some b) : eqV v u = PyData.eqv a b := by
  cases d with
  | tup xs => cases f
  | loc xs => cases f
  | lst xs => cases f
  | dct ks vs => cases f
  | non =>
    cases h.nonE; unfold py at ea; cases ea
    cases e with
    | tup xs => cases g
    | loc xs => cases g
    | lst xs => cases g
    | dct ks vs => cases g
    | non => cases h2.nonE; unfold py at eb; cases eb; rfl
    | bl _ => cases h2.blE; unfold py at eb; cases eb; rfl
    | int _ => cases h2.intE; unfold py at eb; cases eb; rfl
    | str _ => cases h2.strE; unfold py at eb; cases eb; rfl
  | bl _ =>
    cases h.blE; unfold py at ea; cases ea
    cases e with
    | tup xs => cases g
    | loc xs => cases g
    | lst xs => cases g
    | dct ks vs => cases g
    | non => cases h2.nonE; unfold py at eb; cases eb; rfl
    | bl _ => cases h2.blE; unfold py at eb; cases eb; rfl
    | int _ => cases h2.intE; unfold py at eb; cases eb; rfl
    | str _ => cases h2.strE; unfold py at eb; cases eb; rfl
  | int _ =>
    cases h.intE; unfold py at ea; cases ea
    cases e with
    | tup xs => cases g
    | loc xs => cases g
    | lst xs => cases g
    | dct ks vs => cases g
    | non => cases h2.nonE; unfold py at eb; cases eb; rfl
    | bl _ => cases h2.blE; unfold py at eb; cases eb; rfl
    | int _ => cases h2.intE; unfold py at eb; cases eb; rfl
    | str _ => cases h2.strE; unfold py at eb; cases eb; rfl
  | str _ =>
    cases h.strE; unfold py at ea; cases ea
    cases e with
    | tup xs => cases g
    | loc xs => cases g
    | lst xs => cases g
    | dct ks vs => cases g
    | non => cases h2.nonE; unfold py at eb; cases eb; rfl
    | bl _ => cases h2.blE; unfold py at eb; cases eb; rfl
    | int _ => cases h2.intE; unfold py at eb; cases eb; rfl
    | str _ => cases h2.strE; unfold py at eb; cases eb; rfl
theorem pyAll_get : ∀ {ds : List D} {ps : List PyData}, pyAll ds = some ps → ps.length = ds.length ∧ ∀ (i : Nat) d, ds[i]? = some d → ∃ p, ps[i]? = some p ∧ py d = some p
  | [], ps, e => by unfold pyAll at e; cases e; exact ⟨rfl, fun i d h => by simp at h⟩
  | d :: ds, ps, e => by
    unfold pyAll at e
    cases q1 : py d with
    | none => simp only [q1] at e; cases e
    | some a =>
      cases q2 : pyAll ds with
      | none => simp only [q1, q2] at e; cases e
      | some r =>
        simp only [q1, q2] at e
        cases e
        obtain ⟨l, h⟩ := pyAll_get q2
        refine ⟨by simp [l], fun i d' hd => ?_⟩
        cases i with
        | zero => simp at hd; subst hd; exact ⟨a, rfl, q1⟩
        | succ i => exact h i d' (by simpa using hd)
theorem any_flat {d : D} {v : V} {a : PyData} (h : Rp K H ρ d v) (f : flatD d = true) (ea : py d = some a) : ∀ {ys : List D} {us : List V} {bs : List PyData}, Rps K H ρ ys us → ys.all flatD = true → pyAll ys = some bs → inV v us = bs.any fun z => PyData.eqv z a
  | [], us, bs, h2, _, e => by unfold Rps at h2; unfold pyAll at e; cases e; subst h2; rfl
  | y :: ys, us, bs, h2, g, e => by
    unfold Rps at h2
    obtain ⟨u, r, rfl, h3, h4⟩ := h2
    unfold pyAll at e
    rw [List.all_cons, Bool.and_eq_true] at g
    cases q1 : py y with
    | none => simp only [q1] at e; cases e
    | some b =>
      cases q2 : pyAll ys with
      | none => simp only [q1, q2] at e; cases e
      | some bs' =>
        simp only [q1, q2] at e
        cases e
        have ih := any_flat h f ea h4 g.2 q2
        unfold inV at ih ⊢
        rw [List.any_cons, List.any_cons, ih, eqV_of h3 h g.1 f q1 ea]
theorem all_flat : ∀ {ys : List D} {us : List V}, Rps K H ρ ys us → ys.all flatD = true → us.all flatV = true
  | [], us, h, _ => by unfold Rps at h; subst h; rfl
  | y :: ys, us, h, g => by
    unfold Rps at h
    obtain ⟨u, r, rfl, h3, h4⟩ := h
    rw [List.all_cons, Bool.and_eq_true] at g
    rw [List.all_cons, flat_of h3 g.1, all_flat h4 g.2]; rfl
end
def rCmp (K : PySem.W.Frag) (o : COp) : R2 := fun x y H Q => ∃ ρ S d e, SR K H ρ S ∧ Rp K H ρ d x ∧ Rp K H ρ e y ∧ wp (cmpop o d e) (fun b S' => LQ K Q ρ H (.bl b) S') S
section
variable {X : Cx}
theorem wp_eqM {x y : D} {R : Bool → Store → Prop} {S : Store} : wp (eqM x y) R S ↔ ∃ a b, py1 S x = some a ∧ py1 S y = some b ∧ fitEq x y a b = true ∧ R (PyData.eqv a b) S := by
  unfold wp wpx eqM
  cases e1 : py1 S x with
  | none => simp
  | some a =>
    cases e2 : py1 S y with
    | none => simp
    | some b =>
      by_cases h : fitEq x y a b = true
      · simp [h]
      · simp [h]
theorem fit_cases {d e : D} {a b : PyData} {S : Store} (ea : py1 S d = some a) (eb : py1 S e = some b) (f : fitEq d e a b = true) :
    (∃ z w, d = .str z ∧ e = .str w ∧ a = .str z ∧ b = .str w) ∨ (a.canLay0 = true ∧ b.canLay0 = true ∧ min a.depth b.depth ≤ 150) := by
  unfold fitEq at f
  rcases Bool.or_eq_true _ _ ▸ f with f | f
  · rw [Bool.and_eq_true] at f
    cases d with
    | str z => cases e with
      | str w => exact .inl ⟨z, w, rfl, rfl, (Option.some.inj ea).symm, (Option.some.inj eb).symm⟩
      | _ => cases f.2
    | _ => cases f.1
  · simp only [Bool.and_eq_true, decide_eq_true_eq] at f
    exact .inr ⟨f.1.1, f.1.2, f.2⟩
theorem eqv_go {pins : List (Addr × Obj)} {s : Shared} {σ : L2.St} {H : Hp} {ρ : List Addr} {x y : V} {v u : Value} {d e : D} {a b : PyData} {A : Around} (I : Inv X pins σ H s) (rx : RelV x v) (ry : RelV y u) (hu : A.units + 150 < cLine)
    (hd : Rp X.K H ρ d x) (he : Rp X.K H ρ e y) (ea : py d = some a) (eb : py e = some b) (f : fitEq d e a b = true) : SeqAt.EqAt A s v u (PyData.eqv a b) := by
  have ea1 : py1 [] d = some a := by cases d <;> first | exact ea | (unfold py at ea; cases ea)
  have eb1 : py1 [] e = some b := by cases e <;> first | exact eb | (unfold py at eb; cases eb)
  rcases fit_cases ea1 eb1 f with ⟨z, w, rfl, rfl, rfl, rfl⟩ | ⟨f1, f2, f3⟩
  · have : eqV x y = PyData.eqv (.str z) (.str w) := eqV_of hd he rfl rfl ea eb
    rw [← this]
    exact eqAt_V rx ry (flat_of hd rfl) (flat_of he rfl)
  · obtain ⟨as, q1⟩ := Dp.reads I a x v (dp_of hd ea) rx
    obtain ⟨bs, q2⟩ := Dp.reads I b y u (dp_of he eb) ry
    exact SeqAt.eqAt_reads a b A s v u as bs q1 q2 f1 f2 (by omega)
theorem opr_eq (hu : X.A.units + 200 < cLine) : OpR X (compareOp .Eq) (rCmp X.K .eq) := by
  intro pins s σ H x y v u Q I rx ry ⟨ρ, S, d, e, hS, hd, he, h⟩
  obtain ⟨a, b, ea, eb, f, q⟩ := wp_eqM.mp h
  have fin := LQ.here q hS .bl
  rcases fit_cases ea eb f with ⟨z, w, rfl, rfl, rfl, rfl⟩ | ⟨f1, f2, f3⟩
  · cases hd.strE; cases he.strE
    refine op_eq pins s σ H _ _ v u Q I rx ry ⟨rfl, ?_⟩
    rw [dec_str]
    exact fin
  · obtain ⟨as, q1⟩ := Dp.reads I a x v (dp1_of hS hd ea) rx
    obtain ⟨bs, q2⟩ := Dp.reads I b y u (dp1_of hS he eb) ry
    exact SeqAt.compareEq_reads q1 q2 f1 f2 (by omega) ⟨.bl _, H, I, rfl, fin⟩
theorem opr_ne (hu : X.A.units + 200 < cLine) : OpR X (compareOp .NotEq) (rCmp X.K .ne) := by
  intro pins s σ H x y v u Q I rx ry ⟨ρ, S, d, e, hS, hd, he, h⟩
  unfold cmpop at h
  simp only [wpx_bind, wpx_ret] at h
  obtain ⟨a, b, ea, eb, f, q⟩ := wp_eqM.mp h
  have fin := LQ.here q hS .bl
  rcases fit_cases ea eb f with ⟨z, w, rfl, rfl, rfl, rfl⟩ | ⟨f1, f2, f3⟩
  · cases hd.strE; cases he.strE
    refine op_ne pins s σ H _ _ v u Q I rx ry ⟨rfl, ?_⟩
    rw [dec_str]
    exact fin
  · obtain ⟨as, q1⟩ := Dp.reads I a x v (dp1_of hS hd ea) rx
    obtain ⟨bs, q2⟩ := Dp.reads I b y u (dp1_of hS he eb) ry
    exact SeqAt.compareNe_reads q1 q2 f1 f2 (by omega) ⟨.bl _, H, I, rfl, fin⟩
theorem inAll_some {x : D} {ys : List D} {r : Bool} (h : inAll x ys = some r) : ∃ a bs, py x = some a ∧ pyAll ys = some bs ∧ r = (bs.any fun z => PyData.eqv z a) ∧
    ((flatD x = true ∧ ys.all flatD = true) ∨ (a.canLay0 = true ∧ PyData.canLayAll0 bs = true ∧ min (PyData.depthAll bs) a.depth ≤ 150)) := by
  unfold inAll at h
  cases e1 : py x with
  | none => simp [e1] at h
  | some a =>
    cases e2 : pyAll ys with
    | none => simp [e1, e2] at h
    | some bs =>
      simp only [e1, e2] at h
      split at h
      · rename_i c
        cases h
        refine ⟨a, bs, rfl, rfl, rfl, ?_⟩
        rcases Bool.or_eq_true _ _ ▸ c with c | c
        · exact .inl (by simpa using c)
        · simp only [Bool.and_eq_true, decide_eq_true_eq] at c
          exact .inr ⟨c.1.1, c.1.2, c.2⟩
      · cases h
theorem opr_in (hu : X.A.units + 200 < cLine) : OpR X (compareOp .In) (rCmp X.K .inn) := by
  intro pins s σ H x y v u Q I rx ry ⟨ρ, S, d, e, hS, hd, he, h⟩
  have main : ∀ ys r, (e = .tup ys ∨ ∃ n, e = .loc n ∧ (S[n]? = some (.lst ys) ∨ S[n]? = some (.ro ys))) → inAll d ys = some r → LQ X.K Q ρ H (.bl r) S → wpAny (model X.prog X.w) X.A (compareOp .In v u) (EP X pins σ Q) X.xe s := by
    intro ys r hy hi q
    obtain ⟨a, bs, ea, eb, er, c⟩ := inAll_some hi
    subst er
    have fin := LQ.here q hS .bl
    obtain ⟨p, us, rfl, hq, hr⟩ := seq_read hS he hy
    rcases c with ⟨c1, c2⟩ | ⟨c1, c2, c3⟩
    · exact op_in_seq pins s σ H x _ v u Q I rx ry ⟨p, us, rfl, hq, flat_of hd c1, all_flat hr c2, by
        rw [if_neg Bool.false_ne_true, any_flat hd c1 ea hr c2 eb]; exact fin⟩
    · obtain ⟨as, q1⟩ := Dp.reads I a x v (dp_of hd ea) rx
      rcases hq with hq | hq
      · obtain ⟨cs, q2⟩ := Dp.reads I (.list bs) _ u (.lst hq (dps_of hr eb)) ry
        exact SeqAt.in_list_reads q2 q1 c2 c1 (by omega) ⟨.bl _, H, I, rfl, fin⟩
      · obtain ⟨cs, q2⟩ := Dp.reads I (.tuple bs) _ u (.tup hq (dps_of hr eb)) ry
        exact SeqAt.in_tuple_reads q2 q1 c2 c1 (by omega) ⟨.bl _, H, I, rfl, fin⟩
  cases e with
  | str z => cases d with
    | str w =>
      cases hd.strE; cases he.strE
      exact op_in_str pins s σ H _ _ v u Q I rx ry ⟨w, z, rfl, rfl, LQ.here h hS .bl⟩
    | _ => exact False.elim h
  | tup ys =>
    obtain ⟨r, hi, q⟩ := wpx_opt.mp h
    exact main ys r (.inl rfl) hi q
  | loc n =>
    unfold cmpop inM at h
    simp only [wpx_bind] at h
    obtain ⟨ys, hy, h⟩ := wp_rdL.mp h
    obtain ⟨r, hi, q⟩ := wpx_opt.mp h
    exact main ys r (.inr ⟨n, rfl, hy⟩) hi q
  | _ => exact False.elim h
theorem opr_nin (hu : X.A.units + 200 < cLine) : OpR X (compareOp .NotIn) (rCmp X.K .nin) := by
  intro pins s σ H x y v u Q I rx ry ⟨ρ, S, d, e, hS, hd, he, h⟩
  unfold cmpop at h
  simp only [wpx_bind, wpx_ret] at h
  have main : ∀ ys r, (e = .tup ys ∨ ∃ n, e = .loc n ∧ (S[n]? = some (.lst ys) ∨ S[n]? = some (.ro ys))) → inAll d ys = some r → LQ X.K Q ρ H (.bl (!r)) S → wpAny (model X.prog X.w) X.A (compareOp .NotIn v u) (EP X pins σ Q) X.xe s := by
    intro ys r hy hi q
    obtain ⟨a, bs, ea, eb, er, c⟩ := inAll_some hi
    subst er
    have fin := LQ.here q hS .bl
    obtain ⟨p, us, rfl, hq, hr⟩ := seq_read hS he hy
    rcases c with ⟨c1, c2⟩ | ⟨c1, c2, c3⟩
    · exact op_notIn_seq pins s σ H x _ v u Q I rx ry ⟨p, us, rfl, hq, flat_of hd c1, all_flat hr c2, by
        rw [if_pos rfl, any_flat hd c1 ea hr c2 eb]; exact fin⟩
    · obtain ⟨as, q1⟩ := Dp.reads I a x v (dp_of hd ea) rx
      rcases hq with hq | hq
      · obtain ⟨cs, q2⟩ := Dp.reads I (.list bs) _ u (.lst hq (dps_of hr eb)) ry
        exact SeqAt.notIn_list_reads q2 q1 c2 c1 (by omega) ⟨.bl _, H, I, rfl, fin⟩
      · obtain ⟨cs, q2⟩ := Dp.reads I (.tuple bs) _ u (.tup hq (dps_of hr eb)) ry
        exact SeqAt.notIn_tuple_reads q2 q1 c2 c1 (by omega) ⟨.bl _, H, I, rfl, fin⟩
  cases e with
  | str z => cases d with
    | str w =>
      cases hd.strE; cases he.strE
      exact op_notIn_str pins s σ H _ _ v u Q I rx ry ⟨w, z, rfl, rfl, LQ.here h hS .bl⟩
    | _ => exact False.elim h
  | tup ys =>
    obtain ⟨r, hi, q⟩ := wpx_opt.mp h
    exact main ys r (.inl rfl) hi q
  | loc n =>
    unfold inM at h
    simp only [wpx_bind] at h
    obtain ⟨ys, hy, h⟩ := wp_rdL.mp h
    obtain ⟨r, hi, q⟩ := wpx_opt.mp h
    exact main ys r (.inr ⟨n, rfl, hy⟩) hi q
  | _ => exact False.elim h
theorem opr_isn : OpR X (compareOp .Is) (rCmp X.K .isn) := by
  intro pins s σ H x y v u Q I rx ry ⟨ρ, S, d, e, hS, hd, he, h⟩
  cases e with
  | non =>
    cases he.nonE
    refine op_isN pins s σ H x _ v u Q I rx ry ⟨rfl, ?_⟩
    have fin := LQ.here (v := .bl (decide (x = .non))) h hS (by
      unfold Rp
      cases d with
      | non => cases hd.nonE; rfl
      | bl _ => cases hd.blE; rfl
      | int _ => cases hd.intE; rfl
      | str _ => cases hd.strE; rfl
      | tup xs => obtain ⟨a, vs, rfl, _⟩ := hd.tupE; rfl
      | loc n => unfold Rp at hd; obtain ⟨a, _, rfl⟩ := hd; rfl
      | lst _ => unfold Rp at hd; exact hd.elim
      | dct _ _ => unfold Rp at hd; exact hd.elim)
    exact fin
  | _ => first | exact False.elim h | (cases d <;> exact False.elim h)
theorem opr_isnn : OpR X (compareOp .IsNot) (rCmp X.K .isnn) := by
  intro pins s σ H x y v u Q I rx ry ⟨ρ, S, d, e, hS, hd, he, h⟩
  cases e with
  | non =>
    cases he.nonE
    refine op_notN pins s σ H x _ v u Q I rx ry ⟨rfl, ?_⟩
    have fin := LQ.here (v := .bl (!decide (x = .non))) h hS (by
      unfold Rp
      cases d with
      | non => cases hd.nonE; rfl
      | bl _ => cases hd.blE; rfl
      | int _ => cases hd.intE; rfl
      | str _ => cases hd.strE; rfl
      | tup xs => obtain ⟨a, vs, rfl, _⟩ := hd.tupE; rfl
      | loc n => unfold Rp at hd; obtain ⟨a, _, rfl⟩ := hd; rfl
      | lst _ => unfold Rp at hd; exact hd.elim
      | dct _ _ => unfold Rp at hd; exact hd.elim)
    exact fin
  | _ => first | exact False.elim h | (cases d <;> exact False.elim h)
theorem opr_gt : OpR X (compareOp .Gt) (rCmp X.K .gt) := by
  intro pins s σ H x y v u Q I rx ry ⟨ρ, S, d, e, hS, hd, he, h⟩
  cases d with
  | int i => cases e with
    | int j => cases hd.intE; cases he.intE; exact op_gt pins s σ H _ _ v u Q I rx ry ⟨i, j, rfl, rfl, LQ.here h hS .bl⟩
    | _ => exact False.elim h
  | _ => exact False.elim h
theorem opr_le : OpR X (compareOp .LtE) (rCmp X.K .le) := by
  intro pins s σ H x y v u Q I rx ry ⟨ρ, S, d, e, hS, hd, he, h⟩
  cases d with
  | int i => cases e with
    | int j => cases hd.intE; cases he.intE; exact op_le pins s σ H _ _ v u Q I rx ry ⟨i, j, rfl, rfl, LQ.here h hS .bl⟩
    | _ => exact False.elim h
  | _ => exact False.elim h
theorem opr_ge : OpR X (compareOp .GtE) (rCmp X.K .ge) := by
  intro pins s σ H x y v u Q I rx ry ⟨ρ, S, d, e, hS, hd, he, h⟩
  cases d with
  | int i => cases e with
    | int j => cases hd.intE; cases he.intE; exact op_ge pins s σ H _ _ v u Q I rx ry ⟨i, j, rfl, rfl, LQ.here h hS .bl⟩
    | _ => exact False.elim h
  | _ => exact False.elim h
end
end Mn
/-! Mn, part 5: the order of nested tuples; only what lies ahead of the first difference is looked at. -/
namespace Mn
open PySem PySem.SeqAt
open PySem.AutoSeq1 (wpAny_loadPart')
open PySem.MeetsSeq PySem.MeetsSeq2 PySem.MeetsSeq3
/-- what two rows give from place i on, k places left -/
def lexN (eq lt : Nat → Bool) (sz : Bool) (i : Nat) : Nat → Bool
  | 0 => sz
  | k + 1 => match eq i with
    | true => lexN eq lt sz (i + 1) k
    | false => lt i
theorem ltTree (p q : Addr) (us ws : Array Value) (m m2 : Nat) (od od2 : Option Addr) (sa sa2 : Array (Option Value)) (eq lt : Nat → Bool) :
    Meets (Builtin.«tuple.__lt__» ⟨[.ref p, .ref q], []⟩)
      (fun A R s => s.heap.get? p = some { cls := .type "tuple", dict := od, data := .seq us m, slots := sa } ∧ s.heap.get? q = some { cls := .type "tuple", dict := od2, data := .seq ws m2, slots := sa2 } ∧
        (∀ (j : Nat) (a1 : j < us.size) (a2 : j < ws.size), (∀ k, k < j → eq k = true) → EqAt A.in1 s us[j] ws[j] (eq j)) ∧
        (∀ (j : Nat) (a1 : j < us.size) (a2 : j < ws.size), (∀ k, k < j → eq k = true) → eq j = false → Ob.RcOp .Lt A.in1 s us[j] ws[j] (lt j)) ∧
        R (.ok (.ret (.bool (lexN eq lt (decide (us.size < ws.size)) 0 (min us.size ws.size))))) s) :=
  .of_wp fun prog w A R s h => by
    obtain ⟨hp, gs, dr, tk, os⟩ := s
    obtain ⟨ep, eq2, hE, hL, hR0⟩ := h
    have notSub := AutoSeq1.sub_tuple_tuple
    have zl : (us.toList.zip ws.toList).length = min us.size ws.size := by simp
    wp_walk using wpAny_loadPart' ep, wpAny_loadPart' eq2, wpAny_forIn_list _ (fun rest b st => b.1 = none ∧ st = ⟨hp, gs, dr, tk, os⟩ ∧ ∃ i, rest = (us.toList.zip ws.toList).drop i ∧ (∀ k, k < i → eq k = true) ∧
      R (.ok (.ret (.bool (lexN eq lt (decide (us.size < ws.size)) i (min us.size ws.size - i))))) ⟨hp, gs, dr, tk, os⟩) _
    case turn =>
      rintro ⟨u, x⟩ rest b st ⟨_, rfl, i, hz, hk, hR⟩
      have inz : i < (us.toList.zip ws.toList).length := Nat.lt_of_not_le fun c => by
        rw [List.drop_of_length_le c] at hz
        cases hz
      have im : i < min us.size ws.size := zl ▸ inz
      have i1 : i < us.size := by omega
      have i2 : i < ws.size := by omega
      rw [List.drop_eq_getElem_cons inz] at hz
      obtain ⟨pair, tail⟩ := List.cons.inj hz
      obtain rfl : u = us[i] := by simpa using congrArg Prod.fst pair
      obtain rfl : x = ws[i] := by simpa using congrArg Prod.snd pair
      obtain ⟨k, ek⟩ : ∃ k, min us.size ws.size - i = k + 1 := ⟨min us.size ws.size - (i + 1), by omega⟩
      have ek' : min us.size ws.size - (i + 1) = k := by omega
      rw [ek] at hR
      unfold lexN at hR
      refine wpAny_bind (hE i i1 i2 hk prog w _ _ ?_)
      cases he : eq i with
      | true =>
        simp only [he] at hR
        wp_walk
        refine ⟨rfl, rfl, i + 1, tail, fun k' hk' => ?_, by rw [ek']; exact hR⟩
        rcases Nat.lt_or_ge k' i with c | c
        · exact hk k' c
        · rw [show k' = i by omega]; exact he
      | false =>
        simp only [he] at hR
        have hlt := hL i i1 i2 hk he prog w
        wp_walk using hlt
        exact ⟨_, rfl, by simpa using hR⟩
    case fin =>
      rintro ⟨b1, b2⟩ st ⟨hb1, rfl, i, hz, _, hR⟩
      simp only at hb1
      subst hb1
      have over : min us.size ws.size ≤ i := Nat.le_of_not_lt fun c => by
        rw [List.drop_eq_getElem_cons (zl.symm ▸ c)] at hz
        cases hz
      rw [Nat.sub_eq_zero_of_le over] at hR
      unfold lexN at hR
      wp_walk
      exact ⟨_, rfl, by simpa [Builtin.Tuple.tupleCompareSizes] using hR⟩
    case h =>
      exact ⟨rfl, rfl, 0, rfl, fun k c => absurd c (Nat.not_lt_zero _), by simpa using hR0⟩
theorem ltTup {A : Around} {s : Shared} {p q : Addr} {us ws : Array Value} {eq lt : Nat → Bool} (hp : s.heap.IsTuple p us) (hq : s.heap.IsTuple q ws) (hu : A.units < cLine)
    (hE : ∀ (j : Nat) (a1 : j < us.size) (a2 : j < ws.size), (∀ k, k < j → eq k = true) → EqAt A.in1 s us[j] ws[j] (eq j))
    (hL : ∀ (j : Nat) (a1 : j < us.size) (a2 : j < ws.size), (∀ k, k < j → eq k = true) → eq j = false → Ob.RcOp .Lt A.in1 s us[j] ws[j] (lt j)) :
    Ob.RcOp .Lt A s (.ref p) (.ref q) (lexN eq lt (decide (us.size < ws.size)) 0 (min us.size ws.size)) := fun prog w E Q h => by
  obtain ⟨⟨c1, d1, t1, l1⟩, o1, k1, n1, s1⟩ := id hp
  obtain ⟨⟨c2, d2, t2, l2⟩, o2, k2, n2, s2⟩ := id hq
  simp only at k1 s1 k2 s2
  subst k1 s1 k2 s2
  exact richCompare_meets_room (op := .Lt) ⟨_, o1, rfl⟩ ⟨_, o2, rfl⟩ F.slot_tuple_lt F.entry_tuple_lt (F.args_tuple_lt_2 _ _) (ltTree p q us ws n1 n2 d1 d2 l1 l2 eq lt) ⟨o1, o2, hE, hL, (fun x => nomatch x), h⟩ hu
end Mn
namespace Mn
open PySem PySem.Spec PyProof.Rows L2
/-- the answers along two rows -/
theorem lex_of (n : Nat) : ∀ (ds es : List D) (b : Bool), ltDs n ds es = some b → ∃ eq lt : Nat → Bool,
    lexN eq lt (decide (ds.length < es.length)) 0 (min ds.length es.length) = b ∧
    ∀ (j : Nat) d1 d2, ds[j]? = some d1 → es[j]? = some d2 → (∀ k, k < j → eq k = true) → ∃ a1 a2, py d1 = some a1 ∧ py d2 = some a2 ∧ fitEq d1 d2 a1 a2 = true ∧ eq j = PyData.eqv a1 a2 ∧ (eq j = false → ltD n d1 d2 = some (lt j))
  | [], [], b, h => ⟨fun _ => true, fun _ => true, by unfold ltDs at h; cases h; rfl, fun j d1 d2 h => by simp at h⟩
  | [], e :: es, b, h => ⟨fun _ => true, fun _ => true, by unfold ltDs at h; cases h; simp [lexN], fun j d1 d2 h => by simp at h⟩
  | d :: ds, [], b, h => ⟨fun _ => true, fun _ => true, by unfold ltDs at h; cases h; simp [lexN], fun j d1 d2 _ h => by simp at h⟩
  | d :: ds, e :: es, b, h => by
    unfold ltDs at h
    have shift : ∀ (f g : Nat → Bool) (z : Bool) (k i : Nat) (x y : Bool), lexN (fun n => match n with | 0 => x | n + 1 => f n) (fun n => match n with | 0 => y | n + 1 => g n) z (i + 1) k = lexN f g z i k := by
      intro f g z k
      induction k with
      | zero => intros; rfl
      | succ k ih =>
        intro i x y
        unfold lexN
        simp only
        rw [ih (i + 1) x y]
    cases e1 : py d with
    | none => simp [e1] at h
    | some a1 =>
      cases e2 : py e with
      | none => simp [e1, e2] at h
      | some a2 =>
        simp only [e1, e2] at h
        by_cases hf : fitEq d e a1 a2 = true
        · rw [if_pos hf] at h
          have hm : min (d :: ds).length (e :: es).length = min ds.length es.length + 1 := by simp only [List.length_cons]; omega
          by_cases hv : PyData.eqv a1 a2 = true
          · rw [if_pos hv] at h
            obtain ⟨f, g, h1, h2⟩ := lex_of n ds es b h
            refine ⟨fun n => match n with | 0 => true | n + 1 => f n, fun n => match n with | 0 => true | n + 1 => g n, ?_, fun j d1 d2 q1 q2 hk => ?_⟩
            · rw [hm]
              unfold lexN
              simp only
              rw [shift]
              simpa using h1
            · cases j with
              | zero =>
                simp at q1 q2
                subst q1; subst q2
                exact ⟨a1, a2, e1, e2, hf, hv.symm, fun z => nomatch z⟩
              | succ j =>
                exact h2 j d1 d2 (by simpa using q1) (by simpa using q2) fun k hk' => hk (k + 1) (by omega)
          · rw [if_neg hv] at h
            refine ⟨fun n => match n with | 0 => false | n + 1 => true, fun n => b, ?_, fun j d1 d2 q1 q2 hk => ?_⟩
            · rw [hm]
              unfold lexN
              rfl
            · cases j with
              | zero =>
                simp at q1 q2
                subst q1; subst q2
                exact ⟨a1, a2, e1, e2, hf, (Bool.eq_false_iff.mpr hv).symm, fun _ => h⟩
              | succ j => exact absurd (hk 0 (by omega)) (by simp)
        · rw [if_neg hf] at h; cases h
section
variable {X : Cx}
theorem lt_run {pins : List (Addr × Obj)} {s : Shared} {σ : L2.St} {H : Hp} {ρ : List Addr} (I : Inv X pins σ H s) : ∀ (n : Nat) (d e : D) (b : Bool), ltD n d e = some b → ∀ (A : Around), A.units + n + 160 < cLine → ∀ x y v u, Rp X.K H ρ d x → Rp X.K H ρ e y → RelV x v → RelV y u → Ob.RcOp .Lt A s v u b := by
  intro n
  induction n with
  | zero =>
    intro d e b h A hu x y v u hd he rx ry
    cases d with
    | int i => cases e with
      | int j =>
        cases hd.intE; cases he.intE
        obtain ⟨t, rfl⟩ := rx
        obtain ⟨t', rfl⟩ := ry
        unfold ltD at h; cases h
        exact Ob.RcOp.lt_int i j t t'
      | _ => unfold ltD at h; cases h
    | str i => cases e with
      | str j =>
        cases hd.strE; cases he.strE
        obtain ⟨t, rfl⟩ := rx
        obtain ⟨t', rfl⟩ := ry
        unfold ltD at h; cases h
        exact fun prog w E Q q => PyProof.Rows.lt_str q
      | _ => unfold ltD at h; cases h
    | _ => (cases e <;> (unfold ltD at h; cases h))
  | succ n ih =>
    intro d e b h A hu x y v u hd he rx ry
    cases d with
    | int i => cases e with
      | int j =>
        cases hd.intE; cases he.intE
        obtain ⟨t, rfl⟩ := rx
        obtain ⟨t', rfl⟩ := ry
        unfold ltD at h; cases h
        exact Ob.RcOp.lt_int i j t t'
      | _ => unfold ltD at h; cases h
    | str i => cases e with
      | str j =>
        cases hd.strE; cases he.strE
        obtain ⟨t, rfl⟩ := rx
        obtain ⟨t', rfl⟩ := ry
        unfold ltD at h; cases h
        exact fun prog w E Q q => PyProof.Rows.lt_str q
      | _ => unfold ltD at h; cases h
    | tup ds => cases e with
      | tup es =>
        obtain ⟨p, vs, rfl, hp, hr⟩ := hd.tupE
        obtain ⟨q, us, rfl, hq, hr2⟩ := he.tupE
        cases rx
        cases ry
        obtain ⟨its, r1, p1, _⟩ := I.tuple hp
        obtain ⟨its2, r2, p2, _⟩ := I.tuple hq
        unfold ltD at h
        obtain ⟨eq, lt, hb, hj⟩ := lex_of n ds es b h
        have l1 : its.toArray.size = ds.length := by rw [List.size_toArray, ← r1.length, ← hr.length]
        have l2 : its2.toArray.size = es.length := by rw [List.size_toArray, ← r2.length, ← hr2.length]
        have look : ∀ (j : Nat) (a1 : j < its.toArray.size) (a2 : j < its2.toArray.size), ∃ d1 d2 w1 w2, ds[j]? = some d1 ∧ es[j]? = some d2 ∧ Rp X.K H ρ d1 w1 ∧ Rp X.K H ρ d2 w2 ∧ RelV w1 its.toArray[j] ∧ RelV w2 its2.toArray[j] := by
          intro j a1 a2
          have b1 : j < ds.length := by omega
          have b2 : j < es.length := by omega
          obtain ⟨w1, x1, y1⟩ := hr.at (List.getElem?_eq_getElem b1)
          obtain ⟨w2, x2, y2⟩ := hr2.at (List.getElem?_eq_getElem b2)
          obtain ⟨u1, z1, g1⟩ := r1.get x1
          obtain ⟨u2, z2, g2⟩ := r2.get x2
          refine ⟨_, _, w1, w2, List.getElem?_eq_getElem b1, List.getElem?_eq_getElem b2, y1, y2, ?_, ?_⟩
          · have : its.toArray[j] = u1 := by
              have := (List.getElem?_eq_some_iff.mp z1).2
              simpa using this
            rw [this]; exact g1
          · have : its2.toArray[j] = u2 := by
              have := (List.getElem?_eq_some_iff.mp z2).2
              simpa using this
            rw [this]; exact g2
        have R := ltTup (A := A) (s := s) (eq := eq) (lt := lt) p1 p2 (by omega)
          (fun j a1 a2 hk => by
            obtain ⟨d1, d2, w1, w2, x1, x2, y1, y2, g1, g2⟩ := look j a1 a2
            obtain ⟨c1, c2, q1, q2, q3, q4, _⟩ := hj j d1 d2 x1 x2 hk
            rw [q4]
            exact eqv_go I g1 g2 (by show A.units + 1 + 150 < cLine; omega) y1 y2 q1 q2 q3)
          (fun j a1 a2 hk hf => by
            obtain ⟨d1, d2, w1, w2, x1, x2, y1, y2, g1, g2⟩ := look j a1 a2
            obtain ⟨c1, c2, q1, q2, q3, q4, q5⟩ := hj j d1 d2 x1 x2 hk
            exact ih d1 d2 _ (q5 hf) A.in1 (by show A.units + 1 + n + 160 < cLine; omega) w1 w2 _ _ y1 y2 g1 g2)
        rw [l1, l2, hb] at R
        exact R
      | _ => unfold ltD at h; cases h
    | _ => (cases e <;> (unfold ltD at h; cases h))
theorem opr_lt (hu : X.A.units + 300 < cLine) : OpR X (compareOp .Lt) (rCmp X.K .lt) := by
  intro pins s σ H x y v u Q I rx ry ⟨ρ, S, d, e, hS, hd, he, h⟩
  obtain ⟨b, hb, q⟩ := wpx_opt.mp h
  exact lt_run I 100 d e b hb X.A (by omega) x y v u hd he rx ry X.prog X.w X.xe _ ⟨.bl b, H, I, rfl, LQ.here q hS .bl⟩
end
end Mn
/-! Mn, part 6: built-in functions and methods, truth, index, slice. -/
namespace Mn
open PySem PySem.Spec PyProof.Rows L2
def rBi (K : PySem.W.Frag) (b : Bi) : List V → Hp → VK → Prop := fun vs H Q => ∃ ρ S ds, SR K H ρ S ∧ Rps K H ρ ds vs ∧ wp (builtin b ds) (LQ K Q ρ H) S
section
variable {X : Cx} {K : PySem.W.Frag} {H : Hp} {ρ : List Addr} {S : Store} {Q : VK} {v : V}
theorem rps1 {d : D} {vs : List V} (h : Rps K H ρ [d] vs) : ∃ v, vs = [v] ∧ Rp K H ρ d v := by
  unfold Rps at h
  obtain ⟨v, r, rfl, h1, h2⟩ := h
  unfold Rps at h2
  subst h2
  exact ⟨v, rfl, h1⟩
theorem rps2 {d e : D} {vs : List V} (h : Rps K H ρ [d, e] vs) : ∃ v u, vs = [v, u] ∧ Rp K H ρ d v ∧ Rp K H ρ e u := by
  unfold Rps at h
  obtain ⟨v, r, rfl, h1, h2⟩ := h
  obtain ⟨u, rfl, h3⟩ := rps1 h2
  exact ⟨v, u, rfl, h1, h3⟩
theorem rps3 {d e f : D} {vs : List V} (h : Rps K H ρ [d, e, f] vs) : ∃ v u w, vs = [v, u, w] ∧ Rp K H ρ d v ∧ Rp K H ρ e u ∧ Rp K H ρ f w := by
  unfold Rps at h
  obtain ⟨v, r, rfl, h1, h2⟩ := h
  obtain ⟨u, w, rfl, h3, h4⟩ := rps2 h2
  exact ⟨v, u, w, rfl, h1, h3, h4⟩
theorem Rps.ints_of {ns : List Int} {ds : List D} {vs : List V} (h : Rps K H ρ ds vs) (e : intsD ds = some ns) : vs = ns.map V.int := h.intsR e
theorem max_in : ∀ (ns : List Int), ns ≠ [] → maxI ns ∈ ns ∧ ∀ y ∈ ns, y ≤ maxI ns
  | [], h => absurd rfl h
  | [x], _ => ⟨by simp [maxI], fun y hy => by simp at hy; subst hy; simp [maxI]⟩
  | x :: y :: r, _ => by
    obtain ⟨h1, h2⟩ := max_in (y :: r) (by simp)
    have e : maxI (x :: y :: r) = max x (maxI (y :: r)) := rfl
    rw [e]
    refine ⟨?_, fun z hz => ?_⟩
    · rcases Int.le_total x (maxI (y :: r)) with c | c
      · rw [Int.max_eq_right c]; exact List.mem_cons_of_mem _ h1
      · rw [Int.max_eq_left c]; exact List.mem_cons_self
    · rcases List.mem_cons.mp hz with rfl | hz
      · exact Int.le_max_left _ _
      · exact Int.le_trans (h2 z hz) (Int.le_max_right _ _)
theorem min_in : ∀ (ns : List Int), ns ≠ [] → minI ns ∈ ns ∧ ∀ y ∈ ns, minI ns ≤ y
  | [], h => absurd rfl h
  | [x], _ => ⟨by simp [minI], fun y hy => by simp at hy; subst hy; simp [minI]⟩
  | x :: y :: r, _ => by
    obtain ⟨h1, h2⟩ := min_in (y :: r) (by simp)
    have e : minI (x :: y :: r) = min x (minI (y :: r)) := rfl
    rw [e]
    refine ⟨?_, fun z hz => ?_⟩
    · rcases Int.le_total x (minI (y :: r)) with c | c
      · rw [Int.min_eq_left c]; exact List.mem_cons_self
      · rw [Int.min_eq_right c]; exact List.mem_cons_of_mem _ h1
    · rcases List.mem_cons.mp hz with rfl | hz
      · exact Int.min_le_left _ _
      · exact Int.le_trans (Int.min_le_right _ _) (h2 z hz)
theorem bi_len : CallR X (.builtin "len") (rBi X.K .len) := by
  intro pins s σ H xs us Q I r ⟨ρ, S, ds, hS, hd, h⟩
  match ds, hd, h with
  | [.str x], hd, h =>
    obtain ⟨v, rfl, hv⟩ := rps1 hd
    cases hv.strE
    unfold builtin at h
    simp only [wpx_bind, wpx_guard, wpx_ret, ok2, decide_eq_true_eq] at h
    exact call_len pins s σ H _ us Q I r ⟨_, _, rfl, ⟨h.1, rfl⟩, LQ.here h.2 hS .int⟩
  | [.tup ys], hd, h =>
    obtain ⟨v, rfl, hv⟩ := rps1 hd
    obtain ⟨a, vs, rfl, h1, h2⟩ := hv.tupE
    have h : LQ X.K Q ρ H (.int ys.length) S := h
    exact call_len pins s σ H _ us Q I r ⟨_, _, rfl, .inr ⟨vs, h1, rfl⟩, by rw [← h2.length]; exact LQ.here h hS .int⟩
  | [.loc n], hd, h =>
    obtain ⟨v, rfl, hv⟩ := rps1 hd
    unfold builtin at h
    simp only [wpx_bind, wpx_ret] at h
    obtain ⟨ys, hy, h⟩ := wp_rdL.mp h
    obtain ⟨a, vs, rfl, hq, h2⟩ := seq_read hS hv (.inr ⟨n, rfl, hy⟩)
    exact call_len_seq pins s σ H _ us Q I r ⟨a, vs, rfl, hq, by rw [← h2.length]; exact LQ.here h hS .int⟩
  | [], _, h => exact False.elim h
  | [.non], _, h => exact False.elim h
  | [.bl _], _, h => exact False.elim h
  | [.int _], _, h => exact False.elim h
  | a :: b :: c, _, h => cases a <;> exact False.elim h
theorem bi_int : CallR X (.type "int") (rBi X.K .int) := by
  intro pins s σ H xs us Q I r ⟨ρ, S, ds, hS, hd, h⟩
  match ds, hd, h with
  | [.int i], hd, h =>
    obtain ⟨v, rfl, hv⟩ := rps1 hd
    cases hv.intE
    exact call_int1 pins s σ H _ us Q I r (.inl ⟨i, rfl, LQ.here h hS .int⟩)
  | [.bl i], hd, h =>
    obtain ⟨v, rfl, hv⟩ := rps1 hd
    cases hv.blE
    exact call_int1 pins s σ H _ us Q I r (.inr ⟨i, rfl, LQ.here h hS .int⟩)
  | [], _, h => exact False.elim h
  | [.non], _, h => exact False.elim h
  | [.str _], _, h => exact False.elim h
  | [.tup _], _, h => exact False.elim h
  | [.loc _], _, h => exact False.elim h
  | a :: b :: c, _, h => cases a <;> exact False.elim h
theorem bi_abs : CallR X (.builtin "abs") (rBi X.K .abs) := by
  intro pins s σ H xs us Q I r ⟨ρ, S, ds, hS, hd, h⟩
  match ds, hd, h with
  | [.int i], hd, h =>
    obtain ⟨v, rfl, hv⟩ := rps1 hd
    cases hv.intE
    exact call_abs pins s σ H _ us Q I r ⟨i, rfl, LQ.here h hS .int⟩
  | [], _, h => exact False.elim h
  | [.non], _, h => exact False.elim h
  | [.str _], _, h => exact False.elim h
  | [.bl _], _, h => exact False.elim h
  | [.tup _], _, h => exact False.elim h
  | [.loc _], _, h => exact False.elim h
  | a :: b :: c, _, h => cases a <;> exact False.elim h
theorem two_of (b : Bi) (hb : b = .max2 ∨ b = .min2) {ds : List D} {R : D → Store → Prop} (h : wp (builtin b ds) R S) : ∃ i j, ds = [.int i, .int j] := by
  rcases hb with rfl | rfl
  · match ds, h with
    | [.int i, .int j], _ => exact ⟨i, j, rfl⟩
    | [], h => exact False.elim h
    | [a], h => cases a <;> exact False.elim h
    | [a, b], h => cases a <;> cases b <;> first | exact ⟨_, _, rfl⟩ | exact False.elim h
    | a :: b :: c :: d, h => cases a <;> cases b <;> exact False.elim h
  · match ds, h with
    | [.int i, .int j], _ => exact ⟨i, j, rfl⟩
    | [], h => exact False.elim h
    | [a], h => cases a <;> exact False.elim h
    | [a, b], h => cases a <;> cases b <;> first | exact ⟨_, _, rfl⟩ | exact False.elim h
    | a :: b :: c :: d, h => cases a <;> cases b <;> exact False.elim h
theorem loc_of (b : Bi) (hb : b = .max1 ∨ b = .min1 ∨ b = .sum ∨ b = .all ∨ b = .any) {ds : List D} {R : D → Store → Prop} (h : wp (builtin b ds) R S) : ∃ n, ds = [.loc n] := by
  rcases hb with rfl | rfl | rfl | rfl | rfl <;> (match ds, h with
    | [], h => exact False.elim h
    | [a], h => cases a <;> first | exact ⟨_, rfl⟩ | exact False.elim h
    | a :: b :: c, h => cases a <;> exact False.elim h)
theorem bi_max2 (hc : X.calm = true) : CallR X (.builtin "max") (rBi X.K .max2) := by
  intro pins s σ H xs us Q I r ⟨ρ, S, ds, hS, hd, h⟩
  obtain ⟨i, j, rfl⟩ := two_of .max2 (.inl rfl) h
  obtain ⟨v, u, rfl, hv, hu⟩ := rps2 hd
  cases hv.intE; cases hu.intE
  exact call_max2 hc pins s σ H _ us Q I r ⟨i, j, rfl, LQ.here h hS .int⟩
theorem bi_min2 (hc : X.calm = true) : CallR X (.builtin "min") (rBi X.K .min2) := by
  intro pins s σ H xs us Q I r ⟨ρ, S, ds, hS, hd, h⟩
  obtain ⟨i, j, rfl⟩ := two_of .min2 (.inr rfl) h
  obtain ⟨v, u, rfl, hv, hu⟩ := rps2 hd
  cases hv.intE; cases hu.intE
  exact call_min2 hc pins s σ H _ us Q I r ⟨i, j, rfl, LQ.here h hS .int⟩
theorem sql_of {n : Nat} {xs : List D} (hS : SR K H ρ S) (r : Rp K H ρ (.loc n) v) (h : S[n]? = some (.lst xs) ∨ S[n]? = some (.ro xs)) : ∃ a vs, v = .ref a ∧ SqL K H a vs ∧ Rps K H ρ xs vs := by
  rcases h with h | h
  · obtain ⟨a, rfl, _, hc⟩ := hS.loc r h
    obtain ⟨vs, h1, h2⟩ := hc.sql (.inl rfl)
    exact ⟨a, vs, rfl, h1, h2⟩
  · obtain ⟨a, rfl, _, hc⟩ := hS.loc r h
    obtain ⟨vs, h1, h2⟩ := hc.sql (.inr rfl)
    exact ⟨a, vs, rfl, h1, h2⟩
theorem bi_max1 (hc : X.calm = true) : CallR X (.builtin "max") (rBi X.K .max1) := by
  intro pins s σ H xs us Q I r ⟨ρ, S, ds, hS, hd, h⟩
  obtain ⟨n, rfl⟩ := loc_of .max1 (by simp) h
  obtain ⟨v, rfl, hv⟩ := rps1 hd
  unfold builtin at h
  simp only [wpx_bind] at h
  obtain ⟨ys, hy, h⟩ := wp_rdL.mp h
  obtain ⟨ns, hn, h⟩ := wpx_opt.mp h
  simp only [wpx_bind, wpx_guard, wpx_ret] at h
  obtain ⟨a, vs, rfl, hq, h2⟩ := sql_of hS hv hy
  have := h2.intsR hn
  subst this
  have hne : ns ≠ [] := by rintro rfl; simp at h
  obtain ⟨m1, m2⟩ := max_in ns hne
  refine cr_max hc pins s σ H _ us Q I r ⟨a, ns, rfl, hq, List.length_pos_iff.mpr hne, fun m hm hall => ?_⟩
  have : m = maxI ns := Int.le_antisymm (m2 m hm) (hall _ m1)
  rw [this]
  exact LQ.here h.2 hS .int
theorem bi_min1 (hc : X.calm = true) : CallR X (.builtin "min") (rBi X.K .min1) := by
  intro pins s σ H xs us Q I r ⟨ρ, S, ds, hS, hd, h⟩
  obtain ⟨n, rfl⟩ := loc_of .min1 (by simp) h
  obtain ⟨v, rfl, hv⟩ := rps1 hd
  unfold builtin at h
  simp only [wpx_bind] at h
  obtain ⟨ys, hy, h⟩ := wp_rdL.mp h
  obtain ⟨ns, hn, h⟩ := wpx_opt.mp h
  simp only [wpx_bind, wpx_guard, wpx_ret] at h
  obtain ⟨a, vs, rfl, hq, h2⟩ := sql_of hS hv hy
  have := h2.intsR hn
  subst this
  have hne : ns ≠ [] := by rintro rfl; simp at h
  obtain ⟨m1, m2⟩ := min_in ns hne
  refine cr_min hc pins s σ H _ us Q I r ⟨a, ns, rfl, hq, List.length_pos_iff.mpr hne, fun m hm hall => ?_⟩
  have : m = minI ns := Int.le_antisymm (hall _ m1) (m2 m hm)
  rw [this]
  exact LQ.here h.2 hS .int
theorem bi_sum (hc : X.calm = true) : CallR X (.builtin "sum") (rBi X.K .sum) := by
  intro pins s σ H xs us Q I r ⟨ρ, S, ds, hS, hd, h⟩
  obtain ⟨n, rfl⟩ := loc_of .sum (by simp) h
  obtain ⟨v, rfl, hv⟩ := rps1 hd
  unfold builtin at h
  simp only [wpx_bind] at h
  obtain ⟨ys, hy, h⟩ := wp_rdL.mp h
  obtain ⟨ns, hn, h⟩ := wpx_opt.mp h
  obtain ⟨a, vs, rfl, hq, h2⟩ := sql_of hS hv hy
  have := h2.intsR hn
  subst this
  exact cr_sum hc pins s σ H _ us Q I r ⟨a, ns, rfl, hq, LQ.here h hS .int⟩
theorem bi_all (hc : X.calm = true) : CallR X (.builtin "all") (rBi X.K .all) := by
  intro pins s σ H xs us Q I r ⟨ρ, S, ds, hS, hd, h⟩
  obtain ⟨n, rfl⟩ := loc_of .all (by simp) h
  obtain ⟨v, rfl, hv⟩ := rps1 hd
  unfold builtin at h
  simp only [wpx_bind] at h
  obtain ⟨ys, hy, h⟩ := wp_rdL.mp h
  obtain ⟨ns, hn, h⟩ := wpx_opt.mp h
  obtain ⟨a, vs, rfl, hq, h2⟩ := sql_of hS hv hy
  have := h2.boolsR hn
  subst this
  exact cr_all hc pins s σ H _ us Q I r ⟨a, ns, rfl, hq, LQ.here h hS .bl⟩
theorem bi_any (hc : X.calm = true) : CallR X (.builtin "any") (rBi X.K .any) := by
  intro pins s σ H xs us Q I r ⟨ρ, S, ds, hS, hd, h⟩
  obtain ⟨n, rfl⟩ := loc_of .any (by simp) h
  obtain ⟨v, rfl, hv⟩ := rps1 hd
  unfold builtin at h
  simp only [wpx_bind] at h
  obtain ⟨ys, hy, h⟩ := wp_rdL.mp h
  obtain ⟨ns, hn, h⟩ := wpx_opt.mp h
  obtain ⟨a, vs, rfl, hq, h2⟩ := sql_of hS hv hy
  have := h2.boolsR hn
  subst this
  exact cr_any hc pins s σ H _ us Q I r ⟨a, ns, rfl, hq, LQ.here h hS .bl⟩
theorem one_of (b : Bi) (hb : b = .list ∨ b = .tuple ∨ b = .str ∨ b = .repr) {ds : List D} {R : D → Store → Prop} (h : wp (builtin b ds) R S) : ∃ d, ds = [d] := by
  rcases hb with rfl | rfl | rfl | rfl <;> (match ds, h with
    | [], h => exact False.elim h
    | [a], h => exact ⟨a, rfl⟩
    | a :: b :: c, h => cases a <;> exact False.elim h)
theorem bi_list : CallR X (.type "list") (rBi X.K .list) := by
  intro pins s σ H xs us Q I r ⟨ρ, S, ds, hS, hd, h⟩
  obtain ⟨d, rfl⟩ := one_of .list (by simp) h
  obtain ⟨v, rfl, hv⟩ := rps1 hd
  unfold builtin at h
  simp only [wpx_bind] at h
  rcases wp_seqOf.mp h with ⟨ys, rfl, h⟩ | ⟨n, ys, rfl, hy, h⟩
  · obtain ⟨a, vs, rfl, hq, h2⟩ := seq_read hS hv (.inl rfl)
    exact call_list_of pins s σ H _ us Q I r ⟨a, vs, rfl, hq, fun p hp => LQ.new h hS h2 hp⟩
  · obtain ⟨a, vs, rfl, hq, h2⟩ := seq_read hS hv (.inr ⟨n, rfl, hy⟩)
    exact call_list_of pins s σ H _ us Q I r ⟨a, vs, rfl, hq, fun p hp => LQ.new h hS h2 hp⟩
theorem bi_tuple : CallR X (.type "tuple") (rBi X.K .tuple) := by
  intro pins s σ H xs us Q I r ⟨ρ, S, ds, hS, hd, h⟩
  obtain ⟨d, rfl⟩ := one_of .tuple (by simp) h
  obtain ⟨v, rfl, hv⟩ := rps1 hd
  unfold builtin at h
  simp only [wpx_bind] at h
  rcases wp_seqOf.mp h with ⟨ys, rfl, h⟩ | ⟨n, ys, rfl, hy, h⟩
  · obtain ⟨a, vs, rfl, hq, h2⟩ := hv.tupE
    exact call_tuple_of pins s σ H _ us Q I r ⟨a, vs, rfl, .inr ⟨hq, LQ.here h hS (.tup hq h2)⟩⟩
  · obtain ⟨a, vs, rfl, hq, h2⟩ := sql_of hS hv hy
    exact call_tuple_of pins s σ H _ us Q I r ⟨a, vs, rfl, .inl ⟨hq, fun p hp => LQ.tup h hS h2 hp⟩⟩
theorem bi_str : CallR X (.type "str") (rBi X.K .str) := by
  intro pins s σ H xs us Q I r ⟨ρ, S, ds, hS, hd, h⟩
  obtain ⟨d, rfl⟩ := one_of .str (by simp) h
  obtain ⟨v, rfl, hv⟩ := rps1 hd
  cases d with
  | int i =>
    cases hv.intE
    unfold builtin at h
    simp only [wpx_bind, wpx_guard, wpx_ret, decide_eq_true_eq] at h
    exact call_str_int pins s σ H _ us Q I r ⟨i, rfl, h.1, LQ.here h.2 hS .str⟩
  | str x =>
    cases hv.strE
    exact SkE.call_str_str pins s σ H _ us Q I r ⟨x, rfl, LQ.here h hS .str⟩
  | _ => exact False.elim h
theorem bi_repr (hu : X.A.units + 200 < cLine) (hg : X.A.guards = some []) : CallR X (.builtin "repr") (rBi X.K .repr) := by
  intro pins s σ H xs us Q I r ⟨ρ, S, ds, hS, hd, h⟩
  obtain ⟨d, rfl⟩ := one_of .repr (by simp) h
  obtain ⟨v, rfl, hv⟩ := rps1 hd
  have deep : wp (reprM d) (LQ X.K Q ρ H) S → (∃ a, v = .ref a) → wpAny (model X.prog X.w) X.A (call (.builtin "repr") us) (EP X pins σ Q) X.xe s := by
    intro h ⟨a, ev⟩
    subst ev
    unfold wp wpx reprM at h
    cases e : py1 S d with
    | none => rw [e] at h; exact h.elim
    | some p =>
      rw [e] at h
      simp only at h
      split at h
      · rename_i c
        split at c
        · rename_i c2
          simp only [Bool.and_eq_true, decide_eq_true_eq, Bool.not_eq_true'] at c2
          cases c
          obtain ⟨u, rfl, ru⟩ := vals1 r
          cases ru
          obtain ⟨as, q1⟩ := Dp.reads I p _ _ (dp1_of hS hv e) rfl
          exact repr_of_reads' q1 c2.1.1.1 (fun z => by rw [c2.1.1.2] at z; cases z) hg (by omega) (fun _ _ z => z) (fun h' u tk hk => ⟨.str p.shown, H, I.kept hk, ⟨u, rfl⟩, LQ.here h hS .str⟩) c2.2
        · cases c
      · rename_i c
        split at c <;> cases c
      · exact h.elim
  cases d with
  | int i =>
    cases hv.intE
    unfold builtin at h
    simp only [wpx_bind, wpx_guard, wpx_ret, decide_eq_true_eq] at h
    exact SkE.call_repr_int pins s σ H _ us Q I r ⟨i, rfl, h.1, LQ.here h.2 hS .str⟩
  | str x =>
    cases hv.strE
    unfold builtin at h
    simp only [wpx_bind, wpx_guard, wpx_ret, ok2, decide_eq_true_eq] at h
    obtain ⟨u, rfl, ru⟩ := vals1 r
    obtain ⟨t, rfl⟩ := ru
    exact PySem.P.repr_of_str ⟨.str _, H, I.tok _, ⟨_, rfl⟩, LQ.here h.2 hS .str⟩ h.1
  | bl b =>
    cases hv.blE
    obtain ⟨u, rfl, ru⟩ := vals1 r
    cases ru
    have h : LQ X.K Q ρ H (.str (if b then "True" else "False")) S := h
    exact PySem.P.repr_of_bool ⟨.str _, H, I.tok _, ⟨_, rfl⟩, LQ.here h hS .str⟩
  | non =>
    cases hv.nonE
    obtain ⟨u, rfl, ru⟩ := vals1 r
    cases ru
    have h : LQ X.K Q ρ H (.str "None") S := h
    exact PySem.P.repr_of_none ⟨.str _, H, I.tok _, ⟨_, rfl⟩, LQ.here h hS .str⟩
  | tup ys => obtain ⟨a, vs, rfl, hq, h2⟩ := hv.tupE; exact deep h ⟨a, rfl⟩
  | loc n => unfold Rp at hv; obtain ⟨a, _, rfl⟩ := hv; exact deep h ⟨a, rfl⟩
  | lst _ => unfold Rp at hv; exact hv.elim
  | dct _ _ => unfold Rp at hv; exact hv.elim
end
end Mn
/-! Mn, part 7: methods, truth, index, slice, isinstance. -/
namespace Mn
open PySem PySem.Spec PyProof.Rows L2
section
variable {X : Cx} {K : PySem.W.Frag} {H : Hp} {ρ : List Addr} {S : Store} {Q : VK} {v : V}
def rMt (K : PySem.W.Frag) (b : Bi) : V → List V → Hp → VK → Prop := fun x vs H Q => rBi K b (x :: vs) H Q
/-- a list is written -/
theorem LQ.put {d : D} {n : Nat} {p : Addr} {xs ys : List D} {vs us : List V} (h : LQ K Q ρ H d (S.set n (.lst ys))) (hS : SR K H ρ S) (e : S[n]? = some (.lst xs)) (ep : ρ[n]? = some p) (hp : H p = some (.lst us)) (hr : Rps K H ρ ys vs) (r : Rp K H ρ d v) : Q v (upd H p (.lst vs)) :=
  h v _ ρ List.prefix_rfl (ex_put hp) (hS.put e ep hp hr) (r.mono List.prefix_rfl (ex_put hp))
theorem app_of {ds : List D} {R : D → Store → Prop} (h : wp (builtin .append ds) R S) : ∃ n d, ds = [.loc n, d] := by
  match ds, h with
  | [], h => exact False.elim h
  | [a], h => cases a <;> exact False.elim h
  | [a, b], h => cases a <;> first | exact ⟨_, _, rfl⟩ | exact False.elim h
  | a :: b :: c :: d, h => cases a <;> exact False.elim h
theorem mr_append : MtR X "list.append" (rMt X.K .append) := by
  intro pins s σ H x xs w us Q I rx r ⟨ρ, S, ds, hS, hd, h⟩
  obtain ⟨n, d, rfl⟩ := app_of h
  obtain ⟨v1, v2, e, hv, hu⟩ := rps2 hd
  cases e
  unfold builtin at h
  simp only [wpx_bind] at h
  obtain ⟨ys, hy, h⟩ := wp_owL.mp h
  simp only [wpx_bind, wpx_guard, wpx_ret, decide_eq_true_eq] at h
  obtain ⟨hz, h⟩ := h
  have h := wp_wrL.mp h
  obtain ⟨a, vs, rfl, ep, ha, h2⟩ := lst_read hS hv hy
  exact mt_append pins s σ H _ _ w us Q I rx r ⟨a, vs, v2, rfl, rfl, ha, by rw [← h2.length]; exact hz, LQ.put h hS hy ep ha (h2.append (.cons hu .nil)) .non⟩
theorem loc1_of (b : Bi) (hb : b = .pop0 ∨ b = .reverse) {ds : List D} {R : D → Store → Prop} (h : wp (builtin b ds) R S) : ∃ n, ds = [.loc n] := by
  rcases hb with rfl | rfl <;> (match ds, h with
    | [], h => exact False.elim h
    | [a], h => cases a <;> first | exact ⟨_, rfl⟩ | exact False.elim h
    | a :: b :: c, h => cases a <;> exact False.elim h)
theorem mr_pop0 : MtR X "list.pop" (rMt X.K .pop0) := by
  intro pins s σ H x xs w us Q I rx r ⟨ρ, S, ds, hS, hd, h⟩
  obtain ⟨n, rfl⟩ := loc1_of .pop0 (.inl rfl) h
  obtain ⟨v1, e, hv⟩ := rps1 hd
  cases e
  unfold builtin at h
  simp only [wpx_bind] at h
  obtain ⟨ys, hy, h⟩ := wp_owL.mp h
  obtain ⟨d, hi, h⟩ := wpx_opt.mp h
  simp only [wpx_bind, wpx_ret] at h
  have h := wp_wrL.mp h
  obtain ⟨a, vs, rfl, ep, ha, h2⟩ := lst_read hS hv hy
  obtain ⟨y, hi2, ry⟩ := h2.at hi
  exact mt_pop pins s σ H _ _ w us Q I rx r ⟨a, vs, y, rfl, rfl, ha, by rw [← h2.length]; exact hi2, LQ.put h hS hy ep ha h2.dropLast ry⟩
theorem mr_reverse : MtR X "list.reverse" (rMt X.K .reverse) := by
  intro pins s σ H x xs w us Q I rx r ⟨ρ, S, ds, hS, hd, h⟩
  obtain ⟨n, rfl⟩ := loc1_of .reverse (.inr rfl) h
  obtain ⟨v1, e, hv⟩ := rps1 hd
  cases e
  unfold builtin at h
  simp only [wpx_bind] at h
  obtain ⟨ys, hy, h⟩ := wp_owL.mp h
  simp only [wpx_bind, wpx_ret] at h
  have h := wp_wrL.mp h
  obtain ⟨a, vs, rfl, ep, ha, h2⟩ := lst_read hS hv hy
  exact mt_reverse pins s σ H _ _ w us Q I rx r ⟨a, vs, rfl, rfl, ha, LQ.put h hS hy ep ha h2.reverse .non⟩
theorem pop1_of {ds : List D} {R : D → Store → Prop} (h : wp (builtin .pop1 ds) R S) : ∃ n i, ds = [.loc n, .int i] := by
  match ds, h with
  | [], h => exact False.elim h
  | [a], h => cases a <;> exact False.elim h
  | [a, b], h => cases a <;> cases b <;> first | exact ⟨_, _, rfl⟩ | exact False.elim h
  | a :: b :: c :: d, h => cases a <;> cases b <;> exact False.elim h
theorem mr_pop1 : MtR X "list.pop" (rMt X.K .pop1) := by
  intro pins s σ H x xs w us Q I rx r ⟨ρ, S, ds, hS, hd, h⟩
  obtain ⟨n, i, rfl⟩ := pop1_of h
  obtain ⟨v1, v2, e, hv, hu⟩ := rps2 hd
  cases e
  cases hu.intE
  unfold builtin at h
  simp only [wpx_bind] at h
  obtain ⟨ys, hy, h⟩ := wp_owL.mp h
  simp only [wpx_bind, wpx_guard, Bool.and_eq_true, decide_eq_true_eq] at h
  obtain ⟨⟨h5, h6⟩, h⟩ := h
  obtain ⟨k, hk, h⟩ := wpx_opt.mp h
  obtain ⟨d, hi, h⟩ := wpx_opt.mp h
  simp only [wpx_bind, wpx_ret] at h
  have h := wp_wrL.mp h
  obtain ⟨a, vs, rfl, ep, ha, h2⟩ := lst_read hS hv hy
  obtain ⟨y, hi2, ry⟩ := h2.at hi
  exact mt_popAt pins s σ H _ _ w us Q I rx r ⟨a, vs, i, k, y, rfl, rfl, ha, h5, h6, by rw [← h2.length]; exact hk, hi2, LQ.put h hS hy ep ha (h2.eraseIdx k) ry⟩
theorem ext_of {ds : List D} {R : D → Store → Prop} (h : wp (builtin .extend ds) R S) : ∃ n i, ds = [.loc n, .loc i] := by
  match ds, h with
  | [], h => exact False.elim h
  | [a], h => cases a <;> exact False.elim h
  | [a, b], h => cases a <;> cases b <;> first | exact ⟨_, _, rfl⟩ | exact False.elim h
  | a :: b :: c :: d, h => cases a <;> cases b <;> exact False.elim h
theorem mr_extend : MtR X "list.extend" (rMt X.K .extend) := by
  intro pins s σ H x xs w us Q I rx r ⟨ρ, S, ds, hS, hd, h⟩
  obtain ⟨n, m, rfl⟩ := ext_of h
  obtain ⟨v1, v2, e, hv, hu⟩ := rps2 hd
  cases e
  unfold builtin at h
  simp only [wpx_bind] at h
  obtain ⟨ys, hy, h⟩ := wp_owL.mp h
  obtain ⟨zs, hz, h⟩ := wp_owL.mp h
  simp only [wpx_bind, wpx_guard, wpx_ret, ok2, decide_eq_true_eq] at h
  obtain ⟨h5, h⟩ := h
  have h := wp_wrL.mp h
  obtain ⟨a, vs, rfl, ep, ha, h2⟩ := lst_read hS hv hy
  obtain ⟨b, ws, rfl, _, hb, h3⟩ := lst_read hS hu hz
  exact mt_extend pins s σ H _ _ w us Q I rx r ⟨a, b, vs, ws, rfl, rfl, ha, hb, by rw [← h2.length, ← h3.length]; exact h5, LQ.put h hS hy ep ha (h2.append h3) .non⟩
theorem ins_of {ds : List D} {R : D → Store → Prop} (h : wp (builtin .insert ds) R S) : ∃ n i d, ds = [.loc n, .int i, d] := by
  match ds, h with
  | [], h => exact False.elim h
  | [a], h => cases a <;> exact False.elim h
  | [a, b], h => cases a <;> cases b <;> exact False.elim h
  | [a, b, c], h => cases a <;> cases b <;> first | exact ⟨_, _, _, rfl⟩ | exact False.elim h
  | a :: b :: c :: d :: e, h => cases a <;> cases b <;> exact False.elim h
theorem mr_insert : MtR X "list.insert" (rMt X.K .insert) := by
  intro pins s σ H x xs w us Q I rx r ⟨ρ, S, ds, hS, hd, h⟩
  obtain ⟨n, i, d, rfl⟩ := ins_of h
  obtain ⟨v1, v2, v3, e, hv, hu, hw⟩ := rps3 hd
  cases e
  cases hu.intE
  unfold builtin at h
  simp only [wpx_bind] at h
  obtain ⟨ys, hy, h⟩ := wp_owL.mp h
  simp only [wpx_bind, wpx_guard, wpx_ret, Bool.and_eq_true, decide_eq_true_eq] at h
  obtain ⟨⟨⟨h5, h6⟩, h7⟩, h⟩ := h
  have h := wp_wrL.mp h
  obtain ⟨a, vs, rfl, ep, ha, h2⟩ := lst_read hS hv hy
  exact mt_insert pins s σ H _ _ w us Q I rx r ⟨a, vs, i, v3, rfl, rfl, ha, by rw [← h2.length]; exact h5, h6, h7, LQ.put h hS hy ep ha (((h2.take _).append (.cons hw .nil)).append (h2.drop _)) .non⟩
theorem join_of {ds : List D} {R : D → Store → Prop} (h : wp (builtin .join ds) R S) : ∃ a d, ds = [.str a, d] := by
  match ds, h with
  | [], h => exact False.elim h
  | [a], h => cases a <;> exact False.elim h
  | [a, b], h => cases a <;> first | exact ⟨_, _, rfl⟩ | exact False.elim h
  | a :: b :: c :: d, h => cases a <;> exact False.elim h
theorem mr_join : MtR X "str.join" (rMt X.K .join) := by
  intro pins s σ H x xs w us Q I rx r ⟨ρ, S, ds, hS, hd, h⟩
  obtain ⟨a, d, rfl⟩ := join_of h
  obtain ⟨v1, v2, e, hv, hu⟩ := rps2 hd
  cases e
  cases hv.strE
  unfold builtin lenJ at h
  simp only [wpx_bind] at h
  rcases wp_seqOf.mp h with ⟨zs, rfl, h⟩ | ⟨n, zs, rfl, hy, h⟩
  · obtain ⟨ys, hs, h⟩ := wpx_opt.mp h
    simp only [wpx_bind, wpx_guard, wpx_ret, decide_eq_true_eq] at h
    obtain ⟨p, vs, rfl, hq, h2⟩ := hu.tupE
    have := h2.strsR hs
    subst this
    exact mt_join pins s σ H _ _ w us Q I rx r ⟨a, p, ys, rfl, rfl, .inr hq, h.1, LQ.here h.2 hS .str⟩
  · obtain ⟨ys, hs, h⟩ := wpx_opt.mp h
    simp only [wpx_bind, wpx_guard, wpx_ret, decide_eq_true_eq] at h
    obtain ⟨p, vs, rfl, hq, h2⟩ := sql_of hS hu hy
    have := h2.strsR hs
    subst this
    exact mt_join pins s σ H _ _ w us Q I rx r ⟨a, p, ys, rfl, rfl, .inl hq, h.1, LQ.here h.2 hS .str⟩
theorem str2_of (b : Bi) (hb : b = .split ∨ b = .startswith) {ds : List D} {R : D → Store → Prop} (h : wp (builtin b ds) R S) : ∃ a d, ds = [.str a, .str d] := by
  rcases hb with rfl | rfl <;> (match ds, h with
  | [], h => exact False.elim h
  | [a], h => cases a <;> exact False.elim h
  | [a, b], h => cases a <;> cases b <;> first | exact ⟨_, _, rfl⟩ | exact False.elim h
  | a :: b :: c :: d, h => cases a <;> cases b <;> exact False.elim h)
theorem mr_split : MtR X "str.split" (rMt X.K .split) := by
  intro pins s σ H x xs w us Q I rx r ⟨ρ, S, ds, hS, hd, h⟩
  obtain ⟨a, b, rfl⟩ := str2_of .split (.inl rfl) h
  obtain ⟨v1, v2, e, hv, hu⟩ := rps2 hd
  cases e
  cases hv.strE; cases hu.strE
  unfold builtin at h
  simp only [wpx_bind, wpx_guard, Bool.and_eq_true, decide_eq_true_eq, Bool.not_eq_true'] at h
  obtain ⟨⟨h1, h2⟩, h⟩ := h
  have h := wp_alloc.mp h
  exact mt_split pins s σ H _ _ w us Q I rx r ⟨a, b, rfl, rfl, h1, h2, fun p hp => LQ.new h hS (.of_strs _) hp⟩
theorem mr_startswith : MtR X "str.startswith" (rMt X.K .startswith) := by
  intro pins s σ H x xs w us Q I rx r ⟨ρ, S, ds, hS, hd, h⟩
  obtain ⟨a, b, rfl⟩ := str2_of .startswith (.inr rfl) h
  obtain ⟨v1, v2, e, hv, hu⟩ := rps2 hd
  cases e
  cases hv.strE; cases hu.strE
  exact mt_startswith pins s σ H _ _ w us Q I rx r ⟨a, b, rfl, rfl, LQ.here h hS .bl⟩
/-- the receiver's type -/
def isStrB : Bi → Bool
  | .join => true
  | .split => true
  | .startswith => true
  | _ => false
theorem recv_ty {b : Bi} {d : D} {R : Unit → Store → Prop} (hS : SR K H ρ S) (r : Rp K H ρ d v) (h : wp (recv b d) R S) : tyV K (if isStrB b then "str" else "list") v H ∧ R () S := by
  cases d with
  | str z =>
    cases r.strE
    cases b <;> first | exact False.elim h | exact ⟨rfl, h⟩
  | loc n =>
    have key : ∀ {b : Bi}, wp (M.bind (rdL n) fun _ => M.ret ()) R S → tyV K "list" v H ∧ R () S := by
      intro b h
      simp only [wpx_bind] at h
      obtain ⟨ys, hy, h⟩ := wp_rdL.mp h
      obtain ⟨a, vs, rfl, hq, _⟩ := sql_of hS r hy
      exact ⟨.inl ⟨rfl, vs, hq⟩, h⟩
    cases b <;> first | exact False.elim h | exact key (b := .append) h
  | _ => cases b <;> exact False.elim h
/-! ### truth, index, slice -/
theorem truth_tru {d : D} {R : Bool → Store → Prop} (hS : SR K H ρ S) (r : Rp K H ρ d v) (h : wp (truth d) R S) : ∃ k, TruV K v H k ∧ R k S := by
  cases d with
  | non => cases r.nonE; exact ⟨false, rfl, h⟩
  | bl b => cases r.blE; exact ⟨b, rfl, h⟩
  | int i => cases r.intE; exact ⟨_, rfl, h⟩
  | str x =>
    cases r.strE
    unfold truth at h
    simp only [wpx_bind, wpx_guard, wpx_ret, ok2, decide_eq_true_eq] at h
    exact ⟨_, ⟨h.1, rfl⟩, h.2⟩
  | tup xs =>
    obtain ⟨a, vs, rfl, h1, h2⟩ := r.tupE
    have h : R (!xs.isEmpty) S := h
    refine ⟨!vs.isEmpty, .inr (.inl ⟨vs, h1, rfl⟩), ?_⟩
    have : vs.isEmpty = xs.isEmpty := by
      have := h2.length
      cases xs <;> cases vs <;> first | rfl | (simp at this)
    rw [this]; exact h
  | loc n =>
    unfold truth at h
    simp only [wpx_bind, wpx_ret] at h
    obtain ⟨xs, hy, h⟩ := wp_rdL.mp h
    obtain ⟨a, vs, rfl, hq, h2⟩ := sql_of hS r hy
    refine ⟨!vs.isEmpty, .inl ⟨vs, hq, rfl⟩, ?_⟩
    have : vs.isEmpty = xs.isEmpty := by
      have := h2.length
      cases xs <;> cases vs <;> first | rfl | (simp at this)
    rw [this]; exact h
  | lst _ => unfold Rp at r; exact r.elim
  | dct _ _ => unfold Rp at r; exact r.elim
theorem atI_rps {xs : List D} {vs : List V} {i : Int} {d : D} (h : Rps K H ρ xs vs) (e : atI xs i = some d) : ∃ w, atI vs i = some w ∧ Rp K H ρ d w := by
  unfold atI at e ⊢
  rw [← h.length]
  cases q : ixN xs.length i with
  | none => rw [q] at e; cases e
  | some j =>
    rw [q] at e
    exact h.at e
def rIdx (K : PySem.W.Frag) : R2 := fun x y H Q => ∃ ρ S d e, SR K H ρ S ∧ Rp K H ρ d x ∧ Rp K H ρ e y ∧ wp (index d e) (LQ K Q ρ H) S
theorem ixr : IxR X (rIdx X.K) := by
  intro value sl pins s σ H x y w u Q I rx ry ⟨ρ, S, d, e, hS, hd, he, h⟩ hs
  cases e with
  | int i =>
    cases he.intE
    cases d with
    | tup xs =>
      obtain ⟨a, vs, rfl, h1, h2⟩ := hd.tupE
      obtain ⟨c, hc, q⟩ := wpx_opt.mp h
      obtain ⟨z, hz, rz⟩ := atI_rps h2 hc
      exact ix_tup value sl pins s σ H _ _ w u Q I rx ry ⟨a, vs, i, z, rfl, rfl, h1, hz, LQ.here q hS rz⟩ hs
    | str z =>
      cases hd.strE
      unfold index at h
      simp only [wpx_bind, wpx_guard, ok2, decide_eq_true_eq] at h
      obtain ⟨hz, h⟩ := h
      obtain ⟨c, hc, q⟩ := wpx_opt.mp h
      cases hk : atI z.cps.toList i with
      | none => rw [hk] at hc; cases hc
      | some k =>
        rw [hk] at hc; cases hc
        exact ix_str value sl pins s σ H _ _ w u Q I rx ry ⟨z, i, k, rfl, rfl, hz, hk, LQ.here q hS .str⟩ hs
    | loc n =>
      unfold index at h
      simp only [wpx_bind] at h
      obtain ⟨ys, hy, h⟩ := wp_rdL.mp h
      obtain ⟨c, hc, q⟩ := wpx_opt.mp h
      obtain ⟨a, vs, rfl, hq, h2⟩ := sql_of hS hd hy
      obtain ⟨z, hz, rz⟩ := atI_rps h2 hc
      exact ix_list value sl pins s σ H _ _ w u Q I rx ry ⟨a, vs, i, z, rfl, rfl, hq, hz, LQ.here q hS rz⟩ hs
    | _ => exact False.elim h
  | _ => cases d <;> exact False.elim h
def rSlc (K : PySem.W.Frag) : V → Option Int → Option Int → Hp → VK → Prop := fun x lo hi H Q => ∃ ρ S d, SR K H ρ S ∧ Rp K H ρ d x ∧ wp (slice d lo hi) (LQ K Q ρ H) S
theorem Rps.cut {xs : List D} {vs : List V} (h : Rps K H ρ xs vs) (lo hi : Option Int) : Rps K H ρ (cutD xs lo hi) (cutV vs lo hi) := by
  unfold cutD cutV
  rw [h.length]
  exact (h.drop _).take _
theorem slr : SlR X (rSlc X.K) := by
  intro pins s σ H x w vl vu lo hi sl Q I rx hs pl pu ⟨ρ, S, d, hS, hd, h⟩
  cases d with
  | tup xs =>
    obtain ⟨a, vs, rfl, h1, h2⟩ := hd.tupE
    have h : LQ X.K Q ρ H (.tup (cutD xs lo hi)) S := h
    refine sl_tupA pins s σ H _ w vl vu lo hi sl Q I rx hs pl pu ⟨a, vs, rfl, h1, fun c => ?_, fun _ p hp => LQ.tup h hS (h2.cut lo hi) hp⟩
    refine LQ.here h hS (.tup h1 ?_)
    have : cutD xs lo hi = xs := by
      unfold cutD
      rw [h2.length, c.1, c.2]
      simp [← h2.length]
    rw [this]; exact h2
  | str z =>
    cases hd.strE
    unfold slice at h
    simp only [wpx_bind, wpx_guard, wpx_ret, ok2, decide_eq_true_eq] at h
    exact sl_str pins s σ H _ w vl vu lo hi sl Q I rx hs pl pu ⟨z, rfl, h.1, LQ.here h.2 hS .str⟩
  | loc n =>
    unfold slice at h
    simp only [wpx_bind] at h
    obtain ⟨ys, hy, h⟩ := wp_rdL.mp h
    have h := wp_alloc.mp h
    obtain ⟨a, vs, rfl, hq, h2⟩ := sql_of hS hd hy
    exact sl_list pins s σ H _ w vl vu lo hi sl Q I rx hs pl pu ⟨a, vs, rfl, hq, fun p hp => LQ.new h hS (h2.cut lo hi) hp⟩
  | _ => exact False.elim h
/-! ### isinstance -/
def isTy : Bi → String
  | .isTuple => "tuple"
  | .isStr => "str"
  | .isInt => "int"
  | _ => "bool"
def tyName : D → String
  | .non => "NoneType"
  | .bl _ => "bool"
  | .int _ => "int"
  | .str _ => "str"
  | .tup _ => "tuple"
  | .loc _ => "list"
  | .lst _ => "list"
  | .dct _ _ => "list"
theorem kit_ans (K : PySem.W.Frag) (b : Bi) (hb : b = .isTuple ∨ b = .isStr ∨ b = .isInt ∨ b = .isBool) (t : String) (ht : t = "NoneType" ∨ t = "bool" ∨ t = "int" ∨ t = "str" ∨ t = "tuple" ∨ t = "list") :
    PySem.W.kitOne K (.type t) (.type (isTy b)) = some ((t == isTy b) || (b == .isInt && t == "bool")) := by
  rcases hb with rfl | rfl | rfl | rfl <;> rcases ht with rfl | rfl | rfl | rfl | rfl | rfl <;> rfl
theorem isi_go {pins : List (Addr × Obj)} {s : Shared} {σ : L2.St} {d : D} {b : Bi} {u : Value} (I : Inv X pins σ H s) (hS : SR X.K H ρ S) (rv : RelV v u) (r : Rp X.K H ρ d v) (hb : b = .isTuple ∨ b = .isStr ∨ b = .isInt ∨ b = .isBool)
    (h : wp (builtin b [d]) (LQ X.K Q ρ H) S) : wpAny (model X.prog X.w) X.A (call (.builtin "isinstance") [u, .type (isTy b)]) (EP X pins σ Q) X.xe s := by
  have hq : LQ X.K Q ρ H (.bl ((tyName d == isTy b) || (b == .isInt && tyName d == "bool"))) S := by
    rcases hb with rfl | rfl | rfl | rfl <;> cases d <;> exact h
  have hk := fun t ht => kit_ans X.K b hb t ht
  have fin : ∀ tk, EP X pins σ Q (.bool ((tyName d == isTy b) || (b == .isInt && tyName d == "bool"))) { s with toks := tk } := fun tk => ⟨.bl _, H, I.tok tk, rfl, LQ.here hq hS .bl⟩
  cases d with
  | non => cases r.nonE; exact isinst_ok I rv .non (hk _ (by simp)) fin
  | bl x => cases r.blE; exact isinst_ok I rv (.bl x) (hk _ (by simp)) fin
  | int x => cases r.intE; exact isinst_ok I rv (.int x) (hk _ (by simp)) fin
  | str x => cases r.strE; exact isinst_ok I rv (.str x) (hk _ (by simp)) fin
  | tup xs =>
    obtain ⟨a, vs, rfl, h1, _⟩ := r.tupE
    cases rv
    obtain ⟨its, _, ⟨o, e1, e2, _⟩, _⟩ := I.tuple h1
    exact PySem.W.kia_one PySem.W.kitx_tuple I.kIn ⟨o, e1, e2⟩ (hk "tuple" (by simp)) (fun z => nomatch z) fin
  | lst _ => unfold Rp at r; exact r.elim
  | dct _ _ => unfold Rp at r; exact r.elim
  | loc n =>
    have hl : ∃ c, S[n]? = some c := by
      unfold Rp at r
      obtain ⟨a, e, _⟩ := r
      obtain ⟨hl, _⟩ := List.getElem?_eq_some_iff.mp e
      rw [hS.len] at hl
      exact ⟨_, List.getElem?_eq_getElem hl⟩
    obtain ⟨c, hc⟩ := hl
    have hx : ∃ xs, S[n]? = some (.lst xs) ∨ S[n]? = some (.ro xs) := by
      cases c with
      | lst xs => exact ⟨xs, .inl hc⟩
      | ro xs => exact ⟨xs, .inr hc⟩
    obtain ⟨xs, hx⟩ := hx
    obtain ⟨a, vs, rfl, hq2, _⟩ := sql_of hS r hx
    cases rv
    obtain ⟨its, _, ⟨o, m, e1, e2, _⟩, _⟩ := I.list hq2
    exact PySem.W.kia_one PySem.W.kitx_list I.kIn ⟨o, e1, e2⟩ (hk "list" (by simp)) (fun z => nomatch z) fin
end
end Mn
/-! Mn, part 8: a def's promise where no repr is under way around (guards empty), and its call. -/
namespace Mn
open PySem PySem.Spec PyProof.Rows L2
structure Rm (k : Nat) (A : Around) : Prop where
  rm : Room k A
  gd : A.guards = some []
theorem Rm.mono {j k : Nat} {A : Around} (r : Rm k A) (h : j ≤ k) : Rm j A := ⟨r.rm.mono h, r.gd⟩
/-- called with such values, in such a heap, from a frame with room k: it returns, and Q holds of what it returns -/
structure FnG (P : Program) (w : World) (K : PySem.W.Frag) (mg : Str → Option Value) (base : Heap) (k : Nat) (f : Addr) (fd : FuncData) (ps : List Str) (sp : List V → Hp → VK → Prop) : Prop where
  ar : ∀ vs H Q, sp vs H Q → vs.length = ps.length
  go : ∀ (A : Around) (outer : List Env) (s : Shared) (H : Hp) (args : Args) (us : List Value) (vs : List V) (Q : VK), Rm k A → Env0 P w K mg base A outer s H → BindsTo s fd args (ps.zip us) → Vals vs us → sp vs H Q →
    codeAny (model P w) A (.call (.ref f) args) (CR CX0 outer P w H s Q E0) s
section
variable {P : Program} {w : World} {K : PySem.W.Frag} {mg : Str → Option Value} {base : Heap}
/-- a def by its body -/
theorem fng_of {k : Nat} {f : Addr} {nm qn : Str} {params : Arguments} {bd : List Stmt} {sc : Scope} {dV kV doc pm cdv ct oc : Value} {an od : Option Addr} {osl : Array (Option Value)} {N ps : List Str} {sp : List V → Hp → VK → Prop}
    (look : K.lookup f = some ⟨oc, od, .func (PySem.W.fnOf nm qn params bd sc dV kV doc pm an cdv ct), osl⟩) (code : PySem.W.codeIn K cdv qn = true) (sco : FnScope N ps sc) (ar : ∀ vs H Q, sp vs H Q → vs.length = ps.length)
    (walk : ∀ (A : Around) (outer : List Env) (s : Shared) (H : Hp) (vs : List V) (Q : VK), Rm k (A.deeper (envOfC qn sc s.heap.objs.size f cdv)) → sp vs H Q →
      ∃ t, PSs (cxOf CX0 P w K mg base N qn sc f cdv A outer s H E0) bd t ∧ t { nx := fun _ H2 => Q .non H2, rt := Q } (start N vs) H) :
    FnG P w K mg base (k + 1) f (PySem.W.fnOf nm qn params bd sc dV kV doc pm an cdv ct) ps sp := by
  constructor
  · exact ar
  intro A outer s H args us vs Q room e0 bind rel hsp
  have num := ar _ _ _ hsp
  have inK : K.In s.heap := e0.mod.kin.keeps fun b o z => (e0.bs b o z).1
  have noLim : s.heap.NoLimit := e0.mod.nolimit.keeps fun b o z => (e0.bs b o z).1
  refine codeAny_call_function room.rm.depth (inK _ _ look) rfl sco.co sco.gen rfl (PySem.W.codeRec_of inK code) (bind _ _ _ _ ?_)
  refine wpAny_newFunctionEnv_cells sco.kind (fun y hy => ?_) fun env henv s1 made => ?_
  · have hmem := (List.of_mem_zip (show (y.1, y.2) ∈ ps.zip us from hy)).1
    rcases sco.par _ hmem with c | c
    · exact .inl c
    · exact .inr ⟨c, PySem.W.cellsFrom_some _ _ _ (.inl c)⟩
  · subst henv
    refine ⟨noLim.keeps made.toInCall.keep, codeAny_func ?_⟩
    obtain ⟨t, ht, hq⟩ := walk A outer s H vs Q ⟨room.rm.deeper _, room.gd⟩ hsp
    have J0 := inv_start (CX := CX0) (E := E0) (P := P) (w := w) (mg := mg) (base := base) sco room.rm.hd e0 num rel made
    have last : ∀ {σ2 : L2.St} {H2 : Hp} {s2 : Shared} {v : V} {u : Value}, Inv (cxOf CX0 P w K mg base N qn sc f cdv A outer s H E0) [] σ2 H2 s2 → RelV v u → Q v H2 → CE outer P w H s Q u s2 :=
      fun {σ2 H2 s2 v u} J rv z => ⟨v, H2, J.os, J.bare, J.base, J.hok, rv, z⟩
    refine wpAny_mono (ht.run [] s1 (start N vs) H _ J0 hq) (fun flow s2 hs => ?_) fun _ _ hs => hs
    match flow, hs with
    | .ret u, ⟨v, σ2, H2, J, rv, z⟩ => exact last J rv z
    | .next, ⟨σ2, H2, J, z⟩ => exact last (v := V.non) (u := Value.none) J rfl z
    | .brk, ⟨_, _, _, z⟩ => exact z.elim
    | .cont, ⟨_, _, _, z⟩ => exact z.elim
end
/-- the evaluator's promise of a def -/
def spOf (K : PySem.W.Frag) (m : List D → M D) (n : Nat) : List V → Hp → VK → Prop := fun vs H Q => vs.length = n ∧ ∃ ρ S ds, SR K H ρ S ∧ Rps K H ρ ds vs ∧ wp (m ds) (LQ K Q ρ H) S
/-- the def called f may be called from X -/
def Callee (X : Cx) (C : Ctx) (f : Str) : Prop := ∃ (fa : Addr) (fd : FuncData) (ps : List Str) (k : Nat), X.mg f = some (.ref fa) ∧ PySem.W.keepIn X.K (.ref fa) = true ∧ Binds X.K fd ps [] ∧ Rm k X.A ∧
  (∀ ds Q S, wp (C.call f ds) Q S → ds.length = ps.length) ∧ FnG X.prog X.w X.K X.mg X.base k fa fd ps (spOf X.K (C.call f) ps.length)
section
variable {X : Cx} {C : Ctx} {f : Str} {e : Expr} {es : List Expr} {ies : Es} {p pos : Pos}
theorem callee_run {pins : List (Addr × Obj)} {σ : L2.St} {H : Hp} {s : Shared} {Q : VK} {us : List Value} {vs : List V} {fa : Addr} {fd : FuncData} {ps : List Str} {k : Nat} {sp : List V → Hp → VK → Prop}
    (G : FnG X.prog X.w X.K X.mg X.base k fa fd ps sp) (room : Rm k X.A) (hb : Binds X.K fd ps []) (I : Inv X pins σ H s) (r : Vals vs us) (h : sp vs H Q) : wpAny (model X.prog X.w) X.A (call (.ref fa) us) (EP X pins σ Q) X.xe s := by
  have num : us.length = ps.length := by rw [← r.length]; exact G.ar _ _ _ h
  have bind := hb s us I.kIn (by simpa using num)
  rw [List.append_nil] at bind
  refine wpAny_call (codeAny_mono (G.go X.A X.stack s H ⟨us, []⟩ us vs Q room I.env0 bind r h) fun res s2 hr => ?_)
  match res, hr with
  | .ok (.ret u), hr => exact I.after hr
  | .ok .next, hr => exact False.elim hr
  | .ok .brk, hr => exact False.elim hr
  | .ok .cont, hr => exact False.elim hr
  | .error _, hr => exact False.elim hr
def notStar : Expr → Bool
  | .Starred _ _ => false
  | _ => true
theorem star_one {e : Expr} {es : List Expr} {env : PySem.Env} (h : notStar e = true) : starEach (e :: es) env = (false, eval e env) :: starEach es env := by
  cases e <;> first | rfl | cases h
theorem star_all : ∀ {es : List Expr} {env : PySem.Env}, es.all notStar = true → (starEach es env).any (·.1) = false
  | [], env, _ => rfl
  | e :: es, env, h => by
    rw [List.all_cons, Bool.and_eq_true] at h
    rw [star_one h.1, List.any_cons, star_all h.2]; rfl
theorem backTo_any {pos : Pos} {l : List (Bool × Sem Value)} : (backTo pos l).any (·.1) = l.any (·.1) := by
  unfold backTo
  rw [List.any_map]
  rfl
theorem plain_args {pos : Pos} {es : List Expr} {env : PySem.Env} (h : es.all notStar = true) : (backTo pos (starEach es env)).any (·.1) = false := by
  rw [backTo_any, star_all h]
/-- f(e, ..), f a def of the text -/
theorem se_call (hc : Callee X C f) (hg : Gl X f) (ha : PA X (e :: es) (tDA X.K C ies)) (hs : (e :: es).all notStar = true) (hd : (f == ("__debug__" : Str)) = false) : PE X (.Call (.Name f p) (e :: es) [] pos) (tD X.K C (.call f ies)) := by
  obtain ⟨fa, fd, ps, k, hm, kp, hb, room, har, G⟩ := hc
  have hs' := hs
  rw [List.all_cons, Bool.and_eq_true] at hs'
  refine ⟨fun pins s σ H Q I h => ?_⟩
  refine wpAny_Call_Name_kw (ld_glob I hg hm ?_ hd)
  obtain ⟨ρ, S, env, hS, hE, h⟩ := h
  unfold evE at h
  replace h := wpx_bind.mp h
  refine PySem.W.callWith_K (h₀ := X.base) I.ok.mod.kin kp (thn (ha.run pos pins s σ H (fun vs H1 => spOf X.K (C.call f) ps.length vs H1 Q) I
    (tDA_of hS hE h fun ds S1 vs H1 ρ1 h1 p1 e1 s1 _ r1 => ⟨by rw [← r1.length]; exact har _ _ _ h1, ρ1, S1, ds, s1, r1, wp_mono h1 fun d S2 q => q.later p1 e1⟩))
    fun us s1 ⟨vs, H1, I1, r, q⟩ => ⟨I1.kIn, callee_run G room hb I1 r q⟩) (star_one hs'.1) (plain_args hs'.2)
theorem se_call0 (hc : Callee X C f) (hg : Gl X f) (hd : (f == ("__debug__" : Str)) = false) : PE X (.Call (.Name f p) [] [] pos) (tD X.K C (.call f .nil)) := by
  obtain ⟨fa, fd, ps, k, hm, kp, hb, room, har, G⟩ := hc
  refine ⟨fun pins s σ H Q I h => ?_⟩
  refine wpAny_Call_Name_kw (ld_glob I hg hm ?_ hd)
  obtain ⟨ρ, S, env, hS, hE, h⟩ := h
  unfold evE evEs at h
  replace h := wpx_bind.mp h
  refine PySem.W.callWith_K0 I.kIn kp (callee_run (us := []) (vs := []) G room hb I .nil ?_)
  exact ⟨har _ _ _ h, ρ, S, [], hS, .nil, h⟩
end
end Mn
/-! Mn, part 9: expressions. -/
namespace Mn
open PySem PySem.Spec PyProof.Rows L2
def btNames : List Str := ["len", "int", "abs", "max", "min", "sum", "list", "tuple", "str", "repr", "all", "any", "range", "reversed", "isinstance", "bool"]
/-- what the evaluator's rules want of the context; sc: the scope as it is written -/
structure Good (X : Cx) (C : Ctx) (sc : Scope) (N names : List Str) : Prop where
  N_eq : X.N = N
  nd : N.Nodup
  calm : X.calm = true
  gd : X.A.guards = some []
  un : X.A.units + 300 < cLine
  kind : X.env.scope.kind = .function
  lcl : ∀ x, sc.names.lookup x = some .local → X.env.scope.names.lookup x = some .local
  cll : ∀ x, sc.names.lookup x = some .cell → X.env.scope.names.lookup x = some .cell
  fre : ∀ x, sc.names.lookup x = some .free → X.env.scope.names.lookup x = some .cell ∨ X.env.scope.names.lookup x = some .free
  gl : ∀ x, sc.names.lookup x = some .globalImplicit → Gl X x
  fnc : ∀ x, sc.names.lookup x = some .cell → X.fn x = true
  bt : ∀ x ∈ btNames, X.mg x = none
  gb : ∀ x d, C.glob x = some d → ∃ u v, X.mg x = some u ∧ RelV v u ∧ ∀ H ρ, Rp X.K H ρ d v
  fns : ∀ f ∈ names, Callee X C f
def isVis (sc : Scope) (x : Str) : Bool := match sc.names.lookup x with
  | some .local => true
  | some .cell => true
  | some .free => true
  | _ => false
def isLoc (sc : Scope) (x : Str) : Bool := match sc.names.lookup x with
  | some .local => true
  | some .cell => true
  | _ => false
def isGl (sc : Scope) (x : Str) : Bool := match sc.names.lookup x with
  | some .globalImplicit => true
  | _ => false
section
variable {X : Cx} {C : Ctx} {sc : Scope} {N names : List Str} {e a b c : Expr} {es : List Expr} {i : Nat} {x : Str} {pos : Pos} {ia ib ic : E} {ies : Es}
theorem Good.vis (G : Good X C sc N names) (h : isVis sc x = true) : Vis X.env.scope x := by
  unfold isVis at h
  split at h
  · rename_i q; exact .inl (G.lcl _ q)
  · rename_i q; exact .inr (.inl (G.cll _ q))
  · rename_i q; rcases G.fre _ q with z | z
    · exact .inr (.inl z)
    · exact .inr (.inr z)
  · cases h
theorem Good.glo (G : Good X C sc N names) (h : isGl sc x = true) : Gl X x := by
  unfold isGl at h
  split at h
  · rename_i q; exact G.gl _ q
  · cases h
theorem se_var (G : Good X C sc N names) (hN : N[i]? = some x) (hv : isVis sc x = true) (h1 : (x == ("__debug__" : Str)) = false) (h2 : (x == ("__classdict__" : Str)) = false) : PE X (.Name x pos) (tD X.K C (.v i)) := by
  refine pe_imp (pe_var (by rw [G.N_eq]; exact hN) (G.vis hv) h1 h2) fun σ H Q ⟨ρ, S, env, hS, hE, h⟩ => ?_
  unfold evE at h
  cases q : env[i]? with
  | none => simp only [q] at h; exact h.elim
  | some o =>
    cases o with
    | none => simp only [q] at h; exact h.elim
    | some d =>
      simp only [q] at h
      obtain ⟨v, h3, h4⟩ := hE.val i d q
      exact ⟨v, h3, LQ.here h hS h4⟩
theorem se_glob {d : D} (G : Good X C sc N names) (hg : isGl sc x = true) (hd : C.glob x = some d) (h1 : (x == ("__debug__" : Str)) = false) : PE X (.Name x pos) (tD X.K C (.g x)) := by
  obtain ⟨u, v, hm, r, rp⟩ := G.gb x d hd
  refine pe_imp (pe_glob (G.glo hg) hm r h1) fun σ H Q ⟨ρ, S, env, hS, hE, h⟩ => ?_
  obtain ⟨d', e', q⟩ := wpx_opt.mp h
  rw [hd] at e'; cases e'
  exact LQ.here q hS (rp H ρ)
theorem se_int {z : Int} {k : Nat} : PE X (.Constant (.int z) k pos) (tD X.K C (.c (.int z))) := pe_imp pe_int fun σ H Q ⟨ρ, S, env, hS, hE, h⟩ => LQ.here h hS .int
theorem se_str {z : Str} {k : Nat} : PE X (.Constant (.str z) k pos) (tD X.K C (.c (.str z))) := pe_imp pe_str fun σ H Q ⟨ρ, S, env, hS, hE, h⟩ => LQ.here h hS .str
theorem se_bl {z : Bool} {k : Nat} : PE X (.Constant (.bool z) k pos) (tD X.K C (.c (.bl z))) := pe_imp pe_bl fun σ H Q ⟨ρ, S, env, hS, hE, h⟩ => LQ.here h hS .bl
theorem se_non {k : Nat} : PE X (.Constant .none k pos) (tD X.K C (.c .non)) := pe_imp pe_non fun σ H Q ⟨ρ, S, env, hS, hE, h⟩ => LQ.here h hS .non
/-- two operands, then an operation by values -/
theorem two_go {r : R2} {m : D → D → M D} {σ : L2.St} {H : Hp} {Q : VK} {ρ : List Addr} {S : Store} {env : Nv} (hS : SR X.K H ρ S) (hE : EnvR X.K H ρ env σ)
    (h : wp (M.bind (evE C ia env) fun x => M.bind (evE C ib env) fun y => m x y) (LQ X.K Q ρ H) S)
    (hr : ∀ x y H Q, (∃ ρ S d e, SR X.K H ρ S ∧ Rp X.K H ρ d x ∧ Rp X.K H ρ e y ∧ wp (m d e) (LQ X.K Q ρ H) S) → r x y H Q) : tOp r (tD X.K C ia) (tD X.K C ib) σ H Q := by
  replace h := wpx_bind.mp h
  refine tD_of hS hE h fun d S1 v H1 ρ1 h1 p1 e1 s1 E1 r1 => ?_
  replace h1 := wpx_bind.mp h1
  refine tD_of s1 E1 h1 fun d2 S2 v2 H2 ρ2 h2 p2 e2 s2 E2 r2 => ?_
  exact hr v v2 H2 Q ⟨ρ2, S2, d, d2, s2, r1.mono p2 e2, r2, wp_mono h2 fun _ _ q => (q.later p1 e1).later p2 e2⟩
def opOf : Operator → Option BOp
  | .Add => some .add
  | .Sub => some .sub
  | .Mult => some .mul
  | .Mod => some .mod
  | .FloorDiv => some .fdiv
  | .Pow => some .pow
  | _ => none
theorem opr_of {op : Operator} {o : BOp} (h : opOf op = some o) : OpR X (binaryOp op) (rBin X.K o) := by
  cases op <;> first | cases h
  · exact opr_add
  · exact opr_sub
  · exact opr_mul
  · exact opr_mod
  · exact opr_pow
  · exact opr_fdiv
theorem se_bin {op : Operator} {o : BOp} (h : opOf op = some o) (ha : PE X a (tD X.K C ia)) (hb : PE X b (tD X.K C ib)) : PE X (.BinOp a op b pos) (tD X.K C (.bin o ia ib)) :=
  pe_imp (pe_op (opr_of h) ha hb) fun σ H Q ⟨ρ, S, env, hS, hE, h⟩ => two_go (m := binop o) hS hE h fun x y H Q q => q
theorem se_neg (ha : PE X a (tD X.K C ia)) : PE X (.UnaryOp .USub a pos) (tD X.K C (.neg ia)) :=
  pe_imp (pe_un un_neg ha) fun σ H Q ⟨ρ, S, env, hS, hE, h⟩ => by
    replace h := wpx_bind.mp h
    refine tD_of hS hE h fun d S1 v H1 ρ1 h1 p1 e1 s1 E1 r1 => ?_
    replace h1 := wpx_bind.mp h1
    obtain ⟨k, rfl, q⟩ := wp_asI.mp h1
    cases r1.intE
    exact ⟨k, rfl, LQ.here (LQ.later q p1 e1) s1 .int⟩
def cmpOf : CmpOp → Option COp
  | .Eq => some .eq
  | .NotEq => some .ne
  | .Lt => some .lt
  | .LtE => some .le
  | .Gt => some .gt
  | .GtE => some .ge
  | .Is => some .isn
  | .IsNot => some .isnn
  | .In => some .inn
  | .NotIn => some .nin
theorem cpr_of (G : Good X C sc N names) {op : CmpOp} {o : COp} (h : cmpOf op = some o) : OpR X (compareOp op) (rCmp X.K o) := by
  have hu := G.un
  cases op <;> cases h
  · exact opr_eq (by omega)
  · exact opr_ne (by omega)
  · exact opr_lt (by omega)
  · exact opr_le
  · exact opr_gt
  · exact opr_ge
  · exact opr_isn
  · exact opr_isnn
  · exact opr_in (by omega)
  · exact opr_nin (by omega)
theorem cmp_go {o : COp} {σ : L2.St} {H : Hp} {Q : VK} {ρ : List Addr} {S : Store} {env : Nv} (hS : SR X.K H ρ S) (hE : EnvR X.K H ρ env σ)
    (h : wp (evE C (.cmp o ia ib) env) (LQ X.K Q ρ H) S) : tOp (rCmp X.K o) (tD X.K C ia) (tD X.K C ib) σ H Q :=
  two_go (m := fun x y => M.bind (cmpop o x y) fun b => M.ret (.bl b)) hS hE h fun x y H Q ⟨ρ, S, d, e, s, r1, r2, q⟩ => ⟨ρ, S, d, e, s, r1, r2, by
    replace q := wpx_bind.mp q
    exact q⟩
theorem se_cmp (G : Good X C sc N names) {op : CmpOp} {o : COp} (h : cmpOf op = some o) (ha : PE X a (tD X.K C ia)) (hb : PE X b (tD X.K C ib)) (hm : behindInMarks op b = false) : PE X (.Compare a [op] [b] pos) (tD X.K C (.cmp o ia ib)) :=
  pe_imp (pe_cmpR (cpr_of G h) ha hb hm) fun σ H Q ⟨ρ, S, env, hS, hE, h⟩ => cmp_go hS hE h
/-- from a bool's lifting to a value's -/
theorem lb_lq {K : PySem.W.Frag} {H : Hp} {ρ : List Addr} {S : Store} {Q : Bool → Hp → Prop} {d : D} (h : LB K Q ρ H d S) : LQ K (fun x H' => ∃ k, x = .bl k ∧ Q k H') ρ H d S := by
  obtain ⟨k, rfl, h⟩ := h
  intro v H' ρ' p e s r
  cases r.blE
  exact ⟨k, rfl, h H' ρ' p e s⟩
theorem st_cmp (G : Good X C sc N names) {op : CmpOp} {o : COp} (h : cmpOf op = some o) (ha : PE X a (tD X.K C ia)) (hb : PE X b (tD X.K C ib)) (hm : behindInMarks op b = false) : PT X (.Compare a [op] [b] pos) (tDB X.K C (.cmp o ia ib)) :=
  pt_imp (pt_cmpR (cpr_of G h) ha hb hm) fun σ H Q ⟨ρ, S, env, hS, hE, h⟩ => cmp_go hS hE (wp_mono h fun _ _ q => lb_lq q)
theorem chain_go {o o2 : COp} {σ : L2.St} {H : Hp} {Q : VK} {ρ : List Addr} {S : Store} {env : Nv} (hS : SR X.K H ρ S) (hE : EnvR X.K H ρ env σ)
    (h : wp (evE C (.cmp3 o o2 ia ib ic) env) (LQ X.K Q ρ H) S) : tChain (rCmp X.K o) (rCmp X.K o2) (tD X.K C ia) (tD X.K C ib) (tD X.K C ic) σ H Q := by
  replace h := wpx_bind.mp h
  refine tD_of hS hE h fun d S1 v H1 ρ1 h1 p1 e1 s1 E1 r1 => ?_
  replace h1 := wpx_bind.mp h1
  refine tD_of s1 E1 h1 fun d2 S2 v2 H2 ρ2 h2 p2 e2 s2 E2 r2 => ?_
  replace h2 := wpx_bind.mp h2
  refine ⟨ρ2, S2, d, d2, s2, r1.mono p2 e2, r2, wp_mono h2 fun k S3 q v3 H3 ρ3 p3 e3 s3 r3 => ?_⟩
  cases r3.blE
  refine ⟨k, rfl, ?_⟩
  cases k with
  | false =>
    rw [if_neg Bool.false_ne_true]
    exact LQ.here (((LQ.later q p1 e1).later p2 e2).later p3 e3) s3 .bl
  | true =>
    rw [if_pos rfl]
    replace q := wpx_bind.mp q
    refine tD_of s3 (E2.mono p3 e3) q fun d4 S4 v4 H4 ρ4 h4 p4 e4 s4 E4 r4 => ?_
    replace h4 := wpx_bind.mp h4
    exact ⟨ρ4, S4, d2, d4, s4, (r2.mono p3 e3).mono p4 e4, r4, wp_mono h4 fun k S5 q => (((LQ.later q p1 e1).later p2 e2).later p3 e3).later p4 e4⟩
theorem se_cmp3 (G : Good X C sc N names) {op op2 : CmpOp} {o o2 : COp} (h : cmpOf op = some o) (h2 : cmpOf op2 = some o2) (ha : PE X a (tD X.K C ia)) (hb : PE X b (tD X.K C ib)) (hc : PE X c (tD X.K C ic)) (hm : lastMarks [op, op2] [b, c] = false) :
    PE X (.Compare a [op, op2] [b, c] pos) (tD X.K C (.cmp3 o o2 ia ib ic)) :=
  pe_imp (pe_chain (cpr_of G h) (cpr_of G h2) ha hb hc hm) fun σ H Q ⟨ρ, S, env, hS, hE, h⟩ => chain_go hS hE h
theorem st_cmp3 (G : Good X C sc N names) {op op2 : CmpOp} {o o2 : COp} (h : cmpOf op = some o) (h2 : cmpOf op2 = some o2) (ha : PE X a (tD X.K C ia)) (hb : PE X b (tD X.K C ib)) (hc : PE X c (tD X.K C ic)) (hm : lastMarks [op, op2] [b, c] = false) :
    PT X (.Compare a [op, op2] [b, c] pos) (tDB X.K C (.cmp3 o o2 ia ib ic)) :=
  pt_imp (pt_chain (cpr_of G h) (cpr_of G h2) ha hb hc hm) fun σ H Q ⟨ρ, S, env, hS, hE, h⟩ => chain_go hS hE (wp_mono h fun _ _ q => lb_lq q)
/-- a test by truth -/
theorem st_tr (ha : PE X a (tD X.K C ia)) (he : ∀ whole, isTrue a X.env whole = (do let v ← whole; standAt a.pos; holding [v] (truthy v))) : PT X a (tDB X.K C (.tr ia)) :=
  pt_imp (pt_truth ha he) fun σ H Q ⟨ρ, S, env, hS, hE, h⟩ => by
    replace h := wpx_bind.mp h
    refine tD_of hS hE h fun d S1 v H1 ρ1 h1 p1 e1 s1 E1 r1 => ?_
    replace h1 := wpx_bind.mp h1
    obtain ⟨k, hk, q⟩ := truth_tru s1 r1 h1
    obtain ⟨k', e', q⟩ := (show LB X.K Q ρ H (.bl k) S1 from q)
    cases e'
    exact ⟨k, hk, q H1 ρ1 p1 e1 s1⟩
theorem st_not (ha : PT X a (tDB X.K C ia)) : PT X (.UnaryOp .Not a pos) (tDB X.K C (.not ia)) :=
  pt_imp (pt_not ha) fun σ H Q ⟨ρ, S, env, hS, hE, h⟩ => by
    replace h := wpx_bind.mp h
    refine tDB_of hS hE h fun d S1 h1 => ?_
    replace h1 := wpx_bind.mp h1
    obtain ⟨k, e, q⟩ := wp_asB.mp h1
    obtain ⟨k', e', q⟩ := (show LB X.K Q ρ H (.bl (!k)) S1 from q)
    cases e'
    exact ⟨k, e, fun H1 ρ1 p1 e1 s1 _ => q H1 ρ1 p1 e1 s1⟩
theorem sw_one {op : BoolOp} (ha : PT X a (tDB X.K C ia)) : PW X (.BoolOp op [a] pos) (tDB X.K C ia) := by
  cases op
  · exact pw_and1 ha
  · exact pw_or1 ha
theorem sw_and {rest : List Expr} (ha : PT X a (tDB X.K C ia)) (hb : PW X (.BoolOp .And (b :: rest) pos) (tDB X.K C ib)) : PW X (.BoolOp .And (a :: b :: rest) pos) (tDB X.K C (.and ia ib)) :=
  pw_imp (pw_and ha hb) fun σ H Q ⟨ρ, S, env, hS, hE, h⟩ => by
    replace h := wpx_bind.mp h
    refine tDB_of hS hE h fun d S1 h1 => ?_
    replace h1 := wpx_bind.mp h1
    obtain ⟨k, e, q⟩ := wp_asB.mp h1
    refine ⟨k, e, fun H1 ρ1 p1 e1 s1 E1 => ?_⟩
    cases k with
    | true => rw [if_pos rfl]; exact ⟨ρ1, S1, env, s1, E1, wp_mono q fun _ _ z => z.later p1 e1⟩
    | false =>
      rw [if_neg Bool.false_ne_true]
      obtain ⟨k', e', q⟩ := (show LB X.K Q ρ H (.bl false) S1 from q)
      cases e'
      exact q H1 ρ1 p1 e1 s1
theorem sw_or {rest : List Expr} (ha : PT X a (tDB X.K C ia)) (hb : PW X (.BoolOp .Or (b :: rest) pos) (tDB X.K C ib)) : PW X (.BoolOp .Or (a :: b :: rest) pos) (tDB X.K C (.or ia ib)) :=
  pw_imp (pw_or ha hb) fun σ H Q ⟨ρ, S, env, hS, hE, h⟩ => by
    replace h := wpx_bind.mp h
    refine tDB_of hS hE h fun d S1 h1 => ?_
    replace h1 := wpx_bind.mp h1
    obtain ⟨k, e, q⟩ := wp_asB.mp h1
    refine ⟨k, e, fun H1 ρ1 p1 e1 s1 E1 => ?_⟩
    cases k with
    | false => rw [if_neg Bool.false_ne_true]; exact ⟨ρ1, S1, env, s1, E1, wp_mono q fun _ _ z => z.later p1 e1⟩
    | true =>
      rw [if_pos rfl]
      obtain ⟨k', e', q⟩ := (show LB X.K Q ρ H (.bl true) S1 from q)
      cases e'
      exact q H1 ρ1 p1 e1 s1
/-! as values -/
theorem se_one {op : BoolOp} {t : TE} (ha : PE X a t) : PE X (.BoolOp op [a] pos) t := pe_one ha
theorem se_vand {rest : List Expr} (ha : PE X a (tD X.K C ia)) (hb : PE X (.BoolOp .And (b :: rest) pos) (tD X.K C ib)) : PE X (.BoolOp .And (a :: b :: rest) pos) (tD X.K C (.vand ia ib)) :=
  pe_imp (pe_andT ha hb) fun σ H Q ⟨ρ, S, env, hS, hE, h⟩ => by
    replace h := wpx_bind.mp h
    refine tD_of hS hE h fun d S1 v H1 ρ1 h1 p1 e1 s1 E1 r1 => ?_
    replace h1 := wpx_bind.mp h1
    obtain ⟨k, hk, q⟩ := truth_tru s1 r1 h1
    refine ⟨k, hk, ?_⟩
    cases k with
    | true => rw [if_pos rfl]; exact ⟨ρ1, S1, env, s1, E1, wp_mono q fun _ _ z => z.later p1 e1⟩
    | false => rw [if_neg Bool.false_ne_true]; exact LQ.here (LQ.later q p1 e1) s1 r1
theorem se_vor {rest : List Expr} (ha : PE X a (tD X.K C ia)) (hb : PE X (.BoolOp .Or (b :: rest) pos) (tD X.K C ib)) : PE X (.BoolOp .Or (a :: b :: rest) pos) (tD X.K C (.vor ia ib)) :=
  pe_imp (pe_orT ha hb) fun σ H Q ⟨ρ, S, env, hS, hE, h⟩ => by
    replace h := wpx_bind.mp h
    refine tD_of hS hE h fun d S1 v H1 ρ1 h1 p1 e1 s1 E1 r1 => ?_
    replace h1 := wpx_bind.mp h1
    obtain ⟨k, hk, q⟩ := truth_tru s1 r1 h1
    refine ⟨k, hk, ?_⟩
    cases k with
    | false => rw [if_neg Bool.false_ne_true]; exact ⟨ρ1, S1, env, s1, E1, wp_mono q fun _ _ z => z.later p1 e1⟩
    | true => rw [if_pos rfl]; exact LQ.here (LQ.later q p1 e1) s1 r1
theorem se_vnot (ha : PE X a (tD X.K C ia)) : PE X (.UnaryOp .Not a pos) (tD X.K C (.not (.tr ia))) :=
  pe_imp (pe_notT ha) fun σ H Q ⟨ρ, S, env, hS, hE, h⟩ => by
    replace h := wpx_bind.mp h
    replace h := wpx_bind.mp h
    refine tD_of hS hE h fun d S1 v H1 ρ1 h1 p1 e1 s1 E1 r1 => ?_
    replace h1 := wpx_bind.mp h1
    obtain ⟨k, hk, q⟩ := truth_tru s1 r1 h1
    exact ⟨k, hk, LQ.here (LQ.later (show LQ X.K Q ρ H (.bl (!k)) S1 from q) p1 e1) s1 .bl⟩
theorem se_ite (hc : PT X c (tDB X.K C ic)) (ha : PE X a (tD X.K C ia)) (hb : PE X b (tD X.K C ib)) : PE X (.IfExp c a b pos) (tD X.K C (.ite ic ia ib)) :=
  pe_imp (pe_ifExp hc ha hb) fun σ H Q ⟨ρ, S, env, hS, hE, h⟩ => by
    replace h := wpx_bind.mp h
    refine tDB_of hS hE h fun d S1 h1 => ?_
    replace h1 := wpx_bind.mp h1
    obtain ⟨k, e, q⟩ := wp_asB.mp h1
    refine ⟨k, e, fun H1 ρ1 p1 e1 s1 E1 => ?_⟩
    cases k with
    | true => rw [if_pos rfl]; exact ⟨ρ1, S1, env, s1, E1, wp_mono q fun _ _ z => z.later p1 e1⟩
    | false => rw [if_neg Bool.false_ne_true]; exact ⟨ρ1, S1, env, s1, E1, wp_mono q fun _ _ z => z.later p1 e1⟩
/-! rows of expressions -/
theorem sa_nil : PA X [] (tDA X.K C .nil) := pa_imp pa_nil fun σ H Q ⟨ρ, S, env, hS, hE, h⟩ => h [] H ρ List.prefix_rfl Ex.refl hS .nil
theorem sa_cons (ha : PE X a (tD X.K C ia)) (hr : PA X es (tDA X.K C ies)) (hs : notStar a = true) : PA X (a :: es) (tDA X.K C (.cons ia ies)) :=
  pa_imp (pa_cons ha hr (star_one hs)) fun σ H Q ⟨ρ, S, env, hS, hE, h⟩ => by
    replace h := wpx_bind.mp h
    refine tD_of hS hE h fun d S1 v H1 ρ1 h1 p1 e1 s1 E1 r1 => ?_
    replace h1 := wpx_bind.mp h1
    refine tDA_of s1 E1 h1 fun ds S2 vs H2 ρ2 h2 p2 e2 s2 E2 r2 => ?_
    exact (LA.later (LA.later h2 p1 e1) p2 e2) (v :: vs) H2 ρ2 List.prefix_rfl Ex.refl s2 (.cons (r1.mono p2 e2) r2)
theorem se_tup {k : Nat} (h : PA X es (tDA X.K C ies)) : PE X (.Tuple es k pos) (tD X.K C (.tup ies)) :=
  pe_imp (pe_tup h) fun σ H Q ⟨ρ, S, env, hS, hE, h⟩ => by
    replace h := wpx_bind.mp h
    refine tDA_of hS hE h fun ds S1 vs H1 ρ1 h1 p1 e1 s1 E1 r1 => ?_
    obtain ⟨hz, q⟩ := wp_newT.mp h1
    exact ⟨by rw [← r1.length]; exact hz, fun p hp => LQ.tup (LQ.later q p1 e1) s1 r1 hp⟩
theorem se_lst (h : PA X es (tDA X.K C ies)) : PE X (.List es pos) (tD X.K C (.lst ies)) :=
  pe_imp (pe_lst h) fun σ H Q ⟨ρ, S, env, hS, hE, h⟩ => by
    replace h := wpx_bind.mp h
    refine tDA_of hS hE h fun ds S1 vs H1 ρ1 h1 p1 e1 s1 E1 r1 => ?_
    obtain ⟨hz, q⟩ := wp_newL.mp h1
    exact ⟨by rw [← r1.length]; exact hz, fun p hp => LQ.new (LQ.later q p1 e1) s1 r1 hp⟩
def plainIx : Expr → Bool
  | .Slice _ _ none _ => false
  | _ => true
theorem plainIx_ok (h : plainIx b = true) : PlainIx b := by
  intro o i
  cases b <;> try rfl
  rename_i lo hi st p
  cases st
  · cases h
  · rfl
theorem se_idx (ha : PE X a (tD X.K C ia)) (hb : PE X b (tD X.K C ib)) (hp : plainIx b = true) : PE X (.Subscript a b pos) (tD X.K C (.idx ia ib)) :=
  pe_imp (pe_ix ixr ha hb (plainIx_ok hp)) fun σ H Q ⟨ρ, S, env, hS, hE, h⟩ => two_go (m := index) hS hE h fun x y H Q q => q
theorem po_go {pa : Option Expr} {t t' : TO} (h : PO X pa t) (k : ∀ σ H Q, t' σ H Q → t σ H Q) : PO X pa t' := ⟨fun pins s σ H Q I q => h.run pins s σ H Q I (k σ H Q q)⟩
variable {lo hi : Expr} {il ih : E} {p2 : Pos}
theorem se_slc0 (ha : PE X a (tD X.K C ia)) : PE X (.Subscript a (.Slice none none none p2) pos) (tD X.K C (.slc0 ia)) :=
  pe_imp (pe_slice slr ha po_none po_none) fun σ H Q ⟨ρ, S, env, hS, hE, h⟩ => by
    replace h := wpx_bind.mp h
    refine tD_of hS hE h fun d S1 v H1 ρ1 h1 p1 e1 s1 E1 r1 => ?_
    exact ⟨ρ1, S1, d, s1, r1, wp_mono h1 fun _ _ q => q.later p1 e1⟩
theorem se_slcL (ha : PE X a (tD X.K C ia)) (hl : PE X lo (tD X.K C il)) : PE X (.Subscript a (.Slice (some lo) none none p2) pos) (tD X.K C (.slcL ia il)) :=
  pe_imp (pe_slice slr ha (po_some hl) po_none) fun σ H Q ⟨ρ, S, env, hS, hE, h⟩ => by
    replace h := wpx_bind.mp h
    refine tD_of hS hE h fun d S1 v H1 ρ1 h1 p1 e1 s1 E1 r1 => ?_
    replace h1 := wpx_bind.mp h1
    refine tD_of s1 E1 h1 fun d2 S2 v2 H2 ρ2 h2 p2 e2 s2 E2 r2 => ?_
    replace h2 := wpx_bind.mp h2
    obtain ⟨k, rfl, h2⟩ := wp_asI.mp h2
    exact ⟨k, r2.intE, ρ2, S2, d, s2, r1.mono p2 e2, wp_mono h2 fun _ _ q => (q.later p1 e1).later p2 e2⟩
theorem se_slcH (ha : PE X a (tD X.K C ia)) (hh : PE X hi (tD X.K C ih)) : PE X (.Subscript a (.Slice none (some hi) none p2) pos) (tD X.K C (.slcH ia ih)) :=
  pe_imp (pe_slice slr ha po_none (po_some hh)) fun σ H Q ⟨ρ, S, env, hS, hE, h⟩ => by
    replace h := wpx_bind.mp h
    refine tD_of hS hE h fun d S1 v H1 ρ1 h1 p1 e1 s1 E1 r1 => ?_
    replace h1 := wpx_bind.mp h1
    refine tD_of s1 E1 h1 fun d2 S2 v2 H2 ρ2 h2 p2 e2 s2 E2 r2 => ?_
    replace h2 := wpx_bind.mp h2
    obtain ⟨k, rfl, h2⟩ := wp_asI.mp h2
    exact ⟨k, r2.intE, ρ2, S2, d, s2, r1.mono p2 e2, wp_mono h2 fun _ _ q => (q.later p1 e1).later p2 e2⟩
theorem se_slcB (ha : PE X a (tD X.K C ia)) (hl : PE X lo (tD X.K C il)) (hh : PE X hi (tD X.K C ih)) : PE X (.Subscript a (.Slice (some lo) (some hi) none p2) pos) (tD X.K C (.slcB ia il ih)) :=
  pe_imp (pe_slice slr ha (po_some hl) (po_some hh)) fun σ H Q ⟨ρ, S, env, hS, hE, h⟩ => by
    replace h := wpx_bind.mp h
    refine tD_of hS hE h fun d S1 v H1 ρ1 h1 p1 e1 s1 E1 r1 => ?_
    replace h1 := wpx_bind.mp h1
    refine tD_of s1 E1 h1 fun d2 S2 v2 H2 ρ2 h2 p2 e2 s2 E2 r2 => ?_
    replace h2 := wpx_bind.mp h2
    obtain ⟨k, rfl, h2⟩ := wp_asI.mp h2
    refine ⟨k, r2.intE, ?_⟩
    replace h2 := wpx_bind.mp h2
    refine tD_of s2 E2 h2 fun d3 S3 v3 H3 ρ3 h3 p3 e3 s3 E3 r3 => ?_
    replace h3 := wpx_bind.mp h3
    obtain ⟨l, rfl, h3⟩ := wp_asI.mp h3
    exact ⟨l, r3.intE, ρ3, S3, d, s3, (r1.mono p2 e2).mono p3 e3, wp_mono h3 fun _ _ q => ((q.later p1 e1).later p2 e2).later p3 e3⟩
/-! ### built-in functions, methods -/
variable {f : Str} {p : Pos}
theorem bi_go {bi : Bi} {σ : L2.St} {H : Hp} {Q : VK} (h : tD X.K C (.bi bi ies) σ H Q) : tDA X.K C ies σ H fun vs H1 => rBi X.K bi vs H1 Q := by
  obtain ⟨ρ, S, env, hS, hE, h⟩ := h
  replace h := wpx_bind.mp h
  exact tDA_of hS hE h fun ds S1 vs H1 ρ1 h1 p1 e1 s1 E1 r1 => ⟨ρ1, S1, ds, s1, r1, wp_mono h1 fun _ _ q => q.later p1 e1⟩
theorem se_bi {bi : Bi} {id : String} (G : Good X C sc N names) (hc : CallR X (.builtin id) (rBi X.K bi)) (hg : isGl sc f = true) (hb : f ∈ btNames) (hv : bootBuiltins f = some (.builtin id)) (ha : PA X (e :: es) (tDA X.K C ies)) (hs : (e :: es).all notStar = true)
    (h1 : f ≠ "__name__") (h2 : (f == ("__debug__" : Str)) = false) : PE X (.Call (.Name f p) (e :: es) [] pos) (tD X.K C (.bi bi ies)) := by
  have hs' := hs
  rw [List.all_cons, Bool.and_eq_true] at hs'
  exact pe_imp (pe_callB hc (G.glo hg) (G.bt f hb) hv ha h1 h2 (star_one hs'.1) (plain_args hs'.2)) fun σ H Q h => bi_go h
theorem se_ty {bi : Bi} {id : String} (G : Good X C sc N names) (hc : CallR X (.type id) (rBi X.K bi)) (hg : isGl sc f = true) (hb : f ∈ btNames) (hv : bootBuiltins f = some (.type id)) (ha : PA X (e :: es) (tDA X.K C ies)) (hs : (e :: es).all notStar = true)
    (h1 : f ≠ "__name__") (h2 : (f == ("__debug__" : Str)) = false) : PE X (.Call (.Name f p) (e :: es) [] pos) (tD X.K C (.bi bi ies)) := by
  have hs' := hs
  rw [List.all_cons, Bool.and_eq_true] at hs'
  exact pe_imp (pe_callTy hc (G.glo hg) (G.bt f hb) hv ha h1 h2 (star_one hs'.1) (plain_args hs'.2)) fun σ H Q h => bi_go h
def fnOf : Str → Nat → Option Bi := fun f n =>
  if f = "len" ∧ n = 1 then some .len else if f = "abs" ∧ n = 1 then some .abs else if f = "max" ∧ n = 2 then some .max2 else if f = "min" ∧ n = 2 then some .min2 else
  if f = "max" ∧ n = 1 then some .max1 else if f = "min" ∧ n = 1 then some .min1 else if f = "sum" ∧ n = 1 then some .sum else if f = "repr" ∧ n = 1 then some .repr else
  if f = "all" ∧ n = 1 then some .all else if f = "any" ∧ n = 1 then some .any else none
def tyOf : Str → Nat → Option Bi := fun f n =>
  if f = "int" ∧ n = 1 then some .int else if f = "list" ∧ n = 1 then some .list else if f = "tuple" ∧ n = 1 then some .tuple else if f = "str" ∧ n = 1 then some .str else none
theorem se_fn {bi : Bi} (G : Good X C sc N names) (hf : fnOf f (e :: es).length = some bi) (hg : isGl sc f = true) (ha : PA X (e :: es) (tDA X.K C ies)) (hs : (e :: es).all notStar = true) : PE X (.Call (.Name f p) (e :: es) [] pos) (tD X.K C (.bi bi ies)) := by
  have hu := G.un
  unfold fnOf at hf
  split at hf
  · rename_i q; obtain ⟨q, _⟩ := q; subst q; cases hf; exact se_bi G bi_len hg (by decide +kernel) PySem.boot_len ha hs (by decide +kernel) (by decide +kernel)
  split at hf
  · rename_i q; obtain ⟨q, _⟩ := q; subst q; cases hf; exact se_bi G bi_abs hg (by decide +kernel) (by decide +kernel) ha hs (by decide +kernel) (by decide +kernel)
  split at hf
  · rename_i q; obtain ⟨q, _⟩ := q; subst q; cases hf; exact se_bi G (bi_max2 G.calm) hg (by decide +kernel) (by decide +kernel) ha hs (by decide +kernel) (by decide +kernel)
  split at hf
  · rename_i q; obtain ⟨q, _⟩ := q; subst q; cases hf; exact se_bi G (bi_min2 G.calm) hg (by decide +kernel) (by decide +kernel) ha hs (by decide +kernel) (by decide +kernel)
  split at hf
  · rename_i q; obtain ⟨q, _⟩ := q; subst q; cases hf; exact se_bi G (bi_max1 G.calm) hg (by decide +kernel) (by decide +kernel) ha hs (by decide +kernel) (by decide +kernel)
  split at hf
  · rename_i q; obtain ⟨q, _⟩ := q; subst q; cases hf; exact se_bi G (bi_min1 G.calm) hg (by decide +kernel) (by decide +kernel) ha hs (by decide +kernel) (by decide +kernel)
  split at hf
  · rename_i q; obtain ⟨q, _⟩ := q; subst q; cases hf; exact se_bi G (bi_sum G.calm) hg (by decide +kernel) (by decide +kernel) ha hs (by decide +kernel) (by decide +kernel)
  split at hf
  · rename_i q; obtain ⟨q, _⟩ := q; subst q; cases hf; exact se_bi G (bi_repr (by omega) G.gd) hg (by decide +kernel) (by decide +kernel) ha hs (by decide +kernel) (by decide +kernel)
  split at hf
  · rename_i q; obtain ⟨q, _⟩ := q; subst q; cases hf; exact se_bi G (bi_all G.calm) hg (by decide +kernel) (by decide +kernel) ha hs (by decide +kernel) (by decide +kernel)
  split at hf
  · rename_i q; obtain ⟨q, _⟩ := q; subst q; cases hf; exact se_bi G (bi_any G.calm) hg (by decide +kernel) (by decide +kernel) ha hs (by decide +kernel) (by decide +kernel)
  cases hf
theorem se_tyf {bi : Bi} (G : Good X C sc N names) (hf : tyOf f (e :: es).length = some bi) (hg : isGl sc f = true) (ha : PA X (e :: es) (tDA X.K C ies)) (hs : (e :: es).all notStar = true) : PE X (.Call (.Name f p) (e :: es) [] pos) (tD X.K C (.bi bi ies)) := by
  unfold tyOf at hf
  split at hf
  · rename_i q; obtain ⟨q, _⟩ := q; subst q; cases hf; exact se_ty G bi_int hg (by decide +kernel) (by decide +kernel) ha hs (by decide +kernel) (by decide +kernel)
  split at hf
  · rename_i q; obtain ⟨q, _⟩ := q; subst q; cases hf; exact se_ty G bi_list hg (by decide +kernel) (by decide +kernel) ha hs (by decide +kernel) (by decide +kernel)
  split at hf
  · rename_i q; obtain ⟨q, _⟩ := q; subst q; cases hf; exact se_ty G bi_tuple hg (by decide +kernel) (by decide +kernel) ha hs (by decide +kernel) (by decide +kernel)
  split at hf
  · rename_i q; obtain ⟨q, _⟩ := q; subst q; cases hf; exact se_ty G bi_str hg (by decide +kernel) (by decide +kernel) ha hs (by decide +kernel) (by decide +kernel)
  cases hf
def isOf : Str → Option Bi := fun f => if f = "tuple" then some .isTuple else if f = "str" then some .isStr else if f = "int" then some .isInt else if f = "bool" then some .isBool else none
theorem se_isi {bi : Bi} {t : Str} {tp : Pos} (G : Good X C sc N names) (hf : isOf t = some bi) (hg : isGl sc "isinstance" = true) (hg2 : isGl sc t = true) (ha : PE X a (tD X.K C ia)) (hs : notStar a = true) :
    PE X (.Call (.Name "isinstance" p) [a, .Name t tp] [] pos) (tD X.K C (.bi bi (.cons ia .nil))) := by
  have hb : (bi = .isTuple ∨ bi = .isStr ∨ bi = .isInt ∨ bi = .isBool) ∧ PE X (.Name t tp) (tC (.ty (isTy bi))) := by
    unfold isOf at hf
    split at hf
    · rename_i q; subst q; cases hf
      exact ⟨by simp, pe_bltn (G.glo hg2) (G.bt _ (by decide +kernel)) boot_tuple rfl (by decide +kernel) (by decide +kernel)⟩
    split at hf
    · rename_i q; subst q; cases hf
      exact ⟨by simp, pe_bltn (G.glo hg2) (G.bt _ (by decide +kernel)) boot_str rfl (by decide +kernel) (by decide +kernel)⟩
    split at hf
    · rename_i q; subst q; cases hf
      exact ⟨by simp, pe_bltn (G.glo hg2) (G.bt _ (by decide +kernel)) boot_int rfl (by decide +kernel) (by decide +kernel)⟩
    split at hf
    · rename_i q; subst q; cases hf
      exact ⟨by simp, pe_bltn (G.glo hg2) (G.bt _ (by decide +kernel)) boot_bool rfl (by decide +kernel) (by decide +kernel)⟩
    cases hf
  obtain ⟨hb, ht⟩ := hb
  have hpa : PA X [a, .Name t tp] (tCons (tD X.K C ia) (tCons (tC (.ty (isTy bi))) tNil)) := pa_cons ha (pa_cons ht pa_nil rfl) (star_one hs)
  have hc : CallR X (.builtin "isinstance") (fun vs H Q => ∃ v ρ S d, vs = [v, .ty (isTy bi)] ∧ SR X.K H ρ S ∧ Rp X.K H ρ d v ∧ wp (builtin bi [d]) (LQ X.K Q ρ H) S) := by
    intro pins s σ H xs us Q I r ⟨v, ρ, S, d, e, hS, hd, h⟩
    subst e
    obtain ⟨u1, u2, rfl, r1, r2⟩ := vals2 r
    cases r2
    exact isi_go I hS r1 hd hb h
  refine pe_imp (pe_callB hc (G.glo hg) (G.bt _ (by decide +kernel)) boot_isinstance hpa (by decide +kernel) (by decide +kernel) (star_one hs) (plain_args rfl)) fun σ H Q ⟨ρ, S, env, hS, hE, h⟩ => ?_
  replace h := wpx_bind.mp h
  replace h := wpx_bind.mp h
  refine tD_of hS hE h fun d S1 v H1 ρ1 h1 p1 e1 s1 E1 r1 => ?_
  exact ⟨v, ρ1, S1, d, rfl, s1, r1, wp_mono h1 fun _ _ q => q.later p1 e1⟩
/-! methods -/
def plainBase : Expr → Bool
  | .Call (.Name _ _) [] [] _ => false
  | _ => true
theorem base_ok {nm : Str} {env : PySem.Env} {w : Sem Value} (h : plainBase e = true) : attributeBase e nm env w = w := by
  unfold attributeBase
  split
  · cases h
  · rfl
variable {apos cpos : Pos} {o : Expr} {io : E}
theorem meth_go {bi : Bi} {T : String} {σ : L2.St} {H : Hp} {Q : VK} (hT : T = if isStrB bi then "str" else "list") (h : tD X.K C (.meth bi io ies) σ H Q) :
    tD X.K C io σ H fun x H1 => tyV X.K T x H1 ∧ tDA X.K C ies σ H1 fun xs H2 => rMt X.K bi x xs H2 Q := by
  obtain ⟨ρ, S, env, hS, hE, h⟩ := h
  replace h := wpx_bind.mp h
  refine tD_of hS hE h fun d S1 v H1 ρ1 h1 p1 e1 s1 E1 r1 => ?_
  replace h1 := wpx_bind.mp h1
  obtain ⟨ty, h1⟩ := recv_ty s1 r1 h1
  refine ⟨by rw [hT]; exact ty, ?_⟩
  replace h1 := wpx_bind.mp h1
  exact tDA_of s1 E1 h1 fun ds S2 vs H2 ρ2 h2 p2 e2 s2 E2 r2 => ⟨ρ2, S2, d :: ds, s2, .cons (r1.mono p2 e2) r2, wp_mono h2 fun _ _ q => (q.later p1 e1).later p2 e2⟩
/-- what makes up a method of a built-in type -/
structure MtOk (X : Cx) (bi : Bi) (nm : Str) : Prop where
  ex : ∃ (T id : String), T = (if isStrB bi then "str" else "list") ∧ PlainAttrs T ∧ Slot T nm id ∧ typeOf (.builtin id) = pure (.type "method_descriptor") ∧ MtR X id (rMt X.K bi)
def mtOf : Str → Nat → Option Bi := fun f n =>
  if f = "append" ∧ n = 1 then some .append else if f = "pop" ∧ n = 0 then some .pop0 else if f = "pop" ∧ n = 1 then some .pop1 else if f = "extend" ∧ n = 1 then some .extend else
  if f = "insert" ∧ n = 2 then some .insert else if f = "reverse" ∧ n = 0 then some .reverse else if f = "join" ∧ n = 1 then some .join else if f = "split" ∧ n = 1 then some .split else
  if f = "startswith" ∧ n = 1 then some .startswith else none
theorem mt_ok {nm : Str} {n : Nat} {bi : Bi} (hf : mtOf nm n = some bi) : MtOk X bi nm := by
  unfold mtOf at hf
  split at hf
  · rename_i q; obtain ⟨q, _⟩ := q; subst q; cases hf; exact ⟨_, _, rfl, PySem.F.plainAttrs_list, PySem.F.slot_list_append, PySem.F.type_list_append, mr_append⟩
  split at hf
  · rename_i q; obtain ⟨q, _⟩ := q; subst q; cases hf; exact ⟨_, _, rfl, PySem.F.plainAttrs_list, PySem.F.slot_list_pop, PySem.F.type_list_pop, mr_pop0⟩
  split at hf
  · rename_i q; obtain ⟨q, _⟩ := q; subst q; cases hf; exact ⟨_, _, rfl, PySem.F.plainAttrs_list, PySem.F.slot_list_pop, PySem.F.type_list_pop, mr_pop1⟩
  split at hf
  · rename_i q; obtain ⟨q, _⟩ := q; subst q; cases hf; exact ⟨_, _, rfl, PySem.F.plainAttrs_list, PySem.F.slot_list_extend, PySem.F.type_list_extend, mr_extend⟩
  split at hf
  · rename_i q; obtain ⟨q, _⟩ := q; subst q; cases hf; exact ⟨_, _, rfl, PySem.F.plainAttrs_list, PySem.F.slot_list_insert, PySem.F.type_list_insert, mr_insert⟩
  split at hf
  · rename_i q; obtain ⟨q, _⟩ := q; subst q; cases hf; exact ⟨_, _, rfl, PySem.F.plainAttrs_list, PySem.F.slot_list_reverse, PySem.F.type_list_reverse, mr_reverse⟩
  split at hf
  · rename_i q; obtain ⟨q, _⟩ := q; subst q; cases hf; exact ⟨_, _, rfl, PySem.F.plainAttrs_str, PySem.F.slot_str_join, PySem.F.type_str_join, mr_join⟩
  split at hf
  · rename_i q; obtain ⟨q, _⟩ := q; subst q; cases hf; exact ⟨_, _, rfl, PySem.F.plainAttrs_str, PySem.F.slot_str_split, PySem.F.type_str_split, mr_split⟩
  split at hf
  · rename_i q; obtain ⟨q, _⟩ := q; subst q; cases hf; exact ⟨_, _, rfl, PySem.F.plainAttrs_str, PySem.F.slot_str_startswith, PySem.F.type_str_startswith, mr_startswith⟩
  cases hf
theorem se_meth0 {nm : Str} {bi : Bi} (hm : mtOf nm 0 = some bi) (ho : PE X o (tD X.K C io)) (hb : plainBase o = true) (hl : (apos.endLine == cpos.line) = true) :
    PE X (.Call (.Attribute o nm apos) [] [] cpos) (tD X.K C (.meth bi io .nil)) := by
  obtain ⟨T, id, hT, h1, h2, h3, h4⟩ := (mt_ok (X := X) hm).ex
  refine pe_imp (pe_bm0 h1 h2 h3 h4 ho (base_ok hb) hl) fun σ H Q h => ?_
  obtain ⟨ρ, S, env, hS, hE, h⟩ := h
  replace h := wpx_bind.mp h
  refine tD_of hS hE h fun d S1 v H1 ρ1 h1 p1 e1 s1 E1 r1 => ?_
  replace h1 := wpx_bind.mp h1
  obtain ⟨ty, h1⟩ := recv_ty s1 r1 h1
  exact ⟨by rw [hT]; exact ty, ρ1, S1, [d], s1, .cons r1 .nil, wp_mono (show wp (builtin bi [d]) (LQ X.K Q ρ H) S1 from h1) fun _ _ q => q.later p1 e1⟩
theorem few_ok {cpos : Pos} {es : List Expr} {env : PySem.Env} (h : es.all notStar = true) (hn : es.length < 30) :
    ((backTo cpos (starEach es env)).all (fun x => !x.1) && (backToKw cpos (keywordEach [] env)).all (fun x => x.1.isSome)
      && decide (es.length + ([] : List Keyword).length + (if ([] : List Keyword).isEmpty then 0 else 1) < 30)) = true := by
  have h1 : (backTo cpos (starEach es env)).all (fun x => !x.1) = true := by
    have := plain_args (pos := cpos) (env := env) h
    rw [List.all_eq_not_any_not]
    simpa using this
  rw [h1]
  simp [backToKw, keywordEach]
  omega
theorem se_meth {nm : Str} {bi : Bi} (hm : mtOf nm (e :: es).length = some bi) (ho : PE X o (tD X.K C io)) (ha : PA X (e :: es) (tDA X.K C ies)) (hs : (e :: es).all notStar = true) (hn : (e :: es).length < 30) (hb : plainBase o = true) (hl : (apos.endLine == cpos.line) = true) :
    PE X (.Call (.Attribute o nm apos) (e :: es) [] cpos) (tD X.K C (.meth bi io ies)) := by
  obtain ⟨T, id, hT, h1, h2, h3, h4⟩ := (mt_ok (X := X) hm).ex
  have hs' := hs
  rw [List.all_cons, Bool.and_eq_true] at hs'
  exact pe_imp (pe_bm h1 h2 h3 h4 ho ha (base_ok hb) (few_ok hs hn) hl (star_one hs'.1) (plain_args hs'.2)) fun σ H Q h => meth_go hT h
end
end Mn
/-! Mn, part 10: walks, targets, statements. -/
namespace Mn
open PySem PySem.Spec PyProof.Rows L2
/-- the walk J is the library's walk T -/
def ItR (K : PySem.W.Frag) (H : Hp) (ρ : List Addr) : ItV → It → Prop
  | .rng lo st n, T => (st = 1 ∧ T = Itr lo n) ∨ T = Itc lo st n
  | .tup xs, T => ∃ a vs, T = Itt K a ∧ SqT K H a vs ∧ Rps K H ρ xs vs
  | .str x, T => T = Its x
  | .lst n, T => ∃ a, ρ[n]? = some a ∧ T = Itl K a
  | .rev n k, T => ∃ a, ρ[n]? = some a ∧ T = Itv K a k
  | .revT xs, T => ∃ a vs, T = RT.ItvT K a xs.length ∧ SqT K H a vs ∧ Rps K H ρ xs vs
section
variable {K : PySem.W.Frag} {H H' : Hp} {ρ ρ' : List Addr} {S : Store}
theorem ItR.mono {J : ItV} {T : It} (h : ItR K H ρ J T) (p : ρ <+: ρ') (e : Ex K H H') : ItR K H' ρ' J T := by
  cases J with
  | rng lo st n => exact h
  | str x => exact h
  | tup xs => obtain ⟨a, vs, e1, e2, e3⟩ := h; exact ⟨a, vs, e1, e _ _ e2, e3.mono p e⟩
  | revT xs => obtain ⟨a, vs, e1, e2, e3⟩ := h; exact ⟨a, vs, e1, e _ _ e2, e3.mono p e⟩
  | lst n => obtain ⟨a, e1, e2⟩ := h; exact ⟨a, pre_get p e1, e2⟩
  | rev n k => obtain ⟨a, e1, e2⟩ := h; exact ⟨a, pre_get p e1, e2⟩
theorem rd_some {n : Nat} {xs : List D} (h : rd S n = some xs) : S[n]? = some (.lst xs) ∨ S[n]? = some (.ro xs) := by
  unfold rd at h
  cases q : S[n]? with
  | none => rw [q] at h; cases h
  | some c => rw [q] at h; cases c <;> cases h <;> simp
theorem sql_addr {n : Nat} {xs : List D} {a : Addr} (hS : SR K H ρ S) (e : ρ[n]? = some a) (h : rd S n = some xs) : ∃ vs, SqL K H a vs ∧ Rps K H ρ xs vs := by
  obtain ⟨b, vs, e2, h1, h2⟩ := sql_of (v := .ref a) hS (by unfold Rp; exact ⟨a, e, rfl⟩) (rd_some h)
  cases e2
  exact ⟨vs, h1, h2⟩
theorem it_stop {J : ItV} {T : It} {i : Nat} (h : ItR K H ρ J T) (hS : SR K H ρ S) (e : itO J i S = some none) : T.stop i H := by
  cases J with
  | rng lo st n =>
    simp only [itO] at e
    have hi : n ≤ i := by
      by_cases c : i < n
      · rw [if_pos c] at e; cases e
      · omega
    rcases h with ⟨_, rfl⟩ | rfl
    · exact hi
    · exact hi
  | tup xs =>
    obtain ⟨a, vs, rfl, h1, h2⟩ := h
    have hl := h2.length
    have hi : xs.length ≤ i := List.getElem?_eq_none_iff.mp (Option.some.inj e)
    exact ⟨vs, h1, by omega⟩
  | str x =>
    obtain rfl := h
    simp only [itO] at e
    have : x.cps[i]? = none := by
      cases q : x.cps[i]? with
      | none => rfl
      | some c => rw [q] at e; cases e
    show x.cps.size ≤ i
    simpa using this
  | lst n =>
    obtain ⟨a, h1, rfl⟩ := h
    simp only [itO] at e
    cases q : rd S n with
    | none => rw [q] at e; cases e
    | some xs =>
      rw [q] at e
      obtain ⟨vs, h2, h3⟩ := sql_addr hS h1 q
      have hl := h3.length
      have hi : xs.length ≤ i := List.getElem?_eq_none_iff.mp (Option.some.inj e)
      exact ⟨vs, h2, by omega⟩
  | rev n k =>
    obtain ⟨a, h1, rfl⟩ := h
    simp only [itO] at e
    cases q : rd S n with
    | none => simp only [q] at e; cases e
    | some xs =>
      simp only [q] at e
      show k ≤ i
      split at e
      · rename_i hk
        have e := Option.some.inj e
        split at e
        · rename_i c
          have := List.getElem?_eq_none_iff.mp e
          omega
        · omega
      · cases e
  | revT xs =>
    obtain ⟨a, vs, rfl, h1, h2⟩ := h
    simp only [itO] at e
    show xs.length ≤ i
    have e := Option.some.inj e
    split at e
    · rename_i c
      have := List.getElem?_eq_none_iff.mp e
      omega
    · omega
theorem it_item {J : ItV} {T : It} {i : Nat} {d : D} (h : ItR K H ρ J T) (hS : SR K H ρ S) (e : itO J i S = some (some d)) : T.go i H ∧ ∀ x H', T.yld i H x H' → H' = H ∧ Rp K H ρ d x := by
  have at_ : ∀ {xs : List D} {vs : List V} {j : Nat}, Rps K H ρ xs vs → xs[j]? = some d → ∃ w, vs[j]? = some w ∧ Rp K H ρ d w := fun r q => r.at q
  cases J with
  | rng lo st n =>
    simp only [itO] at e
    have e := Option.some.inj e
    split at e
    · rename_i c
      cases e
      rcases h with ⟨rfl, rfl⟩ | rfl
      · refine ⟨c, fun x H' ⟨e1, e2⟩ => ⟨e1, ?_⟩⟩
        subst e2
        rw [Int.mul_one]
        exact .int
      · refine ⟨c, fun x H' ⟨e1, e2⟩ => ⟨e1, ?_⟩⟩
        subst e2
        exact .int
    · cases e
  | tup xs =>
    obtain ⟨a, vs, rfl, h1, h2⟩ := h
    obtain ⟨w, h3, h4⟩ := at_ h2 (Option.some.inj e)
    refine ⟨⟨vs, w, h1, h3⟩, fun x H' ⟨e1, e2⟩ => ⟨e1, ?_⟩⟩
    have := e2 vs h1
    rw [h3] at this; cases this
    exact h4
  | str x =>
    obtain rfl := h
    simp only [itO] at e
    cases q : x.cps[i]? with
    | none => rw [q] at e; cases e
    | some c =>
      rw [q] at e
      cases e
      obtain ⟨hl, hc⟩ := Array.getElem?_eq_some_iff.mp q
      refine ⟨hl, fun y H' ⟨e1, c', e2, e3⟩ => ⟨e1, ?_⟩⟩
      subst e3
      rw [q] at e2; cases e2
      exact .str
  | lst n =>
    obtain ⟨a, h1, rfl⟩ := h
    simp only [itO] at e
    cases q : rd S n with
    | none => rw [q] at e; cases e
    | some xs =>
      rw [q] at e
      obtain ⟨vs, h2, h3⟩ := sql_addr hS h1 q
      obtain ⟨w, h4, h5⟩ := at_ h3 (Option.some.inj e)
      refine ⟨⟨vs, w, h2, h4⟩, fun x H' ⟨e1, e2⟩ => ⟨e1, ?_⟩⟩
      have := e2 vs h2
      rw [h4] at this; cases this
      exact h5
  | rev n k =>
    obtain ⟨a, h1, rfl⟩ := h
    simp only [itO] at e
    cases q : rd S n with
    | none => simp only [q] at e; cases e
    | some xs =>
      simp only [q] at e
      split at e
      · rename_i hk
        have e := Option.some.inj e
        split at e
        · rename_i c
          obtain ⟨vs, h2, h3⟩ := sql_addr hS h1 q
          obtain ⟨w, h4, h5⟩ := at_ h3 e
          refine ⟨⟨c, vs, w, h2, h4⟩, fun x H' ⟨e1, e2⟩ => ⟨e1, ?_⟩⟩
          have := e2 vs h2
          rw [h4] at this; cases this
          exact h5
        · cases e
      · cases e
  | revT xs =>
    obtain ⟨a, vs, rfl, h1, h2⟩ := h
    simp only [itO] at e
    have e := Option.some.inj e
    split at e
    · rename_i c
      obtain ⟨w, h4, h5⟩ := at_ h2 e
      refine ⟨⟨c, vs, w, h1, h4⟩, fun x H' ⟨e1, e2⟩ => ⟨e1, ?_⟩⟩
      have := e2 vs h1
      rw [h4] at this; cases this
      exact h5
    · cases e
theorem wp_itAt {J : ItV} {i : Nat} {R : Option D → Store → Prop} : wp (itAt J i) R S ↔ ∃ o, itO J i S = some o ∧ R o S := by
  unfold wp wpx itAt
  cases itO J i S with
  | none => exact ⟨fun h => h.elim, fun ⟨_, h, _⟩ => nomatch h⟩
  | some o => exact ⟨fun h => ⟨o, rfl, h⟩, fun ⟨_, h, q⟩ => by cases h; exact q⟩
end
def tDI (K : PySem.W.Frag) (C : Ctx) (k : IK) (es : Es) : TI := fun σ H R => ∃ ρ S env, SR K H ρ S ∧ EnvR K H ρ env σ ∧
  wp (M.bind (evEs C es env) (mkIt k)) (fun J S' => ∀ H' ρ' T, ρ <+: ρ' → Ex K H H' → SR K H' ρ' S' → ItR K H' ρ' J T → R T H') S
section
variable {X : Cx} {C : Ctx} {sc : Scope} {N names : List Str} {e a b c : Expr} {es : List Expr} {i : Nat} {x : Str} {pos p : Pos} {ia ib ic : E} {ies : Es} {tg : Expr}
theorem pi_imp {t u : TI} (h : PI X tg e t) (k : ∀ σ H Q, u σ H Q → t σ H Q) : PI X tg e u := ⟨fun pins s σ H Q I q => h.run pins s σ H Q I (k σ H Q q)⟩
theorem pi_or {t u : TI} (h : PI X tg e t) (h' : PI X tg e u) : PI X tg e (fun σ H R => t σ H R ∨ u σ H R) := ⟨fun pins s σ H R I q => q.elim (h.run pins s σ H R I) (h'.run pins s σ H R I)⟩
theorem si_rng1 (G : Good X C sc N names) (hg : isGl sc "range" = true) (ha : PA X [a] (tDA X.K C ies)) (hs : [a].all notStar = true) : PI X tg (.Call (.Name "range" p) [a] [] pos) (tDI X.K C .rng1 ies) := by
  rw [List.all_cons, Bool.and_eq_true] at hs
  refine pi_imp (pi_range1 (G.glo hg) (G.bt _ (by decide +kernel)) ha (star_one hs.1)) fun σ H R ⟨ρ, S, env, hS, hE, h⟩ => ?_
  replace h := wpx_bind.mp h
  refine tDA_of hS hE h fun ds S1 vs H1 ρ1 h1 p1 e1 s1 E1 r1 => ?_
  match ds, r1, h1 with
  | [.int j], r1, h1 =>
    obtain ⟨v, rfl, hv⟩ := rps1 r1
    cases hv.intE
    unfold mkIt at h1
    simp only [wpx_bind, wpx_guard, wpx_ret, Bool.and_eq_true, decide_eq_true_eq] at h1
    exact ⟨j, rfl, h1.1.1, h1.1.2, h1.2 H1 ρ1 _ p1 e1 s1 (.inl ⟨rfl, rfl⟩)⟩
  | [], _, h1 => exact False.elim h1
  | [.non], _, h1 => exact False.elim h1
  | [.bl _], _, h1 => exact False.elim h1
  | [.str _], _, h1 => exact False.elim h1
  | [.tup _], _, h1 => exact False.elim h1
  | [.loc _], _, h1 => exact False.elim h1
  | a :: b :: c, _, h1 => cases a <;> exact False.elim h1
theorem si_rng2 (G : Good X C sc N names) (hg : isGl sc "range" = true) (ha : PA X [a, b] (tDA X.K C ies)) (hs : [a, b].all notStar = true) : PI X tg (.Call (.Name "range" p) [a, b] [] pos) (tDI X.K C .rng2 ies) := by
  simp only [List.all_cons, Bool.and_eq_true] at hs
  have q1 : starEach [b] X.env = [(false, eval b X.env)] := star_one hs.2.1
  refine pi_imp (pi_range2 (G.glo hg) (G.bt _ (by decide +kernel)) ha (by rw [star_one hs.1, q1]) q1) fun σ H R ⟨ρ, S, env, hS, hE, h⟩ => ?_
  replace h := wpx_bind.mp h
  refine tDA_of hS hE h fun ds S1 vs H1 ρ1 h1 p1 e1 s1 E1 r1 => ?_
  have two : ∃ i j, ds = [.int i, .int j] := by
    match ds, h1 with
    | [], h1 => exact False.elim h1
    | [a], h1 => cases a <;> exact False.elim h1
    | [a, b], h1 => cases a <;> cases b <;> first | exact ⟨_, _, rfl⟩ | exact False.elim h1
    | a :: b :: c :: d, h1 => cases a <;> cases b <;> exact False.elim h1
  obtain ⟨i, j, rfl⟩ := two
  obtain ⟨v, u, rfl, hv, hu⟩ := rps2 r1
  cases hv.intE; cases hu.intE
  unfold mkIt at h1
  simp only [wpx_bind, wpx_guard, wpx_ret, Bool.and_eq_true, decide_eq_true_eq] at h1
  exact ⟨i, j, rfl, ⟨h1.1.1.1.1, h1.1.1.1.2, h1.1.1.2, h1.1.2⟩, h1.2 H1 ρ1 _ p1 e1 s1 (.inl ⟨rfl, rfl⟩)⟩
theorem si_rng3 (G : Good X C sc N names) (hg : isGl sc "range" = true) (ha : PA X [a, b, c] (tDA X.K C ies)) (hs : [a, b, c].all notStar = true) : PI X tg (.Call (.Name "range" p) [a, b, c] [] pos) (tDI X.K C .rng3 ies) := by
  have hs' := hs
  rw [List.all_cons, Bool.and_eq_true] at hs'
  refine pi_imp (pi_range3 (G.glo hg) (G.bt _ (by decide +kernel)) ha (star_one hs'.1) (plain_args hs'.2)) fun σ H R ⟨ρ, S, env, hS, hE, h⟩ => ?_
  replace h := wpx_bind.mp h
  refine tDA_of hS hE h fun ds S1 vs H1 ρ1 h1 p1 e1 s1 E1 r1 => ?_
  have three : ∃ i j k, ds = [.int i, .int j, .int k] := by
    match ds, h1 with
    | [], h1 => exact False.elim h1
    | [a], h1 => cases a <;> exact False.elim h1
    | [a, b], h1 => cases a <;> cases b <;> exact False.elim h1
    | [a, b, c], h1 => cases a <;> cases b <;> cases c <;> first | exact ⟨_, _, _, rfl⟩ | exact False.elim h1
    | a :: b :: c :: d :: e, h1 => cases a <;> cases b <;> cases c <;> exact False.elim h1
  obtain ⟨i, j, k, rfl⟩ := three
  obtain ⟨v, u, w, rfl, hv, hu, hw⟩ := rps3 r1
  cases hv.intE; cases hu.intE; cases hw.intE
  unfold mkIt at h1
  simp only [wpx_bind, wpx_guard, wpx_ret, Bool.and_eq_true, decide_eq_true_eq] at h1
  obtain ⟨⟨⟨⟨c0, c1⟩, c2⟩, c3⟩, h1⟩ := h1
  exact ⟨i, j, k, _, rfl, ⟨c0, c1, c2, (Int.toNat_of_nonneg c3).symm⟩, h1 H1 ρ1 _ p1 e1 s1 (.inr rfl)⟩
theorem seq_run {σ : L2.St} {H : Hp} {R : It → Hp → Prop} (h : tDI X.K C .seq (.cons ia .nil) σ H R) : iList X.K (tD X.K C ia) σ H R ∨ iTup X.K (tD X.K C ia) σ H R ∨ iStr (tD X.K C ia) σ H R := by
  obtain ⟨ρ, S, env, hS, hE, h⟩ := h
  replace h := wpx_bind.mp h
  unfold evEs evEs at h
  replace h := wpx_bind.mp h
  cases hr : evE C ia env S with
  | bad => unfold wpx at h; rw [hr] at h; exact h.elim
  | exc x S1 => unfold wpx at h; rw [hr] at h; exact h.elim
  | ok d S1 =>
    have only : wp (evE C ia env) (fun d' S' => d' = d ∧ S' = S1) S := by unfold wp wpx; rw [hr]; exact ⟨rfl, rfl⟩
    have h2 : wp (mkIt .seq [d]) (fun J S' => ∀ H' ρ' T, ρ <+: ρ' → Ex X.K H H' → SR X.K H' ρ' S' → ItR X.K H' ρ' J T → R T H') S1 := by
      unfold wpx at h; rw [hr] at h; exact h
    cases d with
    | loc n =>
      refine .inl (tD_of hS hE only fun d' S' v H1 ρ1 h1 p1 e1 s1 E1 r1 => ?_)
      obtain ⟨rfl, rfl⟩ := h1
      unfold mkIt at h2
      replace h2 := wpx_bind.mp h2
      obtain ⟨xs, hx, h2⟩ := wp_rdL.mp h2
      obtain ⟨a, vs, rfl, hq, hr2⟩ := sql_of s1 r1 hx
      unfold Rp at r1
      obtain ⟨a', e2, e3⟩ := r1
      cases e3
      exact ⟨a, rfl, ⟨vs, hq⟩, h2 H1 ρ1 _ p1 e1 s1 ⟨a, e2, rfl⟩⟩
    | tup xs =>
      refine .inr (.inl (tD_of hS hE only fun d' S' v H1 ρ1 h1 p1 e1 s1 E1 r1 => ?_))
      obtain ⟨rfl, rfl⟩ := h1
      obtain ⟨a, vs, rfl, hq, hr2⟩ := r1.tupE
      exact ⟨a, rfl, ⟨vs, hq⟩, h2 H1 ρ1 _ p1 e1 s1 ⟨a, vs, rfl, hq, hr2⟩⟩
    | str z =>
      refine .inr (.inr (tD_of hS hE only fun d' S' v H1 ρ1 h1 p1 e1 s1 E1 r1 => ?_))
      obtain ⟨rfl, rfl⟩ := h1
      cases r1.strE
      exact ⟨z, rfl, h2 H1 ρ1 _ p1 e1 s1 rfl⟩
    | _ => exact False.elim h2
theorem si_seq (ha : PE X a (tD X.K C ia)) : PI X tg a (tDI X.K C .seq (.cons ia .nil)) :=
  pi_imp (pi_or (pi_list ha) (pi_or (pi_tup ha) (pi_str ha))) fun σ H R h => seq_run h
theorem si_rev (G : Good X C sc N names) (hg : isGl sc "reversed" = true) (ha : PE X a (tD X.K C ia)) (hs : notStar a = true) : PI X tg (.Call (.Name "reversed" p) [a] [] pos) (tDI X.K C .rev (.cons ia .nil)) := by
  refine pi_imp (RT.pi_revA (G.glo hg) (G.bt _ (by decide +kernel)) ha (star_one hs)) fun σ H R ⟨ρ, S, env, hS, hE, h⟩ => ?_
  replace h := wpx_bind.mp h
  unfold evEs evEs at h
  replace h := wpx_bind.mp h
  refine tD_of hS hE h fun d S1 v H1 ρ1 h1 p1 e1 s1 E1 r1 => ?_
  replace h1 := wpx_bind.mp h1
  cases d with
  | loc n =>
    replace h1 := wpx_bind.mp (show wp (M.bind (rdL n) fun xs => M.ret (ItV.rev n xs.length)) _ S1 from h1)
    obtain ⟨xs, hx, h1⟩ := wp_rdL.mp h1
    obtain ⟨a, vs, rfl, hq, hr2⟩ := sql_of s1 r1 hx
    unfold Rp at r1
    obtain ⟨a', e2, e3⟩ := r1
    cases e3
    refine ⟨a, vs, rfl, .inl ⟨hq, ?_⟩⟩
    rw [← hr2.length]
    exact h1 H1 ρ1 _ p1 e1 s1 ⟨a, e2, rfl⟩
  | tup xs =>
    obtain ⟨a, vs, rfl, hq, hr2⟩ := r1.tupE
    refine ⟨a, vs, rfl, .inr ⟨hq, ?_⟩⟩
    rw [← hr2.length]
    exact h1 H1 ρ1 _ p1 e1 s1 ⟨a, vs, rfl, hq, hr2⟩
  | _ => exact False.elim h1
/-! ### targets -/
def LE' (K : PySem.W.Frag) (Q : L2.St → Hp → Prop) (ρ : List Addr) (H : Hp) : Nv → Store → Prop := fun env S => ∀ σ H' ρ', ρ <+: ρ' → Ex K H H' → SR K H' ρ' S → EnvR K H' ρ' env σ → Q σ H'
def tDG (K : PySem.W.Frag) (C : Ctx) (pt : Pat) : TG := fun v σ H Q => ∃ ρ S env d, SR K H ρ S ∧ EnvR K H ρ env σ ∧ Rp K H ρ d v ∧ wp (evP C pt d env) (LE' K Q ρ H) S
def tDGs (K : PySem.W.Frag) (C : Ctx) (ps : Pats) : TGs := fun vs σ H Q => ∃ ρ S env ds, SR K H ρ S ∧ EnvR K H ρ env σ ∧ Rps K H ρ ds vs ∧ wp (evPs C ps ds env) (LE' K Q ρ H) S
theorem LE'.later {K : PySem.W.Frag} {Q : L2.St → Hp → Prop} {ρ ρ' : List Addr} {H H' : Hp} {env : Nv} {S : Store} (h : LE' K Q ρ H env S) (p : ρ <+: ρ') (e : Ex K H H') : LE' K Q ρ' H' env S := fun σ H2 ρ2 p2 e2 => h σ H2 ρ2 (p.trans p2) (e.trans e2)
theorem pg_imp {t u : TG} (h : PG X tg t) (k : ∀ v σ H Q, u v σ H Q → t v σ H Q) : PG X tg u := ⟨fun pins s σ H v w Q I r q => h.run pins s σ H v w Q I r (k v σ H Q q)⟩
theorem pgs_imp {tgs : List Expr} {t u : TGs} (h : PGs X tgs t) (k : ∀ v σ H Q, u v σ H Q → t v σ H Q) : PGs X tgs u := ⟨fun pins s σ H v w Q I r q => h.run pins s σ H v w Q I r (k v σ H Q q)⟩
theorem Good.lo (G : Good X C sc N names) (h : isLoc sc x = true) : Loc X.env.scope x ∧ (X.fn x = true ∨ X.env.scope.names.lookup x = some .local) := by
  unfold isLoc at h
  split at h
  · rename_i q; exact ⟨.inl (G.lcl _ q), .inr (G.lcl _ q)⟩
  · rename_i q; exact ⟨.inr (G.cll _ q), .inl (G.fnc _ q)⟩
  · cases h
theorem sg_nm (G : Good X C sc N names) (hN : N[i]? = some x) (hx : isLoc sc x = true) : PG X (.Name x pos) (tDG X.K C (.nm i)) := by
  obtain ⟨h1, h2⟩ := G.lo hx
  refine pg_imp (pg_name (by rw [G.N_eq]; exact G.nd) (by rw [G.N_eq]; exact hN) h1 h2) fun v σ H Q ⟨ρ, S, env, d, hS, hE, r, h⟩ => ?_
  exact h _ H ρ List.prefix_rfl Ex.refl hS (hE.set r i)
theorem sgs_nil : PGs X [] (tDGs X.K C .nil) := pgs_imp pgs_nil fun vs σ H Q ⟨ρ, S, env, ds, hS, hE, r, h⟩ => by
  cases ds with
  | nil => unfold Rps at r; exact ⟨r, h σ H ρ List.prefix_rfl Ex.refl hS hE⟩
  | cons d ds => exact False.elim h
theorem each_one {env : PySem.Env} (h : notStar a = true) : (assignEach (a :: es) env).map (·.2) = assign a env :: (assignEach es env).map (·.2) := by
  cases a <;> first | rfl | cases h
theorem each_no {env : PySem.Env} : ∀ {es : List Expr}, es.all notStar = true → (assignEach es env).findIdx? (·.1) = none ∧ (assignEach es env).length = es.length
  | [], _ => ⟨rfl, rfl⟩
  | a :: es, h => by
    rw [List.all_cons, Bool.and_eq_true] at h
    obtain ⟨h1, h2⟩ := each_no (env := env) h.2
    have e : assignEach (a :: es) env = (false, assign a env) :: assignEach es env := by
      cases a <;> first | rfl | cases h.1
    rw [e]
    refine ⟨?_, by simp [h2]⟩
    rw [List.findIdx?_cons]
    simp [h1]
theorem sgs_cons {pa : Pat} {ps : Pats} (h1 : PG X a (tDG X.K C pa)) (h2 : PGs X es (tDGs X.K C ps)) (hs : notStar a = true) : PGs X (a :: es) (tDGs X.K C (.cons pa ps)) :=
  pgs_imp (pgs_cons h1 h2 (each_one hs)) fun vs σ H Q ⟨ρ, S, env, ds, hS, hE, r, h⟩ => by
    cases ds with
    | nil => exact False.elim h
    | cons d ds =>
      unfold Rps at r
      obtain ⟨v, us, rfl, r1, r2⟩ := r
      replace h := wpx_bind.mp h
      refine ⟨v, us, rfl, ρ, S, env, d, hS, hE, r1, wp_mono h fun env' S' q σ' H' ρ' p' e' s' E' => ?_⟩
      exact ⟨ρ', S', env', ds, s', E', r2.mono p' e', wp_mono q fun _ _ z => z.later p' e'⟩
def patLen : Pats → Nat
  | .nil => 0
  | .cons _ r => patLen r + 1
theorem pats_len : ∀ {ps : Pats} {ds : List D} {env : Nv} {R : Nv → Store → Prop} {S : Store}, wp (evPs C ps ds env) R S → ds.length = patLen ps
  | .nil, [], _, _, _, _ => rfl
  | .nil, d :: ds, _, _, _, h => False.elim h
  | .cons p r, [], _, _, _, h => False.elim h
  | .cons p r, d :: ds, env, R, S, h => by
    replace h := wpx_bind.mp h
    unfold wpx at h
    cases q : evP C p d env S with
    | ok env' S' =>
      rw [q] at h
      simp only [List.length_cons, patLen]
      rw [pats_len h]
    | exc _ _ => rw [q] at h; exact h.elim
    | bad => rw [q] at h; exact h.elim
theorem sg_tup {k : Nat} {ps : Pats} (G : Good X C sc N names) (h : PGs X es (tDGs X.K C ps)) (hs : es.all notStar = true) (hl : es.length = patLen ps) : PG X (.Tuple es k pos) (tDG X.K C (.tup ps)) := by
  obtain ⟨h1, h2⟩ := each_no (env := X.env) hs
  refine pg_imp (pg_tup G.calm h h2 h1) fun v σ H Q ⟨ρ, S, env, d, hS, hE, r, q⟩ => ?_
  cases d with
  | tup xs =>
    obtain ⟨a, vs, rfl, hq, hr⟩ := r.tupE
    exact ⟨a, vs, rfl, hq, by rw [← hr.length, pats_len (show wp (evPs C ps xs env) _ S from q), hl], ρ, S, env, xs, hS, hE, hr, q⟩
  | _ => exact False.elim q
theorem ixN_len {xs : List D} {vs : List V} {K : PySem.W.Frag} {H : Hp} {ρ : List Addr} (h : Rps K H ρ xs vs) : xs.length = vs.length := h.length
theorem assign_sub {env : PySem.Env} (hp : plainIx b = true) : ∀ v, assign (.Subscript a b pos) env v = (do
      let ov ← holding [v] (eval a env)
      let iv ← holding [v, ov] (eval b env)
      standAt pos
      holding [v, ov, iv] (setItem ov iv v)
      release [v, ov, iv] []) := by
  intro v
  cases b <;> try rfl
  rename_i lo hi st p
  cases st
  · cases hp
  · rfl
theorem sg_sub (ha : PE X a (tD X.K C ia)) (hb : PE X b (tD X.K C ib)) (hp : plainIx b = true) : PG X (.Subscript a b pos) (tDG X.K C (.sub ia ib)) :=
  pg_imp (pg_sub ha hb set_list (assign_sub hp)) fun v σ H Q ⟨ρ, S, env, d, hS, hE, r, h⟩ => by
    replace h := wpx_bind.mp h
    refine tD_of hS hE h fun d1 S1 v1 H1 ρ1 h1 p1 e1 s1 E1 r1 => ?_
    replace h1 := wpx_bind.mp h1
    refine tD_of s1 E1 h1 fun d2 S2 v2 H2 ρ2 h2 p2 e2 s2 E2 r2 => ?_
    cases d1 with
    | loc n => cases d2 with
      | int k =>
        cases r2.intE
        replace h2 := wpx_bind.mp h2
        obtain ⟨xs, hx, h2⟩ := wp_owL.mp h2
        obtain ⟨j, hj, h2⟩ := wpx_opt.mp (wpx_bind.mp h2)
        have h2 := wp_wrL.mp (wpx_bind.mp h2)
        obtain ⟨a, vs, rfl, ep, hp, hr⟩ := lst_read s2 (r1.mono p2 e2) hx
        refine ⟨a, vs, k, j, rfl, rfl, hp, by rw [← hr.length]; exact hj, ?_⟩
        have rr := (r.mono p1 e1).mono p2 e2
        have h3 := (LE'.later h2 p1 e1).later p2 e2
        exact h3 σ _ ρ2 List.prefix_rfl (ex_put hp) (s2.put hx ep hp (hr.set j rr)) (E2.mono List.prefix_rfl (ex_put hp))
      | _ => exact False.elim h2
    | _ => exact False.elim h2
end
end Mn
/-! Mn, part 11: comprehensions, statements. -/
namespace Mn
open PySem PySem.Spec PyProof.Rows L2
theorem wipe_at (σ : L2.St) (j : Nat) : ∀ vs : List Nat, (wipe σ vs)[j]? = if j ∈ vs then σ[j]?.map (fun _ => none) else σ[j]?
  | [] => by simp [wipe]
  | v :: vs => by
    unfold wipe
    rw [List.getElem?_set, wipe_length]
    have ih := wipe_at σ j vs
    by_cases hv : v = j
    · subst hv
      rw [if_pos rfl]
      by_cases hl : v < σ.length
      · rw [if_pos hl, if_pos (by simp), List.getElem?_eq_getElem hl]; rfl
      · rw [if_neg hl, if_pos (by simp), List.getElem?_eq_none (by omega)]; rfl
    · rw [if_neg hv, ih]
      by_cases hm : j ∈ vs
      · rw [if_pos hm, if_pos (List.mem_cons_of_mem _ hm)]
      · rw [if_neg hm, if_neg (by simp [hm]; exact fun z => hv z.symm)]
theorem wipe_set {σ : L2.St} {vs : List Nat} {i : Nat} {y : Option V} (h : i ∈ vs) : wipe ((wipe σ vs).set i y) vs = wipe σ vs := by
  apply List.ext_getElem?
  intro j
  rw [wipe_at, wipe_at]
  by_cases hj : j ∈ vs
  · rw [if_pos hj, if_pos hj, List.getElem?_set, wipe_length, wipe_at, if_pos hj]
    by_cases hi : i = j
    · subst hi
      rw [if_pos rfl]
      by_cases hl : i < σ.length
      · rw [if_pos hl, List.getElem?_eq_getElem hl] <;> rfl
      · rw [if_neg hl, List.getElem?_eq_none (by omega)] <;> rfl
    · rw [if_neg hi]
      cases σ[j]? <;> rfl
  · rw [if_neg hj, if_neg hj, List.getElem?_set_ne (by intro z; subst z; exact hj h), wipe_at, if_neg hj]
section
variable {X : Cx} {C : Ctx} {sc scope : Scope} {N names : List Str} {own : List (Str × Nat)} {elt iter : Expr} {ifs : List Expr} {x y : Str} {tpos pos spos py' : Pos} {i sl : Nat} {ie ic : E} {ies : Es} {k : IK}
theorem relS_free {sc : Scope} : ∀ {names : List (Str × NameKind)} {x : Str}, names.lookup x = some .free →
    (names.map fun (n, k) => if (k == NameKind.free && sc.kind == .function && sc.names.lookup n == some .cell) then (n, NameKind.cell) else (n, k)).lookup x = some .cell ∨
    (names.map fun (n, k) => if (k == NameKind.free && sc.kind == .function && sc.names.lookup n == some .cell) then (n, NameKind.cell) else (n, k)).lookup x = some .free
  | [], _, h => by simp at h
  | (n, k₀) :: r, x, h => by
    have ih := @relS_free sc r x
    rw [List.map_cons]
    by_cases hx : x = n
    · subst hx
      have : k₀ = .free := by simpa using h
      subst this
      by_cases hc : (NameKind.free == NameKind.free && sc.kind == .function && sc.names.lookup x == some .cell) = true
      · left; simp only [hc, if_true]; simp
      · right; simp only [hc]; simp
    · have hb : (x == n) = false := by simpa using hx
      have h' : r.lookup x = some .free := by simpa [List.lookup_cons, hb] using h
      rcases ih h' with q | q
      · left
        show List.lookup x ((if (k₀ == NameKind.free && sc.kind == .function && sc.names.lookup n == some .cell) = true then (n, NameKind.cell) else (n, k₀)) :: _) = _
        split
        · rw [List.lookup_cons, hb]; exact q
        · rw [List.lookup_cons, hb]; exact q
      · right
        show List.lookup x ((if (k₀ == NameKind.free && sc.kind == .function && sc.names.lookup n == some .cell) = true then (n, NameKind.cell) else (n, k₀)) :: _) = _
        split
        · rw [List.lookup_cons, hb]; exact q
        · rw [List.lookup_cons, hb]; exact q
/-- within a comprehension's block -/
theorem Good.blk (G : Good X C sc N names) (hk : scope.kind = .function) (s : Shared) (H : Hp) (A : Addr) (cl : List (Str × Addr)) (fp : List Addr) : Good (X.blk s H scope (compEnvC scope cl A X.env) fp) C scope N names where
  N_eq := G.N_eq
  nd := G.nd
  calm := G.calm
  gd := G.gd
  un := G.un
  kind := hk
  lcl := fun x h => lookup_relS_keep (sc := X.env.scope) (by decide) h
  cll := fun x h => lookup_relS_keep (sc := X.env.scope) (by decide) h
  fre := fun x h => relS_free (sc := X.env.scope) h
  gl := fun x h => lookup_relS_keep (sc := X.env.scope) (by decide) h
  fnc := fun x h => by show (scope.names.lookup x == some .cell) = true; rw [h]; rfl
  bt := G.bt
  gb := G.gb
  fns := fun f hf => G.fns f hf
theorem Good.blkOk (G : Good X C sc N names) (h : blkC N sc scope own = true) : BlkOk X.N X.env.scope scope own := by
  have B := blkOk_by h
  refine ⟨B.kind, B.uniq, by rw [G.N_eq]; exact B.ix, fun y hy e => ?_, by rw [G.N_eq]; exact B.own⟩
  rcases B.free y hy e with q | q
  · exact .inl (G.cll _ q)
  · exact G.fre _ q
theorem pts_imp {t u : TT} (h : PTs X ifs t) (k : ∀ σ H Q, u σ H Q → t σ H Q) : PTs X ifs u := ⟨fun pins s σ H Q I q => h.run pins s σ H Q I (k σ H Q q)⟩
theorem sts_nil : PTs X [] (tDB X.K C (.c (.bl true))) := pts_imp pts_nil fun σ H Q ⟨ρ, S, env, hS, hE, h⟩ => by
  obtain ⟨b, e, q⟩ := (show LB X.K Q ρ H (.bl true) S from h)
  cases e
  exact q H ρ List.prefix_rfl Ex.refl hS
theorem comp_go {σ : L2.St} {H : Hp} {Q : VK} (hsl : sl ∈ own.map (·.2)) (h : tD X.K C (.comp ie sl (own.map (·.2)) k ies ic) σ H Q) :
    tLc (tDI X.K C k ies) (gName sl) (tDB X.K C ic) (tD X.K C ie) (own.map (·.2)) σ H Q := by
  obtain ⟨ρ, S, env, hS, hE, h⟩ := h
  replace h := wpx_bind.mp h
  refine ⟨ρ, S, env, hS, hE, wpx_bind.mpr (wp_mono h fun ds S1 h1 => wp_mono (wpx_bind.mp h1) fun J S2 h2 H1 ρ1 T p1 e1 s1 it1 D hD => ?_)⟩
  have al := s1.alloc (p := D) (xs := []) (vs := []) hD .nil
  have exD := ex_new (K := X.K) (o := .lst []) hD
  have ED := (hE.mono p1 e1).mono (List.prefix_append ρ1 [D]) exD
  have itD := it1.mono (List.prefix_append ρ1 [D]) exD
  have hlen : S2.length = ρ1.length := s1.len.symm
  have atD : ∀ {ρ' : List Addr}, ρ1 ++ [D] <+: ρ' → ρ'[S2.length]? = some D := fun p => pre_get p (by rw [hlen]; simp)
  refine ⟨fun i m H' => ∃ ρ' S', ρ1 ++ [D] <+: ρ' ∧ Ex X.K (upd H1 D (.lst [])) H' ∧ SR X.K H' ρ' S' ∧ wp (compF J (putD sl) (evE C ic) (evE C ie) (wipeD env (own.map (·.2))) S2.length m i) (LQ X.K Q ρ' H') S',
    ⟨FUEL, ρ1 ++ [D], _, List.prefix_rfl, Ex.refl, al, wp_mono h2 fun _ _ q => (q.later p1 e1).later (List.prefix_append _ _) exD⟩, ?_⟩
  rintro i m H' ⟨ρ', S', p', e', s', h3⟩
  cases m with
  | zero => exact h3.elim
  | succ f =>
    unfold compF at h3
    replace h3 := wpx_bind.mp h3
    obtain ⟨o, eo, h3⟩ := wp_itAt.mp h3
    have it' := itD.mono p' e'
    cases o with
    | none => exact .inl ⟨it_stop it' s' eo, LQ.here h3 s' (by unfold Rp; exact ⟨D, atD p', rfl⟩)⟩
    | some d =>
      obtain ⟨go, yl⟩ := it_item it' s' eo
      refine .inr ⟨go, fun H' => ∃ ρ' S', ρ1 ++ [D] <+: ρ' ∧ Ex X.K (upd H1 D (.lst [])) H' ∧ SR X.K H' ρ' S' ∧ wp (compF J (putD sl) (evE C ic) (evE C ie) (wipeD env (own.map (·.2))) S2.length f (i + 1)) (LQ X.K Q ρ' H') S', fun H2 q => ⟨f, Nat.lt_succ_self f, q⟩, fun x H2 y => ?_⟩
      obtain ⟨rfl, rd⟩ := yl x H2 y
      refine ⟨wipe_set hsl, ?_⟩
      have E2 : EnvR X.K H2 ρ' (putD sl d (wipeD env (own.map (·.2)))) ((wipe σ (own.map (·.2))).set sl (some x)) := by
        have := ((ED.mono p' e').wipe (own.map (·.2))).set rd sl
        exact this
      replace h3 := wpx_bind.mp h3
      refine tDB_of s' E2 h3 fun b S4 h4 => ?_
      replace h4 := wpx_bind.mp h4
      obtain ⟨c, rfl, h4⟩ := wp_asB.mp h4
      refine ⟨c, rfl, fun H4 ρ4 p4 e4 s4 E4 => ?_⟩
      cases c with
      | false =>
        rw [if_neg Bool.false_ne_true]
        exact ⟨ρ4, S4, p'.trans p4, e'.trans e4, s4, wp_mono h4 fun _ _ q => q.later p4 e4⟩
      | true =>
        rw [if_pos rfl]
        replace h4 := wpx_bind.mp h4
        refine tD_of s4 E4 h4 fun yv S5 v H5 ρ5 h5 p5 e5 s5 E5 r5 => ?_
        replace h5 := wpx_bind.mp h5
        obtain ⟨acc, ha, h5⟩ := wp_owL.mp h5
        simp only [wpx_bind, wpx_guard, decide_eq_true_eq] at h5
        obtain ⟨hz, h5⟩ := h5
        have h5 := wp_wrL.mp h5
        have hp5 := atD ((p'.trans p4).trans p5)
        obtain ⟨vs, hD5, hr5⟩ := s5.cell _ _ _ ha hp5
        refine ⟨vs, hD5, by rw [← hr5.length]; exact hz, ρ5, _, (p'.trans p4).trans p5, ((e'.trans e4).trans e5).trans (ex_put hD5), s5.put ha hp5 hD5 (hr5.append (.cons r5 .nil)), wp_mono h5 fun _ _ q => ((q.later p4 e4).later p5 e5).later List.prefix_rfl (ex_put hD5)⟩
def notSet : Expr → Bool
  | .Set _ _ _ => false
  | _ => true
theorem notSet_ok {env : PySem.Env} (h : notSet iter = true) : ∀ x, foldedSetIterable iter env x = pure x := by
  intro x
  cases iter <;> first | rfl | cases h
theorem se_comp (G : Good X C sc N names) (hi : PI X (.Name x tpos) iter (tDI X.K C k ies)) (ok : blkC N sc scope own = true) (hsl : sl ∈ own.map (·.2)) (hN : N[sl]? = some x) (hx : isLoc scope x = true) (hset : notSet iter = true)
    (ht : ∀ (s : Shared) (H : Hp) (A : Addr) (cl : List (Str × Addr)) (fp : List Addr), PTs (X.blk s H scope (compEnvC scope cl A X.env) fp) ifs (tDB X.K C ic))
    (he : ∀ (s : Shared) (H : Hp) (A : Addr) (cl : List (Str × Addr)) (fp : List Addr), PE (X.blk s H scope (compEnvC scope cl A X.env) fp) elt (tD X.K C ie)) :
    PE X (.ListComp elt [⟨.Name x tpos, iter, ifs, 0⟩] scope pos) (tD X.K C (.comp ie sl (own.map (·.2)) k ies ic)) := by
  have B := G.blkOk ok
  refine pe_imp (pe_lc (g := gName sl) G.calm (by rw [G.N_eq]; exact G.nd) hi B (fun s H A cl fp => ?_) ht he (notSet_ok hset)) fun σ H Q h => comp_go hsl h
  have G' := G.blk B.kind s H A cl fp
  obtain ⟨h1, h2⟩ := G'.lo hx
  exact pg_name (by rw [G.N_eq]; exact G.nd) (by rw [G.N_eq]; exact hN) h1 h2
/-! ### statements -/
def LS (K : PySem.W.Frag) (D : Ends) (ρ : List Addr) (H : Hp) : Flow × Nv → Store → Prop := fun r S => ∀ H' ρ', ρ <+: ρ' → Ex K H H' → SR K H' ρ' S → match r.1 with
  | .nx => ∀ σ, EnvR K H' ρ' r.2 σ → D.nx σ H'
  | .bk => ∀ σ, EnvR K H' ρ' r.2 σ → D.bk σ H'
  | .ct => ∀ σ, EnvR K H' ρ' r.2 σ → D.ct σ H'
  | .rt d => ∀ v, Rp K H' ρ' d v → D.rt v H'
theorem LS.later {K : PySem.W.Frag} {D : Ends} {ρ ρ' : List Addr} {H H' : Hp} {r : Flow × Nv} {S : Store} (h : LS K D ρ H r S) (p : ρ <+: ρ') (e : Ex K H H') : LS K D ρ' H' r S := fun H2 ρ2 p2 e2 => h H2 ρ2 (p.trans p2) (e.trans e2)
def tDS (K : PySem.W.Frag) (C : Ctx) (ir : Sm) : TS := fun D σ H => ∃ ρ S env, SR K H ρ S ∧ EnvR K H ρ env σ ∧ wp (evS C ir env) (LS K D ρ H) S
def tDSs (K : PySem.W.Frag) (C : Ctx) (ir : Sms) : TS := fun D σ H => ∃ ρ S env, SR K H ρ S ∧ EnvR K H ρ env σ ∧ wp (evSs C ir env) (LS K D ρ H) S
variable {st : Stmt} {sts : List Stmt} {is : Sm} {iss iss2 : Sms} {e tg c : Expr} {b1 b2 : List Stmt} {pt : Pat}
theorem ss_nil : PSs X [] (tDSs X.K C .nil) := pss_imp pss_nil fun D σ H ⟨ρ, S, env, hS, hE, h⟩ => h H ρ List.prefix_rfl Ex.refl hS σ hE
theorem ss_cons (h1 : PS X st (tDS X.K C is)) (h2 : PSs X sts (tDSs X.K C iss)) : PSs X (st :: sts) (tDSs X.K C (.cons is iss)) :=
  pss_imp (pss_cons h1 h2) fun D σ H ⟨ρ, S, env, hS, hE, h⟩ => by
    replace h := wpx_bind.mp h
    refine ⟨ρ, S, env, hS, hE, wp_mono h fun r S1 q H1 ρ1 p1 e1 s1 => ?_⟩
    obtain ⟨fl, env1⟩ := r
    cases fl with
    | nx => exact fun σ1 E1 => ⟨ρ1, S1, env1, s1, E1, wp_mono q fun _ _ z => z.later p1 e1⟩
    | bk => exact q H1 ρ1 p1 e1 s1
    | ct => exact q H1 ρ1 p1 e1 s1
    | rt d => exact q H1 ρ1 p1 e1 s1
def isComp : Expr → Bool
  | .ListComp _ _ _ _ => true
  | .SetComp _ _ _ _ => true
  | .DictComp _ _ _ _ _ => true
  | _ => false
theorem sw_no {e : Expr} {t : Option Expr} {l : Nat} {env : PySem.Env} (h : isComp e = false) : swapsWith e t l env = pure false := by
  cases e <;> first | rfl | cases h
theorem ss_expr (he : PE X e (tD X.K C ie)) (hc : isComp e = false) : PS X (.Expr e pos) (tDS X.K C (.expr ie)) :=
  ps_imp (ps_expr he (sw_no hc)) fun D σ H ⟨ρ, S, env, hS, hE, h⟩ => by
    replace h := wpx_bind.mp h
    exact tD_of hS hE h fun d S1 v H1 ρ1 q p1 e1 s1 E1 r1 => q H1 ρ1 p1 e1 s1 σ E1
theorem ss_ret (he : PE X e (tD X.K C ie)) : PS X (.Return (some e) pos) (tDS X.K C (.ret ie)) :=
  ps_imp (ps_ret he) fun D σ H ⟨ρ, S, env, hS, hE, h⟩ => by
    replace h := wpx_bind.mp h
    exact tD_of hS hE h fun d S1 v H1 ρ1 q p1 e1 s1 E1 r1 => q H1 ρ1 p1 e1 s1 v r1
theorem ss_retN : PS X (.Return none pos) (tDS X.K C (.ret (.c .non))) :=
  ps_imp ps_retN fun D σ H ⟨ρ, S, env, hS, hE, h⟩ => h H ρ List.prefix_rfl Ex.refl hS .non .non
theorem ss_pass : PS X (.Pass pos) (tDS X.K C .pass) := ps_imp ps_pass fun D σ H ⟨ρ, S, env, hS, hE, h⟩ => h H ρ List.prefix_rfl Ex.refl hS σ hE
theorem ss_brk : PS X (.Break pos) (tDS X.K C .brk) := ps_imp ps_break fun D σ H ⟨ρ, S, env, hS, hE, h⟩ => h H ρ List.prefix_rfl Ex.refl hS σ hE
theorem ss_cnt : PS X (.Continue pos) (tDS X.K C .cnt) := ps_imp ps_continue fun D σ H ⟨ρ, S, env, hS, hE, h⟩ => h H ρ List.prefix_rfl Ex.refl hS σ hE
theorem ss_if (hc : PT X c (tDB X.K C ic)) (h1 : PSs X b1 (tDSs X.K C iss)) (h2 : PSs X b2 (tDSs X.K C iss2)) : PS X (.If c b1 b2 pos) (tDS X.K C (.ife ic iss iss2)) :=
  ps_imp (ps_if hc h1 h2) fun D σ H ⟨ρ, S, env, hS, hE, h⟩ => by
    replace h := wpx_bind.mp h
    refine tDB_of hS hE h fun d S1 q => ?_
    replace q := wpx_bind.mp q
    obtain ⟨k, rfl, q⟩ := wp_asB.mp q
    refine ⟨k, rfl, fun H1 ρ1 p1 e1 s1 E1 => ?_⟩
    cases k with
    | true => rw [if_pos rfl]; exact ⟨ρ1, S1, env, s1, E1, wp_mono q fun _ _ z => z.later p1 e1⟩
    | false => rw [if_neg Bool.false_ne_true]; exact ⟨ρ1, S1, env, s1, E1, wp_mono q fun _ _ z => z.later p1 e1⟩
theorem ss_while (hp : X.xe = fun _ _ => False) (hc : PT X c (tDB X.K C ic)) (h1 : PSs X b1 (tDSs X.K C iss)) : PS X (.While c b1 [] pos) (tDS X.K C (.whl ic iss)) :=
  ps_imp (ps_while (by rw [hp]; exact PassesOwn.never) hc h1) fun D σ H ⟨ρ, S, env, hS, hE, h⟩ => by
    refine ⟨fun m σ' H' => ∃ ρ' S' env', SR X.K H' ρ' S' ∧ EnvR X.K H' ρ' env' σ' ∧ wp (whileF (evE C ic) (evSs C iss) m env') (LS X.K D ρ' H') S', ⟨FUEL, ρ, S, env, hS, hE, h⟩, ?_⟩
    rintro m σ' H' ⟨ρ', S', env', s', E', h'⟩
    cases m with
    | zero => exact h'.elim
    | succ f =>
      unfold whileF at h'
      replace h' := wpx_bind.mp h'
      refine tDB_of s' E' h' fun d S1 q => ?_
      replace q := wpx_bind.mp q
      obtain ⟨k, rfl, q⟩ := wp_asB.mp q
      refine ⟨k, rfl, fun H1 ρ1 p1 e1 s1 E1 => ?_⟩
      cases k with
      | false =>
        rw [if_neg Bool.false_ne_true]
        exact (show LS X.K D ρ' H' (.nx, env') S1 from q) H1 ρ1 p1 e1 s1 σ' E1
      | true =>
        rw [if_pos rfl]
        replace q := wpx_bind.mp q
        refine ⟨fun σ2 H2 => ∃ ρ' S' env', SR X.K H2 ρ' S' ∧ EnvR X.K H2 ρ' env' σ2 ∧ wp (whileF (evE C ic) (evSs C iss) f env') (LS X.K D ρ' H2) S', fun σ2 H2 z => ⟨f, Nat.lt_succ_self f, z⟩, ρ1, S1, env', s1, E1, wp_mono q fun r S2 z H2 ρ2 p2 e2 s2 => ?_⟩
        obtain ⟨fl, env2⟩ := r
        cases fl with
        | nx => exact fun σ2 E2 => ⟨ρ2, S2, env2, s2, E2, wp_mono z fun _ _ y => (y.later p1 e1).later p2 e2⟩
        | ct => exact fun σ2 E2 => ⟨ρ2, S2, env2, s2, E2, wp_mono z fun _ _ y => (y.later p1 e1).later p2 e2⟩
        | bk => exact fun σ2 E2 => (LS.later (show LS X.K D ρ' H' (.nx, env2) S2 from z) p1 e1) H2 ρ2 p2 e2 s2 σ2 E2
        | rt d => exact fun v r => (LS.later (show LS X.K D ρ' H' (.rt d, env2) S2 from z) p1 e1) H2 ρ2 p2 e2 s2 v r
theorem ss_for (G : Good X C sc N names) (hp : X.xe = fun _ _ => False) (hi : PI X tg iter (tDI X.K C k ies)) (hg : PG X tg (tDG X.K C pt)) (h1 : PSs X b1 (tDSs X.K C iss)) (hset : notSet iter = true) : PS X (.For tg iter b1 [] pos) (tDS X.K C (.fr pt k ies iss)) :=
  ps_imp (ps_for (by rw [hp]; exact PassesOwn.never) G.calm hi hg h1 (notSet_ok hset)) fun D σ H ⟨ρ, S, env, hS, hE, h⟩ => by
    replace h := wpx_bind.mp h
    refine ⟨ρ, S, env, hS, hE, wpx_bind.mpr (wp_mono h fun ds S1 q => wp_mono (wpx_bind.mp q) fun J S2 q2 H1 ρ1 T p1 e1 s1 it1 => ?_)⟩
    refine ⟨fun i m σ' H' => ∃ ρ' S' env', ρ1 <+: ρ' ∧ Ex X.K H1 H' ∧ SR X.K H' ρ' S' ∧ EnvR X.K H' ρ' env' σ' ∧ wp (forF J (evP C pt) (evSs C iss) m i env') (LS X.K D ρ' H') S',
      ⟨FUEL, ρ1, S2, env, List.prefix_rfl, Ex.refl, s1, hE.mono p1 e1, wp_mono q2 fun _ _ z => z.later p1 e1⟩, ?_⟩
    rintro i m σ' H' ⟨ρ', S', env', p', e', s', E', h'⟩
    cases m with
    | zero => exact h'.elim
    | succ f =>
      unfold forF at h'
      replace h' := wpx_bind.mp h'
      obtain ⟨o, eo, h'⟩ := wp_itAt.mp h'
      have it' := it1.mono p' e'
      cases o with
      | none => exact .inl ⟨it_stop it' s' eo, (show LS X.K D ρ' H' (.nx, env') S' from h') H' ρ' List.prefix_rfl Ex.refl s' σ' E'⟩
      | some d =>
        obtain ⟨go, yl⟩ := it_item it' s' eo
        refine .inr ⟨go, fun σ2 H2 => ∃ ρ' S' env', ρ1 <+: ρ' ∧ Ex X.K H1 H2 ∧ SR X.K H2 ρ' S' ∧ EnvR X.K H2 ρ' env' σ2 ∧ wp (forF J (evP C pt) (evSs C iss) f (i + 1) env') (LS X.K D ρ' H2) S', fun σ2 H2 z => ⟨f, Nat.lt_succ_self f, z⟩, fun x H2 y => ?_⟩
        obtain ⟨rfl, rd⟩ := yl x H2 y
        replace h' := wpx_bind.mp h'
        refine ⟨ρ', S', env', d, s', E', rd, wp_mono h' fun env3 S3 z σ3 H3 ρ3 p3 e3 s3 E3 => ?_⟩
        replace z := wpx_bind.mp z
        refine ⟨ρ3, S3, env3, s3, E3, wp_mono z fun r S4 z H4 ρ4 p4 e4 s4 => ?_⟩
        obtain ⟨fl, env4⟩ := r
        cases fl with
        | nx => exact fun σ4 E4 => ⟨ρ4, S4, env4, (p'.trans p3).trans p4, (e'.trans e3).trans e4, s4, E4, wp_mono z fun _ _ y => (y.later p3 e3).later p4 e4⟩
        | ct => exact fun σ4 E4 => ⟨ρ4, S4, env4, (p'.trans p3).trans p4, (e'.trans e3).trans e4, s4, E4, wp_mono z fun _ _ y => (y.later p3 e3).later p4 e4⟩
        | bk => exact fun σ4 E4 => (LS.later (show LS X.K D ρ' H2 (.nx, env4) S4 from z) p3 e3) H4 ρ4 p4 e4 s4 σ4 E4
        | rt d => exact fun v r => (LS.later (show LS X.K D ρ' H2 (.rt d, env4) S4 from z) p3 e3) H4 ρ4 p4 e4 s4 v r
theorem set_go {σ : L2.St} {H : Hp} {D : Ends} (h : tDS X.K C (.set pt ie) D σ H) : tAsg (tD X.K C ie) (tDG X.K C pt) D σ H := by
  obtain ⟨ρ, S, env, hS, hE, h⟩ := h
  replace h := wpx_bind.mp h
  refine tD_of hS hE h fun d S1 v H1 ρ1 q p1 e1 s1 E1 r1 => ?_
  replace q := wpx_bind.mp q
  exact ⟨ρ1, S1, env, d, s1, E1, r1, wp_mono q fun env2 S2 z σ2 H2 ρ2 p2 e2 s2 E2 => (LS.later (show LS X.K D ρ H (.nx, env2) S2 from z) p1 e1) H2 ρ2 p2 e2 s2 σ2 E2⟩
/-- is the pair of targets stored from the right -/
def swapFree : Expr → Expr → Bool
  | .Tuple ts _ _, .Tuple _ _ _ => ts.all fun t => match t with
    | .Subscript _ _ _ => true
    | _ => false
  | .List _ _, .Tuple _ _ _ => false
  | _, _ => true
theorem swapped_no {env : PySem.Env} (h : swapFree tg e = true) : swappedStores [tg] e env = pure none := by
  cases tg with
  | Tuple ts k p =>
    cases e with
    | Tuple vs k2 p2 =>
      have h : (ts.all fun t => match t with | .Subscript _ _ _ => true | _ => false) = true := h
      unfold swappedStores
      simp only [pure_bind]
      split
      · rfl
      · rename_i h1
        split
        · rfl
        · split
          · rfl
          · rename_i h2
            refine absurd ?_ h2
            rw [List.filterMap_eq_nil_iff.mpr (by
              intro t ht
              have := List.all_eq_true.mp h t ht
              cases t <;> first | rfl | (simp at this))]
            simp at h1 ⊢
            omega
    | _ => rfl
  | List ts p =>
    cases e with
    | Tuple vs k2 p2 => cases h
    | _ => rfl
  | _ => cases e <;> rfl
theorem ss_set (G : Good X C sc N names) (he : PE X e (tD X.K C ie)) (hg : PG X tg (tDG X.K C pt)) (hc : isComp e = false) (hs : notStar tg = true) (hw : swapFree tg e = true) : PS X (.Assign [tg] e pos) (tDS X.K C (.set pt ie)) :=
  ps_imp (ps_asg he hg (sw_no hc) (swapped_no hw) (by rw [each_one hs]; rfl)) fun D σ H h => set_go h
/-- name = [..] -/
theorem ss_setC (G : Good X C sc N names) (hi : PI X (.Name x tpos) iter (tDI X.K C k ies)) (ok : blkC N sc scope own = true) (hsl : sl ∈ own.map (·.2)) (hN : N[sl]? = some x) (hx : isLoc scope x = true) (hset : notSet iter = true)
    (ht : ∀ (s : Shared) (H : Hp) (A : Addr) (cl : List (Str × Addr)) (fp : List Addr), PTs (X.blk s H scope (compEnvC scope cl A X.env) fp) ifs (tDB X.K C ic))
    (he : ∀ (s : Shared) (H : Hp) (A : Addr) (cl : List (Str × Addr)) (fp : List Addr), PE (X.blk s H scope (compEnvC scope cl A X.env) fp) elt (tD X.K C ie))
    (hy : N[i]? = some y) (hyl : sc.names.lookup y = some .local) (hl : (py'.line == pos.line) = true) (ha : (scope.names.any fun (n, k) => n == y && (k == .local || k == .cell)) = false) :
    PS X (.Assign [.Name y py'] (.ListComp elt [⟨.Name x tpos, iter, ifs, 0⟩] scope pos) spos) (tDS X.K C (.set (.nm i) (.comp ie sl (own.map (·.2)) k ies ic))) := by
  have B := G.blkOk ok
  have hyl' := G.lcl _ hyl
  refine ps_imp (ps_setLc (i := i) (g := gName sl) G.calm (by rw [G.N_eq]; exact G.nd) (by rw [G.N_eq]; exact hy) hyl' (sw_true G.kind hyl' hl ha) hi B (fun s H A cl fp => ?_) ht he (notSet_ok hset)) fun D σ H ⟨ρ, S, env, hS, hE, h⟩ => ?_
  · have G' := G.blk B.kind s H A cl fp
    obtain ⟨h1, h2⟩ := G'.lo hx
    exact pg_name (by rw [G.N_eq]; exact G.nd) (by rw [G.N_eq]; exact hN) h1 h2
  · replace h := wpx_bind.mp h
    refine comp_go hsl (tD_of hS hE h fun d S1 v H1 ρ1 q p1 e1 s1 E1 r1 => ?_)
    exact q H1 ρ1 p1 e1 s1 _ (E1.set r1 i)
theorem ss_aug {op : Operator} {o : BOp} (G : Good X C sc N names) (ho : opOf op = some o) (hN : N[i]? = some x) (hx : isLoc sc x = true) (he : PE X e (tD X.K C ie)) : PS X (.AugAssign (.Name x tpos) op e pos) (tDS X.K C (.aug i o ie)) := by
  obtain ⟨h1, h2⟩ := G.lo hx
  have hop : PIp X op (fun x y H Q => ∃ ρ S d e, SR X.K H ρ S ∧ Rp X.K H ρ d x ∧ Rp X.K H ρ e y ∧ wp (augop o d e) (LQ X.K Q ρ H) S) := by
    intro pins s σ H x y v u Q I rx ry ⟨ρ, S, d, e, hS, hd, he, h⟩
    cases d with
    | int i => cases e with
      | int j =>
        cases hd.intE; cases he.intE
        cases op <;> cases ho <;> first | exact False.elim h | skip
        · exact iop_add pins s σ H _ _ v u Q I rx ry ⟨i, j, rfl, rfl, LQ.here h hS .int⟩
        · exact iop_sub pins s σ H _ _ v u Q I rx ry ⟨i, j, rfl, rfl, LQ.here h hS .int⟩
      | _ => cases o <;> exact False.elim h
    | str i => cases e with
      | str j =>
        cases hd.strE; cases he.strE
        cases op <;> cases ho <;> first | exact False.elim h | skip
        unfold augop at h
        simp only [wpx_bind, wpx_guard, wpx_ret, ok2, decide_eq_true_eq] at h
        exact iop_add_str pins s σ H _ _ v u Q I rx ry ⟨i, j, rfl, rfl, h.1, LQ.here h.2 hS .str⟩
      | _ => cases o <;> exact False.elim h
    | _ => cases o <;> exact False.elim h
  refine ps_imp (ps_aug (by rw [G.N_eq]; exact G.nd) (by rw [G.N_eq]; exact hN) h1 he hop h2) fun D σ H ⟨ρ, S, env, hS, hE, h⟩ => ?_
  unfold evS at h
  cases q : env[i]? with
  | none => simp only [q] at h; exact h.elim
  | some od =>
    cases od with
    | none => simp only [q] at h; exact h.elim
    | some d =>
      simp only [q] at h
      obtain ⟨v, h3, r⟩ := hE.val i d q
      refine ⟨v, h3, ?_⟩
      replace h := wpx_bind.mp h
      refine tD_of hS hE h fun d2 S1 v1 H1 ρ1 z p1 e1 s1 E1 r1 => ?_
      replace z := wpx_bind.mp z
      exact ⟨ρ1, S1, d, d2, s1, r.mono p1 e1, r1, wp_mono z fun d3 S2 y v3 H3 ρ3 p3 e3 s3 r3 => (LS.later (show LS X.K D ρ H (.nx, env.set i (some d3)) S2 from y) p1 e1) H3 ρ3 p3 e3 s3 _ ((E1.mono p3 e3).set r3 i)⟩
theorem ss_doc {z : Str} {j : Nat} {p2 : Pos} : PS X (.Expr (.Constant (.str z) j pos) p2) (tDS X.K C .pass) := ps_imp ps_doc fun D σ H ⟨ρ, S, env, hS, hE, h⟩ => h H ρ List.prefix_rfl Ex.refl hS σ hE
end
end Mn
/-! Mn, part 12: from the text to the evaluator's terms, and that this is sound. -/
namespace Mn
open PySem PySem.Spec PyProof.Rows L2
structure Tab where
  N : List Str
  names : List Str
  glob : Str → Option D
def slotOf (N : List Str) (x : Str) : Option Nat :=
  match N.findIdx? (fun y => decide (y = x)) with
  | some i => if N[i]? = some x then some i else none
  | none => none
theorem slot_ok {N : List Str} {x : Str} {i : Nat} (h : slotOf N x = some i) : N[i]? = some x := by
  unfold slotOf at h
  split at h
  · split at h
    · rename_i q; cases h; exact q
    · cases h
  · cases h
def req (c : Bool) : Option Unit := match c with
  | true => some ()
  | false => none
theorem req_some {c : Bool} {u : Unit} (h : req c = some u) : c = true := by cases c <;> first | rfl | cases h
def plainTest : Expr → Bool
  | .UnaryOp .Not _ _ => false
  | .BoolOp _ _ _ => false
  | .IfExp _ _ _ _ => false
  | .Compare _ _ _ _ => false
  | _ => true
theorem plainTest_ok {a : Expr} {env : PySem.Env} (h : plainTest a = true) : ∀ whole, isTrue a env whole = (do let v ← whole; standAt a.pos; holding [v] (truthy v)) := by
  intro whole
  cases a with
  | UnaryOp op x p => cases op <;> first | rfl | cases h
  | BoolOp _ _ _ => cases h
  | IfExp _ _ _ _ => cases h
  | Compare _ _ _ _ => cases h
  | _ => rfl
def okDbg (x : Str) : Bool := !(x == ("__debug__" : Str)) && !(x == ("__classdict__" : Str))
theorem okDbg_1 {x : Str} (h : okDbg x = true) : (x == ("__debug__" : Str)) = false := by
  unfold okDbg at h
  rw [Bool.and_eq_true] at h
  simpa using h.1
theorem okDbg_2 {x : Str} (h : okDbg x = true) : (x == ("__classdict__" : Str)) = false := by
  unfold okDbg at h
  rw [Bool.and_eq_true] at h
  simpa using h.2
/-- the places of a block's own names -/
def ownOf (N : List Str) (scope : Scope) : List (Str × Nat) := scope.names.filterMap fun (y, k) => match k with
  | .local => (slotOf N y).map (y, ·)
  | .cell => (slotOf N y).map (y, ·)
  | _ => none
def coName (T : Tab) (sc : Scope) (x : Str) : Option E :=
  if isVis sc x && okDbg x then (slotOf T.N x).map E.v
  else if isGl sc x && okDbg x && (T.glob x).isSome then some (.g x) else none
def coConst : Const → Option E
  | .none => some (.c .non)
  | .bool b => some (.c (.bl b))
  | .int i => some (.c (.int i))
  | .str s => some (.c (.str s))
  | _ => none
def callOf : Expr → Option (Str × List Expr)
  | .Call (.Name f _) es [] _ => some (f, es)
  | _ => none
theorem callOf_ok {e : Expr} {f : Str} {es : List Expr} (h : callOf e = some (f, es)) : ∃ p q, e = .Call (.Name f p) es [] q := by
  unfold callOf at h
  split at h
  · cases h; exact ⟨_, _, rfl⟩
  · cases h
mutual
def coE (T : Tab) : Nat → Scope → Expr → Option E
  | 0, _, _ => none
  | n + 1, sc, e => match e with
    | .Name x _ => coName T sc x
    | .Constant c _ _ => coConst c
    | .BinOp a op b _ => do
      let o ← opOf op
      let x ← coE T n sc a
      let y ← coE T n sc b
      pure (.bin o x y)
    | .UnaryOp .USub a _ => (coE T n sc a).map E.neg
    | .UnaryOp .Not a _ => (coE T n sc a).map fun x => .not (.tr x)
    | .Compare a [op] [b] _ => do
      let o ← cmpOf op
      let x ← coE T n sc a
      let y ← coE T n sc b
      let _ ← req (!behindInMarks op b)
      pure (.cmp o x y)
    | .Compare a [op, op2] [b, c] _ => do
      let o ← cmpOf op
      let o2 ← cmpOf op2
      let x ← coE T n sc a
      let y ← coE T n sc b
      let z ← coE T n sc c
      let _ ← req (!lastMarks [op, op2] [b, c])
      pure (.cmp3 o o2 x y z)
    | .BoolOp op es _ => coV T n sc op es
    | .IfExp c a b _ => do
      let z ← coT T n sc c
      let x ← coE T n sc a
      let y ← coE T n sc b
      pure (.ite z x y)
    | .Tuple es _ _ => (coEs T n sc es).map E.tup
    | .List es _ => (coEs T n sc es).map E.lst
    | .Subscript a (.Slice lo hi none _) _ => do
      let x ← coE T n sc a
      match lo, hi with
      | none, none => pure (.slc0 x)
      | some l, none => do
        let y ← coE T n sc l
        pure (.slcL x y)
      | none, some h => do
        let z ← coE T n sc h
        pure (.slcH x z)
      | some l, some h => do
        let y ← coE T n sc l
        let z ← coE T n sc h
        pure (.slcB x y z)
    | .Subscript a b _ => do
      let x ← coE T n sc a
      let y ← coE T n sc b
      let _ ← req (plainIx b)
      pure (.idx x y)
    | .Call (.Name f _) es [] _ => coCall T n sc f es
    | .Call (.Attribute o nm apos) es [] cpos => do
      let x ← coE T n sc o
      let bi ← mtOf nm es.length
      let ys ← coEs T n sc es
      let _ ← req (plainBase o && (apos.endLine == cpos.line) && decide (es.length < 30))
      pure (.meth bi x ys)
    | .ListComp elt [⟨.Name x _, iter, ifs, 0⟩] scope _ => coLc T n sc elt x iter ifs scope
    | _ => none
def coV (T : Tab) : Nat → Scope → BoolOp → List Expr → Option E
  | 0, _, _, _ => none
  | n + 1, sc, _, [a] => coE T n sc a
  | n + 1, sc, op, a :: b :: rest => do
    let x ← coE T n sc a
    let y ← coV T n sc op (b :: rest)
    match op with
    | .And => pure (.vand x y)
    | .Or => pure (.vor x y)
  | _ + 1, _, _, [] => none
def coW (T : Tab) : Nat → Scope → BoolOp → List Expr → Option E
  | 0, _, _, _ => none
  | n + 1, sc, _, [a] => coT T n sc a
  | n + 1, sc, op, a :: b :: rest => do
    let x ← coT T n sc a
    let y ← coW T n sc op (b :: rest)
    match op with
    | .And => pure (.and x y)
    | .Or => pure (.or x y)
  | _ + 1, _, _, [] => none
def coT (T : Tab) : Nat → Scope → Expr → Option E
  | 0, _, _ => none
  | n + 1, sc, e => match e with
    | .UnaryOp .Not a _ => (coT T n sc a).map E.not
    | .BoolOp op es _ => coW T n sc op es
    | .Compare a [op] [b] _ => do
      let o ← cmpOf op
      let x ← coE T n sc a
      let y ← coE T n sc b
      let _ ← req (!behindInMarks op b)
      pure (.cmp o x y)
    | .Compare a [op, op2] [b, c] _ => do
      let o ← cmpOf op
      let o2 ← cmpOf op2
      let x ← coE T n sc a
      let y ← coE T n sc b
      let z ← coE T n sc c
      let _ ← req (!lastMarks [op, op2] [b, c])
      pure (.cmp3 o o2 x y z)
    | e => do
      let x ← coE T n sc e
      let _ ← req (plainTest e)
      pure (.tr x)
def coEs (T : Tab) : Nat → Scope → List Expr → Option Es
  | 0, _, _ => none
  | _ + 1, _, [] => some .nil
  | n + 1, sc, a :: es => do
    let x ← coE T n sc a
    let ys ← coEs T n sc es
    let _ ← req (notStar a)
    pure (.cons x ys)
def coCall (T : Tab) : Nat → Scope → Str → List Expr → Option E
  | 0, _, _, _ => none
  | n + 1, sc, f, es => (req (isGl sc f && okDbg f)).bind fun _ =>
    if f ∈ T.names then (coEs T n sc es).map (E.call f)
    else if f = "isinstance" then coIsi T n sc es
    else match es with
      | [] => none
      | e :: r => (coEs T n sc (e :: r)).bind fun ys => match fnOf f (e :: r).length with
        | some bi => some (.bi bi ys)
        | none => (tyOf f (e :: r).length).map fun bi => .bi bi ys
def coIsi (T : Tab) : Nat → Scope → List Expr → Option E
  | 0, _, _ => none
  | n + 1, sc, es => match es with
    | [a, .Name t _] => do
      let bi ← isOf t
      let x ← coE T n sc a
      let _ ← req (isGl sc t && notStar a)
      pure (.bi bi (.cons x .nil))
    | _ => none
def coI (T : Tab) : Nat → Scope → Expr → Option (IK × Es)
  | 0, _, _ => none
  | n + 1, sc, e => match callOf e with
    | some (f, es) => if decide (f = "range") then (do
        let ys ← coEs T n sc es
        let _ ← req (isGl sc "range")
        match es with
        | [_] => pure (.rng1, ys)
        | [_, _] => pure (.rng2, ys)
        | [_, _, _] => pure (.rng3, ys)
        | _ => none)
      else if decide (f = "reversed") then (match es with
        | [a] => do
          let y ← coE T n sc a
          let _ ← req (isGl sc "reversed" && notStar a)
          pure (.rev, .cons y .nil)
        | _ => none)
      else (coE T n sc e).map fun y => (.seq, .cons y .nil)
    | none => (coE T n sc e).map fun y => (.seq, .cons y .nil)
def coLc (T : Tab) : Nat → Scope → Expr → Str → Expr → List Expr → Scope → Option E
  | 0, _, _, _, _, _, _ => none
  | n + 1, sc, elt, x, iter, ifs, scope => do
    let (k, ys) ← coI T n sc iter
    let sl ← slotOf T.N x
    let y ← coE T n scope elt
    let c ← (match ifs with
      | [] => some (.c (.bl true))
      | [c] => coT T n scope c
      | _ => none)
    let own := ownOf T.N scope
    let _ ← req (blkC T.N sc scope own && decide (sl ∈ own.map (·.2)) && isLoc scope x && notSet iter)
    pure (.comp y sl (own.map (·.2)) k ys c)
end
theorem Good.dbg {X : Cx} {C : Ctx} {sc : Scope} {N names : List Str} (G : Good X C sc N names) : True := trivial
theorem map_some {α β : Type} {o : Option α} {f : α → β} {b : β} (h : o.map f = some b) : ∃ a, o = some a ∧ f a = b := by
  cases o with
  | none => cases h
  | some a => exact ⟨a, rfl, Option.some.inj h⟩
structure Snd (T : Tab) (C : Ctx) (n : Nat) : Prop where
  e : ∀ X sc e ir, Good X C sc T.N T.names → coE T n sc e = some ir → PE X e (tD X.K C ir)
  v : ∀ X sc op es ir pos, Good X C sc T.N T.names → coV T n sc op es = some ir → PE X (.BoolOp op es pos) (tD X.K C ir)
  w : ∀ X sc op es ir pos, Good X C sc T.N T.names → coW T n sc op es = some ir → PW X (.BoolOp op es pos) (tDB X.K C ir)
  t : ∀ X sc e ir, Good X C sc T.N T.names → coT T n sc e = some ir → PT X e (tDB X.K C ir)
  a : ∀ X sc es ir, Good X C sc T.N T.names → coEs T n sc es = some ir → PA X es (tDA X.K C ir) ∧ es.all notStar = true
  f : ∀ X sc f es ir p pos, Good X C sc T.N T.names → coCall T n sc f es = some ir → PE X (.Call (.Name f p) es [] pos) (tD X.K C ir)
  s : ∀ X sc es ir p pos, Good X C sc T.N T.names → isGl sc "isinstance" = true → coIsi T n sc es = some ir → PE X (.Call (.Name "isinstance" p) es [] pos) (tD X.K C ir)
  i : ∀ X sc tg e k ir, Good X C sc T.N T.names → coI T n sc e = some (k, ir) → PI X tg e (tDI X.K C k ir)
  l : ∀ X sc elt x iter ifs scope ir, Good X C sc T.N T.names → coLc T n sc elt x iter ifs scope = some ir → ∃ ie sl k ies ic, ir = .comp ie sl ((ownOf T.N scope).map (·.2)) k ies ic ∧
    (∀ tpos, PI X (.Name x tpos) iter (tDI X.K C k ies)) ∧ blkC T.N sc scope (ownOf T.N scope) = true ∧ sl ∈ (ownOf T.N scope).map (·.2) ∧ T.N[sl]? = some x ∧ isLoc scope x = true ∧ notSet iter = true ∧
    (∀ (s : Shared) (H : Hp) (A : Addr) (cl : List (Str × Addr)) (fp : List Addr), PTs (X.blk s H scope (compEnvC scope cl A X.env) fp) ifs (tDB X.K C ic)) ∧
    (∀ (s : Shared) (H : Hp) (A : Addr) (cl : List (Str × Addr)) (fp : List Addr), PE (X.blk s H scope (compEnvC scope cl A X.env) fp) elt (tD X.K C ie))
theorem bnd {α β : Type} {o : Option α} {f : α → Option β} {b : β} (h : (o >>= f) = some b) : ∃ a, o = some a ∧ f a = some b := Option.bind_eq_some_iff.mp h
theorem not_true {b : Bool} (h : (!b) = true) : b = false := by cases b <;> first | rfl | cases h
theorem snd_e {T : Tab} {C : Ctx} {n : Nat} (hg : C.glob = T.glob) (I : Snd T C n) : ∀ X sc e ir, Good X C sc T.N T.names → coE T (n + 1) sc e = some ir → PE X e (tD X.K C ir) := by
  intro X sc e ir G h
  unfold coE at h
  split at h
  · rename_i x p
    unfold coName at h
    split at h
    · rename_i q
      rw [Bool.and_eq_true] at q
      obtain ⟨i, h1, rfl⟩ := map_some h
      exact se_var G (slot_ok h1) q.1 (okDbg_1 q.2) (okDbg_2 q.2)
    · split at h
      · rename_i q
        simp only [Bool.and_eq_true] at q
        cases h
        obtain ⟨d, hd⟩ := Option.isSome_iff_exists.mp q.2
        exact se_glob G q.1.1 (by rw [hg]; exact hd) (okDbg_1 q.1.2)
      · cases h
  · rename_i c k p
    unfold coConst at h
    split at h <;> cases h
    · exact se_non
    · exact se_bl
    · exact se_int
    · exact se_str
  · obtain ⟨o, h1, h⟩ := bnd h
    obtain ⟨x, h2, h⟩ := bnd h
    obtain ⟨y, h3, h⟩ := bnd h
    cases h
    exact se_bin h1 (I.e _ _ _ _ G h2) (I.e _ _ _ _ G h3)
  · obtain ⟨x, h1, rfl⟩ := map_some h
    exact se_neg (I.e _ _ _ _ G h1)
  · obtain ⟨x, h1, rfl⟩ := map_some h
    exact se_vnot (I.e _ _ _ _ G h1)
  · obtain ⟨o, h1, h⟩ := bnd h
    obtain ⟨x, h2, h⟩ := bnd h
    obtain ⟨y, h3, h⟩ := bnd h
    obtain ⟨u, h4, h⟩ := bnd h
    cases h
    exact se_cmp G h1 (I.e _ _ _ _ G h2) (I.e _ _ _ _ G h3) (not_true (req_some h4))
  · obtain ⟨o, h1, h⟩ := bnd h
    obtain ⟨o2, h2, h⟩ := bnd h
    obtain ⟨x, h3, h⟩ := bnd h
    obtain ⟨y, h4, h⟩ := bnd h
    obtain ⟨z, h5, h⟩ := bnd h
    obtain ⟨u, h6, h⟩ := bnd h
    cases h
    exact se_cmp3 G h1 h2 (I.e _ _ _ _ G h3) (I.e _ _ _ _ G h4) (I.e _ _ _ _ G h5) (not_true (req_some h6))
  · exact I.v _ _ _ _ _ _ G h
  · obtain ⟨z, h1, h⟩ := bnd h
    obtain ⟨x, h2, h⟩ := bnd h
    obtain ⟨y, h3, h⟩ := bnd h
    cases h
    exact se_ite (I.t _ _ _ _ G h1) (I.e _ _ _ _ G h2) (I.e _ _ _ _ G h3)
  · obtain ⟨x, h1, rfl⟩ := map_some h
    exact se_tup (I.a _ _ _ _ G h1).1
  · obtain ⟨x, h1, rfl⟩ := map_some h
    exact se_lst (I.a _ _ _ _ G h1).1
  · rename_i a lo hi p2 p
    obtain ⟨x, h1, h⟩ := bnd h
    have ha := I.e _ _ _ _ G h1
    split at h
    · cases h; exact se_slc0 ha
    · obtain ⟨y, h2, h⟩ := bnd h
      cases h; exact se_slcL ha (I.e _ _ _ _ G h2)
    · obtain ⟨y, h2, h⟩ := bnd h
      cases h; exact se_slcH ha (I.e _ _ _ _ G h2)
    · obtain ⟨y, h2, h⟩ := bnd h
      obtain ⟨z, h3, h⟩ := bnd h
      cases h; exact se_slcB ha (I.e _ _ _ _ G h2) (I.e _ _ _ _ G h3)
  · obtain ⟨x, h1, h⟩ := bnd h
    obtain ⟨y, h2, h⟩ := bnd h
    obtain ⟨u, h3, h⟩ := bnd h
    cases h
    exact se_idx (I.e _ _ _ _ G h1) (I.e _ _ _ _ G h2) (req_some h3)
  · exact I.f _ _ _ _ _ _ _ G h
  · rename_i o nm apos es cpos
    obtain ⟨x, h1, h⟩ := bnd h
    obtain ⟨bi, h2, h⟩ := bnd h
    obtain ⟨ys, h3, h⟩ := bnd h
    obtain ⟨u, h4, h⟩ := bnd h
    cases h
    have q := req_some h4
    simp only [Bool.and_eq_true, decide_eq_true_eq] at q
    obtain ⟨h5, h6⟩ := I.a _ _ _ _ G h3
    cases es with
    | nil =>
      have : ys = .nil := by
        cases n with
        | zero => cases h3
        | succ n => unfold coEs at h3; cases h3; rfl
      subst this
      exact se_meth0 h2 (I.e _ _ _ _ G h1) q.1.1 q.1.2
    | cons e es => exact se_meth h2 (I.e _ _ _ _ G h1) h5 h6 q.2 q.1.1 q.1.2
  · obtain ⟨ie, sl, k, ies, ic, rfl, h1, h2, h3, h4, h5, h6, h7, h8⟩ := I.l _ _ _ _ _ _ _ _ G h
    exact se_comp G (h1 _) h2 h3 h4 h5 h6 h7 h8
  · cases h
theorem snd_all {T : Tab} {C : Ctx} (hg : C.glob = T.glob) : ∀ n, Snd T C n
  | 0 => ⟨fun _ _ _ _ _ h => (by cases h), fun _ _ _ _ _ _ _ h => (by cases h), fun _ _ _ _ _ _ _ h => (by cases h), fun _ _ _ _ _ h => (by cases h), fun _ _ _ _ _ h => (by cases h), fun _ _ _ _ _ _ _ _ h => (by cases h), fun _ _ _ _ _ _ _ _ h => (by cases h), fun _ _ _ _ _ _ _ h => (by cases h), fun _ _ _ _ _ _ _ _ _ h => (by cases h)⟩
  | n + 1 => by
    have I := snd_all hg n
    refine ⟨snd_e hg I, ?_, ?_, ?_, ?_, ?_, ?_, ?_, ?_⟩
    · intro X sc op es ir pos G h
      unfold coV at h
      split at h
      · rename_i q; cases q
      · rename_i q; cases q; exact se_one (I.e _ _ _ _ G h)
      · rename_i q
        cases q
        obtain ⟨x, h1, h⟩ := bnd h
        obtain ⟨y, h2, h⟩ := bnd h
        split at h
        · cases h; exact se_vand (I.e _ _ _ _ G h1) (I.v _ _ _ _ _ _ G h2)
        · cases h; exact se_vor (I.e _ _ _ _ G h1) (I.v _ _ _ _ _ _ G h2)
      · cases h
    · intro X sc op es ir pos G h
      unfold coW at h
      split at h
      · rename_i q; cases q
      · rename_i q; cases q; exact sw_one (I.t _ _ _ _ G h)
      · rename_i q
        cases q
        obtain ⟨x, h1, h⟩ := bnd h
        obtain ⟨y, h2, h⟩ := bnd h
        split at h
        · cases h; exact sw_and (I.t _ _ _ _ G h1) (I.w _ _ _ _ _ _ G h2)
        · cases h; exact sw_or (I.t _ _ _ _ G h1) (I.w _ _ _ _ _ _ G h2)
      · cases h
    · intro X sc e ir G h
      unfold coT at h
      split at h
      · obtain ⟨x, h1, rfl⟩ := map_some h
        exact st_not (I.t _ _ _ _ G h1)
      · exact (I.w _ _ _ _ _ _ G h).pt
      · obtain ⟨o, h1, h⟩ := bnd h
        obtain ⟨x, h2, h⟩ := bnd h
        obtain ⟨y, h3, h⟩ := bnd h
        obtain ⟨u, h4, h⟩ := bnd h
        cases h
        exact st_cmp G h1 (I.e _ _ _ _ G h2) (I.e _ _ _ _ G h3) (not_true (req_some h4))
      · obtain ⟨o, h1, h⟩ := bnd h
        obtain ⟨o2, h2, h⟩ := bnd h
        obtain ⟨x, h3, h⟩ := bnd h
        obtain ⟨y, h4, h⟩ := bnd h
        obtain ⟨z, h5, h⟩ := bnd h
        obtain ⟨u, h6, h⟩ := bnd h
        cases h
        exact st_cmp3 G h1 h2 (I.e _ _ _ _ G h3) (I.e _ _ _ _ G h4) (I.e _ _ _ _ G h5) (not_true (req_some h6))
      · obtain ⟨x, h1, h⟩ := bnd h
        obtain ⟨u, h2, h⟩ := bnd h
        cases h
        exact st_tr (I.e _ _ _ _ G h1) (plainTest_ok (req_some h2))
    · intro X sc es ir G h
      unfold coEs at h
      split at h
      · rename_i q; cases q
      · cases h; exact ⟨sa_nil, rfl⟩
      · rename_i q
        cases q
        obtain ⟨x, h1, h⟩ := bnd h
        obtain ⟨ys, h2, h⟩ := bnd h
        obtain ⟨u, h3, h⟩ := bnd h
        cases h
        obtain ⟨h4, h5⟩ := I.a _ _ _ _ G h2
        have h3 := req_some h3
        exact ⟨sa_cons (I.e _ _ _ _ G h1) h4 h3, by rw [List.all_cons, h3, h5]; rfl⟩
    · intro X sc f es ir p pos G h
      unfold coCall at h
      obtain ⟨u, h1, h⟩ := bnd h
      have q := req_some h1
      rw [Bool.and_eq_true] at q
      by_cases hf : f ∈ T.names
      · rw [if_pos hf] at h
        obtain ⟨ys, h2, rfl⟩ := map_some h
        obtain ⟨h3, h4⟩ := I.a _ _ _ _ G h2
        have hc := G.fns f hf
        cases es with
        | nil =>
          have : ys = .nil := by
            cases n with
            | zero => cases h2
            | succ n => unfold coEs at h2; cases h2; rfl
          subst this
          exact se_call0 hc (G.glo q.1) (okDbg_1 q.2)
        | cons e es => exact se_call hc (G.glo q.1) h3 h4 (okDbg_1 q.2)
      · rw [if_neg hf] at h
        by_cases hi : f = "isinstance"
        · have h6 : coIsi T n sc es = some ir := by rw [if_pos hi] at h; exact h
          subst hi
          exact I.s _ _ _ _ _ _ G q.1 h6
        · rw [if_neg hi] at h
          cases es with
          | nil => cases h
          | cons e r =>
            obtain ⟨ys, h2, h⟩ := bnd h
            obtain ⟨h3, h4⟩ := I.a _ _ _ _ G h2
            cases hb : fnOf f (e :: r).length with
            | some bi =>
              rw [hb] at h
              cases h
              exact se_fn G hb q.1 h3 h4
            | none =>
              rw [hb] at h
              obtain ⟨bi, h5, rfl⟩ := map_some h
              exact se_tyf G h5 q.1 h3 h4
    · intro X sc es ir p pos G hg h
      unfold coIsi at h
      split at h
      · obtain ⟨bi, h2, h⟩ := bnd h
        obtain ⟨x, h3, h⟩ := bnd h
        obtain ⟨u, h4, h⟩ := bnd h
        cases h
        have q4 := req_some h4
        rw [Bool.and_eq_true] at q4
        exact se_isi G h2 hg q4.1 (I.e _ _ _ _ G h3) q4.2
      · cases h
    · intro X sc tg e k ir G h
      unfold coI at h
      split at h
      · rename_i f es hc
        obtain ⟨p, r, rfl⟩ := callOf_ok hc
        split at h
        · rename_i hf
          have hf : f = "range" := by simpa using hf
          subst hf
          obtain ⟨ys, h1, h⟩ := bnd h
          obtain ⟨u, h2, h⟩ := bnd h
          obtain ⟨h3, h4⟩ := I.a _ _ _ _ G h1
          split at h
          · cases h; exact si_rng1 G (req_some h2) h3 h4
          · cases h; exact si_rng2 G (req_some h2) h3 h4
          · cases h; exact si_rng3 G (req_some h2) h3 h4
          · cases h
        · split at h
          · rename_i hf
            have hf : f = "reversed" := by simpa using hf
            subst hf
            split at h
            · obtain ⟨y, h1, h⟩ := bnd h
              obtain ⟨u, h2, h⟩ := bnd h
              cases h
              have q := req_some h2
              rw [Bool.and_eq_true] at q
              exact si_rev G q.1 (I.e _ _ _ _ G h1) q.2
            · cases h
          · obtain ⟨y, h1, h2⟩ := map_some h
            cases h2
            exact si_seq (I.e _ _ _ _ G h1)
      · obtain ⟨y, h1, h2⟩ := map_some h
        cases h2
        exact si_seq (I.e _ _ _ _ G h1)
    · intro X sc elt x iter ifs scope ir G h
      unfold coLc at h
      obtain ⟨⟨k, ys⟩, h1, h⟩ := bnd h
      obtain ⟨sl, h2, h⟩ := bnd h
      obtain ⟨y, h3, h⟩ := bnd h
      obtain ⟨c, h4, h⟩ := bnd h
      obtain ⟨u, h5, h⟩ := bnd h
      cases h
      have q := req_some h5
      simp only [Bool.and_eq_true, decide_eq_true_eq] at q
      have hk := (blkOk_by q.1.1.1).kind
      refine ⟨y, sl, k, ys, c, rfl, fun tpos => I.i _ _ _ _ _ _ G h1, q.1.1.1, q.1.1.2, slot_ok h2, q.1.2, q.2, fun s H A cl fp => ?_, fun s H A cl fp => I.e _ _ _ _ (G.blk hk s H A cl fp) h3⟩
      split at h4
      · cases h4; exact sts_nil
      · exact pts_one (I.t _ _ _ _ (G.blk hk s H A cl fp) h4)
      · cases h4
/-! ### targets, statements -/
mutual
def coP (T : Tab) : Nat → Scope → Expr → Option Pat
  | 0, _, _ => none
  | n + 1, sc, e => match e with
    | .Name x _ => (req (isLoc sc x)).bind fun _ => (slotOf T.N x).map Pat.nm
    | .Tuple es _ _ => (coPs T n sc es).bind fun ps => (req (decide (es.length = patLen ps))).map fun _ => .tup ps
    | .Subscript a b _ => (coE T n sc a).bind fun x => (coE T n sc b).bind fun y => (req (plainIx b)).map fun _ => .sub x y
    | _ => none
def coPs (T : Tab) : Nat → Scope → List Expr → Option Pats
  | 0, _, _ => none
  | _ + 1, _, [] => some .nil
  | n + 1, sc, e :: es => (coP T n sc e).bind fun p => (coPs T n sc es).bind fun ps => (req (notStar e)).map fun _ => .cons p ps
end
/-- a name that gets a comprehension's list within the block -/
def lcOf (sc : Scope) (tg e : Expr) : Option (Str × Expr × Str × Expr × List Expr × Scope) := match tg, e with
  | .Name y py, .ListComp elt [⟨.Name x _, iter, ifs, 0⟩] scope pos =>
    if decide (sc.names.lookup y = some .local) && (py.line == pos.line) && !(scope.names.any fun (n, k) => n == y && (k == .local || k == .cell)) then some (y, elt, x, iter, ifs, scope) else none
  | _, _ => none
mutual
def coS (T : Tab) : Nat → Scope → Stmt → Option Sm
  | 0, _, _ => none
  | n + 1, sc, s => match s with
    | .Expr (.Constant (.str _) _ _) _ => some .pass
    | .Expr e _ => (req (!isComp e)).bind fun _ => (coE T n sc e).map Sm.expr
    | .Return none _ => some (.ret (.c .non))
    | .Return (some e) _ => (coE T n sc e).map Sm.ret
    | .Pass _ => some .pass
    | .Break _ => some .brk
    | .Continue _ => some .cnt
    | .If c a b _ => (coT T n sc c).bind fun x => (coSs T n sc a).bind fun y => (coSs T n sc b).map fun z => .ife x y z
    | .While c a [] _ => (coT T n sc c).bind fun x => (coSs T n sc a).map fun y => .whl x y
    | .For tg it a [] _ => (coI T n sc it).bind fun k => (coP T n sc tg).bind fun p => (coSs T n sc a).bind fun y => (req (notSet it)).map fun _ => .fr p k.1 k.2 y
    | .AugAssign (.Name x _) op e _ => (opOf op).bind fun o => (slotOf T.N x).bind fun i => (req (isLoc sc x)).bind fun _ => (coE T n sc e).map fun y => .aug i o y
    | .Assign [tg] e _ => match lcOf sc tg e with
      | some (y, elt, x, iter, ifs, scope) => (slotOf T.N y).bind fun i => (coLc T n sc elt x iter ifs scope).map fun z => .set (.nm i) z
      | none => (coP T n sc tg).bind fun p => (coE T n sc e).bind fun y => (req (!isComp e && notStar tg && swapFree tg e)).map fun _ => .set p y
    | _ => none
def coSs (T : Tab) : Nat → Scope → List Stmt → Option Sms
  | 0, _, _ => none
  | _ + 1, _, [] => some .nil
  | n + 1, sc, s :: ss => (coS T n sc s).bind fun x => (coSs T n sc ss).map fun y => .cons x y
end
theorem lc_ok {sc : Scope} {tg e : Expr} {y x : Str} {elt iter : Expr} {ifs : List Expr} {scope : Scope} (h : lcOf sc tg e = some (y, elt, x, iter, ifs, scope)) :
    ∃ py tpos pos, tg = .Name y py ∧ e = .ListComp elt [⟨.Name x tpos, iter, ifs, 0⟩] scope pos ∧ sc.names.lookup y = some .local ∧ (py.line == pos.line) = true ∧ (scope.names.any fun (n, k) => n == y && (k == .local || k == .cell)) = false := by
  unfold lcOf at h
  split at h
  · split at h
    · rename_i q
      cases h
      simp only [Bool.and_eq_true, decide_eq_true_eq] at q
      exact ⟨_, _, _, rfl, rfl, q.1.1, q.1.2, not_true q.2⟩
    · cases h
  · cases h
structure SndP (T : Tab) (C : Ctx) (n : Nat) : Prop where
  p : ∀ X sc e ir, Good X C sc T.N T.names → coP T n sc e = some ir → PG X e (tDG X.K C ir)
  ps : ∀ X sc es ir, Good X C sc T.N T.names → coPs T n sc es = some ir → PGs X es (tDGs X.K C ir) ∧ es.all notStar = true
theorem sndp_all {T : Tab} {C : Ctx} (hg : C.glob = T.glob) : ∀ n, SndP T C n
  | 0 => ⟨fun _ _ _ _ _ h => (by cases h), fun _ _ _ _ _ h => (by cases h)⟩
  | n + 1 => by
    have I := sndp_all hg n
    have J := snd_all hg n
    refine ⟨?_, ?_⟩
    · intro X sc e ir G h
      unfold coP at h
      split at h
      · obtain ⟨u, h1, h⟩ := bnd h
        obtain ⟨i, h2, rfl⟩ := map_some h
        exact sg_nm G (slot_ok h2) (req_some h1)
      · obtain ⟨ps, h1, h⟩ := bnd h
        obtain ⟨u, h2, rfl⟩ := map_some h
        obtain ⟨h3, h4⟩ := I.ps _ _ _ _ G h1
        exact sg_tup G h3 h4 (by simpa using req_some h2)
      · obtain ⟨x, h1, h⟩ := bnd h
        obtain ⟨y, h2, h⟩ := bnd h
        obtain ⟨u, h3, rfl⟩ := map_some h
        exact sg_sub (J.e _ _ _ _ G h1) (J.e _ _ _ _ G h2) (req_some h3)
      · cases h
    · intro X sc es ir G h
      unfold coPs at h
      split at h
      · rename_i q; cases q
      · cases h; exact ⟨sgs_nil, rfl⟩
      · rename_i q
        cases q
        obtain ⟨p, h1, h⟩ := bnd h
        obtain ⟨ps, h2, h⟩ := bnd h
        obtain ⟨u, h3, rfl⟩ := map_some h
        have h3 := req_some h3
        obtain ⟨h4, h5⟩ := I.ps _ _ _ _ G h2
        exact ⟨sgs_cons (I.p _ _ _ _ G h1) h4 h3, by rw [List.all_cons, h3, h5]; rfl⟩
structure SndS (T : Tab) (C : Ctx) (n : Nat) : Prop where
  s : ∀ X sc st ir, Good X C sc T.N T.names → X.xe = (fun _ _ => False) → coS T n sc st = some ir → PS X st (tDS X.K C ir)
  ss : ∀ X sc sts ir, Good X C sc T.N T.names → X.xe = (fun _ _ => False) → coSs T n sc sts = some ir → PSs X sts (tDSs X.K C ir)
theorem snds_all {T : Tab} {C : Ctx} (hg : C.glob = T.glob) : ∀ n, SndS T C n
  | 0 => ⟨fun _ _ _ _ _ _ h => (by cases h), fun _ _ _ _ _ _ h => (by cases h)⟩
  | n + 1 => by
    have I := snds_all hg n
    have J := snd_all hg n
    have P := sndp_all hg n
    refine ⟨?_, ?_⟩
    · intro X sc st ir G hx h
      unfold coS at h
      split at h
      · cases h; exact ss_doc
      · obtain ⟨u, h1, h⟩ := bnd h
        obtain ⟨y, h2, rfl⟩ := map_some h
        exact ss_expr (J.e _ _ _ _ G h2) (not_true (req_some h1))
      · cases h; exact ss_retN
      · obtain ⟨y, h2, rfl⟩ := map_some h
        exact ss_ret (J.e _ _ _ _ G h2)
      · cases h; exact ss_pass
      · cases h; exact ss_brk
      · cases h; exact ss_cnt
      · obtain ⟨x, h1, h⟩ := bnd h
        obtain ⟨y, h2, h⟩ := bnd h
        obtain ⟨z, h3, rfl⟩ := map_some h
        exact ss_if (J.t _ _ _ _ G h1) (I.ss _ _ _ _ G hx h2) (I.ss _ _ _ _ G hx h3)
      · obtain ⟨x, h1, h⟩ := bnd h
        obtain ⟨y, h2, rfl⟩ := map_some h
        exact ss_while hx (J.t _ _ _ _ G h1) (I.ss _ _ _ _ G hx h2)
      · obtain ⟨⟨k, ys⟩, h1, h⟩ := bnd h
        obtain ⟨p, h2, h⟩ := bnd h
        obtain ⟨y, h3, h⟩ := bnd h
        obtain ⟨u, h4, rfl⟩ := map_some h
        exact ss_for G hx (J.i _ _ _ _ _ _ G h1) (P.p _ _ _ _ G h2) (I.ss _ _ _ _ G hx h3) (req_some h4)
      · obtain ⟨o, h1, h⟩ := bnd h
        obtain ⟨i, h2, h⟩ := bnd h
        obtain ⟨u, h3, h⟩ := bnd h
        obtain ⟨y, h4, rfl⟩ := map_some h
        exact ss_aug G h1 (slot_ok h2) (req_some h3) (J.e _ _ _ _ G h4)
      · split at h
        · rename_i y elt x iter ifs scope hq
          obtain ⟨py, tpos, pos, rfl, rfl, h1, h2, h3⟩ := lc_ok hq
          obtain ⟨i, h4, h⟩ := bnd h
          obtain ⟨z, h5, rfl⟩ := map_some h
          obtain ⟨ie, sl, k, ies, ic, rfl, g1, g2, g3, g4, g5, g6, g7, g8⟩ := J.l _ _ _ _ _ _ _ _ G h5
          exact ss_setC G (g1 _) g2 g3 g4 g5 g6 g7 g8 (slot_ok h4) h1 h2 h3
        · obtain ⟨p, h1, h⟩ := bnd h
          obtain ⟨y, h2, h⟩ := bnd h
          obtain ⟨u, h3, rfl⟩ := map_some h
          have q := req_some h3
          simp only [Bool.and_eq_true] at q
          exact ss_set G (J.e _ _ _ _ G h2) (P.p _ _ _ _ G h1) (not_true q.1.1) q.1.2 q.2
      · cases h
    · intro X sc sts ir G hx h
      unfold coSs at h
      split at h
      · rename_i q; cases q
      · cases h; exact ss_nil
      · rename_i q
        cases q
        obtain ⟨x, h1, h⟩ := bnd h
        obtain ⟨y, h2, rfl⟩ := map_some h
        exact ss_cons (I.s _ _ _ _ G hx h1) (I.ss _ _ _ _ G hx h2)
end Mn
/-! Mn, part 13: whole programs, and the law's end. -/
namespace Mn
open PySem PySem.Spec PyProof.Rows L2
/-- a def as the head has left it, and its term -/
structure DefOk (K : PySem.W.Frag) (mg : Str → Option Value) (names : List Str) (glob : Str → Option D) (f : Str) (d : Def) (fa : Addr) (fd : FuncData) (ps : List Str) : Prop where
  ex : ∃ (st : Stmt) (N : List Str) (n : Nat), Fun K f f st fa fd ∧ FnScope N ps (defScope st) ∧ d.slots = N.length ∧ coSs ⟨N, names, glob⟩ n (defScope st) (defBody st) = some d.body
  ar : d.arity = ps.length
  at_ : mg f = some (.ref fa)
  bd : Binds K fd ps []
/-- all that the head tells -/
structure PrOk (K : PySem.W.Frag) (mg : Str → Option Value) (defs : List (Str × Def)) (glob : Str → Option D) : Prop where
  df : ∀ f d, defs.lookup f = some d → ∃ fa fd ps, DefOk K mg (defs.map (·.1)) glob f d fa fd ps
  bt : ∀ x ∈ btNames, mg x = none
  gb : ∀ x d, glob x = some d → ∃ u v, mg x = some u ∧ RelV v u ∧ ∀ H ρ, Rp K H ρ d v
theorem callN_len {defs : List (Str × Def)} {glob : Str → Option D} {f : Str} {d : Def} (hd : defs.lookup f = some d) : ∀ {n ds Q S}, wp (callN defs glob n f ds) Q S → ds.length = d.arity
  | 0, _, _, _, h => h.elim
  | n + 1, ds, Q, S, h => by
    unfold callN at h
    simp only [hd] at h
    unfold callD at h
    simp only [wpx_bind, wpx_guard] at h
    simpa using h.1
theorem env_start {K : PySem.W.Frag} {H : Hp} {ρ : List Addr} {ds : List D} {vs : List V} {N : List Str} (h : Rps K H ρ ds vs) : EnvR K H ρ (startD N.length ds) (L2.start N vs) := by
  have hl := h.length
  unfold startD L2.start
  refine ⟨by simp [hl], fun i d e => ?_⟩
  by_cases hi : i < ds.length
  · rw [List.getElem?_append_left (by simpa using hi), List.getElem?_map] at e
    cases q : ds[i]? with
    | none => rw [q] at e; cases e
    | some d' =>
      rw [q] at e
      cases e
      obtain ⟨v, h1, h2⟩ := h.at q
      refine ⟨v, ?_, h2⟩
      rw [List.getElem?_append_left (by simp; omega), List.getElem?_map, h1]; rfl
  · rw [List.getElem?_append_right (by simp; omega), List.getElem?_replicate] at e
    split at e <;> cases e
theorem lookup_mem : ∀ {defs : List (Str × Def)} {f : Str}, f ∈ defs.map (·.1) → ∃ d, defs.lookup f = some d
  | [], f, h => by simp at h
  | (g, d) :: r, f, h => by
    by_cases hf : f = g
    · subst hf; exact ⟨d, by simp⟩
    · have hb : (f == g) = false := by simpa using hf
      rw [List.map_cons] at h
      rcases List.mem_cons.mp h with q | q
      · exact absurd q hf
      · obtain ⟨d', e⟩ := lookup_mem q
        exact ⟨d', by rw [List.lookup_cons, hb]; exact e⟩
section
variable {P : Program} {w : World} {K : PySem.W.Frag} {mg : Str → Option Value} {base : Heap} {defs : List (Str × Def)} {glob : Str → Option D}
theorem def_ok (W : PrOk K mg defs glob) : ∀ (n : Nat) (f : Str) (d : Def), defs.lookup f = some d → ∀ (fa : Addr) (fd : FuncData) (ps : List Str), DefOk K mg (defs.map (·.1)) glob f d fa fd ps →
    FnG P w K mg base (n + 10) fa fd ps (spOf K (callN defs glob n f) ps.length)
  | 0, f, d, hd, fa, fd, ps, E => ⟨fun _ _ _ h => h.1, fun _ _ _ _ _ _ _ _ _ _ _ _ h => by obtain ⟨_, _, _, _, _, _, z⟩ := h; exact z.elim⟩
  | n + 1, f, d, hd, fa, fd, ps, E => by
    obtain ⟨st, N, m, F, sco, hsl, hco⟩ := E.ex
    obtain ⟨oc, od, kV, doc, pm, an, cdv, ct, osl, rfl, look, code⟩ := F.ex
    refine fng_of (k := n + 10) look code sco (fun _ _ _ h => h.1) fun A outer s H vs Q room ⟨hlen, ρ, S, ds, hS, hr, h⟩ => ?_
    have G : Good (cxOf CX0 P w K mg base N f (defScope st) fa cdv A outer s H E0).nox ⟨glob, callN defs glob n⟩ (defScope st) N (defs.map (·.1)) :=
      { N_eq := rfl, nd := sco.nd, calm := rfl, gd := room.gd
        un := by have := room.rm.un; show (A.deeper _).units + 300 < cLine; omega
        kind := sco.kind, lcl := fun _ h => h, cll := fun _ h => h, fre := fun _ h => .inr h, gl := fun _ h => h, fnc := fun _ _ => rfl
        bt := W.bt, gb := W.gb
        fns := fun g hg => by
          obtain ⟨dg, hdg⟩ := lookup_mem hg
          obtain ⟨ga, gd, gs, Eg⟩ := W.df g dg hdg
          obtain ⟨_, _, _, Fg, _⟩ := Eg.ex
          exact ⟨ga, gd, gs, n + 10, Eg.at_, Fg.kp, Eg.bd, room, fun ds' Q' S' q => by rw [← Eg.ar]; exact callN_len hdg q, def_ok W n g dg hdg ga gd gs Eg⟩ }
    refine ⟨_, PSs.nox ((snds_all (T := ⟨N, defs.map (·.1), glob⟩) (C := ⟨glob, callN defs glob n⟩) rfl m).ss _ _ _ _ G rfl hco), ?_⟩
    unfold callN at h
    simp only [hd] at h
    unfold callD at h
    simp only [wpx_bind, wpx_guard] at h
    rw [hsl] at h
    refine ⟨ρ, S, _, hS, env_start hr, wp_mono h.2 fun r S1 q H1 ρ1 p1 e1 s1 => ?_⟩
    obtain ⟨fl, env1⟩ := r
    cases fl with
    | nx => exact fun _ _ => LQ.here (LQ.later (show LQ K Q ρ H .non S1 from q) p1 e1) s1 .non
    | bk => exact q.elim
    | ct => exact q.elim
    | rt z => exact fun v r => LQ.here (LQ.later (show LQ K Q ρ H z S1 from q) p1 e1) s1 r
end
/-! ### the law -/
theorem law_end {P : Program} {w : World} {K : PySem.W.Frag} {mg mb : Str → Option Value} {k : Nat} {fa a : Addr} {fd : FuncData} {x : Str} {s₁ : Shared} {vs : List Value} {ns : List Int} {m : List D → M D}
    (inK : K.In s₁.heap) (nsG : s₁.heap.Ns mainGlobals mg) (nsB : s₁.heap.Ns builtinsNs mb) (same : ∀ x : Str, x ≠ "__name__" → mb x = bootBuiltins x) (lim : s₁.heap.NoLimit) (gens : s₁.gens = #[])
    (obj : s₁.heap.get? a = some { cls := .type "list", data := .seq vs.toArray }) (hi : IntsAre vs ns) (hl : ns.length ≤ sizeLine) (room : Rm k callerA)
    (F : ∀ base : Heap, K.In base → base.Ns mainGlobals mg → FnG P w K mg base k fa fd [x] (spOf K m 1)) (bind : ∀ (s : Shared) (u : Value), BindsTo s fd ⟨[u], []⟩ [(x, u)])
    (law : wp (m [.loc 0]) (fun d _ => d = .bl true) [.ro (ns.map D.int)]) :
    codeAny (model P w) callerA (.call (.ref fa) ⟨[.ref a], []⟩) (fun r s' => r = .ok (.ret (.bool true)) ∧ OldK s₁.heap s'.heap ∧ s'.os = s₁.os ∧ AllBare s'.gens) s₁ := by
  have rel := vals_ints hi
  have len := hi.length
  have main : ∀ H : Hp, (∀ b, H b = none ∨ (b = a ∧ K.lookup a = none ∧ H b = some (.frz { cls := .type "list", data := .seq vs.toArray } (.lst (ns.map V.int))))) →
      ((∃ o, H a = some (.frz o (.lst (ns.map V.int)))) ∨ KL K a (ns.map V.int)) →
      codeAny (model P w) callerA (.call (.ref fa) ⟨[.ref a], []⟩) (fun r s' => r = .ok (.ret (.bool true)) ∧ OldK s₁.heap s'.heap ∧ s'.os = s₁.os ∧ AllBare s'.gens) s₁ := by
    intro H only seen
    have hok : HOk P w H s₁.heap := fun b o e => by
      rcases only b with z | ⟨rfl, _, z⟩
      · rw [z] at e; cases e
      · rw [z] at e
        cases e
        exact ⟨obj, by rw [List.length_map]; exact hl, vs, _, rel, obj⟩
    have kept : ∀ {b : Addr} {o : Obj}, s₁.heap.get? b = some o → H b = none → (hidT s₁.heap H).get? b = some o := fun e n => hidT_get e n
    have noDict : ∀ {b : Addr} {o : Obj} {es : Array DictEntry} {ep : Nat}, s₁.heap.get? b = some o → o.data = .dict es ep → H b = none := fun {b o es ep} e d => by
      rcases only b with z | ⟨rfl, _, _⟩
      · exact z
      · rw [obj] at e
        cases e
        exact nomatch (show Data.seq vs.toArray _ = Data.dict es ep from d)
    have ns' : ∀ {b : Addr} {m' : Str → Option Value}, s₁.heap.Ns b m' → (hidT s₁.heap H).Ns b m' := fun ⟨o, es, ep, e, d, r⟩ => ⟨o, es, ep, kept e (noDict e d), d, r⟩
    have inK' : K.In (hidT s₁.heap H) := fun b o e => kept (inK b o e) (by
      rcases only b with z | ⟨rfl, q, _⟩
      · exact z
      · rw [q] at e; cases e)
    have md : Mod K mg (hidT s₁.heap H) := ⟨inK', ns' nsG, ⟨mb, ns' nsB, same⟩, by obtain ⟨mc, q1, q2⟩ := lim; exact ⟨mc, ns' q1, q2⟩⟩
    have st : Env0 P w K mg (hidT s₁.heap H) callerA [] s₁ H :=
      { frames := rfl, mod := md, bs := fun b o e => of_hidT e, bsz := Nat.le_of_eq (hidT_size _ _), funs := trivial, frf := fun b z => absurd (show b ∈ ([] : List Addr) from z) (by simp), hok := hok, bare := .of_eq gens }
    have sr : SR K H [a] [.ro (ns.map D.int)] := by
      refine ⟨rfl, fun n c b e1 e2 => ?_, fun n m' b xs ys hnm e1 e2 _ _ => ?_⟩
      · cases n with
        | zero => simp at e1 e2; subst e1; subst e2; exact ⟨_, seen, .of_ints _⟩
        | succ n => simp at e1
      · cases n with
        | zero => simp at e1
        | succ n => simp at e1
    have want : spOf K m 1 [.ref a] H (fun v _ => v = .bl true) := ⟨rfl, [a], _, [.loc 0], sr, .cons (by unfold Rp; exact ⟨a, rfl, rfl⟩) .nil, wp_mono law fun d S e v H' ρ' _ _ _ r => by subst e; exact r.blE⟩
    refine codeAny_mono ((F _ inK' (ns' nsG)).go callerA [] s₁ H ⟨[.ref a], []⟩ [.ref a] [.ref a] _ room st (bind s₁ (.ref a)) (.cons rfl .nil) want) fun r s2 h => ?_
    match r, h with
    | .error e, h => exact h.elim
    | .ok .next, h => exact h.elim
    | .ok .brk, h => exact h.elim
    | .ok .cont, h => exact h.elim
    | .ok (.ret u), ⟨v, H', os, bare, un, hok', r', q⟩ =>
      have q : v = .bl true := q
      subst q
      have r' : u = Value.bool true := r'
      subst r'
      refine ⟨rfl, OldK.of_keep fun b o e => ?_, os, bare⟩
      rcases only b with z | ⟨rfl, _, z⟩
      · exact un.keep b o e z (by intro z; exact absurd (show b ∈ ([] : List Addr) from z) (by simp)) (by simp)
      · obtain ⟨e2, _⟩ := hok' b _ (un.frzs b _ _ z)
        rw [obj] at e
        cases e
        exact e2
  cases hk : K.lookup a with
  | some o =>
    have e := inK a o hk
    rw [obj] at e
    cases e
    exact main (fun _ => none) (fun _ => .inl rfl) (.inr fun H => .inr ⟨_, vs.toArray, _, hk, rfl, rfl, rfl, by rw [List.size_toArray, len]; exact hl, by simpa using rel⟩)
  | none =>
    refine main (fun b => if b = a then some (.frz { cls := .type "list", data := .seq vs.toArray } (.lst (ns.map V.int))) else none) (fun b => ?_) (.inl ⟨_, if_pos rfl⟩)
    by_cases hb : b = a
    · exact .inr ⟨hb, hk, if_pos hb⟩
    · exact .inl (if_neg hb)
/-- the row's walk, from the evaluator's run of the law -/
theorem row_walk {l : PySem.W.OpenLaw} {q : Program} {loose : List Str} {XP : (Str → Option Value) → Heap → Prop} {YP : World → Heap → Prop} {d : DefRec} {K : Params → PySem.W.Frag} {defs : List (Str × Def)} {glob : Str → Option D} {n : Nat} {x : Str}
    (hn : l.most = some 63) (hdf : d.params.defaults = []) (hr : n ≤ 210) (hY : ∀ (w : World) (h : Heap), YP w h → (K w.params).In h)
    (F : ∀ (w : World) (mg : Str → Option Value) (fa : Addr) (h : Heap), (K w.params).In h → h.Ns mainGlobals mg → mg d.name = some (.ref fa) →
      PrOk (K w.params) mg defs glob ∧ ∃ dl fd, defs.lookup d.name = some dl ∧ DefOk (K w.params) mg (defs.map (·.1)) glob d.name dl fa fd [x] ∧ ∀ (s : Shared) (u : Value), BindsTo s fd ⟨[u], []⟩ [(x, u)])
    (law : ∀ ns : List Int, ns.length ≤ 63 → wp (callN defs glob n d.name [.loc 0]) (fun d _ => d = .bl true) [.ro (ns.map D.int)]) :
    PySem.W.WalkO q loose XP YP l.row.toRowW d [] (fun f vs => PySem.call f vs) := by
  refine Att.attach_call hn hdf fun w s₀ s₁ mg mb fa o pm cd doc a vs ns G Y ho hd hcd hmg hobj hints hlen hg => ?_
  have inK := hY w _ Y
  obtain ⟨W, dl, fd, h1, h2, h3⟩ := F w mg fa _ inK G.T.g hmg
  have rm : Rm (n + 10) callerA := ⟨⟨rfl, by show 1 + 300 + 3 * (n + 10) + 5 < 1000; omega, by show 4 + 16 * (n + 10) + 200 < 9900; omega⟩, rfl⟩
  refine law_end inK G.T.g G.T.b G.T.builtins G.T.nolimit hg hobj hints (Nat.le_trans hlen (by decide)) rm (fun base i1 i2 => ?_) h3 (law ns hlen)
  exact def_ok W n _ dl h1 fa fd [x] h2
end Mn
/-! Mn, part 14: what the head tells, put together. -/
namespace Mn
open PySem PySem.Spec PyProof.Rows L2
/-- a def's text against its term -/
structure StOk (st : Stmt) (f : Str) (N ps : List Str) (d : Def) (names : List Str) (glob : Str → Option D) : Prop where
  sco : FnScope N ps (defScope st)
  sl : d.slots = N.length
  ar : d.arity = ps.length
  co : coSs ⟨N, names, glob⟩ 100 (defScope st) (defBody st) = some d.body
  bd : ∀ (kV doc pm : Value) (an : Option Addr) (cdv ct : Value) (us : List Value), us.length = ps.length → bindArgs (PySem.W.fnOf f f (defArgs st) (defBody st) (defScope st) .none kV doc pm an cdv ct) ⟨us, []⟩ = pure (ps.zip us)
def DefHd (K : PySem.W.Frag) (mg : Str → Option Value) (f : Str) (st : Stmt) (fa : Addr) (fd : FuncData) : Prop := mg f = some (.ref fa) ∧ Fun K f f st fa fd
def Dfs (K : PySem.W.Frag) (mg : Str → Option Value) (names : List Str) (glob : Str → Option D) (l : List (Str × Def)) : Prop := ∀ f d, l.lookup f = some d → ∃ fa fd ps, DefOk K mg names glob f d fa fd ps
section
variable {K : PySem.W.Frag} {mg : Str → Option Value} {names : List Str} {glob : Str → Option D} {f : Str} {d : Def} {st : Stmt} {N ps : List Str} {fa : Addr} {fd : FuncData}
theorem defOk_mk (s : StOk st f N ps d names glob) (h : DefHd K mg f st fa fd) : DefOk K mg names glob f d fa fd ps := ⟨⟨st, N, 100, h.2, s.sco, s.sl, s.co⟩, s.ar, h.1, h.2.binds s.bd⟩
theorem dfs_nil : Dfs K mg names glob [] := fun f d h => by cases h
theorem dfs_cons {l : List (Str × Def)} (s : StOk st f N ps d names glob) (h : DefHd K mg f st fa fd) (r : Dfs K mg names glob l) : Dfs K mg names glob ((f, d) :: l) := fun g e q => by
  by_cases hg : g = f
  · subst hg
    have : d = e := by simpa using q
    subst this
    exact ⟨fa, fd, ps, defOk_mk s h⟩
  · have hb : (g == f) = false := by simpa using hg
    rw [List.lookup_cons, hb] at q
    exact r g e q
theorem hd_mk {h : Heap} {oc kV dc pm cd ct : Value} {od an : Option Addr} {sl : Array (Option Value)} (X : K.In h) (G : h.Ns mainGlobals mg) (a : PySem.W.nsIn K mainGlobals f = some (some (.ref fa)))
    (l : K.lookup fa = some ⟨oc, od, .func (PySem.W.fnOf f f (defArgs st) (defBody st) (defScope st) .none kV dc pm an cd ct), sl⟩) (c : PySem.W.codeIn K cd f = true) (k : PySem.W.keepIn K (.ref fa) = true) :
    DefHd K mg f st fa (PySem.W.fnOf f f (defArgs st) (defBody st) (defScope st) .none kV dc pm an cd ct) := ⟨PySem.W.mg_of X G a, fun_mk l c k⟩
def Bts (K : PySem.W.Frag) : List Str → Prop
  | [] => True
  | x :: r => PySem.W.nsIn K mainGlobals x = some none ∧ Bts K r
theorem bts_all {h : Heap} (X : K.In h) (G : h.Ns mainGlobals mg) : ∀ {l : List Str}, Bts K l → ∀ x ∈ l, mg x = none
  | [], _, x, hx => by simp at hx
  | y :: r, ⟨h1, h2⟩, x, hx => by
    rcases List.mem_cons.mp hx with rfl | hx
    · exact PySem.W.mg_none_of X G h1
    · exact bts_all X G h2 x hx
/-- a module's constant -/
def GbOk (K : PySem.W.Frag) (mg : Str → Option Value) (x : Str) (d : D) : Prop := ∃ u v, mg x = some u ∧ RelV v u ∧ ∀ H ρ, Rp K H ρ d v
def Gbs (K : PySem.W.Frag) (mg : Str → Option Value) (l : List (Str × D)) : Prop := ∀ x d, l.lookup x = some d → GbOk K mg x d
theorem gbs_nil : Gbs K mg [] := fun x d h => by cases h
theorem gbs_cons {x : Str} {e : D} {l : List (Str × D)} (h : GbOk K mg x e) (r : Gbs K mg l) : Gbs K mg ((x, e) :: l) := fun y d q => by
  by_cases hg : y = x
  · subst hg
    have : e = d := by simpa using q
    subst this
    exact h
  · have hb : (y == x) = false := by simpa using hg
    rw [List.lookup_cons, hb] at q
    exact r y d q
theorem gb_str {h : Heap} {x s : Str} {t : Tok} (X : K.In h) (G : h.Ns mainGlobals mg) (a : PySem.W.nsIn K mainGlobals x = some (some (.str s t))) : GbOk K mg x (.str s) := ⟨_, .str s, PySem.W.mg_of X G a, ⟨t, rfl⟩, fun H ρ => .str⟩
theorem gb_int {h : Heap} {x : Str} {s : Int} {t : Tok} (X : K.In h) (G : h.Ns mainGlobals mg) (a : PySem.W.nsIn K mainGlobals x = some (some (.int s t))) : GbOk K mg x (.int s) := ⟨_, .int s, PySem.W.mg_of X G a, ⟨t, rfl⟩, fun H ρ => .int⟩
theorem gb_tupS {h : Heap} {x : Str} {ga : Addr} {od : Option Addr} {n : Nat} {sl : Array (Option Value)} {its : Array Value} {xs : List Str} (X : K.In h) (G : h.Ns mainGlobals mg) (a : PySem.W.nsIn K mainGlobals x = some (some (.ref ga)))
    (l : K.lookup ga = some ⟨.type "tuple", od, .seq its n, sl⟩) (hz : its.size ≤ sizeLine) (hv : Vals (xs.map V.str) its.toList) : GbOk K mg x (.tup (xs.map D.str)) :=
  ⟨_, .ref ga, PySem.W.mg_of X G a, rfl, fun H ρ => by unfold Rp; exact ⟨ga, xs.map V.str, rfl, .inr ⟨_, its, n, l, rfl, rfl, hz, hv⟩, Rps.of_strs xs⟩⟩
end
/-! ### the terms, printed -/
def strOf (s : Str) : String := String.ofList (s.cps.toList.map Char.ofNat)
end Mn
/-! Mn, part 15: words for running the evaluator. -/
namespace Mn
open PySem L2
section
variable {α : Type} {C : Ctx} {S : Store} {env : Nv} {Q : Flow × Nv → Store → Prop} {E : Exn → Store → Prop}
theorem run_nil : wpx (evSs C .nil env) Q E S ↔ Q (.nx, env) S := Iff.rfl
/-- one statement, then the others -/
def thenS (C : Ctx) (r : Sms) (Q : Flow × Nv → Store → Prop) (E : Exn → Store → Prop) : Flow × Nv → Store → Prop := fun q S' => match q with
  | (.nx, env') => wpx (evSs C r env') Q E S'
  | (f, env') => Q (f, env') S'
theorem run_cons {s : Sm} {r : Sms} : wpx (evSs C (.cons s r) env) Q E S ↔ wpx (evS C s env) (thenS C r Q E) E S := by
  show wpx (M.bind (evS C s env) _) Q E S ↔ _
  rw [wpx_bind]
  constructor
  · intro h
    refine wpx_mono h (fun q S' z => ?_) fun _ _ z => z
    obtain ⟨f, env'⟩ := q
    cases f <;> exact z
  · intro h
    refine wpx_mono h (fun q S' z => ?_) fun _ _ z => z
    obtain ⟨f, env'⟩ := q
    cases f <;> exact z
theorem then_nx {r : Sms} : thenS C r Q E (.nx, env) S ↔ wpx (evSs C r env) Q E S := Iff.rfl
theorem then_rt {r : Sms} {d : D} : thenS C r Q E (.rt d, env) S ↔ Q (.rt d, env) S := Iff.rfl
theorem then_bk {r : Sms} : thenS C r Q E (.bk, env) S ↔ Q (.bk, env) S := Iff.rfl
theorem then_ct {r : Sms} : thenS C r Q E (.ct, env) S ↔ Q (.ct, env) S := Iff.rfl
end
section
variable {S : Store} {E : Exn → Store → Prop} {C : Ctx} {env : Nv}
theorem x_rdL {n : Nat} {xs : List D} {R : List D → Store → Prop} (h : rd S n = some xs) : wpx (rdL n) R E S ↔ R xs S := by
  unfold wpx rdL
  have := rd_some h
  rcases this with q | q <;> rw [q]
theorem x_owL {n : Nat} {xs : List D} {R : List D → Store → Prop} (h : S[n]? = some (.lst xs)) : wpx (owL n) R E S ↔ R xs S := by
  unfold wpx owL; rw [h]
theorem x_alloc {c : Cell} {R : D → Store → Prop} : wpx (alloc c) R E S ↔ R (.loc S.length) (S ++ [c]) := Iff.rfl
theorem x_wrL {n : Nat} {xs : List D} {R : Unit → Store → Prop} : wpx (wrL n xs) R E S ↔ R () (S.set n (.lst xs)) := Iff.rfl
theorem x_asB {b : Bool} {R : Bool → Store → Prop} : wpx (asB (.bl b)) R E S ↔ R b S := Iff.rfl
theorem x_asI {b : Int} {R : Int → Store → Prop} : wpx (asI (.int b)) R E S ↔ R b S := Iff.rfl
theorem rd_lst {n : Nat} {xs : List D} (h : S[n]? = some (.lst xs)) : rd S n = some xs := by unfold rd; rw [h]
theorem rd_ro {n : Nat} {xs : List D} (h : S[n]? = some (.ro xs)) : rd S n = some xs := by unfold rd; rw [h]
theorem x_var {i : Nat} {d : D} {R : D → Store → Prop} (h : env[i]? = some (some d)) : wpx (evE C (.v i) env) R E S ↔ R d S := by
  unfold evE; rw [h]; exact Iff.rfl
theorem x_glob {x : Str} {d : D} {R : D → Store → Prop} (h : C.glob x = some d) : wpx (evE C (.g x) env) R E S ↔ R d S := by
  unfold evE; rw [h]; exact Iff.rfl
/-- an equation of two texts -/
theorem x_eqStr {x y : Str} {R : Bool → Store → Prop} : wpx (eqM (.str x) (.str y)) R E S ↔ R (x == y) S := by
  unfold wpx eqM
  simp [py1, py, fitEq, isStrD, PyData.eqv]
theorem x_eqInt {x y : Int} {R : Bool → Store → Prop} : wpx (eqM (.int x) (.int y)) R E S ↔ R (x == y) S := by
  unfold wpx eqM
  simp [py1, py, fitEq, isStrD, PyData.eqv, PyData.canLay0, PyData.depth]
theorem x_eqBl {x y : Bool} {R : Bool → Store → Prop} : wpx (eqM (.bl x) (.bl y)) R E S ↔ R (x == y) S := by
  unfold wpx eqM
  simp [py1, py, fitEq, isStrD, PyData.eqv, PyData.canLay0, PyData.depth]
end
end Mn
namespace Mn
open PySem L2
section
variable {S : Store} {E : Exn → Store → Prop} {C : Ctx} {env : Nv} {Q : D → Store → Prop}
theorem ixN_lt {n : Nat} {i : Int} (h0 : 0 ≤ i) (h1 : i < n) : ixN n i = some i.toNat := by unfold ixN; rw [if_pos h0, if_pos h1]
theorem atI_lt {α : Type} {xs : List α} {i : Int} {d : α} (h0 : 0 ≤ i) (h : xs[i.toNat]? = some d) : atI xs i = some d := by
  unfold atI
  obtain ⟨hl, _⟩ := List.getElem?_eq_some_iff.mp h
  rw [ixN_lt h0 (by omega)]
  exact h
theorem atI_0 {α : Type} {a : α} {l : List α} : atI (a :: l) 0 = some a := atI_lt (by decide) rfl
theorem atI_1 {α : Type} {a b : α} {l : List α} : atI (a :: b :: l) 1 = some b := atI_lt (by decide) rfl
theorem atI_2 {α : Type} {a b c : α} {l : List α} : atI (a :: b :: c :: l) 2 = some c := atI_lt (by decide) rfl
theorem atI_3 {α : Type} {a b c d : α} {l : List α} : atI (a :: b :: c :: d :: l) 3 = some d := atI_lt (by decide) rfl
theorem atI_4 {α : Type} {a b c d e : α} {l : List α} : atI (a :: b :: c :: d :: e :: l) 4 = some e := atI_lt (by decide) rfl
theorem x_idxT {xs : List D} {i : Int} {d : D} (h0 : 0 ≤ i) (h : xs[i.toNat]? = some d) : wpx (index (.tup xs) (.int i)) Q E S ↔ Q d S := by
  show wpx (opt (atI xs i)) Q E S ↔ _
  rw [atI_lt h0 h]; exact Iff.rfl
theorem x_idxL {n : Nat} {xs : List D} {i : Int} {d : D} (hn : rd S n = some xs) (h0 : 0 ≤ i) (h : xs[i.toNat]? = some d) : wpx (index (.loc n) (.int i)) Q E S ↔ Q d S := by
  show wpx (M.bind (rdL n) fun xs => opt (atI xs i)) Q E S ↔ _
  rw [wpx_bind, x_rdL hn, atI_lt h0 h]; exact Iff.rfl
theorem x_lenL {n : Nat} {xs : List D} (hn : rd S n = some xs) : wpx (builtin .len [.loc n]) Q E S ↔ Q (.int xs.length) S := by
  show wpx (M.bind (rdL n) fun xs => M.ret (.int xs.length)) Q E S ↔ _
  rw [wpx_bind, x_rdL hn]; exact Iff.rfl
theorem x_lenT {xs : List D} : wpx (builtin .len [.tup xs]) Q E S ↔ Q (.int xs.length) S := Iff.rfl
theorem x_lenS {x : Str} (h : x.length ≤ sizeLine) : wpx (builtin .len [.str x]) Q E S ↔ Q (.int x.length) S := by
  show wpx (M.bind (guard (ok2 x.length)) fun _ => M.ret (.int x.length)) Q E S ↔ _
  rw [wpx_bind, wpx_guard, wpx_ret]
  simp [ok2, h]
/-- a name of a list's place is stored -/
theorem x_setL {n : Nat} {xs : List D} {i : Int} {d : D} {ia ib : Mn.E} {R : Nv → Store → Prop} (ha : wpx (evE C ia env) (fun d S' => d = .loc n ∧ S' = S) E0x S) (hb : wpx (evE C ib env) (fun d S' => d = .int i ∧ S' = S) E0x S)
    (hn : S[n]? = some (.lst xs)) (h0 : 0 ≤ i) (h1 : i < xs.length) (h : R env (S.set n (.lst (xs.set i.toNat d)))) : wpx (evP C (.sub ia ib) d env) R E S := by
  show wpx (M.bind (evE C ia env) fun x => M.bind (evE C ib env) fun y => _) R E S
  rw [wpx_bind]
  refine wpx_of_wp ha fun x S1 ⟨e1, e2⟩ => ?_
  subst e1 e2
  rw [wpx_bind]
  refine wpx_of_wp hb fun x S1 ⟨e1, e2⟩ => ?_
  subst e1 e2
  show wpx (M.bind (owL n) fun xs => _) R E S1
  rw [wpx_bind, x_owL hn, wpx_bind, ixN_lt h0 h1]
  exact h
theorem x_call {defs : List (Str × Def)} {glob : Str → Option D} {n : Nat} {f : Str} {d : Def} {ds : List D} {R : D → Store → Prop} (hd : defs.lookup f = some d) (ha : ds.length = d.arity) (h : wp (evSs ⟨glob, callN defs glob n⟩ d.body (startD d.slots ds)) (fun r S' => wp (retOf r) R S') S) :
    wp (callN defs glob (n + 1) f ds) R S := by
  unfold callN
  simp only [hd]
  unfold callD
  simp only [wpx_bind, wpx_guard]
  exact ⟨by simp [ha], h⟩
theorem ret_rt {d : D} {env : Nv} {R : D → Store → Prop} : wp (retOf (.rt d, env)) R S ↔ R d S := Iff.rfl
theorem ret_nx {env : Nv} {R : D → Store → Prop} : wp (retOf (.nx, env)) R S ↔ R .non S := Iff.rfl
end
end Mn
namespace Mn
open PySem L2
section
variable {S : Store} {E : Exn → Store → Prop} {C : Ctx} {env : Nv} {Q : D → Store → Prop}
def rdC : Option Cell → Option (List D)
  | some (.lst xs) => some xs
  | some (.ro xs) => some xs
  | none => none
def owC : Option Cell → Option (List D)
  | some (.lst xs) => some xs
  | _ => none
theorem rdC_lst {xs : List D} : rdC (some (.lst xs)) = some xs := rfl
theorem rdC_ro {xs : List D} : rdC (some (.ro xs)) = some xs := rfl
theorem owC_lst {xs : List D} : owC (some (.lst xs)) = some xs := rfl
theorem ex_some {α : Type} {a : α} {P : α → Prop} : (∃ x, some a = some x ∧ P x) ↔ P a := ⟨fun ⟨_, e, h⟩ => by cases e; exact h, fun h => ⟨a, rfl, h⟩⟩
theorem e_rdL {n : Nat} {R : List D → Store → Prop} : wpx (rdL n) R E S ↔ ∃ xs, rdC S[n]? = some xs ∧ R xs S := by
  unfold wpx rdL
  cases S[n]? with
  | none => exact ⟨fun h => h.elim, fun ⟨_, h, _⟩ => nomatch h⟩
  | some c => cases c <;> exact (ex_some (P := fun xs => R xs S)).symm
theorem e_owL {n : Nat} {R : List D → Store → Prop} : wpx (owL n) R E S ↔ ∃ xs, owC S[n]? = some xs ∧ R xs S := by
  unfold wpx owL
  cases S[n]? with
  | none => exact ⟨fun h => h.elim, fun ⟨_, h, _⟩ => nomatch h⟩
  | some c =>
    cases c with
    | lst xs => exact (ex_some (P := fun xs => R xs S)).symm
    | ro xs => exact ⟨fun h => h.elim, fun ⟨_, h, _⟩ => nomatch h⟩
theorem e_var {i : Nat} {R : D → Store → Prop} : wpx (evE C (.v i) env) R E S ↔ (match env[i]? with | some (some d) => R d S | _ => False) := by
  unfold evE wpx
  cases env[i]? with
  | none => exact Iff.rfl
  | some c => cases c <;> exact Iff.rfl
theorem ixN_0 {n : Nat} : ixN (n + 1) 0 = some 0 := by unfold ixN; rw [if_pos (by decide), if_pos (by omega)]; rfl
theorem ixN_1 {n : Nat} : ixN (n + 1 + 1) 1 = some 1 := by unfold ixN; rw [if_pos (by decide), if_pos (by omega)]; rfl
theorem ixN_2 {n : Nat} : ixN (n + 1 + 1 + 1) 2 = some 2 := by unfold ixN; rw [if_pos (by decide), if_pos (by omega)]; rfl
theorem ixN_3 {n : Nat} : ixN (n + 1 + 1 + 1 + 1) 3 = some 3 := by unfold ixN; rw [if_pos (by decide), if_pos (by omega)]; rfl
end
end Mn
namespace Mn
open PySem L2
section
variable {i j : Int} {x y : Str} {xs ys : List D} {n m : Nat} {d e : D}
theorem b_addI : binop .add (.int i) (.int j) = M.ret (.int (i + j)) := rfl
theorem b_addS : binop .add (.str x) (.str y) = M.bind (guard (ok2 (x.length + y.length))) fun _ => M.ret (.str (x ++ y)) := rfl
theorem b_addT : binop .add (.tup xs) (.tup ys) = newT (xs ++ ys) := rfl
theorem b_addL : binop .add (.loc n) (.loc m) = M.bind (owL n) fun xs => M.bind (owL m) fun ys => newL (xs ++ ys) := rfl
theorem b_sub : binop .sub (.int i) (.int j) = M.ret (.int (i - j)) := rfl
theorem b_mul : binop .mul (.int i) (.int j) = M.bind (guard (cMul i j)) fun _ => M.ret (.int (i * j)) := rfl
theorem b_mulS : binop .mul (.str x) (.int j) = M.bind (guard (decide (x.length ≤ 1000) && decide (-1000 ≤ j) && decide (j ≤ 1000))) fun _ => M.ret (.str ⟨(rep x.cps.toList j.toNat).toArray⟩) := rfl
theorem b_mulT : binop .mul (.tup xs) (.int j) = M.bind (guard (!xs.isEmpty && decide (2 ≤ j) && decide (j ≤ 1000) && decide (xs.length ≤ 1000))) fun _ => M.ret (.tup (rep xs j.toNat)) := rfl
theorem b_mod : binop .mod (.int i) (.int j) = M.bind (guard (decide (0 < j))) fun _ => M.ret (.int (i % j)) := rfl
theorem b_fdiv : binop .fdiv (.int i) (.int j) = M.bind (guard (decide (0 < j) && decide (j < 1073741824))) fun _ => M.ret (.int (i / j)) := rfl
theorem b_pow : binop .pow (.int i) (.int j) = M.bind (guard (decide (0 ≤ j) && decide (j ≤ 1000000) && decide (i.natAbs < 2 ^ 64))) fun _ => M.ret (.int (i ^ j.toNat)) := rfl
theorem c_eq : cmpop .eq d e = eqM d e := rfl
theorem c_ne : cmpop .ne d e = M.bind (eqM d e) fun b => M.ret (!b) := rfl
theorem c_lt : cmpop .lt d e = opt (ltD 100 d e) := rfl
theorem c_ltI : cmpop .lt (.int i) (.int j) = M.ret (decide (i < j)) := rfl
theorem c_gt : cmpop .gt (.int i) (.int j) = M.ret (decide (j < i)) := rfl
theorem c_le : cmpop .le (.int i) (.int j) = M.ret (decide (i ≤ j)) := rfl
theorem c_ge : cmpop .ge (.int i) (.int j) = M.ret (decide (j ≤ i)) := rfl
theorem c_inn : cmpop .inn d e = inM d e := rfl
theorem c_nin : cmpop .nin d e = M.bind (inM d e) fun b => M.ret (!b) := rfl
theorem c_isn : cmpop .isn .non .non = M.ret true := rfl
theorem c_isnS : cmpop .isn (.str x) .non = M.ret false := rfl
theorem c_isnI : cmpop .isn (.int i) .non = M.ret false := rfl
theorem c_isnT : cmpop .isn (.tup xs) .non = M.ret false := rfl
theorem c_isnn : cmpop .isnn .non .non = M.ret false := rfl
theorem c_isnnS : cmpop .isnn (.str x) .non = M.ret true := rfl
theorem c_isnnI : cmpop .isnn (.int i) .non = M.ret true := rfl
theorem c_isnnT : cmpop .isnn (.tup xs) .non = M.ret true := rfl
theorem i_T : index (.tup xs) (.int i) = opt (atI xs i) := rfl
theorem i_S : index (.str x) (.int i) = M.bind (guard (ok2 x.length)) fun _ => opt ((atI x.cps.toList i).map fun c => .str ⟨#[c]⟩) := rfl
theorem i_L : index (.loc n) (.int i) = M.bind (rdL n) fun xs => opt (atI xs i) := rfl
theorem sl_T {lo hi : Option Int} : slice (.tup xs) lo hi = M.ret (.tup (cutD xs lo hi)) := rfl
theorem sl_S {lo hi : Option Int} : slice (.str x) lo hi = M.bind (guard (ok2 x.length)) fun _ => M.ret (.str (cutS x lo hi)) := rfl
theorem sl_L {lo hi : Option Int} : slice (.loc n) lo hi = M.bind (rdL n) fun xs => alloc (.lst (cutD xs lo hi)) := rfl
theorem u_lenS : builtin .len [.str x] = M.bind (guard (ok2 x.length)) fun _ => M.ret (.int x.length) := rfl
theorem u_lenT : builtin .len [.tup xs] = M.ret (.int xs.length) := rfl
theorem u_lenL : builtin .len [.loc n] = M.bind (rdL n) fun xs => M.ret (.int xs.length) := rfl
theorem u_int : builtin .int [.int i] = M.ret (.int i) := rfl
theorem u_intB {b : Bool} : builtin .int [.bl b] = M.ret (.int (if b then 1 else 0)) := rfl
theorem u_abs : builtin .abs [.int i] = M.ret (.int (if i < 0 then -i else i)) := rfl
theorem u_max2 : builtin .max2 [.int i, .int j] = M.ret (.int (if j > i then j else i)) := rfl
theorem u_min2 : builtin .min2 [.int i, .int j] = M.ret (.int (if j < i then j else i)) := rfl
theorem u_max1 : builtin .max1 [.loc n] = M.bind (rdL n) fun xs => M.bind (opt (intsD xs)) fun is => M.bind (guard (!is.isEmpty)) fun _ => M.ret (.int (maxI is)) := rfl
theorem u_sum : builtin .sum [.loc n] = M.bind (rdL n) fun xs => M.bind (opt (intsD xs)) fun is => M.ret (.int is.sum) := rfl
theorem u_listT : builtin .list [.tup xs] = alloc (.lst xs) := rfl
theorem u_listL : builtin .list [.loc n] = M.bind (rdL n) fun xs => alloc (.lst xs) := rfl
theorem u_tupT : builtin .tuple [.tup xs] = M.ret (.tup xs) := rfl
theorem u_tupL : builtin .tuple [.loc n] = M.bind (rdL n) fun xs => M.ret (.tup xs) := rfl
theorem u_strI : builtin .str [.int i] = M.bind (guard (decide (i.natAbs.log2 < 1920))) fun _ => M.ret (.str (toString i)) := rfl
theorem u_strS : builtin .str [.str x] = M.ret (.str x) := rfl
theorem u_isTupleN : builtin .isTuple [.non] = M.ret (.bl false) := rfl
theorem u_isTupleB {b : Bool} : builtin .isTuple [.bl b] = M.ret (.bl false) := rfl
theorem u_isTupleI : builtin .isTuple [.int i] = M.ret (.bl false) := rfl
theorem u_isTupleS : builtin .isTuple [.str x] = M.ret (.bl false) := rfl
theorem u_isTupleT : builtin .isTuple [.tup xs] = M.ret (.bl true) := rfl
theorem u_isTupleL : builtin .isTuple [.loc n] = M.ret (.bl false) := rfl
theorem u_isStrN : builtin .isStr [.non] = M.ret (.bl false) := rfl
theorem u_isStrB {b : Bool} : builtin .isStr [.bl b] = M.ret (.bl false) := rfl
theorem u_isStrI : builtin .isStr [.int i] = M.ret (.bl false) := rfl
theorem u_isStrS : builtin .isStr [.str x] = M.ret (.bl true) := rfl
theorem u_isStrT : builtin .isStr [.tup xs] = M.ret (.bl false) := rfl
theorem u_isStrL : builtin .isStr [.loc n] = M.ret (.bl false) := rfl
theorem u_isIntN : builtin .isInt [.non] = M.ret (.bl false) := rfl
theorem u_isIntB {b : Bool} : builtin .isInt [.bl b] = M.ret (.bl true) := rfl
theorem u_isIntI : builtin .isInt [.int i] = M.ret (.bl true) := rfl
theorem u_isIntS : builtin .isInt [.str x] = M.ret (.bl false) := rfl
theorem u_isIntT : builtin .isInt [.tup xs] = M.ret (.bl false) := rfl
theorem u_isIntL : builtin .isInt [.loc n] = M.ret (.bl false) := rfl
theorem u_isBoolN : builtin .isBool [.non] = M.ret (.bl false) := rfl
theorem u_isBoolB {b : Bool} : builtin .isBool [.bl b] = M.ret (.bl true) := rfl
theorem u_isBoolI : builtin .isBool [.int i] = M.ret (.bl false) := rfl
theorem u_isBoolS : builtin .isBool [.str x] = M.ret (.bl false) := rfl
theorem u_isBoolT : builtin .isBool [.tup xs] = M.ret (.bl false) := rfl
theorem u_isBoolL : builtin .isBool [.loc n] = M.ret (.bl false) := rfl
theorem c_isnB {b : Bool} : cmpop .isn (.bl b) .non = M.ret false := rfl
theorem c_isnL : cmpop .isn (.loc n) .non = M.ret false := rfl
theorem c_isnnB {b : Bool} : cmpop .isnn (.bl b) .non = M.ret true := rfl
theorem c_isnnL : cmpop .isnn (.loc n) .non = M.ret true := rfl
theorem u_append : builtin .append [.loc n, d] = M.bind (owL n) fun xs => M.bind (guard (decide (xs.length < sizeLine))) fun _ => M.bind (wrL n (xs ++ [d])) fun _ => M.ret .non := rfl
theorem u_pop1 : builtin .pop1 [.loc n, .int i] = M.bind (owL n) fun xs => M.bind (guard (decide (-(2 ^ 63) ≤ i) && decide (i < 2 ^ 63))) fun _ => M.bind (opt (seqIndex? i xs.length)) fun k => M.bind (opt xs[k]?) fun d => M.bind (wrL n (xs.eraseIdx k)) fun _ => M.ret d := rfl
theorem v_append : recv .append (.loc n) = M.bind (rdL n) fun _ => M.ret () := rfl
theorem v_pop1 : recv .pop1 (.loc n) = M.bind (rdL n) fun _ => M.ret () := rfl
theorem v_pop0 : recv .pop0 (.loc n) = M.bind (rdL n) fun _ => M.ret () := rfl
theorem v_extend : recv .extend (.loc n) = M.bind (rdL n) fun _ => M.ret () := rfl
theorem v_insert : recv .insert (.loc n) = M.bind (rdL n) fun _ => M.ret () := rfl
theorem v_reverse : recv .reverse (.loc n) = M.bind (rdL n) fun _ => M.ret () := rfl
theorem v_split : recv .split (.str x) = M.ret () := rfl
theorem v_startswith : recv .startswith (.str x) = M.ret () := rfl
theorem v_join : recv .join (.str x) = M.ret () := rfl
theorem t_non : truth .non = M.ret false := rfl
theorem t_bl {b : Bool} : truth (.bl b) = M.ret b := rfl
theorem t_T : truth (.tup xs) = M.ret (!xs.isEmpty) := rfl
theorem t_L : truth (.loc n) = M.bind (rdL n) fun xs => M.ret (!xs.isEmpty) := rfl
theorem k_r1 : mkIt .rng1 [.int j] = M.bind (guard (decide (-(2 ^ 62) ≤ j) && decide (j < 2 ^ 62))) fun _ => M.ret (.rng 0 1 j.toNat) := rfl
theorem k_r2 : mkIt .rng2 [.int i, .int j] = M.bind (guard (decide (-(2 ^ 62) ≤ i) && decide (i < 2 ^ 62) && decide (-(2 ^ 62) ≤ j) && decide (j < 2 ^ 62))) fun _ => M.ret (.rng i 1 (j - i).toNat) := rfl
theorem k_T : mkIt .seq [.tup xs] = M.ret (.tup xs) := rfl
theorem k_S : mkIt .seq [.str x] = M.ret (.str x) := rfl
theorem k_L : mkIt .seq [.loc n] = M.bind (rdL n) fun _ => M.ret (.lst n) := rfl
end
end Mn
namespace Mn
open PySem L2
section
variable {J : ItV} {S : Store} {E : Exn → Store → Prop} {C : Ctx} {env : Nv}
theorem e_itAt {i : Nat} {o : Option D} {R : Option D → Store → Prop} (h : itO J i S = some o) : wpx (itAt J i) R E S ↔ R o S := by
  unfold wpx itAt; rw [h]
/-- what a turn is to reach -/
def turnS (N : Nv → Store → Prop) (Q : Flow × Nv → Store → Prop) : Flow × Nv → Store → Prop := fun r S => match r with
  | (.nx, e) => N e S
  | (.ct, e) => N e S
  | (.bk, e) => Q (.nx, e) S
  | (.rt v, e) => Q (.rt v, e) S
theorem turn_nx {N : Nv → Store → Prop} {Q : Flow × Nv → Store → Prop} {e : Nv} : turnS N Q (.nx, e) S ↔ N e S := Iff.rfl
theorem turn_ct {N : Nv → Store → Prop} {Q : Flow × Nv → Store → Prop} {e : Nv} : turnS N Q (.ct, e) S ↔ N e S := Iff.rfl
theorem turn_bk {N : Nv → Store → Prop} {Q : Flow × Nv → Store → Prop} {e : Nv} : turnS N Q (.bk, e) S ↔ Q (.nx, e) S := Iff.rfl
theorem turn_rt {N : Nv → Store → Prop} {Q : Flow × Nv → Store → Prop} {e : Nv} {v : D} : turnS N Q (.rt v, e) S ↔ Q (.rt v, e) S := Iff.rfl
theorem for_items {asg : D → Nv → M Nv} {b : Nv → M (Flow × Nv)} {Q : Flow × Nv → Store → Prop} (items : List D) (P : Nat → Nv → Store → Prop) (hl : items.length < FUEL) (h0 : P 0 env S)
    (hit : ∀ i env S, i ≤ items.length → P i env S → itO J i S = some items[i]?)
    (step : ∀ i d env S, items[i]? = some d → P i env S → wpx (asg d env) (fun e1 S1 => wpx (b e1) (turnS (P (i + 1)) Q) E S1) E S)
    (done : ∀ env S, P items.length env S → Q (.nx, env) S) : wpx (forF J asg b FUEL 0 env) Q E S := by
  have go : ∀ (f i : Nat) (env : Nv) (S : Store), items.length - i < f → i ≤ items.length → P i env S → wpx (forF J asg b f i env) Q E S := by
    intro f
    induction f with
    | zero => intro i env S h; omega
    | succ f ih =>
      intro i env S hf hi p
      unfold forF
      rw [wpx_bind, e_itAt (hit i env S hi p)]
      by_cases hlt : i < items.length
      · rw [List.getElem?_eq_getElem hlt]
        show wpx (M.bind (asg _ env) _) Q E S
        rw [wpx_bind]
        refine wpx_mono (step i _ env S (List.getElem?_eq_getElem hlt) p) (fun e1 S1 h1 => ?_) fun _ _ z => z
        rw [wpx_bind]
        refine wpx_mono h1 (fun r S2 h2 => ?_) fun _ _ z => z
        obtain ⟨fl, e2⟩ := r
        cases fl with
        | nx => exact ih (i + 1) e2 S2 (by omega) (by omega) h2
        | ct => exact ih (i + 1) e2 S2 (by omega) (by omega) h2
        | bk => exact h2
        | rt v => exact h2
      · have e : i = items.length := by omega
        subst e
        rw [List.getElem?_eq_none (Nat.le_refl _)]
        exact done env S p
  exact go FUEL 0 env S (by omega) (Nat.zero_le _) h0
theorem comp_items {put : D → Nv → Nv} {cond elt : Nv → M D} {n : Nat} {Q : D → Store → Prop} (items : List D) (P : Nat → List D → Store → Prop) (hl : items.length < FUEL) (h0 : P 0 [] S)
    (hit : ∀ i acc S, i ≤ items.length → P i acc S → S[n]? = some (.lst acc) ∧ itO J i S = some items[i]?)
    (step : ∀ i d acc S, items[i]? = some d → P i acc S → wpx (cond (put d env)) (fun c S1 => ∃ b, c = .bl b ∧ (b = true → wpx (elt (put d env)) (fun y S2 => S2[n]? = some (.lst acc) ∧ acc.length < sizeLine ∧ P (i + 1) (acc ++ [y]) (S2.set n (.lst (acc ++ [y])))) E S1) ∧ (b = false → P (i + 1) acc S1)) E S)
    (done : ∀ acc S, P items.length acc S → Q (.loc n) S) : wpx (compF J put cond elt env n FUEL 0) Q E S := by
  have go : ∀ (f i : Nat) (acc : List D) (S : Store), items.length - i < f → i ≤ items.length → P i acc S → wpx (compF J put cond elt env n f i) Q E S := by
    intro f
    induction f with
    | zero => intro i acc S h; omega
    | succ f ih =>
      intro i acc S hf hi p
      unfold compF
      obtain ⟨h1, h2⟩ := hit i acc S hi p
      rw [wpx_bind, e_itAt h2]
      by_cases hlt : i < items.length
      · rw [List.getElem?_eq_getElem hlt]
        show wpx (M.bind (cond _) _) Q E S
        rw [wpx_bind]
        refine wpx_mono (step i _ acc S (List.getElem?_eq_getElem hlt) p) (fun c S1 ⟨b, e, g1, g2⟩ => ?_) fun _ _ z => z
        subst e
        rw [wpx_bind, x_asB]
        cases b with
        | false => exact ih (i + 1) acc S1 (by omega) (by omega) (g2 rfl)
        | true =>
          show wpx (M.bind (elt _) _) Q E S1
          rw [wpx_bind]
          refine wpx_mono (g1 rfl) (fun y S2 ⟨k1, k2, k3⟩ => ?_) fun _ _ z => z
          rw [wpx_bind, x_owL k1, wpx_bind, wpx_guard]
          refine ⟨by simpa using k2, ?_⟩
          rw [wpx_bind, x_wrL]
          exact ih (i + 1) _ _ (by omega) (by omega) k3
      · have e : i = items.length := by omega
        subst e
        rw [List.getElem?_eq_none (Nat.le_refl _)]
        exact done acc S p
  exact go FUEL 0 [] S (by omega) (Nat.zero_le _) h0
theorem while_by {c : Nv → M D} {b : Nv → M (Flow × Nv)} {Q : Flow × Nv → Store → Prop} (P : Nat → Nv → Store → Prop) (m : Nat) (hm : m < FUEL) (h0 : P m env S)
    (step : ∀ m env S, P m env S → wpx (c env) (fun x S1 => ∃ k, x = .bl k ∧ (k = true → wpx (b env) (turnS (fun e S2 => ∃ m', m' < m ∧ P m' e S2) Q) E S1) ∧ (k = false → Q (.nx, env) S1)) E S) : wpx (whileF c b FUEL env) Q E S := by
  have go : ∀ (f m : Nat) (env : Nv) (S : Store), m < f → P m env S → wpx (whileF c b f env) Q E S := by
    intro f
    induction f with
    | zero => intro m env S h; omega
    | succ f ih =>
      intro m env S hf p
      unfold whileF
      rw [wpx_bind]
      refine wpx_mono (step m env S p) (fun x S1 ⟨k, e, g1, g2⟩ => ?_) fun _ _ z => z
      subst e
      rw [wpx_bind, x_asB]
      cases k with
      | false => exact g2 rfl
      | true =>
        show wpx (M.bind (b env) _) Q E S1
        rw [wpx_bind]
        refine wpx_mono (g1 rfl) (fun r S2 h2 => ?_) fun _ _ z => z
        obtain ⟨fl, e2⟩ := r
        cases fl with
        | nx => obtain ⟨m', h3, h4⟩ := h2; exact ih m' e2 S2 (by omega) h4
        | ct => obtain ⟨m', h3, h4⟩ := h2; exact ih m' e2 S2 (by omega) h4
        | bk => exact h2
        | rt v => exact h2
  exact go FUEL m env S hm h0
/-- the ints of a range -/
def rngD (lo : Int) (n : Nat) : List D := (List.range n).map fun (i : Nat) => D.int (lo + (i : Int) * 1)
theorem rngD_len {lo : Int} {n : Nat} : (rngD lo n).length = n := by simp [rngD]
theorem rngD_get {lo : Int} {n i : Nat} {d : D} (h : (rngD lo n)[i]? = some d) : d = .int (lo + i) ∧ i < n := by
  unfold rngD at h
  rw [List.getElem?_map] at h
  by_cases hi : i < n
  · rw [List.getElem?_range hi] at h
    cases h
    exact ⟨by simp, hi⟩
  · rw [List.getElem?_eq_none (by simpa using hi)] at h; cases h
theorem rng_it {lo : Int} {n i : Nat} : itO (.rng lo 1 n) i S = some (rngD lo n)[i]? := by
  show some _ = some _
  congr 1
  unfold rngD
  by_cases hi : i < n
  · rw [if_pos hi, List.getElem?_map, List.getElem?_range hi]; rfl
  · rw [if_neg hi, List.getElem?_eq_none (by simpa using hi)]
theorem fuel_big {n : Nat} (h : n ≤ 1000000000) : n < FUEL := by unfold FUEL; omega
end
end Mn
namespace Mn
open PySem L2 PyProof.Rows PySem.StrLaws
/-! ### short texts of plain signs -/
def Ws (k : Nat) (s : Str) : Prop := s.length ≤ k ∧ ∀ c ∈ s.cps.toList, c < 128
instance {k : Nat} {s : Str} : Decidable (Ws k s) := by unfold Ws; infer_instance
theorem Ws.mono {j k : Nat} {s : Str} (h : Ws j s) (hj : j ≤ k) : Ws k s := ⟨by have := h.1; omega, h.2⟩
theorem Ws.add {j k : Nat} {x y : Str} (hx : Ws j x) (hy : Ws k y) : Ws (j + k) (x ++ y) := by
  have e : (x ++ y).length = x.length + y.length := strLen_append x y
  refine ⟨by have := hx.1; have := hy.1; omega, fun c hc => ?_⟩
  have : (x ++ y).cps.toList = x.cps.toList ++ y.cps.toList := by
    show (x.cps ++ y.cps).toList = _
    simp
  rw [this, List.mem_append] at hc
  exact hc.elim (hx.2 c) (hy.2 c)
theorem len_cps (s : Str) : s.cps.toList.length = s.length := by simp [Str.length]
theorem Ws.cut {k : Nat} {x : Str} {lo hi : Option Int} (h : Ws k x) : Ws k (cutS x lo hi) := by
  refine ⟨?_, fun c hc => ?_⟩
  · have : (cutS x lo hi).length ≤ x.length := by
      rw [← len_cps, ← len_cps]
      show (List.take _ (List.drop _ x.cps.toList)).toArray.toList.length ≤ _
      rw [List.toList_toArray, List.length_take, List.length_drop]
      omega
    have := h.1
    omega
  · apply h.2
    have hc' : c ∈ (List.take (HT.sIx x.length x.length hi - HT.sIx x.length 0 lo) (List.drop (HT.sIx x.length 0 lo) x.cps.toList)).toArray.toList := hc
    rw [List.toList_toArray] at hc'
    exact List.mem_of_mem_drop (List.mem_of_mem_take hc')
theorem Ws.sign {k : Nat} {x : Str} {i c : Nat} (h : Ws k x) (hc : x.cps.toList[i]? = some c) : Ws 1 ⟨#[c]⟩ :=
  ⟨Nat.le_refl _, fun d hd => by
    have : d = c := by simpa using hd
    subst this
    exact h.2 _ (List.mem_of_getElem? hc)⟩
theorem Ws.num {i : Int} (h0 : 0 ≤ i) (h1 : i < 10 ^ 9) : Ws 9 ((toString i : String) : Str) := by
  refine ⟨toString_length_le h0 (by decide) h1, fun c hc => ?_⟩
  rw [Str.ofString_eq_toList] at hc
  simp at hc
  obtain ⟨a, ha, rfl⟩ := hc
  have := int_ascii i a ha
  simpa using this
theorem Ws.repeat {n : Nat} {c : Nat} (hc : c < 128) : Ws n ⟨(rep [c] n).toArray⟩ := by
  have e : rep [c] n = List.replicate n c := by
    unfold Mn.rep
    induction n with
    | zero => rfl
    | succ n ih => rw [List.replicate_succ, List.flatten_cons, ih, List.replicate_succ]; rfl
  refine ⟨?_, fun d hd => ?_⟩
  · show (Mn.rep [c] n).toArray.size ≤ n
    rw [e]; simp
  · have hd' : d ∈ Mn.rep [c] n := by simpa using hd
    rw [e] at hd'
    rw [(List.mem_replicate.mp hd').2]; exact hc
theorem Ws.ok2 {k : Nat} {x : Str} (h : Ws k x) (hk : k ≤ 1000000) : ok2 x.length = true := by
  have := h.1
  unfold Mn.ok2
  rw [decide_eq_true_eq]
  have : sizeLine = 16777216 := rfl
  omega
theorem Ws.ok22 {j k : Nat} {x y : Str} (h : Ws j x) (h' : Ws k y) (hj : j + k ≤ 1000000) : Mn.ok2 (x.length + y.length) = true := by
  have := h.1
  have := h'.1
  unfold Mn.ok2
  rw [decide_eq_true_eq]
  have : sizeLine = 16777216 := rfl
  omega
/-! ### what data weighs when it is shown -/
mutual
def wt : D → Nat
  | .non => 4
  | .bl _ => 5
  | .int _ => 1921
  | .str x => 10 * x.length + 2
  | .tup xs => wts xs + 3
  | .loc _ => 0
  | .lst _ => 0
  | .dct _ _ => 0
def wts : List D → Nat
  | [] => 0
  | x :: xs => wt x + 2 + wts xs
end
mutual
def fine : D → Bool
  | .int i => decide (i.natAbs.log2 < 1920)
  | .str x => PyData.strOk x
  | .tup xs => fines xs
  | .loc _ => false
  | .lst _ => false
  | .dct _ _ => false
  | .non => true
  | .bl _ => true
def fines : List D → Bool
  | [] => true
  | x :: xs => fine x && fines xs
end
mutual
def dep : D → Nat
  | .tup xs => deps xs + 1
  | _ => 0
def deps : List D → Nat
  | [] => 0
  | x :: xs => max (dep x) (deps xs)
end
mutual
theorem fine_py : ∀ d : D, fine d = true → ∃ a, py d = some a ∧ a.showable = true ∧ a.hasDict = false ∧ a.depth = dep d ∧ a.shown.length ≤ wt d ∧ a.canLay0 = true
  | .non, _ => ⟨_, rfl, rfl, rfl, rfl, by decide, rfl⟩
  | .bl b, _ => ⟨_, rfl, rfl, rfl, rfl, by cases b <;> decide, rfl⟩
  | .int i, h => ⟨_, rfl, by simpa [fine, PyData.showable] using h, rfl, rfl, by
      have := int_text_len_1921 (show i.natAbs.log2 < 1920 by simpa [fine] using h)
      simp only [PyData.shown, wt]
      exact this, rfl⟩
  | .str x, h => ⟨_, rfl, rfl, rfl, rfl, by
      simp only [PyData.shown, wt]
      exact reprText_len x (fun c hc => by
        have := (show PyData.strOk x = true by simpa [fine] using h)
        unfold PyData.strOk at this
        rw [Array.all_eq_true'] at this
        have := this c (by simpa using hc)
        have e : c < 1114112 := by simpa using this
        omega), by simpa [fine, PyData.canLay0] using h⟩
  | .tup xs, h => by
      obtain ⟨as, h1, h2, h3, h4, h5, h6, h7⟩ := fines_py xs (by simpa [fine] using h)
      refine ⟨.tuple as, by rw [py, h1]; rfl, by simpa [PyData.showable] using h2, by simpa [PyData.hasDict] using h3, by simp [PyData.depth, dep, h4], ?_, by simpa [PyData.canLay0] using h6⟩
      simp only [PyData.shown, wt]
      have := tupleText_len_le (PyData.shownAll as)
      omega
  | .loc n, h => by simp [fine] at h
  | .lst _, h => by simp [fine] at h
  | .dct _ _, h => by simp [fine] at h
theorem fines_py : ∀ xs : List D, fines xs = true → ∃ as, pyAll xs = some as ∧ PyData.showableAll as = true ∧ PyData.hasDictAll as = false ∧ PyData.depthAll as = deps xs ∧ ((PyData.shownAll as).map (·.length)).sum + 2 * (PyData.shownAll as).length ≤ wts xs ∧ PyData.canLayAll0 as = true ∧ as.length = xs.length
  | [], _ => ⟨[], rfl, rfl, rfl, rfl, by decide, rfl, rfl⟩
  | x :: xs, h => by
      have hh : fine x = true ∧ fines xs = true := by simpa [fines] using h
      obtain ⟨a, g1, g2, g3, g4, g5, g6⟩ := fine_py x hh.1
      obtain ⟨as, h1, h2, h3, h4, h5, h6, h7⟩ := fines_py xs hh.2
      refine ⟨a :: as, by rw [pyAll, g1, h1], by simp [PyData.showableAll, g2, h2], by simp [PyData.hasDictAll, g3, h3], by simp [PyData.depthAll, deps, g4, h4], ?_, by simp [PyData.canLayAll0, g6, h6], by simp [h7]⟩
      simp only [PyData.shownAll, List.map_cons, List.sum_cons, List.length_cons, wts]
      omega
end
def shD (d : D) : Str := match py d with
  | some a => a.shown
  | none => ""
def shL (xs : List D) : Str := match pyAll xs with
  | some as => (PyData.list as).shown
  | none => ""
theorem py1_py {S : Store} {d : D} (h : fine d = true) : py1 S d = py d := by
  cases d <;> first | rfl | (simp [fine] at h)
section
variable {E : Exn → Store → Prop} {S : Store} {R : D → Store → Prop}
theorem x_reprM {d : D} (h1 : fine d = true) (h2 : dep d ≤ 150) (h3 : wt d ≤ 16777216) : wpx (reprM d) R E S ↔ R (.str (shD d)) S := by
  obtain ⟨a, g1, g2, g3, g4, g5, g6⟩ := fine_py d h1
  unfold wpx reprM
  rw [py1_py h1, g1]
  have e : (a.showable && !a.hasDict && decide (a.depth ≤ 150) && decide (a.shown.length ≤ sizeLine)) = true := by
    rw [g2, g3, g4]
    have : sizeLine = 16777216 := rfl
    simp
    omega
  simp only [e, if_true]
  unfold shD
  rw [g1]
theorem x_reprML {n : Nat} {xs : List D} (hn : S[n]? = some (.lst xs)) (h1 : fines xs = true) (h2 : deps xs ≤ 149) (h3 : wts xs ≤ 16777200) : wpx (reprM (.loc n)) R E S ↔ R (.str (shL xs)) S := by
  obtain ⟨as, g1, g2, g3, g4, g5, g6, g7⟩ := fines_py xs h1
  unfold wpx reprM
  have e0 : py1 S (.loc n) = some (.list as) := by show (match S[n]? with | some (.lst xs) => (pyAll xs).map PyData.list | some (.ro xs) => (pyAll xs).map PyData.list | none => none) = _; rw [hn]; show (pyAll xs).map _ = _; rw [g1]; rfl
  rw [e0]
  have k := listText_len_le (PyData.shownAll as)
  have hz : sizeLine = 16777216 := rfl
  have q1 : (PyData.list as).showable = true := g2
  have q2 : (PyData.list as).hasDict = false := g3
  have q3 : (PyData.list as).depth ≤ 150 := by show PyData.depthAll as + 1 ≤ 150; omega
  have q4 : (PyData.list as).shown.length ≤ sizeLine := by show (listText (PyData.shownAll as)).length ≤ _; omega
  have e : ((PyData.list as).showable && !(PyData.list as).hasDict && decide ((PyData.list as).depth ≤ 150) && decide ((PyData.list as).shown.length ≤ sizeLine)) = true := by
    rw [q1, q2, decide_eq_true q3, decide_eq_true q4]; rfl
  simp only [e, if_true]
  unfold shL
  rw [g1]
theorem x_repr {d : D} (h1 : fine d = true) (h2 : dep d ≤ 150) (h3 : wt d ≤ 16777216) : wpx (builtin .repr [d]) R E S ↔ R (.str (shD d)) S := by
  cases d with
  | non => exact Iff.rfl
  | bl b => cases b <;> exact Iff.rfl
  | int i =>
    show wpx (M.bind (guard _) _) R E S ↔ _
    rw [wpx_bind, wpx_guard]
    have : decide (i.natAbs.log2 < 1920) = true := by simpa [fine] using h1
    rw [this]
    exact ⟨fun h => h.2, fun h => ⟨rfl, h⟩⟩
  | str x =>
    obtain ⟨a, g1, g2, g3, g4, g5, g6⟩ := fine_py _ h1
    cases g1
    show wpx (M.bind (guard _) _) R E S ↔ _
    rw [wpx_bind, wpx_guard]
    have : ok2 (reprText x).length = true := by
      unfold ok2
      rw [decide_eq_true_eq]
      have : sizeLine = 16777216 := rfl
      simp only [PyData.shown] at g5
      omega
    rw [this]
    exact ⟨fun h => h.2, fun h => ⟨rfl, h⟩⟩
  | tup xs => exact x_reprM h1 h2 h3
  | loc n => simp [fine] at h1
  | lst _ => simp [fine] at h1
  | dct _ _ => simp [fine] at h1
def eqvD (x y : D) : Bool := match py x, py y with
  | some a, some b => PyData.eqv a b
  | _, _ => false
theorem x_eqD {x y : D} {R : Bool → Store → Prop} (h1 : fine x = true) (h2 : fine y = true) (h3 : dep x ≤ 150) : wpx (eqM x y) R E S ↔ R (eqvD x y) S := by
  obtain ⟨a, g1, g2, g3, g4, g5, g6⟩ := fine_py _ h1
  obtain ⟨b, k1, k2, k3, k4, k5, k6⟩ := fine_py _ h2
  unfold wpx eqM
  rw [py1_py h1, py1_py h2, g1, k1]
  have e : fitEq x y a b = true := by
    unfold fitEq
    rw [g6, k6]
    simp
    omega
  simp only [e, if_true]
  unfold eqvD
  rw [g1, k1]
theorem eqvD_refl {x : D} (h : fine x = true) : eqvD x x = true := by
  obtain ⟨a, g1, g2, g3, g4, g5, g6⟩ := fine_py _ h
  unfold eqvD
  rw [g1]
  exact PySem.SeqAt.eqv_refl a g6
end
theorem fines_of {xs : List D} (h : ∀ x ∈ xs, fine x = true) : fines xs = true := by
  induction xs with
  | nil => rfl
  | cons x xs ih => simp only [fines, h x (List.mem_cons_self ..), ih fun y hy => h y (List.mem_cons_of_mem _ hy)]; rfl
theorem deps_of {xs : List D} {k : Nat} (h : ∀ x ∈ xs, dep x ≤ k) : deps xs ≤ k := by
  induction xs with
  | nil => exact Nat.zero_le _
  | cons x xs ih =>
    have := h x (List.mem_cons_self ..)
    have := ih fun y hy => h y (List.mem_cons_of_mem _ hy)
    simp only [deps]
    omega
theorem wts_of {xs : List D} {k : Nat} (h : ∀ x ∈ xs, wt x ≤ k) : wts xs ≤ (k + 2) * xs.length := by
  induction xs with
  | nil => exact Nat.le_refl _
  | cons x xs ih =>
    have := h x (List.mem_cons_self ..)
    have := ih fun y hy => h y (List.mem_cons_of_mem _ hy)
    simp only [wts, List.length_cons, Nat.mul_succ]
    omega
theorem Ws.fine {k : Nat} {x : Str} (h : Ws k x) : Mn.fine (.str x) = true := by
  simp only [Mn.fine]
  unfold PyData.strOk
  rw [Array.all_eq_true']
  intro c hc
  have := h.2 c (by simpa using hc)
  simp
  omega
theorem Ws.wt {k : Nat} {x : Str} (h : Ws k x) : Mn.wt (.str x) ≤ 10 * k + 2 := by
  have := h.1
  simp only [Mn.wt]
  omega
/-- a flat thing in a list of flat things -/
theorem inAll_flat {x : D} {ys : List D} (hx : flatD x = true) (hy : ∀ y ∈ ys, flatD y = true) : ∃ b, inAll x ys = some b := by
  have p1 : ∀ d : D, flatD d = true → ∃ a, py d = some a := fun d h => by cases d <;> first | exact ⟨_, rfl⟩ | (simp [flatD] at h)
  have p2 : ∀ l : List D, (∀ y ∈ l, flatD y = true) → ∃ as, pyAll l = some as := by
    intro l
    induction l with
    | nil => exact fun _ => ⟨[], rfl⟩
    | cons a l ih =>
      intro h
      obtain ⟨b, hb⟩ := p1 a (h a (List.mem_cons_self ..))
      obtain ⟨bs, hbs⟩ := ih fun y hy => h y (List.mem_cons_of_mem _ hy)
      exact ⟨b :: bs, by rw [pyAll, hb, hbs]⟩
  obtain ⟨a, ha⟩ := p1 x hx
  obtain ⟨bs, hbs⟩ := p2 ys hy
  have e : ys.all flatD = true := List.all_eq_true.mpr hy
  exact ⟨_, by unfold inAll; rw [ha, hbs, hx, e]; simp; rfl⟩
theorem o_0 : ok2 (0) = true := rfl
theorem o_1 : ok2 (0 + 1) = true := rfl
theorem o_2 : ok2 (0 + 1 + 1) = true := rfl
theorem o_3 : ok2 (0 + 1 + 1 + 1) = true := rfl
theorem o_4 : ok2 (0 + 1 + 1 + 1 + 1) = true := rfl
theorem o_5 : ok2 (0 + 1 + 1 + 1 + 1 + 1) = true := rfl
theorem o_6 : ok2 (0 + 1 + 1 + 1 + 1 + 1 + 1) = true := rfl
theorem o_7 : ok2 (0 + 1 + 1 + 1 + 1 + 1 + 1 + 1) = true := rfl
theorem o_8 : ok2 (0 + 1 + 1 + 1 + 1 + 1 + 1 + 1 + 1) = true := rfl
theorem o_9 : ok2 (0 + 1 + 1 + 1 + 1 + 1 + 1 + 1 + 1 + 1) = true := rfl
theorem o_10 : ok2 (0 + 1 + 1 + 1 + 1 + 1 + 1 + 1 + 1 + 1 + 1) = true := rfl
theorem o_11 : ok2 (0 + 1 + 1 + 1 + 1 + 1 + 1 + 1 + 1 + 1 + 1 + 1) = true := rfl
theorem o_12 : ok2 (0 + 1 + 1 + 1 + 1 + 1 + 1 + 1 + 1 + 1 + 1 + 1 + 1) = true := rfl
theorem o_13 : ok2 (0 + 1 + 1 + 1 + 1 + 1 + 1 + 1 + 1 + 1 + 1 + 1 + 1 + 1) = true := rfl
theorem o_14 : ok2 (0 + 1 + 1 + 1 + 1 + 1 + 1 + 1 + 1 + 1 + 1 + 1 + 1 + 1 + 1) = true := rfl
theorem o_15 : ok2 (0 + 1 + 1 + 1 + 1 + 1 + 1 + 1 + 1 + 1 + 1 + 1 + 1 + 1 + 1 + 1) = true := rfl
theorem o_16 : ok2 (0 + 1 + 1 + 1 + 1 + 1 + 1 + 1 + 1 + 1 + 1 + 1 + 1 + 1 + 1 + 1 + 1) = true := rfl
theorem o_17 : ok2 (0 + 1 + 1 + 1 + 1 + 1 + 1 + 1 + 1 + 1 + 1 + 1 + 1 + 1 + 1 + 1 + 1 + 1) = true := rfl
theorem o_18 : ok2 (0 + 1 + 1 + 1 + 1 + 1 + 1 + 1 + 1 + 1 + 1 + 1 + 1 + 1 + 1 + 1 + 1 + 1 + 1) = true := rfl
theorem o_19 : ok2 (0 + 1 + 1 + 1 + 1 + 1 + 1 + 1 + 1 + 1 + 1 + 1 + 1 + 1 + 1 + 1 + 1 + 1 + 1 + 1) = true := rfl
theorem o_20 : ok2 (0 + 1 + 1 + 1 + 1 + 1 + 1 + 1 + 1 + 1 + 1 + 1 + 1 + 1 + 1 + 1 + 1 + 1 + 1 + 1 + 1) = true := rfl
theorem o_21 : ok2 (0 + 1 + 1 + 1 + 1 + 1 + 1 + 1 + 1 + 1 + 1 + 1 + 1 + 1 + 1 + 1 + 1 + 1 + 1 + 1 + 1 + 1) = true := rfl
theorem o_22 : ok2 (0 + 1 + 1 + 1 + 1 + 1 + 1 + 1 + 1 + 1 + 1 + 1 + 1 + 1 + 1 + 1 + 1 + 1 + 1 + 1 + 1 + 1 + 1) = true := rfl
theorem o_23 : ok2 (0 + 1 + 1 + 1 + 1 + 1 + 1 + 1 + 1 + 1 + 1 + 1 + 1 + 1 + 1 + 1 + 1 + 1 + 1 + 1 + 1 + 1 + 1 + 1) = true := rfl
theorem o_24 : ok2 (0 + 1 + 1 + 1 + 1 + 1 + 1 + 1 + 1 + 1 + 1 + 1 + 1 + 1 + 1 + 1 + 1 + 1 + 1 + 1 + 1 + 1 + 1 + 1 + 1) = true := rfl
theorem x_newL {E : Exn → Store → Prop} {S : Store} {R : D → Store → Prop} {xs : List D} : wpx (newL xs) R E S ↔ ok2 xs.length = true ∧ R (.loc S.length) (S ++ [.lst xs]) := by
  unfold newL
  rw [wpx_bind, wpx_guard, x_alloc]
theorem x_newT {E : Exn → Store → Prop} {S : Store} {R : D → Store → Prop} {xs : List D} : wpx (newT xs) R E S ↔ ok2 xs.length = true ∧ R (.tup xs) S := by
  unfold newT
  rw [wpx_bind, wpx_guard, wpx_ret]
theorem log_small {k : Int} (h : k.natAbs < 2 ^ 64) : decide (k.natAbs.log2 < 1920) = true := by
  rw [decide_eq_true_eq]
  by_cases e : k.natAbs = 0
  · rw [e]; decide
  · have := (Nat.log2_lt e).mpr h
    omega
theorem ap_self {S : Store} {c : Cell} : (S ++ [c])[S.length]? = some c := by simp
theorem ap_old {S : Store} {c d : Cell} {i : Nat} (h : S[i]? = some d) : (S ++ [c])[i]? = some d := by
  rw [List.getElem?_append_left (List.getElem?_eq_some_iff.mp h).1]; exact h
/-- one of a few -/
theorem w_pick {xs : List D} {v : Int} {P : D → Prop} {Q : D → Store → Prop} {E : Exn → Store → Prop} {S : Store} (h0 : 0 ≤ v) (h1 : v < xs.length) (hP : ∀ d ∈ xs, P d) (h : ∀ d, P d → Q d S) : wpx (opt (atI xs v)) Q E S := by
  have : atI xs v = some (xs[v.toNat]'(by omega)) := atI_lt h0 (List.getElem?_eq_getElem (by omega))
  rw [this]
  exact h _ (hP _ (List.getElem_mem _))
theorem w_sign {x : Str} {k : Nat} {v : Int} {Q : D → Store → Prop} {E : Exn → Store → Prop} {S : Store} (hx : Ws k x) (hk : k ≤ 1000000) (h0 : 0 ≤ v) (h1 : v < x.length) (h : ∀ c, Ws 1 ⟨#[c]⟩ → Q (.str ⟨#[c]⟩) S) : wpx (index (.str x) (.int v)) Q E S := by
  rw [i_S, wpx_bind, wpx_guard]
  refine ⟨hx.ok2 hk, ?_⟩
  have hl : v.toNat < x.cps.toList.length := by rw [len_cps]; omega
  have : atI x.cps.toList v = some (x.cps.toList[v.toNat]'hl) := atI_lt h0 (List.getElem?_eq_getElem hl)
  rw [this]
  exact h _ (hx.sign (List.getElem?_eq_getElem hl))
def isWs (k : Nat) : D → Bool
  | .str s => decide (Ws k s)
  | _ => false
def isIn (lo hi : Int) : D → Bool
  | .int s => decide (lo ≤ s) && decide (s ≤ hi)
  | _ => false
theorem all_ws {k : Nat} {xs : List D} (h : xs.all (isWs k) = true) : ∀ d ∈ xs, ∃ s, d = .str s ∧ Ws k s := fun d hd => by
  have := List.all_eq_true.mp h d hd
  cases d with
  | str s => exact ⟨s, rfl, by simpa [isWs] using this⟩
  | _ => simp [isWs] at this
theorem all_in {lo hi : Int} {xs : List D} (h : xs.all (isIn lo hi) = true) : ∀ d ∈ xs, ∃ i, d = .int i ∧ lo ≤ i ∧ i ≤ hi := fun d hd => by
  have := List.all_eq_true.mp h d hd
  cases d with
  | int s => exact ⟨s, rfl, by simpa [isIn] using this⟩
  | _ => simp [isIn] at this
theorem k_r1n {n : Int} {R : ItV → Store → Prop} {S : Store} {E : Exn → Store → Prop} (h0 : 0 ≤ n) (h : n < 1000000000) : wpx (mkIt .rng1 [.int n]) R E S ↔ R (.rng 0 1 n.toNat) S := by
  rw [k_r1, wpx_bind, wpx_guard, wpx_ret]
  have : (decide (-(2 ^ 62) ≤ n) && decide (n < 2 ^ 62)) = true := by simp; omega
  rw [this]
  exact ⟨fun h => h.2, fun h => ⟨rfl, h⟩⟩
/-- a loop over range(n) -/
theorem for_rng {asg : D → Nv → M Nv} {b : Nv → M (Mn.Flow × Nv)} {Q : Mn.Flow × Nv → Store → Prop} {E : Exn → Store → Prop} {S : Store} {env : Nv} {n : Int} (P : Nat → Nv → Store → Prop) (h0 : 0 ≤ n) (h : n < 1000000000) (p0 : P 0 env S)
    (step : ∀ (i : Nat) env S, (i : Int) < n → P i env S → wpx (asg (.int i) env) (fun e1 S1 => wpx (b e1) (turnS (P (i + 1)) Q) E S1) E S)
    (done : ∀ env S, P n.toNat env S → Q (.nx, env) S) : wpx (forF (.rng 0 1 n.toNat) asg b FUEL 0 env) Q E S := by
  refine for_items (rngD 0 n.toNat) P (by rw [rngD_len]; exact fuel_big (by omega)) p0 (fun i env S _ _ => rng_it) ?_ (by rw [rngD_len]; exact done)
  intro i d env S hd p
  obtain ⟨rfl, hi⟩ := rngD_get hd
  rw [Int.zero_add]
  exact step i env S (by omega) p
theorem x_comp {J : ItV} {p : D → Nv → Nv} {c e : Nv → M D} {env : Nv} {Q : D → Store → Prop} {E : Exn → Store → Prop} {S : Store} : wpx (fun S => compF J p c e env S.length FUEL 0 (S ++ [.lst []])) Q E S ↔ wpx (compF J p c e env S.length FUEL 0) Q E (S ++ [.lst []]) := Iff.rfl
/-- [elt for i in range(m)] -/
theorem comp_rng {put : D → Nv → Nv} {elt : Nv → M D} {env : Nv} {n : Nat} {Q : D → Store → Prop} {E : Exn → Store → Prop} {S : Store} {m : Int} (P : Nat → List D → Store → Prop) (m0 : 0 ≤ m) (hm : m < 1000000) (h0 : P 0 [] S)
    (keep : ∀ i acc S, P i acc S → S[n]? = some (.lst acc))
    (step : ∀ (i : Nat) acc S, (i : Int) < m → acc.length = i → P i acc S → wpx (elt (put (.int i) env)) (fun y S2 => S2[n]? = some (.lst acc) ∧ P (i + 1) (acc ++ [y]) (S2.set n (.lst (acc ++ [y])))) E S)
    (done : ∀ acc S, acc.length = m.toNat → P m.toNat acc S → Q (.loc n) S) : wpx (compF (.rng 0 1 m.toNat) put (fun _ => M.ret (.bl true)) elt env n FUEL 0) Q E S := by
  refine comp_items (rngD 0 m.toNat) (fun i acc S => P i acc S ∧ acc.length = i) (by rw [rngD_len]; exact fuel_big (by omega)) ⟨h0, rfl⟩ (fun i acc S hi p => ⟨keep i acc S p.1, rng_it⟩) ?_ ?_
  · rintro i d acc S hd ⟨p, hl⟩
    obtain ⟨rfl, hi⟩ := rngD_get hd
    rw [Int.zero_add]
    refine ⟨true, rfl, fun _ => ?_, fun h => nomatch h⟩
    refine wpx_mono (step i acc S (by omega) hl p) (fun y S2 h => ⟨h.1, ?_, h.2, by simp [hl]⟩) fun _ _ z => z
    show acc.length < 16777216
    omega
  · rw [rngD_len]
    exact fun acc S h => done acc S h.2 h.1
theorem w_pop {n : Nat} {xs : List D} {i : Int} {R : D → Store → Prop} {E : Exn → Store → Prop} {S : Store} (hS : S[n]? = some (.lst xs)) (h0 : 0 ≤ i) (h1 : i < xs.length) (hl : xs.length < 1000000000) (h : ∀ d ∈ xs, R d (S.set n (.lst (xs.eraseIdx i.toNat)))) : wpx (builtin .pop1 [.loc n, .int i]) R E S := by
  rw [u_pop1, wpx_bind, e_owL, hS, owC_lst, ex_some, wpx_bind, wpx_guard]
  refine ⟨by simp; omega, ?_⟩
  have e : seqIndex? i xs.length = some i.toNat := by
    unfold seqIndex?
    have e0 : (if i < 0 then i + (xs.length : Int) else i) = i := if_neg (by omega)
    simp only [e0]
    rw [if_pos (by simp; omega)]
  rw [wpx_bind, e, wpx_opt_some, wpx_bind, List.getElem?_eq_getElem (by omega), wpx_opt_some, wpx_bind, x_wrL, wpx_ret]
  exact h _ (List.getElem_mem _)
/-- all cells stand -/
structure Kp (S S' : Store) : Prop where
  len : S.length ≤ S'.length
  keep : ∀ (i : Nat) c, S[i]? = some c → S'[i]? = some c
theorem Kp.refl (S : Store) : Kp S S := ⟨Nat.le_refl _, fun _ _ h => h⟩
theorem Kp.trans {A B C : Store} (a : Kp A B) (b : Kp B C) : Kp A C := ⟨Nat.le_trans a.len b.len, fun i c h => b.keep i c (a.keep i c h)⟩
theorem Kp.push {A B : Store} (a : Kp A B) (c : Cell) : Kp A (B ++ [c]) := ⟨by have := a.len; simp; omega, fun i d h => ap_old (a.keep i d h)⟩
theorem Kp.set {A B : Store} {L : Nat} (a : Kp A B) (hL : A.length ≤ L) (c : Cell) : Kp A (B.set L c) :=
  ⟨by have := a.len; simp; omega, fun i d h => by
    have := (List.getElem?_eq_some_iff.mp h).1
    rw [List.getElem?_set_ne (by omega)]; exact a.keep i d h⟩
theorem k_Lit {n i : Nat} {xs : List D} {S : Store} (h : rdC S[n]? = some xs) : itO (.lst n) i S = some xs[i]? := by
  have e : rd S n = some xs := by
    unfold rd
    unfold rdC at h
    exact h
  show (rd S n).map _ = _
  rw [e]; rfl
theorem k_Tit {xs : List D} {i : Nat} {S : Store} : itO (.tup xs) i S = some xs[i]? := rfl
theorem cut_0 {xs : List D} : cutD xs none (some 0) = [] := by
  have : HT.sIx xs.length xs.length (some 0) = 0 := by
    have := HT.sIx_nat xs.length xs.length 0
    simpa using this
  unfold cutD
  rw [this, HT.sIx_none]
  rfl
theorem cut_1 {xs : List D} : cutD xs (some 1) none = xs.drop 1 := by
  have : HT.sIx xs.length 0 (some 1) = min 1 xs.length := HT.sIx_nat xs.length 0 1
  unfold cutD
  rw [this, HT.sIx_none]
  apply List.ext_getElem?
  intro i
  cases xs with
  | nil => rfl
  | cons x xs =>
    simp
theorem ofStr_inj {a b : String} (h : Str.ofString a = Str.ofString b) : a = b := by
  have h1 := congrArg (fun s : Str => s.cps.toList) h
  simp only [Str.ofString_eq_toList] at h1
  have h2 : a.toList.map Char.toNat = b.toList.map Char.toNat := by simpa using h1
  have h3 : a.toList = b.toList := by
    have inj : ∀ l m : List Char, l.map Char.toNat = m.map Char.toNat → l = m := by
      intro l
      induction l with
      | nil => intro m h; cases m <;> simp at h ⊢
      | cons x l ih =>
        intro m h
        cases m with
        | nil => simp at h
        | cons y m =>
          simp at h
          rw [ih m h.2]
          congr 1
          exact Char.toNat_inj.mp h.1
    exact inj _ _ h2
  exact String.toList_inj.mp h3
theorem str_beq (a b : String) : (Str.ofString a == Str.ofString b) = (a == b) := by
  rw [Bool.eq_iff_iff, beq_iff_eq, beq_iff_eq]
  exact ⟨ofStr_inj, fun h => by rw [h]⟩
theorem atI_5 {α : Type} {a b c d e f : α} {l : List α} : atI (a :: b :: c :: d :: e :: f :: l) 5 = some f := atI_lt (by decide) rfl
theorem ixN_4 {n : Nat} : ixN (n + 1 + 1 + 1 + 1 + 1) 4 = some 4 := by unfold ixN; rw [if_pos (by decide), if_pos (by omega)]; rfl
theorem ixN_5 {n : Nat} : ixN (n + 1 + 1 + 1 + 1 + 1 + 1) 5 = some 5 := by unfold ixN; rw [if_pos (by decide), if_pos (by omega)]; rfl
end Mn
namespace Mn
open PySem L2
def seqQ {α β : Type} (f : β → M α) (Q : α → Store → Prop) (E : Exn → Store → Prop) : β → Store → Prop := fun b S' => wpx (f b) Q E S'
theorem q_bind {α β : Type} {m : M β} {f : β → M α} {Q : α → Store → Prop} {E : Exn → Store → Prop} {S : Store} : wpx (M.bind m f) Q E S ↔ wpx m (seqQ f Q E) E S := wpx_bind
theorem q_seq {α β : Type} {f : β → M α} {Q : α → Store → Prop} {E : Exn → Store → Prop} {S : Store} {b : β} : seqQ f Q E b S ↔ wpx (f b) Q E S := Iff.rfl
def kmbl  (b : Bool) : M D := M.ret (.bl b)
theorem q_bl  {b : Bool} : kmbl  b = M.ret (.bl b) := rfl
def kmbin (C : Ctx) (o : BOp) (b : Mn.E) (env : Nv) (x : D) : M D := M.bind (evE C b env) (binop o x)
theorem q_bin {C : Ctx} {o : BOp} {b : Mn.E} {env : Nv} {x : D} : kmbin C o b env x = M.bind (evE C b env) (binop o x) := rfl
def kmnegi  (i : Int) : M D := M.ret (.int (-i))
theorem q_negi  {i : Int} : kmnegi  i = M.ret (.int (-i)) := rfl
def kmneg  (x : D) : M D := M.bind (asI x) kmnegi
theorem q_neg  {x : D} : kmneg  x = M.bind (asI x) kmnegi := rfl
def kmcmpb (o : COp) (x : D) (y : D) : M D := M.bind (cmpop o x y) kmbl
theorem q_cmpb {o : COp} {x : D} {y : D} : kmcmpb o x y = M.bind (cmpop o x y) kmbl := rfl
def kmcmp (C : Ctx) (o : COp) (b : Mn.E) (env : Nv) (x : D) : M D := M.bind (evE C b env) (kmcmpb o x)
theorem q_cmp {C : Ctx} {o : COp} {b : Mn.E} {env : Nv} {x : D} : kmcmp C o b env x = M.bind (evE C b env) (kmcmpb o x) := rfl
def kmc3c (C : Ctx) (p : COp) (c : Mn.E) (env : Nv) (y : D) (k : Bool) : M D := match k with
  | true => M.bind (evE C c env) (kmcmpb p y)
  | false => M.ret (.bl false)
theorem q_c3cT {C : Ctx} {p : COp} {c : Mn.E} {env : Nv} {y : D} : kmc3c C p c env y true = M.bind (evE C c env) (kmcmpb p y) := rfl
theorem q_c3cF {C : Ctx} {p : COp} {c : Mn.E} {env : Nv} {y : D} : kmc3c C p c env y false = M.ret (.bl false) := rfl
def kmc3b (C : Ctx) (o p : COp) (c : Mn.E) (env : Nv) (x : D) (y : D) : M D := M.bind (cmpop o x y) (kmc3c C p c env y)
theorem q_c3b {C : Ctx} {o p : COp} {c : Mn.E} {env : Nv} {x : D} {y : D} : kmc3b C o p c env x y = M.bind (cmpop o x y) (kmc3c C p c env y) := rfl
def kmc3 (C : Ctx) (o p : COp) (b c : Mn.E) (env : Nv) (x : D) : M D := M.bind (evE C b env) (kmc3b C o p c env x)
theorem q_c3 {C : Ctx} {o p : COp} {b c : Mn.E} {env : Nv} {x : D} : kmc3 C o p b c env x = M.bind (evE C b env) (kmc3b C o p c env x) := rfl
def kmtr  (x : D) : M D := M.bind (truth x) kmbl
theorem q_tr  {x : D} : kmtr  x = M.bind (truth x) kmbl := rfl
def kmnotb  (b : Bool) : M D := M.ret (.bl (!b))
theorem q_notb  {b : Bool} : kmnotb  b = M.ret (.bl (!b)) := rfl
def kmnot  (x : D) : M D := M.bind (asB x) kmnotb
theorem q_not  {x : D} : kmnot  x = M.bind (asB x) kmnotb := rfl
def kmand2 (C : Ctx) (b : Mn.E) (env : Nv) (k : Bool) : M D := match k with
  | true => evE C b env
  | false => M.ret (.bl false)
theorem q_and2T {C : Ctx} {b : Mn.E} {env : Nv} : kmand2 C b env true = evE C b env := rfl
theorem q_and2F {C : Ctx} {b : Mn.E} {env : Nv} : kmand2 C b env false = M.ret (.bl false) := rfl
def kmand (C : Ctx) (b : Mn.E) (env : Nv) (x : D) : M D := M.bind (asB x) (kmand2 C b env)
theorem q_and {C : Ctx} {b : Mn.E} {env : Nv} {x : D} : kmand C b env x = M.bind (asB x) (kmand2 C b env) := rfl
def kmor2 (C : Ctx) (b : Mn.E) (env : Nv) (k : Bool) : M D := match k with
  | true => M.ret (.bl true)
  | false => evE C b env
theorem q_or2T {C : Ctx} {b : Mn.E} {env : Nv} : kmor2 C b env true = M.ret (.bl true) := rfl
theorem q_or2F {C : Ctx} {b : Mn.E} {env : Nv} : kmor2 C b env false = evE C b env := rfl
def kmor (C : Ctx) (b : Mn.E) (env : Nv) (x : D) : M D := M.bind (asB x) (kmor2 C b env)
theorem q_or {C : Ctx} {b : Mn.E} {env : Nv} {x : D} : kmor C b env x = M.bind (asB x) (kmor2 C b env) := rfl
def kmvand2 (C : Ctx) (b : Mn.E) (env : Nv) (x : D) (k : Bool) : M D := match k with
  | true => evE C b env
  | false => M.ret x
theorem q_vand2T {C : Ctx} {b : Mn.E} {env : Nv} {x : D} : kmvand2 C b env x true = evE C b env := rfl
theorem q_vand2F {C : Ctx} {b : Mn.E} {env : Nv} {x : D} : kmvand2 C b env x false = M.ret x := rfl
def kmvand (C : Ctx) (b : Mn.E) (env : Nv) (x : D) : M D := M.bind (truth x) (kmvand2 C b env x)
theorem q_vand {C : Ctx} {b : Mn.E} {env : Nv} {x : D} : kmvand C b env x = M.bind (truth x) (kmvand2 C b env x) := rfl
def kmvor2 (C : Ctx) (b : Mn.E) (env : Nv) (x : D) (k : Bool) : M D := match k with
  | true => M.ret x
  | false => evE C b env
theorem q_vor2T {C : Ctx} {b : Mn.E} {env : Nv} {x : D} : kmvor2 C b env x true = M.ret x := rfl
theorem q_vor2F {C : Ctx} {b : Mn.E} {env : Nv} {x : D} : kmvor2 C b env x false = evE C b env := rfl
def kmvor (C : Ctx) (b : Mn.E) (env : Nv) (x : D) : M D := M.bind (truth x) (kmvor2 C b env x)
theorem q_vor {C : Ctx} {b : Mn.E} {env : Nv} {x : D} : kmvor C b env x = M.bind (truth x) (kmvor2 C b env x) := rfl
def kmite2 (C : Ctx) (a b : Mn.E) (env : Nv) (k : Bool) : M D := match k with
  | true => evE C a env
  | false => evE C b env
theorem q_ite2T {C : Ctx} {a b : Mn.E} {env : Nv} : kmite2 C a b env true = evE C a env := rfl
theorem q_ite2F {C : Ctx} {a b : Mn.E} {env : Nv} : kmite2 C a b env false = evE C b env := rfl
def kmite (C : Ctx) (a b : Mn.E) (env : Nv) (x : D) : M D := M.bind (asB x) (kmite2 C a b env)
theorem q_ite {C : Ctx} {a b : Mn.E} {env : Nv} {x : D} : kmite C a b env x = M.bind (asB x) (kmite2 C a b env) := rfl
def kmidx (C : Ctx) (b : Mn.E) (env : Nv) (x : D) : M D := M.bind (evE C b env) (index x)
theorem q_idx {C : Ctx} {b : Mn.E} {env : Nv} {x : D} : kmidx C b env x = M.bind (evE C b env) (index x) := rfl
def kmsl0  (x : D) : M D := slice x none none
theorem q_sl0  {x : D} : kmsl0  x = slice x none none := rfl
def kmslL3 (x : D) (l : Int) : M D := slice x (some l) none
theorem q_slL3 {x : D} {l : Int} : kmslL3 x l = slice x (some l) none := rfl
def kmslL2 (x : D) (y : D) : M D := M.bind (asI y) (kmslL3 x)
theorem q_slL2 {x : D} {y : D} : kmslL2 x y = M.bind (asI y) (kmslL3 x) := rfl
def kmslL (C : Ctx) (lo : Mn.E) (env : Nv) (x : D) : M D := M.bind (evE C lo env) (kmslL2 x)
theorem q_slL {C : Ctx} {lo : Mn.E} {env : Nv} {x : D} : kmslL C lo env x = M.bind (evE C lo env) (kmslL2 x) := rfl
def kmslH3 (x : D) (l : Int) : M D := slice x none (some l)
theorem q_slH3 {x : D} {l : Int} : kmslH3 x l = slice x none (some l) := rfl
def kmslH2 (x : D) (y : D) : M D := M.bind (asI y) (kmslH3 x)
theorem q_slH2 {x : D} {y : D} : kmslH2 x y = M.bind (asI y) (kmslH3 x) := rfl
def kmslH (C : Ctx) (lo : Mn.E) (env : Nv) (x : D) : M D := M.bind (evE C lo env) (kmslH2 x)
theorem q_slH {C : Ctx} {lo : Mn.E} {env : Nv} {x : D} : kmslH C lo env x = M.bind (evE C lo env) (kmslH2 x) := rfl
def kmslB5 (x : D) (l : Int) (h : Int) : M D := slice x (some l) (some h)
theorem q_slB5 {x : D} {l : Int} {h : Int} : kmslB5 x l h = slice x (some l) (some h) := rfl
def kmslB4 (x : D) (l : Int) (z : D) : M D := M.bind (asI z) (kmslB5 x l)
theorem q_slB4 {x : D} {l : Int} {z : D} : kmslB4 x l z = M.bind (asI z) (kmslB5 x l) := rfl
def kmslB3 (C : Ctx) (hi : Mn.E) (env : Nv) (x : D) (l : Int) : M D := M.bind (evE C hi env) (kmslB4 x l)
theorem q_slB3 {C : Ctx} {hi : Mn.E} {env : Nv} {x : D} {l : Int} : kmslB3 C hi env x l = M.bind (evE C hi env) (kmslB4 x l) := rfl
def kmslB2 (C : Ctx) (hi : Mn.E) (env : Nv) (x : D) (y : D) : M D := M.bind (asI y) (kmslB3 C hi env x)
theorem q_slB2 {C : Ctx} {hi : Mn.E} {env : Nv} {x : D} {y : D} : kmslB2 C hi env x y = M.bind (asI y) (kmslB3 C hi env x) := rfl
def kmslB (C : Ctx) (lo hi : Mn.E) (env : Nv) (x : D) : M D := M.bind (evE C lo env) (kmslB2 C hi env x)
theorem q_slB {C : Ctx} {lo hi : Mn.E} {env : Nv} {x : D} : kmslB C lo hi env x = M.bind (evE C lo env) (kmslB2 C hi env x) := rfl
def kmme3 (b : Bi) (x : D) (xs : List D) : M D := builtin b (x :: xs)
theorem q_me3 {b : Bi} {x : D} {xs : List D} : kmme3 b x xs = builtin b (x :: xs) := rfl
def kmme2 (C : Ctx) (b : Bi) (es : Es) (env : Nv) (x : D) (u : Unit) : M D := M.bind (evEs C es env) (kmme3 b x)
theorem q_me2 {C : Ctx} {b : Bi} {es : Es} {env : Nv} {x : D} {u : Unit} : kmme2 C b es env x u = M.bind (evEs C es env) (kmme3 b x) := rfl
def kmme (C : Ctx) (b : Bi) (es : Es) (env : Nv) (x : D) : M D := M.bind (recv b x) (kmme2 C b es env x)
theorem q_me {C : Ctx} {b : Bi} {es : Es} {env : Nv} {x : D} : kmme C b es env x = M.bind (recv b x) (kmme2 C b es env x) := rfl
def kmes2 (x : D) (xs : List D) : M (List D) := M.ret (x :: xs)
theorem q_es2 {x : D} {xs : List D} : kmes2 x xs = M.ret (x :: xs) := rfl
def kmes (C : Ctx) (r : Es) (env : Nv) (x : D) : M (List D) := M.bind (evEs C r env) (kmes2 x)
theorem q_es {C : Ctx} {r : Es} {env : Nv} {x : D} : kmes C r env x = M.bind (evEs C r env) (kmes2 x) := rfl
theorem qe_c {C : Ctx} {env : Nv} {d : D} : evE C (.c d) env = M.ret d := by first | rfl | (rw [evE] <;> rfl)
theorem qe_g {C : Ctx} {env : Nv} {x : Str} : evE C (.g x) env = opt (C.glob x) := by first | rfl | (rw [evE] <;> rfl)
theorem qe_bin {C : Ctx} {env : Nv} {o : BOp} {a b : Mn.E} : evE C (.bin o a b) env = M.bind (evE C a env) (kmbin C o b env) := by first | rfl | (rw [evE] <;> rfl)
theorem qe_neg {C : Ctx} {env : Nv} {a : Mn.E} : evE C (.neg a) env = M.bind (evE C a env) kmneg := by first | rfl | (rw [evE] <;> rfl)
theorem qe_cmp {C : Ctx} {env : Nv} {o : COp} {a b : Mn.E} : evE C (.cmp o a b) env = M.bind (evE C a env) (kmcmp C o b env) := by first | rfl | (rw [evE] <;> rfl)
theorem qe_cmp3 {C : Ctx} {env : Nv} {o p : COp} {a b c : Mn.E} : evE C (.cmp3 o p a b c) env = M.bind (evE C a env) (kmc3 C o p b c env) := by first | rfl | (rw [evE] <;> rfl)
theorem qe_tr {C : Ctx} {env : Nv} {a : Mn.E} : evE C (.tr a) env = M.bind (evE C a env) kmtr := by first | rfl | (rw [evE] <;> rfl)
theorem qe_not {C : Ctx} {env : Nv} {a : Mn.E} : evE C (.not a) env = M.bind (evE C a env) kmnot := by first | rfl | (rw [evE] <;> rfl)
theorem qe_and {C : Ctx} {env : Nv} {a b : Mn.E} : evE C (.and a b) env = M.bind (evE C a env) (kmand C b env) := by first | rfl | (rw [evE] <;> rfl)
theorem qe_or {C : Ctx} {env : Nv} {a b : Mn.E} : evE C (.or a b) env = M.bind (evE C a env) (kmor C b env) := by first | rfl | (rw [evE] <;> rfl)
theorem qe_vand {C : Ctx} {env : Nv} {a b : Mn.E} : evE C (.vand a b) env = M.bind (evE C a env) (kmvand C b env) := by first | rfl | (rw [evE] <;> rfl)
theorem qe_vor {C : Ctx} {env : Nv} {a b : Mn.E} : evE C (.vor a b) env = M.bind (evE C a env) (kmvor C b env) := by first | rfl | (rw [evE] <;> rfl)
theorem qe_ite {C : Ctx} {env : Nv} {c a b : Mn.E} : evE C (.ite c a b) env = M.bind (evE C c env) (kmite C a b env) := by first | rfl | (rw [evE] <;> rfl)
theorem qe_tup {C : Ctx} {env : Nv} {es : Es} : evE C (.tup es) env = M.bind (evEs C es env) newT := by first | rfl | (rw [evE] <;> rfl)
theorem qe_lst {C : Ctx} {env : Nv} {es : Es} : evE C (.lst es) env = M.bind (evEs C es env) newL := by first | rfl | (rw [evE] <;> rfl)
theorem qe_idx {C : Ctx} {env : Nv} {a b : Mn.E} : evE C (.idx a b) env = M.bind (evE C a env) (kmidx C b env) := by first | rfl | (rw [evE] <;> rfl)
theorem qe_sl0 {C : Ctx} {env : Nv} {a : Mn.E} : evE C (.slc0 a) env = M.bind (evE C a env) kmsl0 := by first | rfl | (rw [evE] <;> rfl)
theorem qe_slL {C : Ctx} {env : Nv} {a b : Mn.E} : evE C (.slcL a b) env = M.bind (evE C a env) (kmslL C b env) := by first | rfl | (rw [evE] <;> rfl)
theorem qe_slH {C : Ctx} {env : Nv} {a b : Mn.E} : evE C (.slcH a b) env = M.bind (evE C a env) (kmslH C b env) := by first | rfl | (rw [evE] <;> rfl)
theorem qe_slB {C : Ctx} {env : Nv} {a b c : Mn.E} : evE C (.slcB a b c) env = M.bind (evE C a env) (kmslB C b c env) := by first | rfl | (rw [evE] <;> rfl)
theorem qe_call {C : Ctx} {env : Nv} {f : Str} {es : Es} : evE C (.call f es) env = M.bind (evEs C es env) (C.call f) := by first | rfl | (rw [evE] <;> rfl)
theorem qe_bi {C : Ctx} {env : Nv} {b : Bi} {es : Es} : evE C (.bi b es) env = M.bind (evEs C es env) (builtin b) := by first | rfl | (rw [evE] <;> rfl)
theorem qe_meth {C : Ctx} {env : Nv} {b : Bi} {a : Mn.E} {es : Es} : evE C (.meth b a es) env = M.bind (evE C a env) (kmme C b es env) := by first | rfl | (rw [evE] <;> rfl)
def kmco2 (C : Ctx) (elt : Mn.E) (sl : Nat) (own : List Nat) (cond : Mn.E) (env : Nv) (J : ItV) : M D := fun S => compF J (putD sl) (evE C cond) (evE C elt) (wipeD env own) S.length FUEL 0 (S ++ [.lst []])
theorem q_co2 {C : Ctx} {elt : Mn.E} {sl : Nat} {own : List Nat} {cond : Mn.E} {env : Nv} {J : ItV} {Q : D → Store → Prop} {E : Exn → Store → Prop} {S : Store} : wpx (kmco2 C elt sl own cond env J) Q E S ↔ wpx (compF J (putD sl) (evE C cond) (evE C elt) (wipeD env own) S.length FUEL 0) Q E (S ++ [.lst []]) := Iff.rfl
def kmco (C : Ctx) (elt : Mn.E) (sl : Nat) (own : List Nat) (i : IK) (cond : Mn.E) (env : Nv) (xs : List D) : M D := M.bind (mkIt i xs) (kmco2 C elt sl own cond env)
theorem q_co {C : Ctx} {elt : Mn.E} {sl : Nat} {own : List Nat} {i : IK} {cond : Mn.E} {env : Nv} {xs : List D} : kmco C elt sl own i cond env xs = M.bind (mkIt i xs) (kmco2 C elt sl own cond env) := rfl
theorem qe_comp {C : Ctx} {env : Nv} {elt : Mn.E} {sl : Nat} {own : List Nat} {i : IK} {es : Es} {cond : Mn.E} : evE C (.comp elt sl own i es cond) env = M.bind (evEs C es env) (kmco C elt sl own i cond env) := by first | rfl | (rw [evE] <;> rfl)
theorem qe_nil {C : Ctx} {env : Nv} : evEs C .nil env = M.ret [] := by first | rfl | (rw [evEs] <;> rfl)
theorem qe_cons {C : Ctx} {env : Nv} {e : Mn.E} {r : Es} : evEs C (.cons e r) env = M.bind (evE C e env) (kmes C r env) := by first | rfl | (rw [evEs] <;> rfl)
def kmnx  (env : Nv) : M (Flow × Nv) := M.ret (.nx, env)
theorem q_nx  {env : Nv} : kmnx  env = M.ret (.nx, env) := rfl
def kmex (env : Nv) (d : D) : M (Flow × Nv) := M.ret (.nx, env)
theorem q_ex {env : Nv} {d : D} : kmex env d = M.ret (.nx, env) := rfl
def kmret (env : Nv) (d : D) : M (Flow × Nv) := M.ret (.rt d, env)
theorem q_ret {env : Nv} {d : D} : kmret env d = M.ret (.rt d, env) := rfl
def kmif2 (C : Ctx) (a b : Sms) (env : Nv) (k : Bool) : M (Flow × Nv) := match k with
  | true => evSs C a env
  | false => evSs C b env
theorem q_if2T {C : Ctx} {a b : Sms} {env : Nv} : kmif2 C a b env true = evSs C a env := rfl
theorem q_if2F {C : Ctx} {a b : Sms} {env : Nv} : kmif2 C a b env false = evSs C b env := rfl
def kmif (C : Ctx) (a b : Sms) (env : Nv) (x : D) : M (Flow × Nv) := M.bind (asB x) (kmif2 C a b env)
theorem q_if {C : Ctx} {a b : Sms} {env : Nv} {x : D} : kmif C a b env x = M.bind (asB x) (kmif2 C a b env) := rfl
def kmpr2 (i j : Nat) (env : Nv) (x : D) (y : D) : M (Flow × Nv) := M.ret (.nx, (env.set i (some x)).set j (some y))
theorem q_pr2 {i j : Nat} {env : Nv} {x : D} {y : D} : kmpr2 i j env x y = M.ret (.nx, (env.set i (some x)).set j (some y)) := rfl
def kmpr (C : Ctx) (i j : Nat) (b : Mn.E) (env : Nv) (x : D) : M (Flow × Nv) := M.bind (evE C b env) (kmpr2 i j env x)
theorem q_pr {C : Ctx} {i j : Nat} {b : Mn.E} {env : Nv} {x : D} : kmpr C i j b env x = M.bind (evE C b env) (kmpr2 i j env x) := rfl
theorem qe_ret {C : Ctx} {env : Nv} {e : Mn.E} : evS C (.ret e) env = M.bind (evE C e env) (kmret env) := by first | rfl | (rw [evS] <;> rfl)
theorem qe_if {C : Ctx} {env : Nv} {c : Mn.E} {a b : Sms} : evS C (.ife c a b) env = M.bind (evE C c env) (kmif C a b env) := by first | rfl | (rw [evS] <;> rfl)
theorem qe_par {C : Ctx} {env : Nv} {i j : Nat} {a b : Mn.E} : evS C (.par i j a b) env = M.bind (evE C a env) (kmpr C i j b env) := by first | rfl | (rw [evS] <;> rfl)
theorem qe_brk {C : Ctx} {env : Nv} : evS C (.brk) env = M.ret (.bk, env) := by first | rfl | (rw [evS] <;> rfl)
theorem qe_cnt {C : Ctx} {env : Nv} : evS C (.cnt) env = M.ret (.ct, env) := by first | rfl | (rw [evS] <;> rfl)
theorem qe_pass {C : Ctx} {env : Nv} : evS C (.pass) env = M.ret (.nx, env) := by first | rfl | (rw [evS] <;> rfl)
theorem qe_expr {C : Ctx} {env : Nv} {e : Mn.E} : evS C (.expr e) env = M.bind (evE C e env) (kmex env) := by first | rfl | (rw [evS] <;> rfl)
def kmset (C : Ctx) (p : Pat) (env : Nv) (d : D) : M (Flow × Nv) := M.bind (evP C p d env) kmnx
theorem q_set {C : Ctx} {p : Pat} {env : Nv} {d : D} : kmset C p env d = M.bind (evP C p d env) kmnx := rfl
theorem qe_set {C : Ctx} {env : Nv} {p : Pat} {e : Mn.E} : evS C (.set p e) env = M.bind (evE C e env) (kmset C p env) := by first | rfl | (rw [evS] <;> rfl)
theorem qe_whl {C : Ctx} {env : Nv} {c : Mn.E} {b : Sms} : evS C (.whl c b) env = whileF (evE C c) (evSs C b) FUEL env := by first | rfl | (rw [evS] <;> rfl)
def kmfr2 (C : Ctx) (p : Pat) (b : Sms) (env : Nv) (J : ItV) : M (Flow × Nv) := forF J (evP C p) (evSs C b) FUEL 0 env
theorem q_fr2 {C : Ctx} {p : Pat} {b : Sms} {env : Nv} {J : ItV} : kmfr2 C p b env J = forF J (evP C p) (evSs C b) FUEL 0 env := rfl
def kmfr (C : Ctx) (p : Pat) (i : IK) (b : Sms) (env : Nv) (xs : List D) : M (Flow × Nv) := M.bind (mkIt i xs) (kmfr2 C p b env)
theorem q_fr {C : Ctx} {p : Pat} {i : IK} {b : Sms} {env : Nv} {xs : List D} : kmfr C p i b env xs = M.bind (mkIt i xs) (kmfr2 C p b env) := rfl
theorem qe_fr {C : Ctx} {env : Nv} {p : Pat} {i : IK} {es : Es} {b : Sms} : evS C (.fr p i es b) env = M.bind (evEs C es env) (kmfr C p i b env) := by first | rfl | (rw [evS] <;> rfl)
def kmag2 (i : Nat) (env : Nv) (z : D) : M (Flow × Nv) := M.ret (.nx, env.set i (some z))
theorem q_ag2 {i : Nat} {env : Nv} {z : D} : kmag2 i env z = M.ret (.nx, env.set i (some z)) := rfl
def kmag (i : Nat) (o : BOp) (x : D) (env : Nv) (y : D) : M (Flow × Nv) := M.bind (augop o x y) (kmag2 i env)
theorem q_ag {i : Nat} {o : BOp} {x : D} {env : Nv} {y : D} : kmag i o x env y = M.bind (augop o x y) (kmag2 i env) := rfl
theorem qe_aug {C : Ctx} {env : Nv} {i : Nat} {o : BOp} {e : Mn.E} : evS C (.aug i o e) env = (match env[i]? with | some (some x) => M.bind (evE C e env) (kmag i o x env) | _ => M.bad) := by rw [evS] <;> rfl
theorem qe_v {C : Ctx} {env : Nv} {i : Nat} : evE C (.v i) env = (match env[i]? with | some (some d) => M.ret d | _ => M.bad) := by rw [evE] <;> rfl
theorem qe_pnm {C : Ctx} {env : Nv} {i : Nat} {d : D} : evP C (.nm i) d env = M.ret (env.set i (some d)) := by first | rfl | (rw [evP] <;> rfl)
theorem qe_ptup {C : Ctx} {env : Nv} {ps : Pats} {xs : List D} : evP C (.tup ps) (.tup xs) env = evPs C ps xs env := by first | rfl | (rw [evP] <;> rfl)
theorem qe_pnil {C : Ctx} {env : Nv} : evPs C .nil [] env = M.ret env := by first | rfl | (rw [evPs] <;> rfl)
def kmpc (C : Ctx) (r : Pats) (xs : List D) (env : Nv) : M Nv := evPs C r xs env
theorem q_pc {C : Ctx} {r : Pats} {xs : List D} {env : Nv} : kmpc C r xs env = evPs C r xs env := rfl
theorem qe_pcons {C : Ctx} {env : Nv} {p : Pat} {r : Pats} {x : D} {xs : List D} : evPs C (.cons p r) (x :: xs) env = M.bind (evP C p x env) (kmpc C r xs) := by first | rfl | (rw [evPs] <;> rfl)
def kmsb2 (d : D) (env : Nv) (x y : D) : M Nv := match x, y with
  | .loc n, .int k => M.bind (owL n) fun xs => M.bind (opt (ixN xs.length k)) fun j => M.bind (wrL n (xs.set j d)) fun _ => M.ret env
  | _, _ => M.bad
theorem q_sb2 {d : D} {env : Nv} {n : Nat} {k : Int} : kmsb2 d env (.loc n) (.int k) = M.bind (owL n) fun xs => M.bind (opt (ixN xs.length k)) fun j => M.bind (wrL n (xs.set j d)) fun _ => M.ret env := rfl
def kmsb (C : Ctx) (i : Mn.E) (d : D) (env : Nv) (x : D) : M Nv := M.bind (evE C i env) (kmsb2 d env x)
theorem q_sb {C : Ctx} {i : Mn.E} {d : D} {env : Nv} {x : D} : kmsb C i d env x = M.bind (evE C i env) (kmsb2 d env x) := rfl
theorem qe_psub {C : Ctx} {env : Nv} {a i : Mn.E} {d : D} : evP C (.sub a i) d env = M.bind (evE C a env) (kmsb C i d env) := by first | rfl | (rw [evP] <;> rfl)
theorem q_inT {d : D} {ys : List D} : inM d (.tup ys) = opt (inAll d ys) := by cases d <;> rfl
theorem q_inL {d : D} {n : Nat} : inM d (.loc n) = M.bind (rdL n) fun ys => opt (inAll d ys) := by cases d <;> rfl
end Mn
namespace Pg
open PySem Mn L2
/-! conditions and programs, plain -/
inductive Cn where
  | call (s : Str)
  | flag (s : Str)
  | no (c : Cn)
  | op (o : Bool) (ps : List Cn)
inductive St where
  | call (s : Str)
  | lt (x : Str) (v : Bool)
  | st (x : Str) (v : Bool)
  | ife (c : Cn) (a b : List St)
  | whl (l : Option Str) (c : Cn) (b : List St)
  | fr (l : Option Str) (b : List St)
  | brk (l : Option Str)
  | cnt (l : Option Str)
  | ret (n : Option Int)
  | tr (a b : List St)
  | blk (b : List St)
abbrev sCall : Str := "call"
abbrev sFlag : Str := "flag"
abbrev sNot : Str := "not"
abbrev sOr : Str := "or"
abbrev sAnd : Str := "and"
abbrev sLet : Str := "let"
abbrev sSet : Str := "set"
abbrev sIf : Str := "if"
abbrev sWhile : Str := "while"
abbrev sFor : Str := "for"
abbrev sBreak : Str := "break"
abbrev sContinue : Str := "continue"
abbrev sReturn : Str := "return"
abbrev sTry : Str := "try"
abbrev sBlock : Str := "block"
def wd (o : Bool) : Str := if o then sOr else sAnd
def lb : Option Str → D
  | none => .non
  | some s => .str s
def nb : Option Int → D
  | none => .non
  | some i => .int i
mutual
def Cn.d : Cn → D
  | .call s => .tup [.str sCall, .str s]
  | .flag s => .tup [.str sFlag, .str s]
  | .no c => .tup [.str sNot, c.d]
  | .op o ps => .tup [.str (wd o), .tup (Cn.ds ps)]
def Cn.ds : List Cn → List D
  | [] => []
  | p :: ps => p.d :: Cn.ds ps
end
mutual
def St.d : St → D
  | .call s => .tup [.str sCall, .str s]
  | .lt x v => .tup [.str sLet, .str x, .bl v]
  | .st x v => .tup [.str sSet, .str x, .bl v]
  | .ife c a b => .tup [.str sIf, c.d, .tup (St.ds a), .tup (St.ds b)]
  | .whl l c b => .tup [.str sWhile, lb l, c.d, .tup (St.ds b)]
  | .fr l b => .tup [.str sFor, lb l, .tup (St.ds b)]
  | .brk l => .tup [.str sBreak, lb l]
  | .cnt l => .tup [.str sContinue, lb l]
  | .ret n => .tup [.str sReturn, nb n]
  | .tr a b => .tup [.str sTry, .tup (St.ds a), .tup (St.ds b)]
  | .blk b => .tup [.str sBlock, .tup (St.ds b)]
def St.ds : List St → List D
  | [] => []
  | p :: ps => p.d :: St.ds ps
end
theorem cds_map : ∀ ps : List Cn, Cn.ds ps = ps.map Cn.d
  | [] => rfl
  | p :: ps => by rw [Cn.ds, cds_map ps]; rfl
theorem sds_map : ∀ ps : List St, St.ds ps = ps.map St.d
  | [] => rfl
  | p :: ps => by rw [St.ds, sds_map ps]; rfl
/-! how great, how deep -/
mutual
def Cn.sz : Cn → Nat
  | .call _ => 1
  | .flag _ => 1
  | .no c => c.sz + 1
  | .op _ ps => Cn.szs ps + 1
def Cn.szs : List Cn → Nat
  | [] => 0
  | p :: ps => p.sz + Cn.szs ps
end
mutual
def St.sz : St → Nat
  | .ife c a b => c.sz + St.szs a + St.szs b + 1
  | .whl _ c b => c.sz + St.szs b + 1
  | .fr _ b => St.szs b + 1
  | .tr a b => St.szs a + St.szs b + 1
  | .blk b => St.szs b + 1
  | _ => 1
def St.szs : List St → Nat
  | [] => 0
  | p :: ps => p.sz + St.szs ps
end
mutual
def Cn.dp : Cn → Nat
  | .call _ => 1
  | .flag _ => 1
  | .no c => c.dp + 1
  | .op _ ps => Cn.dps ps + 1
def Cn.dps : List Cn → Nat
  | [] => 0
  | p :: ps => max p.dp (Cn.dps ps)
end
mutual
def St.dp : St → Nat
  | .ife c a b => max c.dp (max (St.dps a) (St.dps b)) + 1
  | .whl _ c b => max c.dp (St.dps b) + 1
  | .fr _ b => St.dps b + 1
  | .tr a b => max (St.dps a) (St.dps b) + 1
  | .blk b => St.dps b + 1
  | _ => 1
def St.dps : List St → Nat
  | [] => 0
  | p :: ps => max p.dp (St.dps ps)
end
theorem Cn.sz_pos : ∀ c : Cn, 1 ≤ c.sz
  | .call _ => Nat.le_refl _
  | .flag _ => Nat.le_refl _
  | .no c => by rw [Cn.sz]; omega
  | .op _ ps => by rw [Cn.sz]; omega
theorem St.sz_pos : ∀ c : St, 1 ≤ c.sz := fun c => by cases c <;> simp only [St.sz] <;> omega
theorem cszs_len : ∀ ps : List Cn, ps.length ≤ Cn.szs ps
  | [] => Nat.le_refl _
  | p :: ps => by have := p.sz_pos; have := cszs_len ps; rw [Cn.szs, List.length_cons]; omega
theorem sszs_len : ∀ ps : List St, ps.length ≤ St.szs ps
  | [] => Nat.le_refl _
  | p :: ps => by have := p.sz_pos; have := sszs_len ps; rw [St.szs, List.length_cons]; omega
theorem csz_mem : ∀ {ps : List Cn} {p : Cn}, p ∈ ps → p.sz ≤ Cn.szs ps ∧ p.dp ≤ Cn.dps ps
  | q :: ps, p, h => by
    rw [Cn.szs, Cn.dps]
    rcases List.mem_cons.mp h with rfl | h
    · omega
    · have := csz_mem h; omega
theorem ssz_mem : ∀ {ps : List St} {p : St}, p ∈ ps → p.sz ≤ St.szs ps ∧ p.dp ≤ St.dps ps
  | q :: ps, p, h => by
    rw [St.szs, St.dps]
    rcases List.mem_cons.mp h with rfl | h
    · omega
    · have := ssz_mem h; omega
theorem cszs_app : ∀ a b : List Cn, Cn.szs (a ++ b) = Cn.szs a + Cn.szs b
  | [], b => by simp [Cn.szs]
  | p :: a, b => by rw [List.cons_append, Cn.szs, Cn.szs, cszs_app a b]; omega
theorem sszs_app : ∀ a b : List St, St.szs (a ++ b) = St.szs a + St.szs b
  | [], b => by simp [St.szs]
  | p :: a, b => by rw [List.cons_append, St.szs, St.szs, sszs_app a b]; omega
theorem sdps_app : ∀ a b : List St, St.dps (a ++ b) = max (St.dps a) (St.dps b)
  | [], b => by simp [St.dps]
  | p :: a, b => by rw [List.cons_append, St.dps, St.dps, sdps_app a b]; omega
mutual
theorem cdp_sz : ∀ c : Cn, c.dp ≤ c.sz
  | .call _ => Nat.le_refl _
  | .flag _ => Nat.le_refl _
  | .no c => by have := cdp_sz c; rw [Cn.dp, Cn.sz]; omega
  | .op _ ps => by have := cdps_szs ps; rw [Cn.dp, Cn.sz]; omega
theorem cdps_szs : ∀ ps : List Cn, Cn.dps ps ≤ Cn.szs ps
  | [] => Nat.le_refl _
  | p :: ps => by have := cdp_sz p; have := cdps_szs ps; rw [Cn.dps, Cn.szs]; omega
end
/-! well made: names short, visible flags -/
mutual
def Cn.ok (vis : List Str) : Cn → Prop
  | .call s => Ws 70 s
  | .flag s => Ws 70 s ∧ s ∈ vis
  | .no c => c.ok vis
  | .op _ ps => 2 ≤ ps.length ∧ Cn.oks vis ps
def Cn.oks (vis : List Str) : List Cn → Prop
  | [] => True
  | p :: ps => p.ok vis ∧ Cn.oks vis ps
end
def lbOk : Option Str → Prop
  | none => True
  | some s => Ws 70 s
def nbOk : Option Int → Prop
  | none => True
  | some i => 0 ≤ i ∧ i < 100
def St.dec : St → List Str
  | .lt x _ => [x]
  | _ => []
/-- a jump's label: none only inside of a loop -/
def jbOk (lp : Bool) : Option Str → Prop
  | none => lp = true
  | some s => Ws 70 s
mutual
/-- a statement in order: the flags that are visible, inside of a loop, inside of a last body -/
def St.ok (vis : List Str) (lp fn : Bool) : St → Prop
  | .call s => Ws 70 s
  | .lt x _ => Ws 70 x
  | .st x _ => Ws 70 x ∧ x ∈ vis
  | .ife c a b => c.ok vis ∧ St.oks vis [] lp fn a ∧ St.oks vis [] lp fn b
  | .whl l c b => lbOk l ∧ c.ok vis ∧ St.oks vis [] true fn b
  | .fr l b => lbOk l ∧ St.oks vis [] true fn b
  | .brk l => jbOk lp l
  | .cnt l => jbOk lp l
  | .ret n => nbOk n
  | .tr a b => fn = false ∧ St.oks vis [] lp fn a ∧ St.oks vis [] lp true b
  | .blk b => St.oks vis [] lp fn b
def St.oks (vis own : List Str) (lp fn : Bool) : List St → Prop
  | [] => True
  | p :: ps => p.ok vis lp fn ∧ (∀ y ∈ p.dec, y ∉ own) ∧ St.oks (vis ++ p.dec) (own ++ p.dec) lp fn ps
end
theorem coks_all {vis : List Str} : ∀ {ps : List Cn}, Cn.oks vis ps ↔ ∀ p ∈ ps, p.ok vis
  | [] => by simp [Cn.oks]
  | p :: ps => by rw [Cn.oks, coks_all]; simp
def decs : List St → List Str
  | [] => []
  | p :: ps => p.dec ++ decs ps
theorem soks_snoc {lp fn : Bool} : ∀ {ps : List St} {vis own : List Str} {p : St}, St.oks vis own lp fn ps → p.ok (vis ++ decs ps) lp fn → (∀ y ∈ p.dec, y ∉ own ++ decs ps) → St.oks vis own lp fn (ps ++ [p])
  | [], vis, own, p, _, h, h3 => by rw [decs, List.append_nil] at h h3; exact ⟨h, h3, trivial⟩
  | q :: ps, vis, own, p, h, h2, h3 => by
    rw [decs, ← List.append_assoc] at h2 h3
    exact ⟨h.1, h.2.1, soks_snoc h.2.2 h2 h3⟩
theorem decs_snoc : ∀ {ps : List St} {p : St}, decs (ps ++ [p]) = decs ps ++ p.dec
  | [], p => by simp [decs]
  | q :: ps, p => by rw [List.cons_append, decs, decs, decs_snoc, List.append_assoc]
/-! the number of declarations -/
mutual
def St.nlt : St → Nat
  | .lt _ _ => 1
  | .ife _ a b => St.nlts a + St.nlts b
  | .whl _ _ b => St.nlts b
  | .fr _ b => St.nlts b
  | .tr a b => St.nlts a + St.nlts b
  | .blk b => St.nlts b
  | _ => 0
def St.nlts : List St → Nat
  | [] => 0
  | p :: ps => p.nlt + St.nlts ps
end
theorem snlts_app : ∀ a b : List St, St.nlts (a ++ b) = St.nlts a + St.nlts b
  | [], b => by simp [St.nlts]
  | p :: a, b => by rw [List.cons_append, St.nlts, St.nlts, snlts_app a b]; omega
/-! joining -/
def isOp (o : Bool) : Cn → Bool
  | .op o' _ => o' == o
  | _ => false
def parts (o : Bool) : Cn → List Cn
  | .op o' ps => if o' = o then ps else [.op o' ps]
  | c => [c]
def joined (o : Bool) (a b : Cn) : Cn := .op o (parts o a ++ parts o b)
theorem parts_ok {vis : List Str} {o : Bool} {c : Cn} (h : c.ok vis) : 1 ≤ (parts o c).length ∧ (∀ p ∈ parts o c, p.ok vis) ∧ Cn.szs (parts o c) ≤ c.sz := by
  cases c with
  | op o' ps =>
    rw [parts]
    split
    · rw [Cn.ok] at h
      exact ⟨by omega, coks_all.mp h.2, by rw [Cn.sz]; omega⟩
    · exact ⟨Nat.le_refl _, fun p hp => (List.mem_singleton.mp hp) ▸ h, by simp [Cn.szs]⟩
  | _ => exact ⟨Nat.le_refl _, fun p hp => (List.mem_singleton.mp hp) ▸ h, by simp [parts, Cn.szs]⟩
theorem joined_ok {vis : List Str} {o : Bool} {a b : Cn} (ha : a.ok vis) (hb : b.ok vis) : (joined o a b).ok vis ∧ (joined o a b).sz ≤ a.sz + b.sz + 1 := by
  have a1 := parts_ok (o := o) ha
  have b1 := parts_ok (o := o) hb
  refine ⟨?_, ?_⟩
  · rw [joined, Cn.ok]
    refine ⟨by rw [List.length_append]; omega, coks_all.mpr fun p hp => ?_⟩
    rcases List.mem_append.mp hp with hp | hp
    · exact a1.2.1 p hp
    · exact b1.2.1 p hp
  · rw [joined, Cn.sz, cszs_app]; omega
-- the number of parts
mutual
def Cn.pz : Cn → Nat
  | .no c => 1 + c.pz
  | .op _ ps => 1 + Cn.pzs ps
  | _ => 1
def Cn.pzs : List Cn → Nat
  | [] => 0
  | p :: ps => p.pz + Cn.pzs ps
end
end Pg
namespace Pg
open PySem Mn L2
/-! programs of any statements: names are short, nothing else -/
mutual
def St.wk (vis : List Str) : St → Prop
  | .call s => Ws 70 s
  | .lt x _ => Ws 70 x
  | .st x _ => Ws 70 x
  | .ife c a b => c.ok vis ∧ St.wks vis a ∧ St.wks vis b
  | .whl l c b => lbOk l ∧ c.ok vis ∧ St.wks vis b
  | .fr l b => lbOk l ∧ St.wks vis b
  | .brk l => lbOk l
  | .cnt l => lbOk l
  | .ret n => nbOk n
  | .tr a b => St.wks vis a ∧ St.wks vis b
  | .blk b => St.wks vis b
def St.wks (vis : List Str) : List St → Prop
  | [] => True
  | p :: ps => p.wk vis ∧ St.wks vis ps
end
theorem wks_app {vis : List Str} : ∀ {a b : List St}, St.wks vis a → St.wks vis b → St.wks vis (a ++ b)
  | [], b, _, h => h
  | p :: a, b, h, h2 => ⟨h.1, wks_app h.2 h2⟩
/-- bounds of what is drawn at depth k -/
def wz : Nat → Nat
  | 0 => 1
  | k + 1 => 20 + 6 * wz k
theorem wz_pos (k : Nat) : 1 ≤ wz k := by cases k <;> simp [wz] <;> omega
end Pg
namespace Pg
open PySem Mn L2 PySem.StrLaws
/-! texts of plain signs -/
def Pl (s : Str) : Prop := ∀ c ∈ s.cps.toList, c < 128
instance {s : Str} : Decidable (Pl s) := by unfold Pl; infer_instance
theorem Pl.add {x y : Str} (hx : Pl x) (hy : Pl y) : Pl (x ++ y) := by
  intro c hc
  have : (x ++ y).cps.toList = x.cps.toList ++ y.cps.toList := by
    show (x.cps ++ y.cps).toList = _
    simp
  rw [this, List.mem_append] at hc
  exact hc.elim (hx c) (hy c)
theorem Ws.pl {k : Nat} {s : Str} (h : Ws k s) : Pl s := h.2
theorem Pl.join {a : Str} (ha : Pl a) : ∀ {ps : List Str}, (∀ p ∈ ps, Pl p) → Pl (Txt.join a ps) := by
  have key : ∀ (ps : List Str), (∀ p ∈ ps, Pl p) → Pl (a.join ps) := by
    intro ps
    induction ps with
    | nil => intro _; exact fun c hc => by simp [Str.join, Str.empty] at hc
    | cons p ps ih =>
      intro h
      cases ps with
      | nil => exact h p (List.mem_cons_self ..)
      | cons q ps => exact ((h p (List.mem_cons_self ..)).add ha).add (ih fun x hx => h x (List.mem_cons_of_mem _ hx))
  intro ps h
  show Pl (Builtin.Str.glued a ps)
  rw [glued_eq_join]
  exact key ps h
theorem len_join (a : Str) (ps : List Str) : (Txt.join a ps).length = (ps.map (·.length)).sum + (ps.length - 1) * a.length := size_glued a ps
/-! conditions -/
def par (b : Bool) (x : Str) : Str := if b then "(" ++ (x ++ ")") else x
mutual
def Cn.tx : Cn → Str
  | .call s => s ++ "()"
  | .flag s => s
  | .no c => "!" ++ par (isOp false c || isOp true c) c.tx
  | .op o ps => Txt.join (if o then " || " else " && ") (Cn.txs o ps)
def Cn.txs (o : Bool) : List Cn → List Str
  | [] => []
  | p :: ps => par (!o && isOp true p) p.tx :: Cn.txs o ps
end
theorem txs_map {o : Bool} : ∀ ps : List Cn, Cn.txs o ps = ps.map fun p => par (!o && isOp true p) p.tx
  | [] => rfl
  | p :: ps => by rw [Cn.txs, txs_map ps]; rfl
theorem l_call : (Str.ofString "()").length = 2 := by decide +kernel
theorem l_lp : (Str.ofString "(").length = 1 := by decide +kernel
theorem l_rp : (Str.ofString ")").length = 1 := by decide +kernel
theorem l_no : (Str.ofString "!").length = 1 := by decide +kernel
theorem par_len (b : Bool) (x : Str) : (par b x).length ≤ x.length + 2 := by
  unfold par
  split
  · rw [strLen_append, strLen_append, l_lp, l_rp]; omega
  · omega
theorem par_pl {b : Bool} {x : Str} (h : Pl x) : Pl (par b x) := by
  unfold par
  split
  · exact Pl.add (by decide +kernel) (Pl.add h (by decide +kernel))
  · exact h
mutual
theorem tx_len {vis : List Str} : ∀ c : Cn, c.ok vis → c.tx.length + 10 ≤ 90 * c.sz ∧ Pl c.tx
  | .call s, h => by
    have := h.1
    rw [Cn.tx, Cn.sz, strLen_append, l_call]
    exact ⟨by omega, (Ws.pl h).add (by decide +kernel)⟩
  | .flag s, h => by
    have := h.1.1
    rw [Cn.tx, Cn.sz]
    exact ⟨by omega, Ws.pl h.1⟩
  | .no c, h => by
    have h1 := tx_len c h
    have h2 := par_len (isOp false c || isOp true c) c.tx
    rw [Cn.tx, Cn.sz, strLen_append, l_no]
    exact ⟨by omega, Pl.add (by decide +kernel) (par_pl h1.2)⟩
  | .op o ps, h => by
    have h1 := txs_len o ps h.2
    rw [Cn.tx, Cn.sz, len_join]
    have e : (if o = true then (Str.ofString " || ") else Str.ofString " && ").length = 4 := by cases o <;> decide +kernel
    have h2 : (Cn.txs o ps).length = ps.length := by rw [txs_map, List.length_map]
    refine ⟨?_, Pl.join (by cases o <;> decide +kernel) h1.2⟩
    rw [e, h2]
    have := h1.1
    have : (ps.length - 1) * 4 ≤ 4 * ps.length := by omega
    omega
theorem txs_len {vis : List Str} (o : Bool) : ∀ ps : List Cn, Cn.oks vis ps → ((Cn.txs o ps).map (·.length)).sum + 8 * ps.length ≤ 90 * Cn.szs ps ∧ ∀ x ∈ Cn.txs o ps, Pl x
  | [], _ => ⟨Nat.le_refl _, fun x hx => nomatch hx⟩
  | p :: ps, h => by
    have h1 := tx_len p h.1
    have h2 := txs_len o ps h.2
    have h3 := par_len (!o && isOp true p) p.tx
    rw [Cn.txs, Cn.szs, List.map_cons, List.sum_cons, List.length_cons]
    refine ⟨by omega, fun x hx => ?_⟩
    rcases List.mem_cons.mp hx with rfl | hx
    · exact par_pl h1.2
    · exact h2.2 x hx
end
/-! statements -/
def trt (v : Bool) : Str := if v then "true" else "false"
def St.smp : St → Str
  | .call s => s ++ "();"
  | .lt x v => "let " ++ (x ++ (" = " ++ (trt v ++ ";")))
  | .st x v => x ++ (" = " ++ (trt v ++ ";"))
  | .brk none => "break" ++ ";"
  | .brk (some s) => "break" ++ (" " ++ (s ++ ";"))
  | .cnt none => "continue" ++ ";"
  | .cnt (some s) => "continue" ++ (" " ++ (s ++ ";"))
  | .ret none => "return" ++ ";"
  | .ret (some i) => "return" ++ (" " ++ (Str.ofString (toString i) ++ ";"))
  | _ => ""
def lbt : Option Str → Str
  | none => ""
  | some s => s ++ ": "
def St.isIf : St → Bool
  | .ife _ _ _ => true
  | _ => false
mutual
/-- the lines of a statement, st before an if -/
def St.ln (st i : Str) : St → List Str
  | .ife c a b => (i ++ (st ++ ("if (" ++ (c.tx ++ ") {")))) :: (St.lns (i ++ "  ") a ++ St.els i b)
  | .whl l c b => (i ++ (lbt l ++ ("while (" ++ (c.tx ++ ") {")))) :: (St.lns (i ++ "  ") b ++ [i ++ "}"])
  | .fr l b => (i ++ (lbt l ++ "for (;;) {")) :: (St.lns (i ++ "  ") b ++ [i ++ "}"])
  | .tr a b => (i ++ "try {") :: (St.lns (i ++ "  ") a ++ ((i ++ "} finally {") :: (St.lns (i ++ "  ") b ++ [i ++ "}"])))
  | .blk b => (i ++ "{") :: (St.lns (i ++ "  ") b ++ [i ++ "}"])
  | .call s => [i ++ St.smp (.call s)]
  | .lt x v => [i ++ St.smp (.lt x v)]
  | .st x v => [i ++ St.smp (.st x v)]
  | .brk l => [i ++ St.smp (.brk l)]
  | .cnt l => [i ++ St.smp (.cnt l)]
  | .ret n => [i ++ St.smp (.ret n)]
def St.lns (i : Str) : List St → List Str
  | [] => []
  | p :: ps => p.ln "" i ++ St.lns i ps
def St.els (i : Str) : List St → List Str
  | [] => [i ++ "}"]
  | p :: ps => if ps.isEmpty && p.isIf then p.ln "} else " i else (i ++ "} else {") :: ((p.ln "" (i ++ "  ") ++ St.lns (i ++ "  ") ps) ++ [i ++ "}"])
end
mutual
theorem ln_len : ∀ (p : St) (st i : Str), (p.ln st i).length ≤ 3 * p.sz
  | .ife c a b, st, i => by have := lns_len a (i ++ "  "); have := els_len b i; have := c.sz_pos; rw [St.ln, St.sz, List.length_cons, List.length_append]; omega
  | .whl l c b, st, i => by have := lns_len b (i ++ "  "); rw [St.ln, St.sz, List.length_cons, List.length_append]; simp only [List.length_cons, List.length_nil]; omega
  | .fr l b, st, i => by have := lns_len b (i ++ "  "); rw [St.ln, St.sz, List.length_cons, List.length_append]; simp only [List.length_cons, List.length_nil]; omega
  | .tr a b, st, i => by have := lns_len a (i ++ "  "); have := lns_len b (i ++ "  "); rw [St.ln, St.sz, List.length_cons, List.length_append, List.length_cons, List.length_append]; simp only [List.length_cons, List.length_nil]; omega
  | .blk b, st, i => by have := lns_len b (i ++ "  "); rw [St.ln, St.sz, List.length_cons, List.length_append]; simp only [List.length_cons, List.length_nil]; omega
  | .call _, _, _ => by simp [St.ln, St.sz]
  | .lt _ _, _, _ => by simp [St.ln, St.sz]
  | .st _ _, _, _ => by simp [St.ln, St.sz]
  | .brk _, _, _ => by simp [St.ln, St.sz]
  | .cnt _, _, _ => by simp [St.ln, St.sz]
  | .ret _, _, _ => by simp [St.ln, St.sz]
theorem lns_len : ∀ (ps : List St) (i : Str), (St.lns i ps).length ≤ 3 * St.szs ps
  | [], _ => Nat.le_refl _
  | p :: ps, i => by have := ln_len p "" i; have := lns_len ps i; rw [St.lns, St.szs, List.length_append]; omega
theorem els_len : ∀ (ps : List St) (i : Str), (St.els i ps).length ≤ 3 * St.szs ps + 2
  | [], _ => by simp [St.els]
  | p :: ps, i => by
    have := ln_len p "} else " i
    have := ln_len p "" (i ++ "  ")
    have := lns_len ps (i ++ "  ")
    rw [St.els, St.szs]
    split
    · omega
    · rw [List.length_cons, List.length_append, List.length_append]
      simp only [List.length_cons, List.length_nil]
      omega
end
/-! how long the lines are, in all -/
def tot (l : List Str) : Nat := (l.map (·.length)).sum
theorem tot_app (a b : List Str) : tot (a ++ b) = tot a + tot b := by simp [tot]
theorem tot_cons (x : Str) (b : List Str) : tot (x :: b) = x.length + tot b := by simp [tot]
theorem tot_nil : tot [] = 0 := rfl
theorem l_in : (Str.ofString "  ").length = 2 := by decide +kernel
theorem l_if : (Str.ofString "if (").length = 4 := by decide +kernel
theorem l_ob : (Str.ofString ") {").length = 3 := by decide +kernel
theorem l_cb : (Str.ofString "}").length = 1 := by decide +kernel
theorem l_wh : (Str.ofString "while (").length = 7 := by decide +kernel
theorem l_fr : (Str.ofString "for (;;) {").length = 10 := by decide +kernel
theorem l_tr : (Str.ofString "try {").length = 5 := by decide +kernel
theorem l_fi : (Str.ofString "} finally {").length = 11 := by decide +kernel
theorem l_br : (Str.ofString "{").length = 1 := by decide +kernel
theorem l_el : (Str.ofString "} else {").length = 8 := by decide +kernel
theorem l_ei : (Str.ofString "} else ").length = 7 := by decide +kernel
theorem l_e : (Str.ofString "").length = 0 := by decide +kernel
theorem lbt_len {l : Option Str} (h : lbOk l) : (lbt l).length ≤ 72 ∧ Pl (lbt l) := by
  cases l with
  | none => exact ⟨by decide +kernel, by decide +kernel⟩
  | some s =>
    have h1 : s.length ≤ 70 := h.1
    refine ⟨?_, (Ws.pl h).add (by decide +kernel)⟩
    rw [lbt, strLen_append, show (Str.ofString ": ").length = 2 by decide +kernel]
    omega
theorem smp_len {vis : List Str} : ∀ p : St, p.wk vis → p.smp.length ≤ 100 ∧ Pl p.smp
  | .call s, h => by
    have h1 : s.length ≤ 70 := h.1
    refine ⟨?_, (Ws.pl h).add (by decide +kernel)⟩
    rw [St.smp, strLen_append, show (Str.ofString "();").length = 3 by decide +kernel]; omega
  | .lt x v, h => by
    have h1 : x.length ≤ 70 := h.1
    have e : (trt v).length ≤ 5 := by cases v <;> decide +kernel
    refine ⟨?_, Pl.add (by decide +kernel) ((Ws.pl h).add (Pl.add (by decide +kernel) (Pl.add (by cases v <;> decide +kernel) (by decide +kernel))))⟩
    rw [St.smp, strLen_append, strLen_append, strLen_append, strLen_append, show (Str.ofString "let ").length = 4 by decide +kernel, show (Str.ofString " = ").length = 3 by decide +kernel, show (Str.ofString ";").length = 1 by decide +kernel]; omega
  | .st x v, h => by
    have h1 : x.length ≤ 70 := h.1
    have e : (trt v).length ≤ 5 := by cases v <;> decide +kernel
    refine ⟨?_, (Ws.pl h).add (Pl.add (by decide +kernel) (Pl.add (by cases v <;> decide +kernel) (by decide +kernel)))⟩
    rw [St.smp, strLen_append, strLen_append, strLen_append, show (Str.ofString " = ").length = 3 by decide +kernel, show (Str.ofString ";").length = 1 by decide +kernel]; omega
  | .brk none, h => ⟨by decide +kernel, by decide +kernel⟩
  | .brk (some s), h => by
    have h1 : s.length ≤ 70 := h.1
    refine ⟨?_, Pl.add (by decide +kernel) (Pl.add (by decide +kernel) ((Ws.pl h).add (by decide +kernel)))⟩
    rw [St.smp, strLen_append, strLen_append, strLen_append, show (Str.ofString "break").length = 5 by decide +kernel, show (Str.ofString " ").length = 1 by decide +kernel, show (Str.ofString ";").length = 1 by decide +kernel]; omega
  | .cnt none, h => ⟨by decide +kernel, by decide +kernel⟩
  | .cnt (some s), h => by
    have h1 : s.length ≤ 70 := h.1
    refine ⟨?_, Pl.add (by decide +kernel) (Pl.add (by decide +kernel) ((Ws.pl h).add (by decide +kernel)))⟩
    rw [St.smp, strLen_append, strLen_append, strLen_append, show (Str.ofString "continue").length = 8 by decide +kernel, show (Str.ofString " ").length = 1 by decide +kernel, show (Str.ofString ";").length = 1 by decide +kernel]; omega
  | .ret none, h => ⟨by decide +kernel, by decide +kernel⟩
  | .ret (some i), h => by
    have h2 : ∀ j : Nat, j < 100 → (St.smp (.ret (some (j : Int)))).length ≤ 100 ∧ Pl (St.smp (.ret (some (j : Int)))) := by decide +kernel
    obtain ⟨j, rfl⟩ : ∃ j : Nat, i = j := ⟨i.toNat, by have : 0 ≤ i := h.1; omega⟩
    exact h2 j (by have : (j : Int) < 100 := h.2; omega)
  | .ife _ _ _, _ => show (Str.ofString "").length ≤ 100 ∧ Pl (Str.ofString "") from ⟨by decide +kernel, by decide +kernel⟩
  | .whl _ _ _, _ => show (Str.ofString "").length ≤ 100 ∧ Pl (Str.ofString "") from ⟨by decide +kernel, by decide +kernel⟩
  | .fr _ _, _ => show (Str.ofString "").length ≤ 100 ∧ Pl (Str.ofString "") from ⟨by decide +kernel, by decide +kernel⟩
  | .tr _ _, _ => show (Str.ofString "").length ≤ 100 ∧ Pl (Str.ofString "") from ⟨by decide +kernel, by decide +kernel⟩
  | .blk _, _ => show (Str.ofString "").length ≤ 100 ∧ Pl (Str.ofString "") from ⟨by decide +kernel, by decide +kernel⟩
def allPl (l : List Str) : Prop := ∀ x ∈ l, Pl x
theorem allPl.app {a b : List Str} (ha : allPl a) (hb : allPl b) : allPl (a ++ b) := fun x hx => (List.mem_append.mp hx).elim (ha x) (hb x)
theorem allPl.cons {x : Str} {b : List Str} (ha : Pl x) (hb : allPl b) : allPl (x :: b) := fun y hy => by
  rcases List.mem_cons.mp hy with rfl | hy
  · exact ha
  · exact hb y hy
theorem allPl.nil : allPl [] := fun x hx => nomatch hx
mutual
theorem ln_tot {vis : List Str} : ∀ (p : St) (st i : Str) (w : Nat), p.wk vis → i.length + 2 * p.dp ≤ w → st.length ≤ 7 → Pl i → Pl st → tot (p.ln st i) ≤ 3 * p.sz * (w + 200) ∧ allPl (p.ln st i)
  | .ife c a b, st, i, w, h, hw, hs, pi, ps => by
    rw [St.dp] at hw
    have h1 := tx_len c h.1
    have h2 := lns_tot a (i ++ "  ") w h.2.1 (by rw [strLen_append, l_in]; omega) (pi.add (by decide +kernel))
    have h3 := els_tot b i w h.2.2 (by omega) pi
    rw [St.ln, St.sz, tot_cons, tot_app, strLen_append, strLen_append, strLen_append, strLen_append, l_if, l_ob]
    refine ⟨?_, .cons (pi.add (ps.add (Pl.add (by decide +kernel) (h1.2.add (by decide +kernel))))) (h2.2.app h3.2)⟩
    have e : 3 * (c.sz + St.szs a + St.szs b + 1) * (w + 200) = 3 * c.sz * (w + 200) + 3 * St.szs a * (w + 200) + 3 * St.szs b * (w + 200) + 3 * (w + 200) := by
      simp only [Nat.mul_add, Nat.add_mul]; omega
    have e2 : 3 * c.sz * (w + 200) = 3 * c.sz * w + 600 * c.sz := by rw [Nat.mul_add]; omega
    have := h2.1
    have := h3.1
    omega
  | .whl l c b, st, i, w, h, hw, hs, pi, ps => by
    rw [St.dp] at hw
    have h0 := lbt_len h.1
    have h1 := tx_len c h.2.1
    have h2 := lns_tot b (i ++ "  ") w h.2.2 (by rw [strLen_append, l_in]; omega) (pi.add (by decide +kernel))
    rw [St.ln, St.sz, tot_cons, tot_app, tot_cons, tot_nil, strLen_append, strLen_append, strLen_append, strLen_append, strLen_append, l_wh, l_ob, l_cb]
    refine ⟨?_, .cons (pi.add (h0.2.add (Pl.add (by decide +kernel) (h1.2.add (by decide +kernel))))) (h2.2.app (.cons (pi.add (by decide +kernel)) .nil))⟩
    have e : 3 * (c.sz + St.szs b + 1) * (w + 200) = 3 * c.sz * (w + 200) + 3 * St.szs b * (w + 200) + 3 * (w + 200) := by
      simp only [Nat.mul_add, Nat.add_mul]; omega
    have e2 : 3 * c.sz * (w + 200) = 3 * c.sz * w + 600 * c.sz := by rw [Nat.mul_add]; omega
    have := h2.1
    omega
  | .fr l b, st, i, w, h, hw, hs, pi, ps => by
    rw [St.dp] at hw
    have h0 := lbt_len h.1
    have h2 := lns_tot b (i ++ "  ") w h.2 (by rw [strLen_append, l_in]; omega) (pi.add (by decide +kernel))
    rw [St.ln, St.sz, tot_cons, tot_app, tot_cons, tot_nil, strLen_append, strLen_append, strLen_append, l_fr, l_cb]
    refine ⟨?_, .cons (pi.add (h0.2.add (by decide +kernel))) (h2.2.app (.cons (pi.add (by decide +kernel)) .nil))⟩
    have e : 3 * (St.szs b + 1) * (w + 200) = 3 * St.szs b * (w + 200) + 3 * (w + 200) := by
      simp only [Nat.mul_add, Nat.add_mul]; omega
    have := h2.1
    omega
  | .tr a b, st, i, w, h, hw, hs, pi, ps => by
    rw [St.dp] at hw
    have h2 := lns_tot a (i ++ "  ") w h.1 (by rw [strLen_append, l_in]; omega) (pi.add (by decide +kernel))
    have h3 := lns_tot b (i ++ "  ") w h.2 (by rw [strLen_append, l_in]; omega) (pi.add (by decide +kernel))
    rw [St.ln, St.sz, tot_cons, tot_app, tot_cons, tot_app, tot_cons, tot_nil, strLen_append, strLen_append, strLen_append, l_tr, l_fi, l_cb]
    refine ⟨?_, .cons (pi.add (by decide +kernel)) (h2.2.app (.cons (pi.add (by decide +kernel)) (h3.2.app (.cons (pi.add (by decide +kernel)) .nil))))⟩
    have e : 3 * (St.szs a + St.szs b + 1) * (w + 200) = 3 * St.szs a * (w + 200) + 3 * St.szs b * (w + 200) + 3 * (w + 200) := by
      simp only [Nat.mul_add, Nat.add_mul]; omega
    have := h2.1
    have := h3.1
    omega
  | .blk b, st, i, w, h, hw, hs, pi, ps => by
    rw [St.dp] at hw
    have h2 := lns_tot b (i ++ "  ") w h (by rw [strLen_append, l_in]; omega) (pi.add (by decide +kernel))
    rw [St.ln, St.sz, tot_cons, tot_app, tot_cons, tot_nil, strLen_append, strLen_append, l_br, l_cb]
    refine ⟨?_, .cons (pi.add (by decide +kernel)) (h2.2.app (.cons (pi.add (by decide +kernel)) .nil))⟩
    have e : 3 * (St.szs b + 1) * (w + 200) = 3 * St.szs b * (w + 200) + 3 * (w + 200) := by
      simp only [Nat.mul_add, Nat.add_mul]; omega
    have := h2.1
    omega
  | .call s, st, i, w, h, hw, hs, pi, ps => by
    have h1 := smp_len (.call s) h
    rw [St.ln, show (St.call s).sz = 1 from rfl, tot_cons, tot_nil, strLen_append]
    exact ⟨by omega, .cons (pi.add h1.2) .nil⟩
  | .lt x v, st, i, w, h, hw, hs, pi, ps => by
    have h1 := smp_len (.lt x v) h
    rw [St.ln, show (St.lt x v).sz = 1 from rfl, tot_cons, tot_nil, strLen_append]
    exact ⟨by omega, .cons (pi.add h1.2) .nil⟩
  | .st x v, st, i, w, h, hw, hs, pi, ps => by
    have h1 := smp_len (.st x v) h
    rw [St.ln, show (St.st x v).sz = 1 from rfl, tot_cons, tot_nil, strLen_append]
    exact ⟨by omega, .cons (pi.add h1.2) .nil⟩
  | .brk l, st, i, w, h, hw, hs, pi, ps => by
    have h1 := smp_len (.brk l) h
    rw [St.ln, show (St.brk l).sz = 1 from rfl, tot_cons, tot_nil, strLen_append]
    exact ⟨by omega, .cons (pi.add h1.2) .nil⟩
  | .cnt l, st, i, w, h, hw, hs, pi, ps => by
    have h1 := smp_len (.cnt l) h
    rw [St.ln, show (St.cnt l).sz = 1 from rfl, tot_cons, tot_nil, strLen_append]
    exact ⟨by omega, .cons (pi.add h1.2) .nil⟩
  | .ret n, st, i, w, h, hw, hs, pi, ps => by
    have h1 := smp_len (.ret n) h
    rw [St.ln, show (St.ret n).sz = 1 from rfl, tot_cons, tot_nil, strLen_append]
    exact ⟨by omega, .cons (pi.add h1.2) .nil⟩
theorem lns_tot {vis : List Str} : ∀ (l : List St) (i : Str) (w : Nat), St.wks vis l → i.length + 2 * St.dps l ≤ w → Pl i → tot (St.lns i l) ≤ 3 * St.szs l * (w + 200) ∧ allPl (St.lns i l)
  | [], i, w, h, hw, pi => by rw [St.lns, tot_nil]; exact ⟨Nat.zero_le _, .nil⟩
  | p :: l, i, w, h, hw, pi => by
    rw [St.dps] at hw
    have h1 := ln_tot p "" i w h.1 (by omega) (by rw [l_e]; omega) pi (by decide +kernel)
    have h2 := lns_tot l i w h.2 (by omega) pi
    rw [St.lns, St.szs, tot_app]
    refine ⟨?_, h1.2.app h2.2⟩
    have e : 3 * (p.sz + St.szs l) * (w + 200) = 3 * p.sz * (w + 200) + 3 * St.szs l * (w + 200) := by
      simp only [Nat.mul_add, Nat.add_mul]; omega
    have := h1.1
    have := h2.1
    omega
theorem els_tot {vis : List Str} : ∀ (l : List St) (i : Str) (w : Nat), St.wks vis l → i.length + 2 + 2 * St.dps l ≤ w → Pl i → tot (St.els i l) ≤ 3 * St.szs l * (w + 200) + 2 * (w + 100) ∧ allPl (St.els i l)
  | [], i, w, h, hw, pi => by
    rw [St.els, tot_cons, tot_nil, strLen_append, l_cb]
    exact ⟨by omega, .cons (pi.add (by decide +kernel)) .nil⟩
  | p :: l, i, w, h, hw, pi => by
    rw [St.dps] at hw
    have h0 := ln_tot p "} else " i w h.1 (by omega) (by rw [l_ei]; omega) pi (by decide +kernel)
    have h1 := ln_tot p "" (i ++ "  ") w h.1 (by rw [strLen_append, l_in]; omega) (by rw [l_e]; omega) (pi.add (by decide +kernel)) (by decide +kernel)
    have h2 := lns_tot l (i ++ "  ") w h.2 (by rw [strLen_append, l_in]; omega) (pi.add (by decide +kernel))
    have e : 3 * (p.sz + St.szs l) * (w + 200) = 3 * p.sz * (w + 200) + 3 * St.szs l * (w + 200) := by
      simp only [Nat.mul_add, Nat.add_mul]; omega
    have := h0.1
    have := h1.1
    have := h2.1
    rw [St.els, St.szs]
    split
    · exact ⟨by omega, h0.2⟩
    · rw [tot_cons, tot_app, tot_app, tot_cons, tot_nil, strLen_append, strLen_append, l_el, l_cb]
      exact ⟨by omega, .cons (pi.add (by decide +kernel)) ((h1.2.app h2.2).app (.cons (pi.add (by decide +kernel)) .nil))⟩
end
end Pg
/-! Mn by value: lists in names, no store; for defs that keep their lists to themselves. -/
namespace Mn
open PySem L2
inductive Rv (α : Type) where
  | ok (a : α)
  | exc (e : Exn)
  | bad
namespace Rv
def bind {α β : Type} (r : Rv α) (f : α → Rv β) : Rv β := match r with
  | .ok a => f a
  | .exc e => .exc e
  | .bad => .bad
end Rv
def optV {α : Type} : Option α → Rv α
  | some a => .ok a
  | none => .bad
def guardV (c : Bool) : Rv Unit := match c with
  | true => .ok ()
  | false => .bad
theorem rv_ok {α β : Type} {a : α} {f : α → Rv β} : (Rv.ok a).bind f = f a := Eq.trans rfl rfl
theorem rv_exc {α β : Type} {e : Exn} {f : α → Rv β} : (Rv.exc e).bind f = .exc e := rfl
theorem rv_bad {α β : Type} {f : α → Rv β} : (Rv.bad : Rv α).bind f = .bad := rfl
theorem ov_some {α : Type} {a : α} : optV (some a) = .ok a := Eq.trans rfl rfl
theorem gv_true : guardV true = .ok () := Eq.trans rfl rfl
-- a value without places and lists
mutual
def plain : D → Bool
  | .tup xs => plains xs
  | .loc _ => false
  | .lst _ => false
  | .dct _ _ => false
  | .non => true
  | .bl _ => true
  | .int _ => true
  | .str _ => true
def plains : List D → Bool
  | [] => true
  | x :: xs => plain x && plains xs
end
structure CV where
  glob : Str → Option D
  call : Str → List D → Rv D
def pyL : D → Option PyData
  | .lst xs => (pyAll xs).map .list
  | d => py d
def eqV (x y : D) : Rv Bool := match pyL x, pyL y with
  | some a, some b => if fitEq x y a b = true then .ok (PyData.eqv a b) else .bad
  | _, _ => .bad
def inV (x y : D) : Rv Bool := match y with
  | .str z => match x with
    | .str w => .ok (!(Builtin.Str.occurrences z w 0 z.length 1).isEmpty)
    | _ => .bad
  | .tup ys => optV (inAll x ys)
  | .lst ys => optV (inAll x ys)
  | _ => .bad
def cmpV : COp → D → D → Rv Bool
  | .eq, x, y => eqV x y
  | .ne, x, y => (eqV x y).bind fun b => .ok (!b)
  | .lt, x, y => optV (ltD 100 x y)
  | .gt, .int i, .int j => .ok (decide (j < i))
  | .le, .int i, .int j => .ok (decide (i ≤ j))
  | .ge, .int i, .int j => .ok (decide (j ≤ i))
  | .isn, x, .non => .ok (match x with | .non => true | _ => false)
  | .isnn, x, .non => .ok (match x with | .non => false | _ => true)
  | .inn, x, y => inV x y
  | .nin, x, y => (inV x y).bind fun b => .ok (!b)
  | _, _, _ => .bad
def binV : BOp → D → D → Rv D
  | .add, .int i, .int j => .ok (.int (i + j))
  | .add, .str x, .str y => (guardV (ok2 (x.length + y.length))).bind fun _ => .ok (.str (x ++ y))
  | .add, .tup xs, .tup ys => (guardV (ok2 (xs ++ ys).length)).bind fun _ => .ok (.tup (xs ++ ys))
  | .add, .lst xs, .lst ys => (guardV (ok2 (xs ++ ys).length)).bind fun _ => .ok (.lst (xs ++ ys))
  | .sub, .int i, .int j => .ok (.int (i - j))
  | .mul, .int i, .int j => (guardV (cMul i j)).bind fun _ => .ok (.int (i * j))
  | .mul, .str x, .int j => (guardV (decide (x.length ≤ 1000) && decide (-1000 ≤ j) && decide (j ≤ 1000))).bind fun _ => .ok (.str ⟨(rep x.cps.toList j.toNat).toArray⟩)
  | .mul, .tup xs, .int j => (guardV (!xs.isEmpty && decide (2 ≤ j) && decide (j ≤ 1000) && decide (xs.length ≤ 1000))).bind fun _ => .ok (.tup (rep xs j.toNat))
  | .mul, .lst xs, .int j => (guardV (decide (-(2 ^ 63) ≤ j) && decide (j < 2 ^ 63) && ok2 (xs.length * j.toNat))).bind fun _ => .ok (.lst (rep xs j.toNat))
  | .mod, .int i, .int j => (guardV (decide (0 < j))).bind fun _ => .ok (.int (i % j))
  | .fdiv, .int i, .int j => (guardV (decide (0 < j) && decide (j < 1073741824))).bind fun _ => .ok (.int (i / j))
  | .pow, .int i, .int j => (guardV (decide (0 ≤ j) && decide (j ≤ 1000000) && decide (i.natAbs < 2 ^ 64))).bind fun _ => .ok (.int (i ^ j.toNat))
  | _, _, _ => .bad
def augV : BOp → D → D → Rv D
  | .add, .int i, .int j => .ok (.int (i + j))
  | .add, .str x, .str y => (guardV (ok2 (x.length + y.length))).bind fun _ => .ok (.str (x ++ y))
  | .sub, .int i, .int j => .ok (.int (i - j))
  | _, _, _ => .bad
def truV : D → Rv Bool
  | .non => .ok false
  | .bl b => .ok b
  | .int i => .ok (i != 0)
  | .str x => (guardV (ok2 x.length)).bind fun _ => .ok ((x.length : Int) != 0)
  | .tup xs => .ok (!xs.isEmpty)
  | .lst xs => .ok (!xs.isEmpty)
  | _ => .bad
def asBV : D → Rv Bool
  | .bl b => .ok b
  | _ => .bad
def asIV : D → Rv Int
  | .int i => .ok i
  | _ => .bad
def idxV : D → D → Rv D
  | .tup xs, .int i => optV (atI xs i)
  | .str x, .int i => (guardV (ok2 x.length)).bind fun _ => optV ((atI x.cps.toList i).map fun c => .str ⟨#[c]⟩)
  | .lst xs, .int i => optV (atI xs i)
  | _, _ => .bad
def slcV (x : D) (lo hi : Option Int) : Rv D := match x with
  | .tup xs => .ok (.tup (cutD xs lo hi))
  | .str z => (guardV (ok2 z.length)).bind fun _ => .ok (.str (cutS z lo hi))
  | .lst xs => .ok (.lst (cutD xs lo hi))
  | _ => .bad
def seqV : D → Rv (List D)
  | .tup xs => .ok xs
  | .lst xs => .ok xs
  | _ => .bad
def reprV (d : D) : Rv D := match pyL d with
  | some a => if a.showable && !a.hasDict && decide (a.depth ≤ 150) && decide (a.shown.length ≤ sizeLine) then .ok (.str a.shown) else .bad
  | none => .bad
def biV : Bi → List D → Rv D
  | .len, [.str x] => (guardV (ok2 x.length)).bind fun _ => .ok (.int x.length)
  | .len, [d] => (seqV d).bind fun xs => .ok (.int xs.length)
  | .int, [.int i] => .ok (.int i)
  | .int, [.bl b] => .ok (.int (if b then 1 else 0))
  | .abs, [.int i] => .ok (.int (if i < 0 then -i else i))
  | .max2, [.int i, .int j] => .ok (.int (if j > i then j else i))
  | .min2, [.int i, .int j] => .ok (.int (if j < i then j else i))
  | .max1, [.lst xs] => (optV (intsD xs)).bind fun is => (guardV (!is.isEmpty)).bind fun _ => .ok (.int (maxI is))
  | .min1, [.lst xs] => (optV (intsD xs)).bind fun is => (guardV (!is.isEmpty)).bind fun _ => .ok (.int (minI is))
  | .sum, [.lst xs] => (optV (intsD xs)).bind fun is => .ok (.int is.sum)
  | .list, [d] => (seqV d).bind fun xs => .ok (.lst xs)
  | .tuple, [d] => (seqV d).bind fun xs => .ok (.tup xs)
  | .str, [.int i] => (guardV (decide (i.natAbs.log2 < 1920))).bind fun _ => .ok (.str (toString i))
  | .str, [.str x] => .ok (.str x)
  | .repr, [.int i] => (guardV (decide (i.natAbs.log2 < 1920))).bind fun _ => .ok (.str (toString i))
  | .repr, [.str x] => (guardV (ok2 (reprText x).length)).bind fun _ => .ok (.str (reprText x))
  | .repr, [.bl b] => .ok (.str (if b then "True" else "False"))
  | .repr, [.non] => .ok (.str "None")
  | .repr, [.tup xs] => reprV (.tup xs)
  | .repr, [.lst xs] => reprV (.lst xs)
  | .all, [.lst xs] => (optV (boolsD xs)).bind fun bs => .ok (.bl (bs.all id))
  | .any, [.lst xs] => (optV (boolsD xs)).bind fun bs => .ok (.bl (bs.any id))
  | .join, [.str a, d] => (seqV d).bind fun xs => (optV (strsD xs)).bind fun ys => (guardV (decide (lenJ a ys ≤ 16777216))).bind fun _ => .ok (.str (Txt.join a ys))
  | .split, [.str a, .str b] => (guardV (!(b.length == 0) && decide (a.length + 2 ≤ sizeLine))).bind fun _ => .ok (.lst ((Txt.split a b).map .str))
  | .startswith, [.str a, .str b] => .ok (.bl (Txt.startswith a b))
  | .isTuple, [d] => .ok (.bl (match d with | .tup _ => true | _ => false))
  | .isStr, [d] => .ok (.bl (match d with | .str _ => true | _ => false))
  | .isInt, [d] => .ok (.bl (match d with | .int _ => true | .bl _ => true | _ => false))
  | .isBool, [d] => .ok (.bl (match d with | .bl _ => true | _ => false))
  | _, _ => .bad
def recvV : Bi → D → Rv Unit
  | .join, .str _ => .ok ()
  | .split, .str _ => .ok ()
  | .startswith, .str _ => .ok ()
  | _, _ => .bad
def strItems (x : Str) : List D := x.cps.toList.map fun c => .str ⟨#[c]⟩
def itemsV : IK → List D → Rv (List D)
  | .rng1, [.int j] => (guardV (decide (-(2 ^ 62) ≤ j) && decide (j < 2 ^ 62))).bind fun _ => .ok (rngD 0 j.toNat)
  | .rng2, [.int i, .int j] => (guardV (decide (-(2 ^ 62) ≤ i) && decide (i < 2 ^ 62) && decide (-(2 ^ 62) ≤ j) && decide (j < 2 ^ 62))).bind fun _ => .ok (rngD i (j - i).toNat)
  | .seq, [.tup xs] => .ok xs
  | .seq, [.str x] => .ok (strItems x)
  | .seq, [.lst xs] => .ok xs
  | .rev, [.lst xs] => .ok xs.reverse
  | .rev, [.tup xs] => .ok xs.reverse
  | _, _ => .bad
/-- a comprehension's turns -/
def compV (put : D → Nv → Nv) (cond elt : Nv → Rv D) (env : Nv) : List D → List D → Rv (List D)
  | [], acc => .ok acc
  | d :: ds, acc => (cond (put d env)).bind fun b => (asBV b).bind fun b => match b with
    | true => (elt (put d env)).bind fun y => (guardV (decide (acc.length < sizeLine))).bind fun _ => compV put cond elt env ds (acc ++ [y])
    | false => compV put cond elt env ds acc
def whileV (c : Nv → Rv D) (b : Nv → Rv (Flow × Nv)) : Nat → Nv → Rv (Flow × Nv)
  | 0, _ => .bad
  | f + 1, env => (c env).bind fun x => (asBV x).bind fun x => match x with
    | false => .ok (.nx, env)
    | true => (b env).bind fun r => match r with
      | (.nx, env') => whileV c b f env'
      | (.ct, env') => whileV c b f env'
      | (.bk, env') => .ok (.nx, env')
      | (.rt d, env') => .ok (.rt d, env')
def forV (asg : D → Nv → Rv Nv) (b : Nv → Rv (Flow × Nv)) : List D → Nv → Rv (Flow × Nv)
  | [], env => .ok (.nx, env)
  | d :: ds, env => (asg d env).bind fun env1 => (b env1).bind fun r => match r with
    | (.nx, env') => forV asg b ds env'
    | (.ct, env') => forV asg b ds env'
    | (.bk, env') => .ok (.nx, env')
    | (.rt d, env') => .ok (.rt d, env')
def lenOk (xs : List D) : Rv Unit := guardV (decide (xs.length ≤ 2000000000))
mutual
def vE (C : CV) : E → Nv → Rv D
  | .c d, _ => .ok d
  | .v i, env => match env[i]? with
    | some (some d) => .ok d
    | _ => .bad
  | .g x, _ => optV (C.glob x)
  | .bin o a b, env => (vE C a env).bind fun x => (vE C b env).bind fun y => binV o x y
  | .neg a, env => (vE C a env).bind fun x => (asIV x).bind fun i => .ok (.int (-i))
  | .cmp o a b, env => (vE C a env).bind fun x => (vE C b env).bind fun y => (cmpV o x y).bind fun b => .ok (.bl b)
  | .cmp3 o o2 a b c, env => (vE C a env).bind fun x => (vE C b env).bind fun y => (cmpV o x y).bind fun k => match k with
    | true => (vE C c env).bind fun z => (cmpV o2 y z).bind fun k => .ok (.bl k)
    | false => .ok (.bl false)
  | .tr a, env => (vE C a env).bind fun x => (truV x).bind fun b => .ok (.bl b)
  | .not a, env => (vE C a env).bind fun x => (asBV x).bind fun b => .ok (.bl (!b))
  | .and a b, env => (vE C a env).bind fun x => (asBV x).bind fun k => match k with
    | true => vE C b env
    | false => .ok (.bl false)
  | .or a b, env => (vE C a env).bind fun x => (asBV x).bind fun k => match k with
    | true => .ok (.bl true)
    | false => vE C b env
  | .vand a b, env => (vE C a env).bind fun x => (truV x).bind fun k => match k with
    | true => vE C b env
    | false => .ok x
  | .vor a b, env => (vE C a env).bind fun x => (truV x).bind fun k => match k with
    | true => .ok x
    | false => vE C b env
  | .ite c a b, env => (vE C c env).bind fun x => (asBV x).bind fun k => match k with
    | true => vE C a env
    | false => vE C b env
  | .tup es, env => (vEs C es env).bind fun xs => (guardV (ok2 xs.length)).bind fun _ => .ok (.tup xs)
  | .lst es, env => (vEs C es env).bind fun xs => (guardV (ok2 xs.length)).bind fun _ => .ok (.lst xs)
  | .idx a b, env => (vE C a env).bind fun x => (vE C b env).bind fun y => idxV x y
  | .slc0 a, env => (vE C a env).bind fun x => slcV x none none
  | .slcL a lo, env => (vE C a env).bind fun x => (vE C lo env).bind fun y => (asIV y).bind fun l => slcV x (some l) none
  | .slcH a hi, env => (vE C a env).bind fun x => (vE C hi env).bind fun z => (asIV z).bind fun h => slcV x none (some h)
  | .slcB a lo hi, env => (vE C a env).bind fun x => (vE C lo env).bind fun y => (asIV y).bind fun l => (vE C hi env).bind fun z => (asIV z).bind fun h => slcV x (some l) (some h)
  | .call f es, env => (vEs C es env).bind fun xs => C.call f xs
  | .bi b es, env => (vEs C es env).bind fun xs => biV b xs
  | .meth b o es, env => (vE C o env).bind fun x => (recvV b x).bind fun _ => (vEs C es env).bind fun xs => biV b (x :: xs)
  | .comp elt sl own k es cond, env => (vEs C es env).bind fun xs => (itemsV k xs).bind fun it => (lenOk it).bind fun _ =>
      (compV (putD sl) (vE C cond) (vE C elt) (wipeD env own) it []).bind fun ys => .ok (.lst ys)
def vEs (C : CV) : Es → Nv → Rv (List D)
  | .nil, _ => .ok []
  | .cons e r, env => (vE C e env).bind fun x => (vEs C r env).bind fun xs => .ok (x :: xs)
end
/-- the methods that change a list -/
def isMut : Bi → Bool
  | .append => true
  | .pop0 => true
  | .pop1 => true
  | .extend => true
  | .insert => true
  | .reverse => true
  | _ => false
def mutV : Bi → List D → List D → Rv (D × List D)
  | .append, xs, [d] => (guardV (decide (xs.length < sizeLine))).bind fun _ => .ok (.non, xs ++ [d])
  | .pop0, xs, [] => (optV xs[xs.length - 1]?).bind fun d => .ok (d, xs.dropLast)
  | .pop1, xs, [.int i] => (guardV (decide (-(2 ^ 63) ≤ i) && decide (i < 2 ^ 63))).bind fun _ => (optV (seqIndex? i xs.length)).bind fun k => (optV xs[k]?).bind fun d => .ok (d, xs.eraseIdx k)
  | .extend, xs, [.lst ys] => (guardV (ok2 (xs.length + ys.length))).bind fun _ => .ok (.non, xs ++ ys)
  | .insert, xs, [.int i, d] => (guardV (decide (xs.length < sizeLine) && decide (0 ≤ i) && decide (i < 2 ^ 63))).bind fun _ => .ok (.non, xs.take i.toNat ++ [d] ++ xs.drop i.toNat)
  | .reverse, xs, [] => .ok (.non, xs.reverse)
  | _, _, _ => .bad
def lstAt (env : Nv) (i : Nat) : Rv (List D) := match env[i]? with
  | some (some (.lst xs)) => .ok xs
  | _ => .bad
mutual
def vP : Pat → D → Nv → Rv Nv
  | .nm i, d, env => .ok (env.set i (some d))
  | .tup ps, d, env => match d with
    | .tup xs => vPs ps xs env
    | _ => .bad
  | .sub _ _, _, _ => .bad
def vPs : Pats → List D → Nv → Rv Nv
  | .nil, [], env => .ok env
  | .cons p r, x :: xs, env => (vP p x env).bind fun env' => vPs r xs env'
  | _, _, _ => .bad
end
/-- a call of a changing method of a name's list -/
def mthV (C : CV) (b : Bi) (i : Nat) (es : Es) (env : Nv) : Rv (D × Nv) := (lstAt env i).bind fun _ => (vEs C es env).bind fun ys => (lstAt env i).bind fun xs => (mutV b xs ys).bind fun r => .ok (r.1, env.set i (some (.lst r.2)))
/-- how a statement is read -/
inductive SK where
  | mth (b : Bi) (i : Nat) (es : Es)
  | mset (j : Nat) (b : Bi) (i : Nat) (es : Es)
  | sub (i : Nat) (k e : E)
  | other
def kindS : Sm → SK
  | .expr (.meth b (.v i) es) => match isMut b with
    | true => .mth b i es
    | false => .other
  | .set (.nm j) (.meth b (.v i) es) => match isMut b with
    | true => .mset j b i es
    | false => .other
  | .set (.sub (.v i) k) e => .sub i k e
  | _ => .other
mutual
def vS (C : CV) : Sm → Nv → Rv (Flow × Nv)
  | .expr e, env => match kindS (.expr e) with
    | .mth b i es => (mthV C b i es env).bind fun r => .ok (.nx, r.2)
    | _ => (vE C e env).bind fun _ => .ok (.nx, env)
  | .set p e, env => match kindS (.set p e) with
    | .mset j b i es => (mthV C b i es env).bind fun r => .ok (.nx, r.2.set j (some r.1))
    | .sub i k e => (vE C e env).bind fun d => (lstAt env i).bind fun _ => (vE C k env).bind fun y => (asIV y).bind fun y => (lstAt env i).bind fun xs => (optV (ixN xs.length y)).bind fun j => .ok (.nx, env.set i (some (.lst (xs.set j d))))
    | _ => (vE C e env).bind fun d => (vP p d env).bind fun env' => .ok (.nx, env')
  | .par i j a b, env => (vE C a env).bind fun x => (vE C b env).bind fun y => .ok (.nx, (env.set i (some x)).set j (some y))
  | .aug i o e, env => match env[i]? with
    | some (some x) => (vE C e env).bind fun y => (augV o x y).bind fun z => .ok (.nx, env.set i (some z))
    | _ => .bad
  | .ret e, env => (vE C e env).bind fun d => .ok (.rt d, env)
  | .ife c a b, env => (vE C c env).bind fun x => (asBV x).bind fun k => match k with
    | true => vSs C a env
    | false => vSs C b env
  | .whl c b, env => whileV (vE C c) (vSs C b) FUEL env
  | .fr p k es b, env => (vEs C es env).bind fun xs => (itemsV k xs).bind fun it => (lenOk it).bind fun _ => forV (vP p) (vSs C b) it env
  | .brk, env => .ok (.bk, env)
  | .cnt, env => .ok (.ct, env)
  | .pass, env => .ok (.nx, env)
def vSs (C : CV) : Sms → Nv → Rv (Flow × Nv)
  | .nil, env => .ok (.nx, env)
  | .cons s r, env => (vS C s env).bind fun q => match q with
    | (.nx, env') => vSs C r env'
    | (f, env') => .ok (f, env')
end
-- the check: names whose lists change are their only holders
mutual
def okE (mt : List Nat) : E → Bool
  | .c d => plain d
  | .v i => !mt.contains i
  | .g _ => true
  | .bin _ a b => okB mt a && okB mt b
  | .neg a => okB mt a
  | .cmp _ a b => okB mt a && okB mt b
  | .cmp3 _ _ a b c => okB mt a && okB mt b && okB mt c
  | .tr a => okB mt a
  | .not a => okB mt a
  | .and a b => okB mt a && okE mt b
  | .or a b => okB mt a && okE mt b
  | .vand a b => okE mt a && okE mt b
  | .vor a b => okE mt a && okE mt b
  | .ite c a b => okB mt c && okE mt a && okE mt b
  | .tup es => okEs mt es
  | .lst es => okEs mt es
  | .idx a b => okB mt a && okB mt b
  | .slc0 a => okB mt a
  | .slcL a b => okB mt a && okB mt b
  | .slcH a b => okB mt a && okB mt b
  | .slcB a b c => okB mt a && okB mt b && okB mt c
  | .call _ es => okEs mt es
  | .bi _ es => okBs mt es
  | .meth _ o es => okB mt o && okBs mt es
  | .comp elt sl own _ es cond => okBs mt es && okE mt elt && okB mt cond && !mt.contains sl && own.all fun j => !mt.contains j
def okB (mt : List Nat) : E → Bool
  | .v _ => true
  | .c d => plain d
  | .g _ => true
  | .bin _ a b => okB mt a && okB mt b
  | .neg a => okB mt a
  | .cmp _ a b => okB mt a && okB mt b
  | .cmp3 _ _ a b c => okB mt a && okB mt b && okB mt c
  | .tr a => okB mt a
  | .not a => okB mt a
  | .and a b => okB mt a && okE mt b
  | .or a b => okB mt a && okE mt b
  | .vand a b => okE mt a && okE mt b
  | .vor a b => okE mt a && okE mt b
  | .ite c a b => okB mt c && okE mt a && okE mt b
  | .tup es => okEs mt es
  | .lst es => okEs mt es
  | .idx a b => okB mt a && okB mt b
  | .slc0 a => okB mt a
  | .slcL a b => okB mt a && okB mt b
  | .slcH a b => okB mt a && okB mt b
  | .slcB a b c => okB mt a && okB mt b && okB mt c
  | .call _ es => okEs mt es
  | .bi _ es => okBs mt es
  | .meth _ o es => okB mt o && okBs mt es
  | .comp elt sl own _ es cond => okBs mt es && okE mt elt && okB mt cond && !mt.contains sl && own.all fun j => !mt.contains j
def okEs (mt : List Nat) : Es → Bool
  | .nil => true
  | .cons e r => okE mt e && okEs mt r
def okBs (mt : List Nat) : Es → Bool
  | .nil => true
  | .cons e r => okB mt e && okBs mt r
end
/-- a list that this makes is new -/
def frsh : E → Bool
  | .bin _ _ _ => true
  | .lst _ => true
  | .slc0 _ => true
  | .slcL _ _ => true
  | .slcH _ _ => true
  | .slcB _ _ _ => true
  | .bi .list _ => true
  | .meth .split _ _ => true
  | .comp _ _ _ _ _ _ => true
  | .c _ => true
  | _ => false
mutual
def tcP : Pat → List Nat
  | .nm i => [i]
  | .tup ps => tcPs ps
  | .sub _ _ => []
def tcPs : Pats → List Nat
  | .nil => []
  | .cons p r => tcP p ++ tcPs r
end
-- the names that are stored or changed
mutual
def tcS : Sm → List Nat
  | .expr e => match kindS (.expr e) with
    | .mth _ i _ => [i]
    | _ => []
  | .set p e => match kindS (.set p e) with
    | .mset j _ i _ => [j, i]
    | .sub i _ _ => [i]
    | _ => tcP p
  | .par i j _ _ => [i, j]
  | .aug i _ _ => [i]
  | .ret _ => []
  | .ife _ a b => tcSs a ++ tcSs b
  | .whl _ b => tcSs b
  | .fr p _ _ b => tcP p ++ tcSs b
  | .brk => []
  | .cnt => []
  | .pass => []
def tcSs : Sms → List Nat
  | .nil => []
  | .cons s r => tcS s ++ tcSs r
end
-- the names whose lists change
mutual
def mtS : Sm → List Nat
  | .expr e => match kindS (.expr e) with
    | .mth _ i _ => [i]
    | _ => []
  | .set p e => match kindS (.set p e) with
    | .mset _ _ i _ => [i]
    | .sub i _ _ => [i]
    | _ => []
  | .ife _ a b => mtSs a ++ mtSs b
  | .whl _ b => mtSs b
  | .fr _ _ _ b => mtSs b
  | _ => []
def mtSs : Sms → List Nat
  | .nil => []
  | .cons s r => mtS s ++ mtSs r
end
def noP (mt : List Nat) (p : Pat) : Bool := (tcP p).all fun i => !mt.contains i
def okMth (mt : List Nat) (b : Bi) (i : Nat) (es : Es) : Bool := mt.contains i && (match b with | .extend => okBs mt es | _ => okEs mt es)
def srcOk (mt tc : List Nat) : Es → Bool
  | .cons (.v i) .nil => !mt.contains i || !tc.contains i
  | es => okEs mt es
def nmF (p : Pat) (e : E) : Bool := match p with
  | .nm _ => frsh e
  | _ => false
mutual
def okS (mt : List Nat) : Sm → Bool
  | .expr e => match kindS (.expr e) with
    | .mth b i es => okMth mt b i es
    | _ => okB mt e
  | .set p e => match kindS (.set p e) with
    | .mset j b i es => okMth mt b i es && !mt.contains j
    | .sub i k e => mt.contains i && okB mt k && okE mt e
    | _ => okE mt e && (noP mt p || nmF p e)
  | .par i j a b => okE mt a && okE mt b && !mt.contains i && !mt.contains j
  | .aug i _ e => okB mt e && !mt.contains i
  | .ret e => okB mt e
  | .ife c a b => okB mt c && okSs mt a && okSs mt b
  | .whl c b => okB mt c && okSs mt b
  | .fr p _ es b => srcOk mt (tcP p ++ tcSs b) es && noP mt p && okSs mt b
  | .brk => true
  | .cnt => true
  | .pass => true
def okSs (mt : List Nat) : Sms → Bool
  | .nil => true
  | .cons s r => okS mt s && okSs mt r
end
def okD (d : Def) : Bool := okSs (mtSs d.body) d.body && (mtSs d.body).all fun i => decide (d.arity ≤ i)
def retV : Flow × Nv → Rv D
  | (.nx, _) => .ok .non
  | (.rt d, _) => .ok d
  | _ => .bad
def callV (defs : List (Str × Def)) (glob : Str → Option D) : Nat → Str → List D → Rv D
  | 0, _, _ => .bad
  | n + 1, f, ds => match defs.lookup f with
    | some d => (guardV (okD d && ds.length == d.arity)).bind fun _ => (vSs ⟨glob, callV defs glob n⟩ d.body (startD d.slots ds)).bind retV
    | none => .bad
end Mn
/-! Mn by value: what is read by value is what the store does. -/
namespace Mn
open PySem L2
mutual
def CR (S : Store) (X : Nat → Prop) : D → D → Prop
  | .lst vs, d => ∃ n ds, d = .loc n ∧ ¬ X n ∧ S[n]? = some (.lst ds) ∧ CRs S X vs ds
  | .tup vs, d => ∃ ds, d = .tup ds ∧ CRs S X vs ds
  | .non, d => d = .non
  | .bl b, d => d = .bl b
  | .int i, d => d = .int i
  | .str x, d => d = .str x
  | .loc _, _ => False
  | .dct _ _, _ => False
def CRs (S : Store) (X : Nat → Prop) : List D → List D → Prop
  | [], ds => ds = []
  | v :: vs, ds => ∃ d r, ds = d :: r ∧ CR S X v d ∧ CRs S X vs r
end
def CB (S : Store) (X : Nat → Prop) (v d : D) : Prop := match v with
  | .lst vs => ∃ n ds, d = .loc n ∧ S[n]? = some (.lst ds) ∧ CRs S X vs ds
  | v => CR S X v d
def CBs (S : Store) (X : Nat → Prop) : List D → List D → Prop
  | [], ds => ds = []
  | v :: vs, ds => ∃ d r, ds = d :: r ∧ CB S X v d ∧ CBs S X vs r
section
variable {S S' : Store} {X X' : Nat → Prop} {v d e : D} {vs ds : List D}
mutual
theorem CR.go (k : ∀ n ds, ¬ X n → S[n]? = some (.lst ds) → S'[n]? = some (.lst ds)) (x : ∀ n, n < S.length → X' n → X n) : ∀ {v d : D}, CR S X v d → CR S' X' v d
  | .lst vs, d, h => by
    unfold CR at h ⊢
    obtain ⟨n, ds, e1, e2, e3, e4⟩ := h
    exact ⟨n, ds, e1, fun z => e2 (x n (List.getElem?_eq_some_iff.mp e3).1 z), k n ds e2 e3, CRs.go k x e4⟩
  | .tup vs, d, h => by
    unfold CR at h ⊢
    obtain ⟨ds, e1, e2⟩ := h
    exact ⟨ds, e1, CRs.go k x e2⟩
  | .non, d, h => by unfold CR at h ⊢; exact h
  | .bl _, d, h => by unfold CR at h ⊢; exact h
  | .int _, d, h => by unfold CR at h ⊢; exact h
  | .str _, d, h => by unfold CR at h ⊢; exact h
  | .loc _, d, h => by unfold CR at h; exact h.elim
  | .dct _ _, d, h => by unfold CR at h; exact h.elim
theorem CRs.go (k : ∀ n ds, ¬ X n → S[n]? = some (.lst ds) → S'[n]? = some (.lst ds)) (x : ∀ n, n < S.length → X' n → X n) : ∀ {vs ds : List D}, CRs S X vs ds → CRs S' X' vs ds
  | [], ds, h => by unfold CRs at h ⊢; exact h
  | v :: vs, ds, h => by
    unfold CRs at h ⊢
    obtain ⟨d, r, e1, e2, e3⟩ := h
    exact ⟨d, r, e1, CR.go k x e2, CRs.go k x e3⟩
end
theorem CR.b (h : CR S X v d) : CB S X v d := by
  cases v with
  | lst vs => unfold CR at h; obtain ⟨n, ds, e1, e2, e3, e4⟩ := h; exact ⟨n, ds, e1, e3, e4⟩
  | _ => exact h
theorem CR.kp (k : Kp S S') (h : CR S X v d) : CR S' X v d := h.go (fun n ds _ q => k.keep _ _ q) fun _ _ z => z
theorem CRs.kp (k : Kp S S') (h : CRs S X vs ds) : CRs S' X vs ds := h.go (fun n ds _ q => k.keep _ _ q) fun _ _ z => z
theorem CB.kp (k : Kp S S') (h : CB S X v d) : CB S' X v d := by
  cases v with
  | lst vs => obtain ⟨n, ds, e1, e2, e3⟩ := h; exact ⟨n, ds, e1, k.keep _ _ e2, e3.kp k⟩
  | _ => exact CR.kp k (show CR S X _ d from h)
theorem CBs.kp (k : Kp S S') : ∀ {vs ds : List D}, CBs S X vs ds → CBs S' X vs ds
  | [], ds, h => h
  | v :: vs, ds, h => by obtain ⟨d, r, e1, e2, e3⟩ := h; exact ⟨d, r, e1, e2.kp k, e3.kp k⟩
theorem CRs.b : ∀ {vs ds : List D}, CRs S X vs ds → CBs S X vs ds
  | [], ds, h => by unfold CRs at h; exact h
  | v :: vs, ds, h => by unfold CRs at h; obtain ⟨d, r, e1, e2, e3⟩ := h; exact ⟨d, r, e1, e2.b, e3.b⟩
theorem cr_int {i : Int} : CR S X (.int i) d ↔ d = .int i := by unfold CR; exact Iff.rfl
theorem cr_str {i : Str} : CR S X (.str i) d ↔ d = .str i := by unfold CR; exact Iff.rfl
theorem cr_bl {i : Bool} : CR S X (.bl i) d ↔ d = .bl i := by unfold CR; exact Iff.rfl
theorem cr_non : CR S X .non d ↔ d = .non := by unfold CR; exact Iff.rfl
theorem cr_tup : CR S X (.tup vs) d ↔ ∃ ds, d = .tup ds ∧ CRs S X vs ds := by rw [CR]
theorem cr_lst : CR S X (.lst vs) d ↔ ∃ n ds, d = .loc n ∧ ¬ X n ∧ S[n]? = some (.lst ds) ∧ CRs S X vs ds := by rw [CR]
theorem cr_loc {n : Nat} : ¬ CR S X (.loc n) d := by unfold CR; exact id
theorem cr_dct {n m : List D} : ¬ CR S X (.dct n m) d := by unfold CR; exact id
theorem cb_int {i : Int} : CB S X (.int i) d ↔ d = .int i := cr_int (S := S) (X := X)
theorem cb_str {i : Str} : CB S X (.str i) d ↔ d = .str i := cr_str (S := S) (X := X)
theorem cb_bl {i : Bool} : CB S X (.bl i) d ↔ d = .bl i := cr_bl (S := S) (X := X)
theorem cb_non : CB S X .non d ↔ d = .non := cr_non (S := S) (X := X)
theorem cb_tup : CB S X (.tup vs) d ↔ ∃ ds, d = .tup ds ∧ CRs S X vs ds := cr_tup (S := S) (X := X)
theorem cb_lst : CB S X (.lst vs) d ↔ ∃ n ds, d = .loc n ∧ S[n]? = some (.lst ds) ∧ CRs S X vs ds := Iff.rfl
theorem cb_loc {n : Nat} : ¬ CB S X (.loc n) d := cr_loc (S := S) (X := X) (n := n) (d := d)
theorem cb_dct {n m : List D} : ¬ CB S X (.dct n m) d := cr_dct (S := S) (X := X) (n := n) (m := m) (d := d)
theorem CRs.nil : CRs S X [] [] := by unfold CRs; rfl
theorem CRs.cons (a : CR S X v d) (b : CRs S X vs ds) : CRs S X (v :: vs) (d :: ds) := by unfold CRs; exact ⟨d, ds, rfl, a, b⟩
theorem CRs.nilE (h : CRs S X [] ds) : ds = [] := by unfold CRs at h; exact h
theorem CRs.consE (h : CRs S X (v :: vs) ds) : ∃ d r, ds = d :: r ∧ CR S X v d ∧ CRs S X vs r := by unfold CRs at h; exact h
theorem crs_iff : ∀ {vs ds : List D}, CRs S X vs ds ↔ vs.length = ds.length ∧ ∀ (i : Nat) v d, vs[i]? = some v → ds[i]? = some d → CR S X v d
  | [], ds => by
    unfold CRs
    constructor
    · rintro rfl
      exact ⟨rfl, fun i d v h => by simp at h⟩
    · rintro ⟨h, _⟩
      exact List.eq_nil_of_length_eq_zero h.symm
  | d :: vs, ds => by
    unfold CRs
    constructor
    · rintro ⟨v, r, rfl, h1, h2⟩
      obtain ⟨l, h3⟩ := crs_iff.mp h2
      refine ⟨by simp [l], fun i d' v' e1 e2 => ?_⟩
      cases i with
      | zero =>
        simp at e1 e2
        subst e1; subst e2
        exact h1
      | succ i => exact h3 i d' v' (by simpa using e1) (by simpa using e2)
    · rintro ⟨l, h⟩
      cases ds with
      | nil => simp at l
      | cons v r =>
        refine ⟨v, r, rfl, h 0 d v rfl rfl, crs_iff.mpr ⟨by simpa using l, fun i d' v' e1 e2 => h (i + 1) d' v' (by simpa using e1) (by simpa using e2)⟩⟩
theorem CRs.length (h : CRs S X vs ds) : vs.length = ds.length := (crs_iff.mp h).1
theorem CRs.at (h : CRs S X vs ds) {i : Nat} (e : vs[i]? = some v) : ∃ d, ds[i]? = some d ∧ CR S X v d := by
  obtain ⟨l, q⟩ := crs_iff.mp h
  obtain ⟨hl, _⟩ := List.getElem?_eq_some_iff.mp e
  have hv : i < ds.length := by omega
  exact ⟨ds[i], List.getElem?_eq_getElem hv, q i v _ e (List.getElem?_eq_getElem hv)⟩
theorem CRs.empty (h : CRs S X vs ds) : vs.isEmpty = ds.isEmpty := by
  have := h.length
  cases vs <;> cases ds <;> first | rfl | (simp at this)
theorem CRs.append {us es : List D} (h1 : CRs S X vs ds) (h2 : CRs S X us es) : CRs S X (vs ++ us) (ds ++ es) := by
  induction vs generalizing ds with
  | nil => cases h1.nilE; exact h2
  | cons d vs ih =>
    obtain ⟨v, r, rfl, a, b⟩ := h1.consE
    exact .cons a (ih b)
theorem CRs.take (n : Nat) (h : CRs S X vs ds) : CRs S X (vs.take n) (ds.take n) := by
  obtain ⟨l, q⟩ := crs_iff.mp h
  refine crs_iff.mpr ⟨by simp [l], fun i d v e1 e2 => ?_⟩
  rw [List.getElem?_take] at e1 e2
  split at e1
  · rename_i hi
    rw [if_pos hi] at e2
    exact q i d v e1 e2
  · cases e1
theorem CRs.drop (n : Nat) (h : CRs S X vs ds) : CRs S X (vs.drop n) (ds.drop n) := by
  obtain ⟨l, q⟩ := crs_iff.mp h
  refine crs_iff.mpr ⟨by simp [l], fun i d v e1 e2 => ?_⟩
  rw [List.getElem?_drop] at e1 e2
  exact q _ d v e1 e2
theorem CRs.cut (h : CRs S X vs ds) (lo hi : Option Int) : CRs S X (cutD vs lo hi) (cutD ds lo hi) := by
  unfold cutD
  rw [h.length]
  exact (h.drop _).take _
theorem CRs.set (n : Nat) (h : CRs S X vs ds) (hd : CR S X v d) : CRs S X (vs.set n v) (ds.set n d) := by
  obtain ⟨l, q⟩ := crs_iff.mp h
  refine crs_iff.mpr ⟨by simp [l], fun i d' v' e1 e2 => ?_⟩
  rw [List.getElem?_set] at e1 e2
  by_cases hi : n = i
  · rw [if_pos hi] at e1 e2
    split at e1
    · split at e2
      · cases e1; cases e2; exact hd
      · cases e2
    · cases e1
  · rw [if_neg hi] at e1 e2
    exact q i d' v' e1 e2
theorem CRs.reverse (h : CRs S X vs ds) : CRs S X vs.reverse ds.reverse := by
  induction vs generalizing ds with
  | nil => cases h.nilE; exact .nil
  | cons d vs ih =>
    obtain ⟨v, r, rfl, a, b⟩ := h.consE
    rw [List.reverse_cons, List.reverse_cons]
    exact (ih b).append (.cons a .nil)
theorem CRs.eraseIdx (n : Nat) (h : CRs S X vs ds) : CRs S X (vs.eraseIdx n) (ds.eraseIdx n) := by
  rw [List.eraseIdx_eq_take_drop_succ, List.eraseIdx_eq_take_drop_succ]
  exact (h.take n).append (h.drop (n + 1))
theorem CRs.dropLast (h : CRs S X vs ds) : CRs S X vs.dropLast ds.dropLast := by
  rw [List.dropLast_eq_take, List.dropLast_eq_take, h.length]
  exact h.take _
theorem CRs.rep (h : CRs S X vs ds) : ∀ n, CRs S X (Mn.rep vs n) (Mn.rep ds n)
  | 0 => .nil
  | n + 1 => by
    unfold Mn.rep
    rw [List.replicate_succ, List.replicate_succ, List.flatten_cons, List.flatten_cons]
    exact h.append (CRs.rep h n)
mutual
theorem cr_plain : ∀ {v d : D}, plain v = true → (CR S X v d ↔ d = v)
  | .lst vs, d, h => by simp [plain] at h
  | .tup vs, d, h => by
    rw [cr_tup]
    constructor
    · rintro ⟨ds, rfl, q⟩
      rw [(crs_plain (by simpa [plain] using h)).mp q]
    · rintro rfl
      exact ⟨vs, rfl, (crs_plain (by simpa [plain] using h)).mpr rfl⟩
  | .non, d, h => cr_non
  | .bl _, d, h => cr_bl
  | .int _, d, h => cr_int
  | .str _, d, h => cr_str
  | .loc _, d, h => by simp [plain] at h
  | .dct _ _, d, h => by simp [plain] at h
theorem crs_plain : ∀ {vs ds : List D}, plains vs = true → (CRs S X vs ds ↔ ds = vs)
  | [], ds, h => by unfold CRs; exact Iff.rfl
  | v :: vs, ds, h => by
    have hh : plain v = true ∧ plains vs = true := by simpa [plains] using h
    constructor
    · intro q
      obtain ⟨d, r, rfl, a, b⟩ := q.consE
      rw [(cr_plain hh.1).mp a, (crs_plain hh.2).mp b]
    · rintro rfl
      exact .cons ((cr_plain hh.1).mpr rfl) ((crs_plain hh.2).mpr rfl)
end
mutual
theorem py_plain : ∀ {v : D} {a : PyData}, py v = some a → plain v = true
  | .tup xs, a, h => by
    unfold py at h
    cases q : pyAll xs with
    | none => rw [q] at h; cases h
    | some as => rw [plain]; exact pyAll_plain q
  | .non, _, _ => rfl
  | .bl _, _, _ => rfl
  | .int _, _, _ => rfl
  | .str _, _, _ => rfl
  | .loc _, _, h => by unfold py at h; cases h
  | .lst _, _, h => by unfold py at h; cases h
  | .dct _ _, _, h => by unfold py at h; cases h
theorem pyAll_plain : ∀ {vs : List D} {as : List PyData}, pyAll vs = some as → plains vs = true
  | [], _, _ => rfl
  | v :: vs, as, h => by
    unfold pyAll at h
    cases q : py v with
    | none => rw [q] at h; simp at h
    | some a =>
      cases q2 : pyAll vs with
      | none => rw [q, q2] at h; simp at h
      | some as => rw [plains, py_plain q, pyAll_plain q2]; rfl
end
theorem ints_plain : ∀ {vs : List D} {is : List Int}, intsD vs = some is → plains vs = true
  | [], _, _ => rfl
  | v :: vs, is, h => by
    cases v <;> simp [intsD] at h
    obtain ⟨js, h, _⟩ := h
    rw [plains, ints_plain h]; rfl
theorem strs_plain : ∀ {vs : List D} {is : List Str}, strsD vs = some is → plains vs = true
  | [], _, _ => rfl
  | v :: vs, is, h => by
    cases v <;> simp [strsD] at h
    obtain ⟨js, h, _⟩ := h
    rw [plains, strs_plain h]; rfl
theorem bools_plain : ∀ {vs : List D} {is : List Bool}, boolsD vs = some is → plains vs = true
  | [], _, _ => rfl
  | v :: vs, is, h => by
    cases v <;> simp [boolsD] at h
    obtain ⟨js, h, _⟩ := h
    rw [plains, bools_plain h]; rfl
theorem pyL_b {a : PyData} (h : CB S X v d) (e : pyL v = some a) : py1 S d = some a := by
  cases v with
  | lst vs =>
    obtain ⟨n, ds, rfl, e2, e3⟩ := h
    have e : (pyAll vs).map PyData.list = some a := e
    cases q : pyAll vs with
    | none => rw [q] at e; cases e
    | some as =>
      have := (crs_plain (pyAll_plain q)).mp e3
      subst this
      show (match S[n]? with | some (.lst xs) => (pyAll xs).map PyData.list | some (.ro xs) => (pyAll xs).map PyData.list | none => none) = _
      rw [e2]
      exact e
  | loc n => exact (cb_loc h).elim
  | dct n m => exact (cb_dct h).elim
  | tup vs =>
    have e : py (.tup vs) = some a := e
    have := (cr_plain (py_plain e)).mp (show CR S X (.tup vs) d from h)
    subst this
    exact e
  | non => cases cb_non.mp h; exact e
  | bl b => cases cb_bl.mp h; exact e
  | int b => cases cb_int.mp h; exact e
  | str b => cases cb_str.mp h; exact e
theorem strD_b {b : Bool} (h : CB S X v d) (e : isStrD v = b) : isStrD d = b := by
  cases v with
  | lst vs => obtain ⟨n, ds, rfl, e2, e3⟩ := h; exact e
  | loc n => exact (cb_loc h).elim
  | dct n m => exact (cb_dct h).elim
  | tup vs => obtain ⟨ds, rfl, _⟩ := cb_tup.mp h; exact e
  | non => cases cb_non.mp h; exact e
  | bl b => cases cb_bl.mp h; exact e
  | int b => cases cb_int.mp h; exact e
  | str b => cases cb_str.mp h; exact e
end
/-! ### a run by value is what the store's run does -/
def Sim {α β : Type} (S : Store) (R : Store → α → β → Prop) (r : Rv α) (m : M β) : Prop := match r with
  | .ok a => wpx m (fun b S' => Kp S S' ∧ R S' a b) E0x S
  | .exc e => wpx m (fun _ _ => False) (fun e' S' => Kp S S' ∧ e' = e) S
  | .bad => True
section
variable {α β γ δ : Type} {S S' : Store} {R R1 R2 : Store → α → β → Prop} {r : Rv α} {m : M β}
theorem sim_bad : Sim S R .bad m := trivial
theorem sim_ret {a : α} {b : β} (h : R S a b) : Sim S R (.ok a) (M.ret b) := (wpx_ret (Q := fun b S' => Kp S S' ∧ R S' a b) (E := E0x)).mpr ⟨.refl S, h⟩
theorem sim_bind {Q : Store → γ → δ → Prop} {f : α → Rv γ} {g : β → M δ} (h : Sim S R r m) (k : ∀ a b S', Kp S S' → R S' a b → Sim S' Q (f a) (g b)) : Sim S Q (r.bind f) (m.bind g) := by
  cases r with
  | bad => trivial
  | exc e =>
    show wpx _ _ _ _
    rw [wpx_bind]
    exact wpx_mono h (fun _ _ z => z.elim) fun _ _ z => z
  | ok a =>
    have h : wpx m (fun b S' => Kp S S' ∧ R S' a b) E0x S := h
    show Sim S Q (f a) (m.bind g)
    cases e : f a with
    | bad => trivial
    | exc x =>
      show wpx _ _ _ _
      rw [wpx_bind]
      refine wpx_of_wp h fun b S1 ⟨k1, h1⟩ => ?_
      have := k a b S1 k1 h1
      rw [e] at this
      exact wpx_mono this (fun _ _ z => z) fun _ _ ⟨z1, z2⟩ => ⟨k1.trans z1, z2⟩
    | ok c =>
      show wpx _ _ _ _
      rw [wpx_bind]
      refine wpx_of_wp h fun b S1 ⟨k1, h1⟩ => ?_
      have := k a b S1 k1 h1
      rw [e] at this
      exact wpx_mono this (fun _ _ ⟨z1, z2⟩ => ⟨k1.trans z1, z2⟩) fun _ _ z => z
theorem sim_mono (h : Sim S R1 r m) (k : ∀ S' a b, Kp S S' → R1 S' a b → R2 S' a b) : Sim S R2 r m := by
  cases r with
  | bad => trivial
  | exc e => exact h
  | ok a => exact wpx_mono h (fun b S' ⟨k1, h1⟩ => ⟨k1, k _ _ _ k1 h1⟩) fun _ _ z => z
theorem sim_guard {c : Bool} : Sim S (fun _ (_ : Unit) (_ : Unit) => c = true) (guardV c) (guard c) := by
  cases c
  · trivial
  · exact sim_ret rfl
theorem sim_opt {o : Option α} {o' : Option β} (h : ∀ a, o = some a → ∃ b, o' = some b ∧ R S a b) : Sim S R (optV o) (opt o') := by
  cases o with
  | none => trivial
  | some a => obtain ⟨b, rfl, q⟩ := h a rfl; exact sim_ret q
/-- a store's own step ahead -/
theorem sim_pre {Q : Store → γ → δ → Prop} {f : Rv γ} {g : β → M δ} {b : β} (h : ∀ (P : β → Store → Prop) E, wpx m P E S ↔ P b S) (k : Sim S Q f (g b)) : Sim S Q f (m.bind g) := by
  cases f with
  | bad => trivial
  | exc e => show wpx _ _ _ _; rw [wpx_bind, h]; exact k
  | ok c => show wpx _ _ _ _; rw [wpx_bind, h]; exact k
end
section
variable {S S' : Store} {X : Nat → Prop} {v d x y e : D} {vs ds : List D}
theorem p_rdL {n : Nat} {ds : List D} (h : S[n]? = some (.lst ds)) : ∀ (P : List D → Store → Prop) E, wpx (rdL n) P E S ↔ P ds S := fun P E => by unfold rdL wpx; simp only [h]
theorem p_owL {n : Nat} {ds : List D} (h : S[n]? = some (.lst ds)) : ∀ (P : List D → Store → Prop) E, wpx (owL n) P E S ↔ P ds S := fun P E => by unfold owL wpx; simp only [h]
/-- what an expression gives: new: its list is new -/
def NewL (X : Nat → Prop) (S S' : Store) (v : D) (n : Nat) : Prop := S.length ≤ n ∧ ∀ vs, v = .lst vs → ∃ ds, S'[n]? = some (.lst ds) ∧ CRs S' (fun m => X m ∨ m = n) vs ds
def RE (X : Nat → Prop) (S : Store) (nw : Bool) : Store → D → D → Prop := fun S' v d => CR S' X v d ∧ (nw = true → ∀ n, d = .loc n → NewL X S S' v n)
theorem RE.weak {nw : Bool} (h : RE X S true S' v d) : RE X S nw S' v d := ⟨h.1, fun _ => h.2 rfl⟩
theorem sim_new {b : Bool} (hX : ∀ n, X n → n < S.length) (h : CRs S X vs ds) : Sim S (RE X S b) (.ok (.lst vs)) (alloc (.lst ds)) := by
  show wpx (alloc (.lst ds)) (fun e S' => Kp S S' ∧ RE X S b S' (.lst vs) e) E0x S
  rw [x_alloc]
  refine ⟨(Kp.refl S).push _, cr_lst.mpr ⟨_, _, rfl, fun z => Nat.lt_irrefl _ (hX _ z), ap_self, h.kp ((Kp.refl S).push _)⟩, fun _ n e => ?_⟩
  cases e
  refine ⟨Nat.le_refl _, fun us e => ?_⟩
  cases e
  exact ⟨ds, ap_self, h.go (fun n es _ q => ap_old q) fun n hn z => z.resolve_right (by omega)⟩
theorem sim_val {b : Bool} (h : CR S X v d) (hb : ∀ n, d ≠ .loc n) : Sim S (RE X S b) (.ok v) (M.ret d) := sim_ret ⟨h, fun _ n e => (hb n e).elim⟩
theorem eq_ok (h1 : CB S X x d) (h2 : CB S X y e) : Sim S (fun _ a b => a = b) (eqV x y) (eqM d e) := by
  unfold eqV
  split
  · rename_i a b ea eb
    split
    · rename_i hf
      have q1 := pyL_b h1 ea
      have q2 := pyL_b h2 eb
      show wpx _ _ _ _
      unfold wpx eqM
      have hf' : fitEq d e a b = true := by
        unfold fitEq at hf ⊢
        rw [strD_b h1 rfl, strD_b h2 rfl]; exact hf
      rw [q1, q2]
      simp only [hf', if_true]
      exact ⟨.refl _, trivial⟩
    · trivial
  · trivial
theorem inAll_b {b : Bool} (h1 : CB S X x d) (h2 : CRs S X vs ds) (e : inAll x vs = some b) : inAll d ds = some b := by
  unfold inAll at e
  split at e
  · rename_i a as ea eb
    have := (crs_plain (pyAll_plain eb)).mp h2
    subst this
    have h1' : CR S X x d := by
      cases x with
      | lst _ => unfold py at ea; cases ea
      | _ => exact h1
    have := (cr_plain (py_plain ea)).mp h1'
    subst this
    unfold inAll
    rw [ea, eb]
    exact e
  · cases e
theorem in_ok (h1 : CB S X x d) (h2 : CB S X y e) : Sim S (fun _ a b => a = b) (inV x y) (inM d e) := by
  cases y with
  | str z =>
    cases cb_str.mp h2
    cases x with
    | str w => cases cb_str.mp h1; exact sim_ret rfl
    | _ => trivial
  | tup ys =>
    obtain ⟨ds, rfl, q⟩ := cb_tup.mp h2
    exact sim_opt fun a ea => ⟨a, inAll_b h1 q ea, rfl⟩
  | lst ys =>
    obtain ⟨n, ds, rfl, e1, q⟩ := cb_lst.mp h2
    exact sim_pre (p_rdL e1) (sim_opt fun a ea => ⟨a, inAll_b h1 q ea, rfl⟩)
  | _ => trivial
theorem ltDs_b {n : Nat} : ∀ {xs ys ds es : List D} {b : Bool}, CRs S X xs ds → CRs S X ys es → ltDs n xs ys = some b → ltDs n ds es = some b
  | [], [], ds, es, b, h1, h2, e => by cases h1.nilE; cases h2.nilE; exact e
  | [], y :: ys, ds, es, b, h1, h2, e => by
    cases h1.nilE
    obtain ⟨_, _, rfl, _, _⟩ := h2.consE
    rw [ltDs] at e ⊢; exact e
  | x :: xs, [], ds, es, b, h1, h2, e => by
    cases h2.nilE
    obtain ⟨_, _, rfl, _, _⟩ := h1.consE
    rw [ltDs] at e ⊢; exact e
  | x :: xs, y :: ys, ds, es, b, h1, h2, e => by
    obtain ⟨d, ds, rfl, a1, a2⟩ := h1.consE
    obtain ⟨f, es, rfl, b1, b2⟩ := h2.consE
    rw [ltDs] at e ⊢
    cases ea : py x with
    | none => rw [ea] at e; simp at e
    | some a =>
      cases eb : py y with
      | none => rw [ea, eb] at e; simp at e
      | some c =>
        have := (cr_plain (py_plain ea)).mp a1
        subst this
        have := (cr_plain (py_plain eb)).mp b1
        subst this
        rw [ea, eb] at e ⊢
        simp only at e ⊢
        split
        · rename_i hf
          rw [if_pos hf] at e
          split
          · rename_i hq
            rw [if_pos hq] at e
            exact ltDs_b a2 b2 e
          · rename_i hq
            rw [if_neg hq] at e
            exact e
        · rename_i hf
          rw [if_neg hf] at e
          cases e
theorem ltD_b {n : Nat} {b : Bool} (h1 : CB S X x d) (h2 : CB S X y e) (q : ltD n x y = some b) : ltD n d e = some b := by
  unfold ltD at q
  split at q
  · cases cb_int.mp h1; cases cb_int.mp h2; cases q; rw [ltD]
  · cases cb_str.mp h1; cases cb_str.mp h2; cases q; rw [ltD]
  · obtain ⟨ds, rfl, g1⟩ := cb_tup.mp h1
    obtain ⟨es, rfl, g2⟩ := cb_tup.mp h2
    rw [ltD]
    exact ltDs_b g1 g2 q
  · cases q
theorem cmp_ok {o : COp} (h1 : CB S X x d) (h2 : CB S X y e) : Sim S (fun _ a b => a = b) (cmpV o x y) (cmpop o d e) := by
  cases o with
  | eq => exact eq_ok h1 h2
  | ne => exact sim_bind (eq_ok h1 h2) fun a b S' _ q => by cases q; exact sim_ret rfl
  | lt => exact sim_opt fun b q => ⟨b, ltD_b h1 h2 q, rfl⟩
  | inn => exact in_ok h1 h2
  | nin => exact sim_bind (in_ok h1 h2) fun a b S' _ q => by cases q; exact sim_ret rfl
  | isn =>
    cases y with
    | non =>
      cases cb_non.mp h2
      cases x with
      | non => cases cb_non.mp h1; exact sim_ret rfl
      | int _ => cases cb_int.mp h1; exact sim_ret rfl
      | bl _ => cases cb_bl.mp h1; exact sim_ret rfl
      | str _ => cases cb_str.mp h1; exact sim_ret rfl
      | tup _ => obtain ⟨ds, rfl, _⟩ := cb_tup.mp h1; exact sim_ret rfl
      | lst _ => obtain ⟨n, ds, rfl, _⟩ := cb_lst.mp h1; exact sim_ret rfl
      | loc _ => exact (cb_loc h1).elim
      | dct _ _ => exact (cb_dct h1).elim
    | _ => cases x <;> trivial
  | isnn =>
    cases y with
    | non =>
      cases cb_non.mp h2
      cases x with
      | non => cases cb_non.mp h1; exact sim_ret rfl
      | int _ => cases cb_int.mp h1; exact sim_ret rfl
      | bl _ => cases cb_bl.mp h1; exact sim_ret rfl
      | str _ => cases cb_str.mp h1; exact sim_ret rfl
      | tup _ => obtain ⟨ds, rfl, _⟩ := cb_tup.mp h1; exact sim_ret rfl
      | lst _ => obtain ⟨n, ds, rfl, _⟩ := cb_lst.mp h1; exact sim_ret rfl
      | loc _ => exact (cb_loc h1).elim
      | dct _ _ => exact (cb_dct h1).elim
    | _ => cases x <;> trivial
  | gt => cases x <;> cases y <;> first | trivial | (cases cb_int.mp h1; cases cb_int.mp h2; exact sim_ret rfl)
  | le => cases x <;> cases y <;> first | trivial | (cases cb_int.mp h1; cases cb_int.mp h2; exact sim_ret rfl)
  | ge => cases x <;> cases y <;> first | trivial | (cases cb_int.mp h1; cases cb_int.mp h2; exact sim_ret rfl)
theorem no_loc_int {i : Int} : ∀ n, D.int i ≠ .loc n := fun _ h => nomatch h
theorem no_loc_str {i : Str} : ∀ n, D.str i ≠ .loc n := fun _ h => nomatch h
theorem no_loc_bl {i : Bool} : ∀ n, D.bl i ≠ .loc n := fun _ h => nomatch h
theorem no_loc_tup {i : List D} : ∀ n, D.tup i ≠ .loc n := fun _ h => nomatch h
theorem sim_int {b : Bool} {i : Int} : Sim S (RE X S b) (.ok (.int i)) (M.ret (.int i)) := sim_val (cr_int.mpr rfl) no_loc_int
theorem sim_str {b : Bool} {i : Str} : Sim S (RE X S b) (.ok (.str i)) (M.ret (.str i)) := sim_val (cr_str.mpr rfl) no_loc_str
theorem sim_bl {b : Bool} {i : Bool} : Sim S (RE X S b) (.ok (.bl i)) (M.ret (.bl i)) := sim_val (cr_bl.mpr rfl) no_loc_bl
theorem sim_tup {b : Bool} (h : CRs S X vs ds) : Sim S (RE X S b) (.ok (.tup vs)) (M.ret (.tup ds)) := sim_val (cr_tup.mpr ⟨_, rfl, h⟩) no_loc_tup
/-- after a guard -/
theorem sim_g {α β : Type} {Q : Store → α → β → Prop} {c : Bool} {f : Unit → Rv α} {g : Unit → M β} (k : c = true → Sim S Q (f ()) (g ())) : Sim S Q ((guardV c).bind f) ((guard c).bind g) := by
  cases c
  · trivial
  · exact sim_pre (b := ()) (fun P E => by rw [wpx_guard]; exact ⟨fun h => h.2, fun h => ⟨rfl, h⟩⟩) (k rfl)
theorem sim_g' {α β : Type} {Q : Store → α → β → Prop} {c c' : Bool} {f : Unit → Rv α} {g : Unit → M β} (e : c = c') (k : c = true → Sim S Q (f ()) (g ())) : Sim S Q ((guardV c).bind f) ((guard c').bind g) := by
  subst e; exact sim_g k
theorem sim_o {α β γ : Type} {Q : Store → α → β → Prop} {o o' : Option γ} {f : γ → Rv α} {g : γ → M β} (e : ∀ a, o = some a → o' = some a) (k : ∀ a, o = some a → Sim S Q (f a) (g a)) : Sim S Q ((optV o).bind f) ((opt o').bind g) := by
  cases o with
  | none => trivial
  | some a => rw [e a rfl]; exact sim_pre (b := a) (fun P E => wpx_opt_some) (k a rfl)
theorem bin_ok {o : BOp} {b : Bool} (hX : ∀ n, X n → n < S.length) (h1 : CB S X x d) (h2 : CB S X y e) : Sim S (RE X S b) (binV o x y) (binop o d e) := by
  cases o with
  | add =>
    cases x <;> cases y <;> try trivial
    · cases cb_int.mp h1; cases cb_int.mp h2; exact sim_int
    · cases cb_str.mp h1; cases cb_str.mp h2; exact sim_g fun _ => sim_str
    · obtain ⟨ds, rfl, q1⟩ := cb_tup.mp h1
      obtain ⟨es, rfl, q2⟩ := cb_tup.mp h2
      have q := q1.append q2
      exact sim_g' (by rw [q.length]) fun _ => sim_tup q
    · obtain ⟨n, ds, rfl, e1, q1⟩ := cb_lst.mp h1
      obtain ⟨m, es, rfl, e2, q2⟩ := cb_lst.mp h2
      have q := q1.append q2
      exact sim_pre (p_owL e1) (sim_pre (p_owL e2) (sim_g' (by rw [q.length]) fun _ => sim_new hX q))
  | sub => cases x <;> cases y <;> first | trivial | (cases cb_int.mp h1; cases cb_int.mp h2; exact sim_int)
  | mul =>
    cases x <;> cases y <;> try trivial
    · cases cb_int.mp h1; cases cb_int.mp h2; exact sim_g fun _ => sim_int
    · cases cb_str.mp h1; cases cb_int.mp h2; exact sim_g fun _ => sim_str
    · obtain ⟨ds, rfl, q1⟩ := cb_tup.mp h1
      cases cb_int.mp h2
      exact sim_g' (by rw [q1.length, q1.empty]) fun _ => sim_tup (q1.rep _)
    · obtain ⟨n, ds, rfl, e1, q1⟩ := cb_lst.mp h1
      cases cb_int.mp h2
      exact sim_pre (p_owL e1) (sim_g' (by rw [q1.length]) fun _ => sim_new hX (q1.rep _))
  | mod => cases x <;> cases y <;> first | trivial | (cases cb_int.mp h1; cases cb_int.mp h2; exact sim_g fun _ => sim_int)
  | fdiv => cases x <;> cases y <;> first | trivial | (cases cb_int.mp h1; cases cb_int.mp h2; exact sim_g fun _ => sim_int)
  | pow => cases x <;> cases y <;> first | trivial | (cases cb_int.mp h1; cases cb_int.mp h2; exact sim_g fun _ => sim_int)
theorem aug_ok {o : BOp} {b : Bool} (h1 : CB S X x d) (h2 : CB S X y e) : Sim S (RE X S b) (augV o x y) (augop o d e) := by
  cases o with
  | add =>
    cases x <;> cases y <;> try trivial
    · cases cb_int.mp h1; cases cb_int.mp h2; exact sim_int
    · cases cb_str.mp h1; cases cb_str.mp h2; exact sim_g fun _ => sim_str
  | sub => cases x <;> cases y <;> first | trivial | (cases cb_int.mp h1; cases cb_int.mp h2; exact sim_int)
  | _ => cases x <;> cases y <;> trivial
theorem tru_ok (h : CB S X x d) : Sim S (fun _ a b => a = b) (truV x) (truth d) := by
  cases x with
  | non => cases cb_non.mp h; exact sim_ret rfl
  | bl b => cases cb_bl.mp h; exact sim_ret rfl
  | int i => cases cb_int.mp h; exact sim_ret rfl
  | str s => cases cb_str.mp h; exact sim_g fun _ => sim_ret rfl
  | tup xs => obtain ⟨ds, rfl, q⟩ := cb_tup.mp h; exact sim_ret (by rw [q.empty])
  | lst xs => obtain ⟨n, ds, rfl, e1, q⟩ := cb_lst.mp h; exact sim_pre (p_rdL e1) (sim_ret (by rw [q.empty]))
  | _ => trivial
theorem asB_ok (h : CB S X x d) : Sim S (fun _ a b => a = b) (asBV x) (asB d) := by
  cases x with
  | bl b => cases cb_bl.mp h; exact sim_ret rfl
  | _ => trivial
theorem asI_ok (h : CB S X x d) : Sim S (fun _ a b => a = b) (asIV x) (asI d) := by
  cases x with
  | int b => cases cb_int.mp h; exact sim_ret rfl
  | _ => trivial
theorem atI_b {i : Int} (h : CRs S X vs ds) (e : atI vs i = some v) : ∃ d, atI ds i = some d ∧ CR S X v d := by
  unfold atI at e ⊢
  rw [← h.length]
  cases q : ixN vs.length i with
  | none => rw [q] at e; cases e
  | some k => rw [q] at e; exact h.at e
theorem idx_ok (h1 : CB S X x d) (h2 : CB S X y e) : Sim S (RE X S false) (idxV x y) (index d e) := by
  cases x <;> cases y <;> try trivial
  · cases cb_str.mp h1; cases cb_int.mp h2
    refine sim_g fun _ => sim_opt fun a ea => ⟨a, ea, ?_, fun z => nomatch z⟩
    cases q : atI _ _ with
    | none => rw [q] at ea; cases ea
    | some c => rw [q] at ea; cases ea; exact cr_str.mpr rfl
  · obtain ⟨ds, rfl, q⟩ := cb_tup.mp h1
    cases cb_int.mp h2
    exact sim_opt fun a ea => (atI_b q ea).imp fun b hb => ⟨hb.1, hb.2, fun z => nomatch z⟩
  · obtain ⟨n, ds, rfl, e1, q⟩ := cb_lst.mp h1
    cases cb_int.mp h2
    exact sim_pre (p_rdL e1) (sim_opt fun a ea => (atI_b q ea).imp fun b hb => ⟨hb.1, hb.2, fun z => nomatch z⟩)
theorem slc_ok {lo hi : Option Int} {b : Bool} (hX : ∀ n, X n → n < S.length) (h1 : CB S X x d) : Sim S (RE X S b) (slcV x lo hi) (slice d lo hi) := by
  cases x with
  | str z => cases cb_str.mp h1; exact sim_g fun _ => sim_str
  | tup xs => obtain ⟨ds, rfl, q⟩ := cb_tup.mp h1; exact sim_tup (q.cut lo hi)
  | lst xs => obtain ⟨n, ds, rfl, e1, q⟩ := cb_lst.mp h1; exact sim_pre (p_rdL e1) (sim_new hX (q.cut lo hi))
  | _ => trivial
/-- the items of a row, and what goes on with them -/
theorem sim_seq {α β : Type} {Q : Store → α → β → Prop} {f : List D → Rv α} {g : List D → M β} (h1 : CB S X x d) (k : ∀ vs ds, CRs S X vs ds → Sim S Q (f vs) (g ds)) : Sim S Q ((seqV x).bind f) ((seqOf d).bind g) := by
  cases x with
  | tup xs => obtain ⟨ds, rfl, q⟩ := cb_tup.mp h1; exact sim_pre (b := ds) (fun P E => Iff.rfl) (k _ _ q)
  | lst xs => obtain ⟨n, ds, rfl, e1, q⟩ := cb_lst.mp h1; exact sim_pre (p_rdL e1) (k _ _ q)
  | _ => trivial
theorem repr_ok {b : Bool} (h : CB S X x d) : Sim S (RE X S b) (reprV x) (reprM d) := by
  unfold reprV
  split
  · rename_i a ea
    split
    · rename_i hc
      show wpx (reprM d) (fun e S' => Kp S S' ∧ RE X S b S' _ e) E0x S
      unfold wpx reprM
      rw [pyL_b h ea]
      simp only [hc, if_true]
      exact ⟨.refl S, cr_str.mpr rfl, fun _ n z => nomatch z⟩
    · trivial
  · trivial
theorem CBs.nilE (h : CBs S X [] ds) : ds = [] := h
theorem cbs1 (h : CBs S X [v] ds) : ∃ d, ds = [d] ∧ CB S X v d := by
  obtain ⟨d, r, rfl, a, b⟩ := h
  cases b.nilE
  exact ⟨d, rfl, a⟩
theorem cbs2 {w : D} (h : CBs S X [v, w] ds) : ∃ d e, ds = [d, e] ∧ CB S X v d ∧ CB S X w e := by
  obtain ⟨d, r, rfl, a, b⟩ := h
  obtain ⟨e, rfl, c⟩ := cbs1 b
  exact ⟨d, e, rfl, a, c⟩
theorem plains_strs : ∀ xs : List Str, plains (xs.map .str) = true
  | [] => rfl
  | x :: xs => plains_strs xs
theorem bv_int {b : Bool} (hX : ∀ n, X n → n < S.length) (hc : CBs S X vs ds) : Sim S (RE X S b) (biV .int vs) (builtin .int ds) := by
  match vs, hc with
  | [], _ => trivial
  | x :: y :: r, _ => cases x <;> trivial
  | [x], hc =>
    obtain ⟨d, rfl, h⟩ := cbs1 hc
    clear hc
    cases x with
    | int i => cases cb_int.mp h; exact sim_int
    | bl i => cases cb_bl.mp h; exact sim_int
    | _ => trivial
theorem bv_abs {b : Bool} (hX : ∀ n, X n → n < S.length) (hc : CBs S X vs ds) : Sim S (RE X S b) (biV .abs vs) (builtin .abs ds) := by
  match vs, hc with
  | [], _ => trivial
  | x :: y :: r, _ => cases x <;> trivial
  | [x], hc =>
    obtain ⟨d, rfl, h⟩ := cbs1 hc
    clear hc
    cases x with
    | int i => cases cb_int.mp h; exact sim_int
    | _ => trivial
theorem bv_max1 {b : Bool} (hX : ∀ n, X n → n < S.length) (hc : CBs S X vs ds) : Sim S (RE X S b) (biV .max1 vs) (builtin .max1 ds) := by
  match vs, hc with
  | [], _ => trivial
  | x :: y :: r, _ => cases x <;> trivial
  | [x], hc =>
    obtain ⟨d, rfl, h⟩ := cbs1 hc
    clear hc
    cases x with
    | lst xs => obtain ⟨n, ds, rfl, e1, q⟩ := cb_lst.mp h; exact sim_pre (p_rdL e1) (sim_o (fun a ea => by rw [(crs_plain (ints_plain ea)).mp q]; exact ea) fun a _ => sim_g fun _ => sim_int)
    | _ => trivial
theorem bv_sum {b : Bool} (hX : ∀ n, X n → n < S.length) (hc : CBs S X vs ds) : Sim S (RE X S b) (biV .sum vs) (builtin .sum ds) := by
  match vs, hc with
  | [], _ => trivial
  | x :: y :: r, _ => cases x <;> trivial
  | [x], hc =>
    obtain ⟨d, rfl, h⟩ := cbs1 hc
    clear hc
    cases x with
    | lst xs => obtain ⟨n, ds, rfl, e1, q⟩ := cb_lst.mp h; exact sim_pre (p_rdL e1) (sim_o (fun a ea => by rw [(crs_plain (ints_plain ea)).mp q]; exact ea) fun a _ => sim_int)
    | _ => trivial
theorem bv_all {b : Bool} (hX : ∀ n, X n → n < S.length) (hc : CBs S X vs ds) : Sim S (RE X S b) (biV .all vs) (builtin .all ds) := by
  match vs, hc with
  | [], _ => trivial
  | x :: y :: r, _ => cases x <;> trivial
  | [x], hc =>
    obtain ⟨d, rfl, h⟩ := cbs1 hc
    clear hc
    cases x with
    | lst xs => obtain ⟨n, ds, rfl, e1, q⟩ := cb_lst.mp h; exact sim_pre (p_rdL e1) (sim_o (fun a ea => by rw [(crs_plain (bools_plain ea)).mp q]; exact ea) fun a _ => sim_bl)
    | _ => trivial
theorem bv_list {b : Bool} (hX : ∀ n, X n → n < S.length) (hc : CBs S X vs ds) : Sim S (RE X S b) (biV .list vs) (builtin .list ds) := by
  match vs, hc with
  | [], _ => trivial
  | x :: y :: r, _ => cases x <;> trivial
  | [x], hc =>
    obtain ⟨d, rfl, h⟩ := cbs1 hc
    clear hc
    exact sim_seq h fun us es q => sim_new hX q
theorem bv_tuple {b : Bool} (hX : ∀ n, X n → n < S.length) (hc : CBs S X vs ds) : Sim S (RE X S b) (biV .tuple vs) (builtin .tuple ds) := by
  match vs, hc with
  | [], _ => trivial
  | x :: y :: r, _ => cases x <;> trivial
  | [x], hc =>
    obtain ⟨d, rfl, h⟩ := cbs1 hc
    clear hc
    exact sim_seq h fun us es q => sim_tup q
theorem bv_len {b : Bool} (hX : ∀ n, X n → n < S.length) (hc : CBs S X vs ds) : Sim S (RE X S b) (biV .len vs) (builtin .len ds) := by
  match vs, hc with
  | [], _ => trivial
  | x :: y :: r, _ => cases x <;> trivial
  | [x], hc =>
    obtain ⟨d, rfl, h⟩ := cbs1 hc
    clear hc
    cases x with
    | str s => cases cb_str.mp h; exact sim_g fun _ => sim_int
    | tup xs => obtain ⟨ds, rfl, q⟩ := cb_tup.mp h; show Sim S (RE X S b) (Rv.ok (D.int xs.length)) (M.ret (D.int ds.length)); rw [q.length]; exact sim_int
    | lst xs => obtain ⟨n, ds, rfl, e1, q⟩ := cb_lst.mp h; exact sim_pre (p_rdL e1) (by rw [← q.length]; exact sim_int)
    | _ => trivial
theorem bv_str {b : Bool} (hX : ∀ n, X n → n < S.length) (hc : CBs S X vs ds) : Sim S (RE X S b) (biV .str vs) (builtin .str ds) := by
  match vs, hc with
  | [], _ => trivial
  | x :: y :: r, _ => cases x <;> trivial
  | [x], hc =>
    obtain ⟨d, rfl, h⟩ := cbs1 hc
    clear hc
    cases x with
    | int i => cases cb_int.mp h; exact sim_g fun _ => sim_str
    | str i => cases cb_str.mp h; exact sim_str
    | _ => trivial
theorem bv_repr {b : Bool} (hX : ∀ n, X n → n < S.length) (hc : CBs S X vs ds) : Sim S (RE X S b) (biV .repr vs) (builtin .repr ds) := by
  match vs, hc with
  | [], _ => trivial
  | x :: y :: r, _ => cases x <;> trivial
  | [x], hc =>
    obtain ⟨d, rfl, h⟩ := cbs1 hc
    clear hc
    cases x with
    | int i => cases cb_int.mp h; exact sim_g fun _ => sim_str
    | str i => cases cb_str.mp h; exact sim_g fun _ => sim_str
    | bl i => cases cb_bl.mp h; exact sim_str
    | non => cases cb_non.mp h; exact sim_str
    | tup xs => have q := repr_ok (b := b) h; obtain ⟨ds, rfl, _⟩ := cb_tup.mp h; exact q
    | lst xs => have q := repr_ok (b := b) h; obtain ⟨n, ds, rfl, _, _⟩ := cb_lst.mp h; exact q
    | _ => trivial
theorem bv_min1 {b : Bool} (hX : ∀ n, X n → n < S.length) (hc : CBs S X vs ds) : Sim S (RE X S b) (biV .min1 vs) (builtin .min1 ds) := by
  match vs, hc with
  | [], _ => trivial
  | x :: y :: r, _ => cases x <;> trivial
  | [x], hc =>
    obtain ⟨d, rfl, h⟩ := cbs1 hc
    clear hc
    cases x with
    | lst xs => obtain ⟨n, ds, rfl, e1, q⟩ := cb_lst.mp h; exact sim_pre (p_rdL e1) (sim_o (fun a ea => by rw [(crs_plain (ints_plain ea)).mp q]; exact ea) fun a _ => sim_g fun _ => sim_int)
    | _ => trivial
theorem bv_any {b : Bool} (hX : ∀ n, X n → n < S.length) (hc : CBs S X vs ds) : Sim S (RE X S b) (biV .any vs) (builtin .any ds) := by
  match vs, hc with
  | [], _ => trivial
  | x :: y :: r, _ => cases x <;> trivial
  | [x], hc =>
    obtain ⟨d, rfl, h⟩ := cbs1 hc
    clear hc
    cases x with
    | lst xs => obtain ⟨n, ds, rfl, e1, q⟩ := cb_lst.mp h; exact sim_pre (p_rdL e1) (sim_o (fun a ea => by rw [(crs_plain (bools_plain ea)).mp q]; exact ea) fun a _ => sim_bl)
    | _ => trivial
theorem bv_isTuple {b : Bool} (hX : ∀ n, X n → n < S.length) (hc : CBs S X vs ds) : Sim S (RE X S b) (biV .isTuple vs) (builtin .isTuple ds) := by
  match vs, hc with
  | [], _ => trivial
  | x :: y :: r, _ => cases x <;> trivial
  | [x], hc =>
    obtain ⟨d, rfl, h⟩ := cbs1 hc
    clear hc
    cases x with
    | non => cases cb_non.mp h; exact sim_bl
    | bl i => cases cb_bl.mp h; exact sim_bl
    | int i => cases cb_int.mp h; exact sim_bl
    | str i => cases cb_str.mp h; exact sim_bl
    | tup xs => obtain ⟨ds, rfl, _⟩ := cb_tup.mp h; exact sim_bl
    | lst xs => obtain ⟨n, ds, rfl, _, _⟩ := cb_lst.mp h; exact sim_bl
    | loc _ => exact (cb_loc h).elim
    | dct _ _ => exact (cb_dct h).elim
theorem bv_isStr {b : Bool} (hX : ∀ n, X n → n < S.length) (hc : CBs S X vs ds) : Sim S (RE X S b) (biV .isStr vs) (builtin .isStr ds) := by
  match vs, hc with
  | [], _ => trivial
  | x :: y :: r, _ => cases x <;> trivial
  | [x], hc =>
    obtain ⟨d, rfl, h⟩ := cbs1 hc
    clear hc
    cases x with
    | non => cases cb_non.mp h; exact sim_bl
    | bl i => cases cb_bl.mp h; exact sim_bl
    | int i => cases cb_int.mp h; exact sim_bl
    | str i => cases cb_str.mp h; exact sim_bl
    | tup xs => obtain ⟨ds, rfl, _⟩ := cb_tup.mp h; exact sim_bl
    | lst xs => obtain ⟨n, ds, rfl, _, _⟩ := cb_lst.mp h; exact sim_bl
    | loc _ => exact (cb_loc h).elim
    | dct _ _ => exact (cb_dct h).elim
theorem bv_isInt {b : Bool} (hX : ∀ n, X n → n < S.length) (hc : CBs S X vs ds) : Sim S (RE X S b) (biV .isInt vs) (builtin .isInt ds) := by
  match vs, hc with
  | [], _ => trivial
  | x :: y :: r, _ => cases x <;> trivial
  | [x], hc =>
    obtain ⟨d, rfl, h⟩ := cbs1 hc
    clear hc
    cases x with
    | non => cases cb_non.mp h; exact sim_bl
    | bl i => cases cb_bl.mp h; exact sim_bl
    | int i => cases cb_int.mp h; exact sim_bl
    | str i => cases cb_str.mp h; exact sim_bl
    | tup xs => obtain ⟨ds, rfl, _⟩ := cb_tup.mp h; exact sim_bl
    | lst xs => obtain ⟨n, ds, rfl, _, _⟩ := cb_lst.mp h; exact sim_bl
    | loc _ => exact (cb_loc h).elim
    | dct _ _ => exact (cb_dct h).elim
theorem bv_isBool {b : Bool} (hX : ∀ n, X n → n < S.length) (hc : CBs S X vs ds) : Sim S (RE X S b) (biV .isBool vs) (builtin .isBool ds) := by
  match vs, hc with
  | [], _ => trivial
  | x :: y :: r, _ => cases x <;> trivial
  | [x], hc =>
    obtain ⟨d, rfl, h⟩ := cbs1 hc
    clear hc
    cases x with
    | non => cases cb_non.mp h; exact sim_bl
    | bl i => cases cb_bl.mp h; exact sim_bl
    | int i => cases cb_int.mp h; exact sim_bl
    | str i => cases cb_str.mp h; exact sim_bl
    | tup xs => obtain ⟨ds, rfl, _⟩ := cb_tup.mp h; exact sim_bl
    | lst xs => obtain ⟨n, ds, rfl, _, _⟩ := cb_lst.mp h; exact sim_bl
    | loc _ => exact (cb_loc h).elim
    | dct _ _ => exact (cb_dct h).elim
theorem bv_max2 {b : Bool} (hX : ∀ n, X n → n < S.length) (hc : CBs S X vs ds) : Sim S (RE X S b) (biV .max2 vs) (builtin .max2 ds) := by
  match vs, hc with
  | [], _ => trivial
  | [x], _ => cases x <;> trivial
  | x :: y :: z :: r, _ => cases x <;> cases y <;> trivial
  | [x, y], hc =>
    obtain ⟨d, e, rfl, h1, h2⟩ := cbs2 hc
    clear hc
    cases x <;> cases y <;> first | trivial | (cases cb_int.mp h1; cases cb_int.mp h2; exact sim_int)
theorem bv_join {b : Bool} (hX : ∀ n, X n → n < S.length) (hc : CBs S X vs ds) : Sim S (RE X S b) (biV .join vs) (builtin .join ds) := by
  match vs, hc with
  | [], _ => trivial
  | [x], _ => cases x <;> trivial
  | x :: y :: z :: r, _ => cases x <;> cases y <;> trivial
  | [x, y], hc =>
    obtain ⟨d, e, rfl, h1, h2⟩ := cbs2 hc
    clear hc
    cases x with
    | str a => cases cb_str.mp h1; exact sim_seq h2 fun us es q => sim_o (fun a ea => by rw [(crs_plain (strs_plain ea)).mp q]; exact ea) fun a _ => sim_g fun _ => sim_str
    | _ => trivial
theorem bv_split {b : Bool} (hX : ∀ n, X n → n < S.length) (hc : CBs S X vs ds) : Sim S (RE X S b) (biV .split vs) (builtin .split ds) := by
  match vs, hc with
  | [], _ => trivial
  | [x], _ => cases x <;> trivial
  | x :: y :: z :: r, _ => cases x <;> cases y <;> trivial
  | [x, y], hc =>
    obtain ⟨d, e, rfl, h1, h2⟩ := cbs2 hc
    clear hc
    cases x <;> cases y <;> first | trivial | (cases cb_str.mp h1; cases cb_str.mp h2; exact sim_g fun _ => sim_new hX ((crs_plain (plains_strs _)).mpr rfl))
theorem bv_startswith {b : Bool} (hX : ∀ n, X n → n < S.length) (hc : CBs S X vs ds) : Sim S (RE X S b) (biV .startswith vs) (builtin .startswith ds) := by
  match vs, hc with
  | [], _ => trivial
  | [x], _ => cases x <;> trivial
  | x :: y :: z :: r, _ => cases x <;> cases y <;> trivial
  | [x, y], hc =>
    obtain ⟨d, e, rfl, h1, h2⟩ := cbs2 hc
    clear hc
    cases x <;> cases y <;> first | trivial | (cases cb_str.mp h1; cases cb_str.mp h2; exact sim_bl)
theorem bv_min2 {b : Bool} (hX : ∀ n, X n → n < S.length) (hc : CBs S X vs ds) : Sim S (RE X S b) (biV .min2 vs) (builtin .min2 ds) := by
  match vs, hc with
  | [], _ => trivial
  | [x], _ => cases x <;> trivial
  | x :: y :: z :: r, _ => cases x <;> cases y <;> trivial
  | [x, y], hc =>
    obtain ⟨d, e, rfl, h1, h2⟩ := cbs2 hc
    clear hc
    cases x <;> cases y <;> first | trivial | (cases cb_int.mp h1; cases cb_int.mp h2; exact sim_int)
theorem bi_ok {bb : Bi} {b : Bool} (hX : ∀ n, X n → n < S.length) (h : CBs S X vs ds) : Sim S (RE X S b) (biV bb vs) (builtin bb ds) := by
  cases bb with
  | int => exact bv_int hX h
  | abs => exact bv_abs hX h
  | max1 => exact bv_max1 hX h
  | sum => exact bv_sum hX h
  | all => exact bv_all hX h
  | list => exact bv_list hX h
  | tuple => exact bv_tuple hX h
  | len => exact bv_len hX h
  | str => exact bv_str hX h
  | repr => exact bv_repr hX h
  | min1 => exact bv_min1 hX h
  | any => exact bv_any hX h
  | isTuple => exact bv_isTuple hX h
  | isStr => exact bv_isStr hX h
  | isInt => exact bv_isInt hX h
  | isBool => exact bv_isBool hX h
  | max2 => exact bv_max2 hX h
  | join => exact bv_join hX h
  | split => exact bv_split hX h
  | startswith => exact bv_startswith hX h
  | min2 => exact bv_min2 hX h
  | _ => trivial
end
end Mn
/-! Mn by value: expressions. -/
namespace Mn
open PySem L2
def OwnN (mt : List Nat) (envD : Nv) (n : Nat) : Prop := ∃ i, i ∈ mt ∧ envD[i]? = some (some (.loc n))
def XO (mt : List Nat) (Y : Nat → Prop) (envD : Nv) (n : Nat) : Prop := Y n ∨ OwnN mt envD n
structure ER (S : Store) (mt : List Nat) (Y : Nat → Prop) (env envD : Nv) : Prop where
  len : env.length = envD.length
  val : ∀ (i : Nat) v, env[i]? = some (some v) → ∃ d, envD[i]? = some (some d) ∧ CB S (XO mt Y envD) v d ∧ (i ∉ mt → CR S (XO mt Y envD) v d)
  own : ∀ i n, i ∈ mt → envD[i]? = some (some (.loc n)) → ¬ Y n ∧ n < S.length
  dis : ∀ i j n, i ∈ mt → j ∈ mt → envD[i]? = some (some (.loc n)) → envD[j]? = some (some (.loc n)) → i = j
  yb : ∀ n, Y n → n < S.length
section
variable {S S' : Store} {mt : List Nat} {Y : Nat → Prop} {env envD : Nv}
theorem ER.xb (h : ER S mt Y env envD) : ∀ n, XO mt Y envD n → n < S.length := fun n z => z.elim (h.yb n) fun ⟨i, a, b⟩ => (h.own i n a b).2
theorem ER.kp (k : Kp S S') (h : ER S mt Y env envD) : ER S' mt Y env envD :=
  ⟨h.len, fun i v e => (h.val i v e).imp fun d ⟨a, b, c⟩ => ⟨a, b.kp k, fun z => (c z).kp k⟩, fun i n a b => ⟨(h.own i n a b).1, Nat.lt_of_lt_of_le (h.own i n a b).2 k.len⟩, h.dis, fun n y => Nat.lt_of_lt_of_le (h.yb n y) k.len⟩
theorem ne_mem {i j : Nat} (h : i ∉ mt) (a : j ∈ mt) : i ≠ j := fun q => h (q ▸ a)
theorem XO.set {i : Nat} {x : Option D} (h : i ∉ mt) : XO mt Y (envD.set i x) = XO mt Y envD := by
  funext n
  apply propext
  unfold XO OwnN
  constructor
  · rintro (z | ⟨j, a, b⟩)
    · exact .inl z
    · refine .inr ⟨j, a, ?_⟩
      rw [List.getElem?_set_ne (ne_mem h a)] at b
      exact b
  · rintro (z | ⟨j, a, b⟩)
    · exact .inl z
    · refine .inr ⟨j, a, ?_⟩
      rw [List.getElem?_set_ne (ne_mem h a)]
      exact b
/-- a name that keeps no list of its own -/
theorem ER.set {i : Nat} {v d : D} (hi : i ∉ mt) (h : ER S mt Y env envD) (c : CR S (XO mt Y envD) v d) : ER S mt Y (env.set i (some v)) (envD.set i (some d)) := by
  refine ⟨by simp [h.len], fun j w e => ?_, fun j n a b => h.own j n a ?_, fun j k n a b e f => h.dis j k n a b ?_ ?_, h.yb⟩
  · rw [XO.set hi]
    rw [List.getElem?_set] at e
    by_cases hj : i = j
    · subst hj
      rw [if_pos rfl] at e
      split at e
      · rename_i hl
        cases e
        exact ⟨d, List.getElem?_set_self (by rw [← h.len]; exact hl), c.b, fun _ => c⟩
      · cases e
    · rw [if_neg hj] at e
      obtain ⟨d', a, b⟩ := h.val j w e
      exact ⟨d', by rw [List.getElem?_set_ne hj]; exact a, b⟩
  · rw [List.getElem?_set_ne (ne_mem hi a)] at b; exact b
  · rw [List.getElem?_set_ne (ne_mem hi a)] at e; exact e
  · rw [List.getElem?_set_ne (ne_mem hi b)] at f; exact f
theorem ER.unset {i : Nat} (hi : i ∉ mt) (h : ER S mt Y env envD) : ER S mt Y (env.set i none) (envD.set i none) := by
  refine ⟨by simp [h.len], fun j w e => ?_, fun j n a b => h.own j n a ?_, fun j k n a b e f => h.dis j k n a b ?_ ?_, h.yb⟩
  · rw [XO.set hi]
    rw [List.getElem?_set] at e
    by_cases hj : i = j
    · subst hj
      rw [if_pos rfl] at e
      split at e <;> cases e
    · rw [if_neg hj] at e
      obtain ⟨d', a, b⟩ := h.val j w e
      exact ⟨d', by rw [List.getElem?_set_ne hj]; exact a, b⟩
  · rw [List.getElem?_set_ne (ne_mem hi a)] at b; exact b
  · rw [List.getElem?_set_ne (ne_mem hi a)] at e; exact e
  · rw [List.getElem?_set_ne (ne_mem hi b)] at f; exact f
theorem ER.wipe (h : ER S mt Y env envD) : ∀ {own : List Nat}, (∀ j ∈ own, j ∉ mt) → ER S mt Y (wipeD env own) (wipeD envD own)
  | [], _ => h
  | j :: own, hj => (ER.wipe h fun k hk => hj k (List.mem_cons_of_mem _ hk)).unset (hj j (List.mem_cons_self ..))
theorem XO.wipe : ∀ {own : List Nat}, (∀ j ∈ own, j ∉ mt) → XO mt Y (wipeD envD own) = XO mt Y envD
  | [], _ => rfl
  | j :: own, hj => by
    show XO mt Y ((wipeD envD own).set j none) = _
    rw [XO.set (hj j (List.mem_cons_self ..)), XO.wipe fun k hk => hj k (List.mem_cons_of_mem _ hk)]
/-- one place more that is no one's -/
theorem ER.more {p : Nat} (hp : S.length ≤ p) (k : Kp S S') (hl : p < S'.length) (h : ER S mt Y env envD) : ER S' mt (fun n => Y n ∨ n = p) env envD := by
  have go : ∀ {v d : D}, CR S (XO mt Y envD) v d → CR S' (XO mt (fun n => Y n ∨ n = p) envD) v d := fun c => c.go (fun n ds _ q => k.keep _ _ q) fun n hn z => by
    rcases z with (z | z) | z
    · exact .inl z
    · omega
    · exact .inr z
  have gob : ∀ {v d : D}, CB S (XO mt Y envD) v d → CB S' (XO mt (fun n => Y n ∨ n = p) envD) v d := by
    intro v d b
    cases v with
    | lst vs =>
      obtain ⟨n, ds, e1, e2, e3⟩ := b
      refine ⟨n, ds, e1, k.keep _ _ e2, e3.go (fun n ds _ q => k.keep _ _ q) fun n hn z => ?_⟩
      rcases z with (z | z) | z
      · exact .inl z
      · omega
      · exact .inr z
    | _ => exact go (show CR S _ _ d from b)
  refine ⟨h.len, fun i v e => (h.val i v e).imp fun d ⟨a, b, c⟩ => ⟨a, gob b, fun z => go (c z)⟩, fun i n a b => ⟨?_, Nat.lt_of_lt_of_le (h.own i n a b).2 k.len⟩, h.dis, ?_⟩
  · rintro (z | z)
    · exact (h.own i n a b).1 z
    · have := (h.own i n a b).2; omega
  · rintro n (z | z)
    · exact Nat.lt_of_lt_of_le (h.yb n z) k.len
    · omega
end
structure CtxOk (C : CV) (C' : Ctx) : Prop where
  glob : C.glob = C'.glob
  gp : ∀ x d, C.glob x = some d → plain d = true
  call : ∀ f vs ds S (X : Nat → Prop), (∀ n, X n → n < S.length) → CRs S X vs ds → Sim S (fun S' v d => CR S' X v d) (C.call f vs) (C'.call f ds)
theorem okB_or {mt : List Nat} {e : E} (h : okB mt e = true) : (∃ i, e = .v i) ∨ okE mt e = true := by
  cases e <;> first | exact .inl ⟨_, rfl⟩ | exact .inr h
section
variable {C : CV} {C' : Ctx} {mt : List Nat} {Y : Nat → Prop} {S : Store} {env envD : Nv} {X : Nat → Prop}
theorem plain_loc {d : D} (h : plain d = true) : ∀ n, d ≠ .loc n := fun n e => by subst e; cases h
/-- the items of what is walked -/
def ItOk (J : ItV) (S : Store) (ds : List D) : Prop := ∀ i, itO J i S = some ds[i]?
theorem items_ok {k : IK} {vs ds : List D} (h : CBs S X vs ds) : Sim S (fun S' items J => ∃ es, CRs S' X items es ∧ ItOk J S' es ∧ ∀ n, (J = .lst n ∨ ∃ k, J = .rev n k) → ds = [.loc n] ∧ n < S'.length) (itemsV k vs) (mkIt k ds) := by
  have rng : ∀ {lo : Int} {n : Nat}, plains (rngD lo n) = true := by
    intro lo n
    unfold rngD
    generalize List.range n = l
    induction l with
    | nil => rfl
    | cons a l ih => exact ih
  have chr : ∀ x : Str, plains (strItems x) = true := by
    intro x
    unfold strItems
    generalize x.cps.toList = l
    induction l with
    | nil => rfl
    | cons a l ih => exact ih
  have revL : ∀ {us : List D} {i : Nat}, (if i < us.length then us[us.length - 1 - i]? else none) = us.reverse[i]? := by
    intro us i
    split
    · rename_i h; rw [List.getElem?_reverse h]
    · rename_i h; rw [List.getElem?_eq_none (by simp; omega)]
  cases k with
  | rng1 =>
    match vs, h with
    | [], _ => trivial
    | x :: y :: r, _ => cases x <;> trivial
    | [x], hc =>
      obtain ⟨d, rfl, h⟩ := cbs1 hc
      clear hc
      cases x with
      | int j =>
        cases cb_int.mp h
        exact sim_g fun _ => sim_ret ⟨_, (crs_plain rng).mpr rfl, fun i => rng_it, fun n z => by rcases z with z | ⟨_, z⟩ <;> cases z⟩
      | _ => trivial
  | rng2 =>
    match vs, h with
    | [], _ => trivial
    | [x], _ => cases x <;> trivial
    | x :: y :: z :: r, _ => cases x <;> cases y <;> trivial
    | [x, y], hc =>
      obtain ⟨d, e, rfl, h1, h2⟩ := cbs2 hc
      clear hc
      cases x <;> cases y <;> try trivial
      cases cb_int.mp h1
      cases cb_int.mp h2
      exact sim_g fun _ => sim_ret ⟨_, (crs_plain rng).mpr rfl, fun i => rng_it, fun n z => by rcases z with z | ⟨_, z⟩ <;> cases z⟩
  | rng3 => trivial
  | seq =>
    match vs, h with
    | [], _ => trivial
    | x :: y :: r, _ => cases x <;> trivial
    | [x], hc =>
      obtain ⟨d, rfl, h⟩ := cbs1 hc
      clear hc
      cases x with
      | str z =>
        cases cb_str.mp h
        refine sim_ret ⟨_, (crs_plain (chr z)).mpr rfl, fun i => ?_, fun n z => by rcases z with z | ⟨_, z⟩ <;> cases z⟩
        show some (z.cps[i]?.map _) = some (strItems z)[i]?
        unfold strItems
        rw [List.getElem?_map, Array.getElem?_toList]
      | tup xs =>
        obtain ⟨ds, rfl, q⟩ := cb_tup.mp h
        exact sim_ret ⟨_, q, fun i => rfl, fun n z => by rcases z with z | ⟨_, z⟩ <;> cases z⟩
      | lst xs =>
        obtain ⟨n, ds, rfl, e1, q⟩ := cb_lst.mp h
        refine sim_pre (p_rdL e1) (sim_ret ⟨_, q, fun i => ?_, fun m z => by
          have hl := (List.getElem?_eq_some_iff.mp e1).1
          rcases z with z | ⟨_, z⟩ <;> cases z
          exact ⟨rfl, hl⟩⟩)
        exact k_Lit (by rw [e1]; rfl)
      | _ => trivial
  | rev =>
    match vs, h with
    | [], _ => trivial
    | x :: y :: r, _ => cases x <;> trivial
    | [x], hc =>
      obtain ⟨d, rfl, h⟩ := cbs1 hc
      clear hc
      cases x with
      | tup xs =>
        obtain ⟨ds, rfl, q⟩ := cb_tup.mp h
        refine sim_ret ⟨_, q.reverse, fun i => ?_, fun n z => by rcases z with z | ⟨_, z⟩ <;> cases z⟩
        show some _ = some _
        rw [revL]
      | lst xs =>
        obtain ⟨n, ds, rfl, e1, q⟩ := cb_lst.mp h
        refine sim_pre (p_rdL e1) (sim_ret ⟨_, q.reverse, fun i => ?_, fun m z => by
          have hl := (List.getElem?_eq_some_iff.mp e1).1
          rcases z with z | ⟨_, z⟩ <;> cases z
          exact ⟨rfl, hl⟩⟩)
        have e : rd S n = some ds := rd_lst e1
        show (match rd S n with | some xs => if xs.length = ds.length then some (if i < ds.length then xs[ds.length - 1 - i]? else none) else none | none => none) = _
        rw [e]
        show (if ds.length = ds.length then _ else _) = _
        rw [if_pos rfl, revL]
      | _ => trivial
end
end Mn
namespace Mn
open PySem L2
section
variable {C : CV} {C' : Ctx} {mt : List Nat} {Y : Nat → Prop} {S S' : Store} {env envD : Nv} {X : Nat → Prop}
theorem ne_nt {X : Nat → Prop} {n p : Nat} (hn : ¬ X n) (hp : X p) : p ≠ n := fun z => hn (z ▸ hp)
/-- a place that is no one's is written -/
theorem cr_upd {p : Nat} {c : Cell} (hp : X p) {v d : D} (h : CR S X v d) : CR (S.set p c) X v d :=
  h.go (fun n ds hn q => by rw [List.getElem?_set_ne (ne_nt hn hp)]; exact q) fun _ _ z => z
theorem crs_upd {p : Nat} {c : Cell} (hp : X p) {v d : List D} (h : CRs S X v d) : CRs (S.set p c) X v d :=
  h.go (fun n ds hn q => by rw [List.getElem?_set_ne (ne_nt hn hp)]; exact q) fun _ _ z => z
theorem ER.upd {p : Nat} {c : Cell} (hp : Y p) (h : ER S mt Y env envD) : ER (S.set p c) mt Y env envD := by
  refine ⟨h.len, fun i v e => ?_, fun i n a b => ⟨(h.own i n a b).1, by rw [List.length_set]; exact (h.own i n a b).2⟩, h.dis, fun n y => by rw [List.length_set]; exact h.yb n y⟩
  obtain ⟨d, a, b, f⟩ := h.val i v e
  refine ⟨d, a, ?_, fun z => cr_upd (.inl hp) (f z)⟩
  by_cases hi : i ∈ mt
  · cases v with
    | lst vs =>
      obtain ⟨n, ds, rfl, e2, e3⟩ := b
      refine ⟨n, ds, rfl, ?_, crs_upd (.inl hp) e3⟩
      rw [List.getElem?_set_ne (ne_nt (h.own i n hi a).1 hp)]
      exact e2
    | _ => exact cr_upd (.inl hp) (show CR S _ _ d from b)
  · exact (cr_upd (.inl hp) (f hi)).b
def SimC {α β : Type} (S0 S : Store) (R : Store → α → β → Prop) (r : Rv α) (m : M β) : Prop := match r with
  | .ok a => wpx m (fun b S' => Kp S0 S' ∧ R S' a b) E0x S
  | .exc e => wpx m (fun _ _ => False) (fun e' S' => Kp S0 S' ∧ e' = e) S
  | .bad => True
theorem simC_bind {α β γ δ : Type} {S0 : Store} {R : Store → α → β → Prop} {r : Rv α} {m : M β} {Q : Store → γ → δ → Prop} {f : α → Rv γ} {g : β → M δ} (k0 : Kp S0 S) (h : Sim S R r m) (k : ∀ a b S', Kp S S' → R S' a b → SimC S0 S' Q (f a) (g b)) : SimC S0 S Q (r.bind f) (m.bind g) := by
  cases r with
  | bad => trivial
  | exc e =>
    show wpx _ _ _ _
    rw [wpx_bind]
    exact wpx_mono h (fun _ _ z => z.elim) fun _ _ ⟨a, b⟩ => ⟨k0.trans a, b⟩
  | ok a =>
    have h : wpx m (fun b S' => Kp S S' ∧ R S' a b) E0x S := h
    show SimC S0 S Q (f a) (m.bind g)
    cases e : f a with
    | bad => trivial
    | exc x =>
      show wpx _ _ _ _
      rw [wpx_bind]
      refine wpx_of_wp h fun b S1 ⟨k1, h1⟩ => ?_
      have := k a b S1 k1 h1
      rw [e] at this
      exact this
    | ok c =>
      show wpx _ _ _ _
      rw [wpx_bind]
      refine wpx_of_wp h fun b S1 ⟨k1, h1⟩ => ?_
      have := k a b S1 k1 h1
      rw [e] at this
      exact this
theorem simC_pre {γ δ β : Type} {S0 : Store} {Q : Store → γ → δ → Prop} {m : M β} {f : Rv γ} {g : β → M δ} {b : β} (h : ∀ (P : β → Store → Prop) E, wpx m P E S ↔ P b S) (k : SimC S0 S Q f (g b)) : SimC S0 S Q f (m.bind g) := by
  cases f with
  | bad => trivial
  | exc e => show wpx _ _ _ _; rw [wpx_bind, h]; exact k
  | ok c => show wpx _ _ _ _; rw [wpx_bind, h]; exact k
theorem simC_wr {γ δ : Type} {S0 : Store} {Q : Store → γ → δ → Prop} {f : Rv γ} {p : Nat} {xs : List D} {g : Unit → M δ} (k : SimC S0 (S.set p (.lst xs)) Q f (g ())) : SimC S0 S Q f ((wrL p xs).bind g) := by
  cases f with
  | bad => trivial
  | exc e => show wpx _ _ _ _; rw [wpx_bind, x_wrL]; exact k
  | ok c => show wpx _ _ _ _; rw [wpx_bind, x_wrL]; exact k
theorem sim_env {b : Bool} {v d : D} (h : Sim S (fun S' v d => CR S' X v d) (.ok v) (M.ret d)) : Sim S (fun S' v d => CR S' X v d) (.ok v) (M.ret d) := h
/-- a comprehension's turns -/
theorem compV_ok {sl : Nat} {J : ItV} {items es : List D} {cond elt : Nv → Rv D} {condD eltD : Nv → M D} {S0 : Store} (hsl : sl ∉ mt)
    (hit : ItOk J S0 es) (hits : ∀ S, Kp S0 S → ∀ i, itO J i S = itO J i S0) (hc : CRs S0 X items es)
    (hx : ∀ n, n < S0.length → XO mt (fun n => Y n ∨ n = S0.length) envD n → X n)
    (cok : ∀ env envD S, ER S mt (fun n => Y n ∨ n = S0.length) env envD → Sim S (fun S' v d => CB S' (XO mt (fun n => Y n ∨ n = S0.length) envD) v d) (cond env) (condD envD))
    (eok : ∀ env envD S, ER S mt (fun n => Y n ∨ n = S0.length) env envD → Sim S (fun S' v d => CR S' (XO mt (fun n => Y n ∨ n = S0.length) envD) v d) (elt env) (eltD envD)) :
    ∀ (k i f : Nat) (acc accD : List D) (S : Store), es.length - i = k → i ≤ es.length → k < f → Kp S0 S → S[S0.length]? = some (.lst accD) → CRs S (XO mt (fun n => Y n ∨ n = S0.length) envD) acc accD → ER S mt (fun n => Y n ∨ n = S0.length) env envD →
      SimC S0 S (fun S' ys d => d = .loc S0.length ∧ ∃ ysD, S'[S0.length]? = some (.lst ysD) ∧ CRs S' (XO mt (fun n => Y n ∨ n = S0.length) envD) ys ysD) (compV (putD sl) cond elt env (items.drop i) acc) (compF J (putD sl) condD eltD envD S0.length f i) := by
  intro k
  induction k with
  | zero =>
    intro i f acc accD S hk hi hf k0 hp ha hE
    obtain ⟨f, rfl⟩ : ∃ g, f = g + 1 := ⟨f - 1, by omega⟩
    have e : i = es.length := by omega
    subst e
    rw [← hc.length, List.drop_length, compF]
    refine simC_pre (b := none) (fun P E => e_itAt (by rw [hits S k0, hit, hc.length, List.getElem?_eq_none (Nat.le_refl _)])) ?_
    exact (wpx_ret (a := D.loc S0.length) (Q := fun d S' => Kp S0 S' ∧ d = .loc S0.length ∧ ∃ ysD, S'[S0.length]? = some (.lst ysD) ∧ CRs S' (XO mt (fun n => Y n ∨ n = S0.length) envD) acc ysD) (E := E0x)).mpr ⟨k0, rfl, accD, hp, ha⟩
  | succ k ih =>
    intro i f acc accD S hk hi hf k0 hp ha hE
    obtain ⟨f, rfl⟩ : ∃ g, f = g + 1 := ⟨f - 1, by omega⟩
    have hlt : i < es.length := by omega
    have hl2 : i < items.length := by rw [hc.length]; exact hlt
    obtain ⟨d, hd, cd⟩ := hc.at (List.getElem?_eq_getElem hl2)
    rw [List.drop_eq_getElem_cons hl2, compV, compF]
    refine simC_pre (b := some d) (fun P E => e_itAt (by rw [hits S k0, hit, hd])) ?_
    have cd' : CR S (XO mt (fun n => Y n ∨ n = S0.length) envD) items[i] d := cd.go (fun n ds _ q => k0.keep _ _ q) hx
    have xs : XO mt (fun n => Y n ∨ n = S0.length) (putD sl d envD) = XO mt (fun n => Y n ∨ n = S0.length) envD := XO.set hsl
    have E1 := hE.set hsl cd'
    refine simC_bind k0 (cok _ _ _ E1) fun b bD S1 k1 q1 => ?_
    refine simC_bind (k0.trans k1) (asB_ok q1) fun b bD S2 k2 q2 => ?_
    subst q2
    have k02 := (k0.trans k1).trans k2
    have E2 := E1.kp (k1.trans k2)
    cases b with
    | false => exact ih (i + 1) f acc accD S2 (by omega) (by omega) (by omega) k02 ((k1.trans k2).keep _ _ hp) (ha.kp (k1.trans k2)) (hE.kp (k1.trans k2))
    | true =>
      refine simC_bind k02 (eok _ _ _ E2) fun y yD S3 k3 q3 => ?_
      have k13 := (k1.trans k2).trans k3
      rw [xs] at q3
      have hp3 := k13.keep _ _ hp
      refine simC_pre (p_owL hp3) ?_
      refine simC_bind (k02.trans k3) (R := fun _ (_ : Unit) (_ : Unit) => True) ?_ fun _ _ S4 k4 _ => ?_
      · rw [ha.length]; exact sim_mono sim_guard fun _ _ _ _ _ => trivial
      have k14 := k13.trans k4
      have k04 := (k02.trans k3).trans k4
      refine simC_wr ?_
      have hY : XO mt (fun n => Y n ∨ n = S0.length) envD S0.length := .inl (.inr rfl)
      refine ih (i + 1) f (acc ++ [y]) (accD ++ [yD]) _ (by omega) (by omega) (by omega) (k04.set (Nat.le_refl _) _) ?_ ?_ ?_
      · rw [List.getElem?_set_self (List.getElem?_eq_some_iff.mp (k4.keep _ _ hp3)).1]
      · exact crs_upd hY ((ha.kp k14).append (.cons (q3.kp k4) .nil))
      · exact (hE.kp k14).upd (.inr rfl)
abbrev SE (mt : List Nat) (Y : Nat → Prop) (S : Store) (envD : Nv) (b : Bool) (r : Rv D) (m : M D) : Prop := Sim S (RE (XO mt Y envD) S b) r m
abbrev SB (mt : List Nat) (Y : Nat → Prop) (S : Store) (envD : Nv) (r : Rv D) (m : M D) : Prop := Sim S (fun S' v d => CB S' (XO mt Y envD) v d) r m
theorem se_b {b : Bool} {r : Rv D} {m : M D} (h : SE mt Y S envD b r m) : SB mt Y S envD r m := sim_mono h fun _ _ _ _ q => q.1.b
theorem se_go {b c : Bool} {r : Rv D} {m : M D} {S0 : Store} (k : Kp S0 S) (h : SE mt Y S envD b r m) (hb : c = true → b = true) : Sim S (RE (XO mt Y envD) S0 c) r m :=
  sim_mono h fun _ _ _ _ q => ⟨q.1, fun z n e => ⟨Nat.le_trans k.len (q.2 (hb z) n e).1, (q.2 (hb z) n e).2⟩⟩
theorem re_nl {c : Bool} {v d : D} {S0 S' : Store} (h : CR S' X v d) (hd : c = true → ∀ n, d ≠ .loc n) : RE X S0 c S' v d := ⟨h, fun z n e => (hd z n e).elim⟩
theorem re_f {v d : D} {S0 S' : Store} (h : CR S' X v d) : RE X S0 false S' v d := ⟨h, fun z => nomatch z⟩
theorem var_b {i : Nat} (h : ER S mt Y env envD) : SB mt Y S envD (vE C (.v i) env) (evE C' (.v i) envD) := by
  rw [vE, evE]
  cases q : env[i]? with
  | none => trivial
  | some o =>
    cases o with
    | none => trivial
    | some v =>
      obtain ⟨d, a, b, _⟩ := h.val i v q
      rw [a]
      exact sim_ret b
theorem var_e {i : Nat} (hi : i ∉ mt) (h : ER S mt Y env envD) : SE mt Y S envD false (vE C (.v i) env) (evE C' (.v i) envD) := by
  rw [vE, evE]
  cases q : env[i]? with
  | none => trivial
  | some o =>
    cases o with
    | none => trivial
    | some v =>
      obtain ⟨d, a, _, b⟩ := h.val i v q
      rw [a]
      exact sim_ret (re_f (b hi))
theorem no_in {mt : List Nat} {i : Nat} (h : (!mt.contains i) = true) : i ∉ mt := by simpa using h
theorem vB_of {e : E} (h : okB mt e = true) (hE : ER S mt Y env envD) (k : okE mt e = true → SE mt Y S envD (frsh e) (vE C e env) (evE C' e envD)) : SB mt Y S envD (vE C e env) (evE C' e envD) := by
  by_cases hv : ∃ i, e = .v i
  · obtain ⟨i, rfl⟩ := hv; exact var_b hE
  · exact se_b (k ((okB_or h).resolve_left hv))
theorem comp_end {J : ItV} {sl : Nat} {own : List Nat} {items es : List D} {cond elt : E} {c : Bool} (hE : ER S mt Y env envD) (hsl : sl ∉ mt) (hown : ∀ j ∈ own, j ∉ mt) (hit : ItOk J S es) (hl : ∀ n, (J = .lst n ∨ ∃ k, J = .rev n k) → n < S.length) (hc : CRs S (XO mt Y envD) items es)
    (cok : ∀ env envD S', ER S' mt (fun n => Y n ∨ n = S.length) env envD → SB mt (fun n => Y n ∨ n = S.length) S' envD (vE C cond env) (evE C' cond envD))
    (eok : ∀ env envD S', ER S' mt (fun n => Y n ∨ n = S.length) env envD → SE mt (fun n => Y n ∨ n = S.length) S' envD (frsh elt) (vE C elt env) (evE C' elt envD)) :
    Sim S (RE (XO mt Y envD) S c) ((lenOk items).bind fun _ => (compV (putD sl) (vE C cond) (vE C elt) (wipeD env own) items []).bind fun ys => .ok (.lst ys)) (fun S => compF J (putD sl) (evE C' cond) (evE C' elt) (wipeD envD own) S.length FUEL 0 (S ++ [.lst []])) := by
  unfold lenOk
  by_cases hlen : items.length ≤ 2000000000
  rotate_left
  · rw [decide_eq_false hlen]; trivial
  rw [decide_eq_true hlen, gv_true, rv_ok]
  have k0 : Kp S (S ++ [.lst []]) := (Kp.refl S).push _
  have hits : ∀ S', Kp S S' → ∀ i, itO J i S' = itO J i S := by
    intro S' k i
    have rdk : ∀ n, n < S.length → rd S' n = rd S n := fun n hn => by
      have e := List.getElem?_eq_getElem hn
      unfold rd
      rw [k.keep _ _ e, e]
    cases J with
    | lst n => show (rd S' n).map _ = (rd S n).map _; rw [rdk n (hl n (.inl rfl))]
    | rev n m => show (match rd S' n with | some _ => _ | none => _) = (match rd S n with | some _ => _ | none => _); rw [rdk n (hl n (.inr ⟨m, rfl⟩))]
    | _ => rfl
  have hx : ∀ n, n < S.length → XO mt (fun n => Y n ∨ n = S.length) (wipeD envD own) n → XO mt Y envD n := by
    intro n hn z
    rw [XO.wipe hown] at z
    rcases z with (z | z) | z
    · exact .inl z
    · omega
    · exact .inr z
  have E1 := (hE.more (Nat.le_refl _) k0 (by simp)).wipe hown
  have h := compV_ok (cond := vE C cond) (elt := vE C elt) (condD := evE C' cond) (eltD := evE C' elt) hsl hit hits hc hx cok (fun a b c d => sim_mono (eok a b c d) fun _ _ _ _ q => q.1) es.length 0 FUEL [] [] _ rfl (Nat.zero_le _) (by rw [← hc.length]; unfold FUEL; omega) k0 ap_self .nil E1
  rw [List.drop_zero] at h
  cases e : compV (putD sl) (vE C cond) (vE C elt) (wipeD env own) items [] with
  | bad => trivial
  | exc x => rw [e] at h; exact h
  | ok ys =>
    rw [e] at h
    rw [rv_ok]
    refine wpx_mono (show wpx _ _ _ _ from h) ?_ fun _ _ z => z
    rintro d S' ⟨k1, rfl, ysD, g1, g2⟩
    refine ⟨k1, cr_lst.mpr ⟨_, _, rfl, fun z => Nat.lt_irrefl _ (hE.xb _ z), g1, g2.go (fun _ _ _ q => q) fun n hn z => ?_⟩, fun _ n z => ?_⟩
    · rw [XO.wipe hown]
      rcases z with z | z
      · exact .inl (.inl z)
      · exact .inr z
    · cases z
      refine ⟨Nat.le_refl _, fun us e => ?_⟩
      cases e
      refine ⟨ysD, g1, g2.go (fun _ _ _ q => q) fun n hn z => ?_⟩
      rw [XO.wipe hown]
      rcases z with (z | z) | z
      · exact .inl (.inl z)
      · exact .inr z
      · exact .inl (.inr z)
mutual
theorem vE_ok (hC : CtxOk C C') : ∀ (e : E) {Y : Nat → Prop} {S : Store} {env envD : Nv}, okE mt e = true → ER S mt Y env envD → SE mt Y S envD (frsh e) (vE C e env) (evE C' e envD)
  | .c d, Y, S, env, envD, h, hE => by
    rw [okE] at h
    exact sim_ret (re_nl ((cr_plain h).mpr rfl) fun _ => plain_loc h)
  | .v i, Y, S, env, envD, h, hE => var_e (no_in (by simpa only [okE] using h)) hE
  | .g x, Y, S, env, envD, h, hE => by
    rw [vE, evE, ← hC.glob]
    exact sim_opt fun a ea => ⟨a, ea, re_f ((cr_plain (hC.gp _ _ ea)).mpr rfl)⟩
  | .bin o a b, Y, S, env, envD, h, hE => by
    rw [okE, Bool.and_eq_true] at h
    rw [vE, evE]
    refine sim_bind (vB_of h.1 hE (fun z => vE_ok hC a z hE)) fun x d S1 k1 q1 => ?_
    refine sim_bind (vB_of h.2 (hE.kp k1) (fun z => vE_ok hC b z (hE.kp k1))) fun y e S2 k2 q2 => ?_
    exact se_go (k1.trans k2) (bin_ok ((hE.kp k1).kp k2).xb (q1.kp k2) q2) id
  | .neg a, Y, S, env, envD, h, hE => by
    rw [okE] at h
    rw [vE, evE]
    refine sim_bind (vB_of h hE (fun z => vE_ok hC a z hE)) fun x d S1 k1 q1 => ?_
    refine sim_bind (asI_ok q1) fun i j S2 k2 q2 => ?_
    subst q2
    exact se_go (k1.trans k2) sim_int id
  | .cmp o a b, Y, S, env, envD, h, hE => by
    rw [okE, Bool.and_eq_true] at h
    rw [vE, evE]
    refine sim_bind (vB_of h.1 hE (fun z => vE_ok hC a z hE)) fun x d S1 k1 q1 => ?_
    refine sim_bind (vB_of h.2 (hE.kp k1) (fun z => vE_ok hC b z (hE.kp k1))) fun y e S2 k2 q2 => ?_
    refine sim_bind (cmp_ok (q1.kp k2) q2) fun i j S3 k3 q3 => ?_
    subst q3
    exact se_go ((k1.trans k2).trans k3) sim_bl id
  | .cmp3 o o2 a b c, Y, S, env, envD, h, hE => by
    rw [okE, Bool.and_eq_true, Bool.and_eq_true] at h
    rw [vE, evE]
    refine sim_bind (vB_of h.1.1 hE (fun z => vE_ok hC a z hE)) fun x d S1 k1 q1 => ?_
    refine sim_bind (vB_of h.1.2 (hE.kp k1) (fun z => vE_ok hC b z (hE.kp k1))) fun y e S2 k2 q2 => ?_
    refine sim_bind (cmp_ok (q1.kp k2) q2) fun i j S3 k3 q3 => ?_
    subst q3
    have k13 := (k1.trans k2).trans k3
    cases i with
    | false => exact se_go k13 sim_bl id
    | true =>
      refine sim_bind (vB_of h.2 (hE.kp k13) (fun z => vE_ok hC c z (hE.kp k13))) fun z f S4 k4 q4 => ?_
      refine sim_bind (cmp_ok ((q2.kp k3).kp k4) q4) fun i j S5 k5 q5 => ?_
      subst q5
      exact se_go ((k13.trans k4).trans k5) sim_bl id
  | .tr a, Y, S, env, envD, h, hE => by
    rw [okE] at h
    rw [vE, evE]
    refine sim_bind (vB_of h hE (fun z => vE_ok hC a z hE)) fun x d S1 k1 q1 => ?_
    refine sim_bind (tru_ok q1) fun i j S2 k2 q2 => ?_
    subst q2
    exact se_go (k1.trans k2) sim_bl id
  | .not a, Y, S, env, envD, h, hE => by
    rw [okE] at h
    rw [vE, evE]
    refine sim_bind (vB_of h hE (fun z => vE_ok hC a z hE)) fun x d S1 k1 q1 => ?_
    refine sim_bind (asB_ok q1) fun i j S2 k2 q2 => ?_
    subst q2
    exact se_go (k1.trans k2) sim_bl id
  | .and a b, Y, S, env, envD, h, hE => by
    rw [okE, Bool.and_eq_true] at h
    rw [vE, evE]
    refine sim_bind (vB_of h.1 hE (fun z => vE_ok hC a z hE)) fun x d S1 k1 q1 => ?_
    refine sim_bind (asB_ok q1) fun i j S2 k2 q2 => ?_
    subst q2
    cases i with
    | false => exact se_go (k1.trans k2) sim_bl id
    | true => exact se_go (k1.trans k2) (vE_ok hC b h.2 (hE.kp (k1.trans k2))) (fun z => nomatch z)
  | .or a b, Y, S, env, envD, h, hE => by
    rw [okE, Bool.and_eq_true] at h
    rw [vE, evE]
    refine sim_bind (vB_of h.1 hE (fun z => vE_ok hC a z hE)) fun x d S1 k1 q1 => ?_
    refine sim_bind (asB_ok q1) fun i j S2 k2 q2 => ?_
    subst q2
    cases i with
    | true => exact se_go (k1.trans k2) sim_bl id
    | false => exact se_go (k1.trans k2) (vE_ok hC b h.2 (hE.kp (k1.trans k2))) (fun z => nomatch z)
  | .vand a b, Y, S, env, envD, h, hE => by
    rw [okE, Bool.and_eq_true] at h
    rw [vE, evE]
    refine sim_bind (vE_ok hC a h.1 hE) fun x d S1 k1 q1 => ?_
    refine sim_bind (tru_ok q1.1.b) fun i j S2 k2 q2 => ?_
    subst q2
    cases i with
    | false => exact sim_ret (re_f (q1.1.kp k2))
    | true => exact se_go (k1.trans k2) (vE_ok hC b h.2 (hE.kp (k1.trans k2))) (fun z => nomatch z)
  | .vor a b, Y, S, env, envD, h, hE => by
    rw [okE, Bool.and_eq_true] at h
    rw [vE, evE]
    refine sim_bind (vE_ok hC a h.1 hE) fun x d S1 k1 q1 => ?_
    refine sim_bind (tru_ok q1.1.b) fun i j S2 k2 q2 => ?_
    subst q2
    cases i with
    | true => exact sim_ret (re_f (q1.1.kp k2))
    | false => exact se_go (k1.trans k2) (vE_ok hC b h.2 (hE.kp (k1.trans k2))) (fun z => nomatch z)
  | .ite c a b, Y, S, env, envD, h, hE => by
    rw [okE, Bool.and_eq_true, Bool.and_eq_true] at h
    rw [vE, evE]
    refine sim_bind (vB_of h.1.1 hE (fun z => vE_ok hC c z hE)) fun x d S1 k1 q1 => ?_
    refine sim_bind (asB_ok q1) fun i j S2 k2 q2 => ?_
    subst q2
    cases i with
    | true => exact se_go (k1.trans k2) (vE_ok hC a h.1.2 (hE.kp (k1.trans k2))) (fun z => nomatch z)
    | false => exact se_go (k1.trans k2) (vE_ok hC b h.2 (hE.kp (k1.trans k2))) (fun z => nomatch z)
  | .tup es, Y, S, env, envD, h, hE => by
    rw [okE] at h
    rw [vE, evE]
    refine sim_bind (vEs_ok hC es h hE) fun xs ds S1 k1 q1 => ?_
    exact sim_g' (by rw [q1.length]) fun _ => se_go k1 (sim_tup q1) id
  | .lst es, Y, S, env, envD, h, hE => by
    rw [okE] at h
    rw [vE, evE]
    refine sim_bind (vEs_ok hC es h hE) fun xs ds S1 k1 q1 => ?_
    exact sim_g' (by rw [q1.length]) fun _ => se_go k1 (sim_new (hE.kp k1).xb q1) id
  | .idx a b, Y, S, env, envD, h, hE => by
    rw [okE, Bool.and_eq_true] at h
    rw [vE, evE]
    refine sim_bind (vB_of h.1 hE (fun z => vE_ok hC a z hE)) fun x d S1 k1 q1 => ?_
    refine sim_bind (vB_of h.2 (hE.kp k1) (fun z => vE_ok hC b z (hE.kp k1))) fun y e S2 k2 q2 => ?_
    exact se_go (k1.trans k2) (idx_ok (q1.kp k2) q2) id
  | .slc0 a, Y, S, env, envD, h, hE => by
    rw [okE] at h
    rw [vE, evE]
    refine sim_bind (vB_of h hE (fun z => vE_ok hC a z hE)) fun x d S1 k1 q1 => ?_
    exact se_go k1 (slc_ok (hE.kp k1).xb q1) id
  | .slcL a b, Y, S, env, envD, h, hE => by
    rw [okE, Bool.and_eq_true] at h
    rw [vE, evE]
    refine sim_bind (vB_of h.1 hE (fun z => vE_ok hC a z hE)) fun x d S1 k1 q1 => ?_
    refine sim_bind (vB_of h.2 (hE.kp k1) (fun z => vE_ok hC b z (hE.kp k1))) fun y e S2 k2 q2 => ?_
    refine sim_bind (asI_ok q2) fun i j S3 k3 q3 => ?_
    subst q3
    have k := (k1.trans k2).trans k3
    exact se_go k (slc_ok (hE.kp k).xb ((q1.kp k2).kp k3)) id
  | .slcH a b, Y, S, env, envD, h, hE => by
    rw [okE, Bool.and_eq_true] at h
    rw [vE, evE]
    refine sim_bind (vB_of h.1 hE (fun z => vE_ok hC a z hE)) fun x d S1 k1 q1 => ?_
    refine sim_bind (vB_of h.2 (hE.kp k1) (fun z => vE_ok hC b z (hE.kp k1))) fun y e S2 k2 q2 => ?_
    refine sim_bind (asI_ok q2) fun i j S3 k3 q3 => ?_
    subst q3
    have k := (k1.trans k2).trans k3
    exact se_go k (slc_ok (hE.kp k).xb ((q1.kp k2).kp k3)) id
  | .slcB a b c, Y, S, env, envD, h, hE => by
    rw [okE, Bool.and_eq_true, Bool.and_eq_true] at h
    rw [vE, evE]
    refine sim_bind (vB_of h.1.1 hE (fun z => vE_ok hC a z hE)) fun x d S1 k1 q1 => ?_
    refine sim_bind (vB_of h.1.2 (hE.kp k1) (fun z => vE_ok hC b z (hE.kp k1))) fun y e S2 k2 q2 => ?_
    refine sim_bind (asI_ok q2) fun i j S3 k3 q3 => ?_
    subst q3
    have k := (k1.trans k2).trans k3
    refine sim_bind (vB_of h.2 (hE.kp k) (fun z => vE_ok hC c z (hE.kp k))) fun y e S4 k4 q4 => ?_
    refine sim_bind (asI_ok q4) fun i j S5 k5 q5 => ?_
    subst q5
    have k' := (k.trans k4).trans k5
    exact se_go k' (slc_ok (hE.kp k').xb ((((q1.kp k2).kp k3).kp k4).kp k5)) id
  | .call f es, Y, S, env, envD, h, hE => by
    rw [okE] at h
    rw [vE, evE]
    refine sim_bind (vEs_ok hC es h hE) fun xs ds S1 k1 q1 => ?_
    exact sim_mono (hC.call f xs ds S1 _ (hE.kp k1).xb q1) fun _ _ _ _ q => re_f q
  | .bi b es, Y, S, env, envD, h, hE => by
    rw [okE] at h
    rw [vE, evE]
    refine sim_bind (vBs_ok hC es h hE) fun xs ds S1 k1 q1 => ?_
    exact se_go k1 (bi_ok (b := true) (hE.kp k1).xb q1) fun _ => rfl
  | .meth b o es, Y, S, env, envD, h, hE => by
    rw [okE, Bool.and_eq_true] at h
    rw [vE, evE]
    refine sim_bind (vB_of h.1 hE (fun z => vE_ok hC o z hE)) fun x d S1 k1 q1 => ?_
    have hrec : ∀ {α β : Type} {Q : Store → α → β → Prop} {f : Unit → Rv α} {g : Unit → M β}, Sim S1 Q (f ()) (g ()) → Sim S1 Q ((recvV b x).bind f) ((recv b d).bind g) := by
      intro α β Q f g k
      cases b <;> cases x <;> first | trivial | (cases cb_str.mp q1; exact sim_pre (b := ()) (fun P E => Iff.rfl) k)
    refine hrec ?_
    refine sim_bind (vBs_ok hC es h.2 (hE.kp k1)) fun xs ds S2 k2 q2 => ?_
    exact se_go (k1.trans k2) (bi_ok (b := true) (hE.kp (k1.trans k2)).xb ⟨_, _, rfl, q1.kp k2, q2⟩) fun _ => rfl
  | .comp elt sl own k es cond, Y, S, env, envD, h, hE => by
    rw [okE, Bool.and_eq_true, Bool.and_eq_true, Bool.and_eq_true, Bool.and_eq_true] at h
    obtain ⟨⟨⟨⟨h1, h2⟩, h3⟩, h4⟩, h5⟩ := h
    have hsl := no_in h4
    have hown : ∀ j ∈ own, j ∉ mt := fun j hj => no_in (List.all_eq_true.mp h5 j hj)
    rw [vE, evE]
    refine sim_bind (vBs_ok hC es h1 hE) fun xs ds S1 k1 q1 => ?_
    have hE1 := hE.kp k1
    refine sim_bind (items_ok q1) fun items J S2 k2 ⟨es', c2, it2, l2⟩ => ?_
    exact sim_mono (comp_end (hE1.kp k2) hsl hown it2 (fun n z => (l2 n z).2) c2 (fun e1 e2 S' h => vB_of h3 h fun z => vE_ok hC cond z h) (fun e1 e2 S' h => vE_ok hC elt h2 h)) fun _ _ _ _ q => ⟨q.1, fun z n e => ⟨Nat.le_trans (k1.trans k2).len (q.2 z n e).1, (q.2 z n e).2⟩⟩
theorem vEs_ok (hC : CtxOk C C') : ∀ (es : Es) {Y : Nat → Prop} {S : Store} {env envD : Nv}, okEs mt es = true → ER S mt Y env envD → Sim S (fun S' vs ds => CRs S' (XO mt Y envD) vs ds) (vEs C es env) (evEs C' es envD)
  | .nil, Y, S, env, envD, h, hE => by rw [vEs, evEs]; exact sim_ret .nil
  | .cons e r, Y, S, env, envD, h, hE => by
    rw [okEs, Bool.and_eq_true] at h
    rw [vEs, evEs]
    refine sim_bind (vE_ok hC e h.1 hE) fun x d S1 k1 q1 => ?_
    refine sim_bind (vEs_ok hC r h.2 (hE.kp k1)) fun xs ds S2 k2 q2 => ?_
    exact sim_ret (.cons (q1.1.kp k2) q2)
theorem vBs_ok (hC : CtxOk C C') : ∀ (es : Es) {Y : Nat → Prop} {S : Store} {env envD : Nv}, okBs mt es = true → ER S mt Y env envD → Sim S (fun S' vs ds => CBs S' (XO mt Y envD) vs ds) (vEs C es env) (evEs C' es envD)
  | .nil, Y, S, env, envD, h, hE => by rw [vEs, evEs]; exact sim_ret rfl
  | .cons e r, Y, S, env, envD, h, hE => by
    rw [okBs, Bool.and_eq_true] at h
    rw [vEs, evEs]
    refine sim_bind (vB_of h.1 hE (fun z => vE_ok hC e z hE)) fun x d S1 k1 q1 => ?_
    refine sim_bind (vBs_ok hC r h.2 (hE.kp k1)) fun xs ds S2 k2 q2 => ?_
    exact sim_ret ⟨_, _, rfl, q1.kp k2, q2⟩
end
end
end Mn
/-! Mn by value: statements and defs. -/
namespace Mn
open PySem L2
structure Fm (S S' : Store) (mt tc : List Nat) (e e' : Nv) : Prop where
  len : S.length ≤ S'.length
  keep : ∀ (n : Nat) c, (∀ i, i ∈ mt → i ∈ tc → e[i]? ≠ some (some (.loc n))) → S[n]? = some c → S'[n]? = some c
  old : ∀ (i n : Nat), i ∈ mt → n < S.length → e'[i]? = some (some (.loc n)) → e[i]? = some (some (.loc n))
  same : ∀ i, i ∉ tc → e'[i]? = e[i]?
section
variable {C : CV} {C' : Ctx} {mt tc tc' : List Nat} {Y : Nat → Prop} {S S0 S1 S' : Store} {env envD e0 e1 e2 : Nv} {X : Nat → Prop}
theorem Fm.refl : Fm S S mt tc e0 e0 := ⟨Nat.le_refl _, fun _ _ _ h => h, fun _ _ _ _ h => h, fun _ _ => rfl⟩
theorem Fm.kp (k : Kp S S') : Fm S S' mt tc e0 e0 := ⟨k.len, fun _ _ _ h => k.keep _ _ h, fun _ _ _ _ h => h, fun _ _ => rfl⟩
theorem Fm.trans (a : Fm S S1 mt tc e0 e1) (b : Fm S1 S' mt tc e1 e2) : Fm S S' mt tc e0 e2 :=
  ⟨Nat.le_trans a.len b.len, fun n c h q => b.keep n c (fun i hi ht z => h i hi ht (a.old i n hi (List.getElem?_eq_some_iff.mp q).1 z)) (a.keep n c h q),
   fun i n hi hn z => a.old i n hi hn (b.old i n hi (Nat.lt_of_lt_of_le hn a.len) z), fun i hi => (b.same i hi).trans (a.same i hi)⟩
theorem Fm.mono (h : ∀ i ∈ tc, i ∈ tc') (a : Fm S S' mt tc e0 e1) : Fm S S' mt tc' e0 e1 :=
  ⟨a.len, fun n c k q => a.keep n c (fun i hi ht => k i hi (h i ht)) q, a.old, fun i hi => a.same i fun z => hi (h i z)⟩
/-- what others hold stays -/
theorem Fm.cr (a : Fm S S' mt tc e0 e1) {v d : D} (h : CR S (XO mt Y e0) v d) : CR S' (XO mt Y e1) v d :=
  h.go (fun n ds hn q => a.keep n _ (fun i hi _ z => hn (.inr ⟨i, hi, z⟩)) q) fun n hn z => z.imp id fun ⟨i, hi, q⟩ => ⟨i, hi, a.old i n hi hn q⟩
theorem Fm.crs (a : Fm S S' mt tc e0 e1) {v d : List D} (h : CRs S (XO mt Y e0) v d) : CRs S' (XO mt Y e1) v d :=
  h.go (fun n ds hn q => a.keep n _ (fun i hi _ z => hn (.inr ⟨i, hi, z⟩)) q) fun n hn z => z.imp id fun ⟨i, hi, q⟩ => ⟨i, hi, a.old i n hi hn q⟩
def FS (mt : List Nat) (Y : Nat → Prop) (tc : List Nat) (S : Store) (e : Nv) (q : Flow × Nv) (q' : Flow × Nv) (S' : Store) : Prop := Fm S S' mt tc e q'.2 ∧ (match q.1, q'.1 with
  | .nx, .nx => ER S' mt Y q.2 q'.2
  | .bk, .bk => ER S' mt Y q.2 q'.2
  | .ct, .ct => ER S' mt Y q.2 q'.2
  | .rt v, .rt d => CR S' Y v d
  | _, _ => False)
def SS (mt : List Nat) (Y : Nat → Prop) (tc : List Nat) (S0 : Store) (e0 : Nv) (S : Store) (r : Rv (Flow × Nv)) (m : M (Flow × Nv)) : Prop := match r with
  | .ok q => wpx m (FS mt Y tc S0 e0 q) E0x S
  | .exc x => wpx m (fun _ _ => False) (fun x' S' => x' = x ∧ ∃ e', Fm S0 S' mt tc e0 e') S
  | .bad => True
theorem zs_ret {q q' : Flow × Nv} (h : FS mt Y tc S0 e0 q q' S) : SS mt Y tc S0 e0 S (.ok q) (M.ret q') := (wpx_ret (a := q') (Q := FS mt Y tc S0 e0 q) (E := E0x)).mpr h
theorem zs_nx {env env' : Nv} (f : Fm S0 S mt tc e0 env') (h : ER S mt Y env env') : SS mt Y tc S0 e0 S (.ok (.nx, env)) (M.ret (.nx, env')) := zs_ret ⟨f, h⟩
theorem zs_mono (h : ∀ i ∈ tc, i ∈ tc') {r : Rv (Flow × Nv)} {m : M (Flow × Nv)} (a : SS mt Y tc S0 e0 S r m) : SS mt Y tc' S0 e0 S r m := by
  cases r with
  | bad => trivial
  | exc x => exact wpx_mono a (fun _ _ z => z) fun _ _ ⟨a, e', f⟩ => ⟨a, e', f.mono h⟩
  | ok q => exact wpx_mono a (fun _ _ ⟨f, z⟩ => ⟨f.mono h, z⟩) fun _ _ z => z
/-- from a later base -/
theorem zs_base {r : Rv (Flow × Nv)} {m : M (Flow × Nv)} (f0 : Fm S0 S1 mt tc e0 e1) (a : SS mt Y tc S1 e1 S r m) : SS mt Y tc S0 e0 S r m := by
  cases r with
  | bad => trivial
  | exc x => exact wpx_mono a (fun _ _ z => z) fun _ _ ⟨a, e', f⟩ => ⟨a, e', f0.trans f⟩
  | ok q => exact wpx_mono a (fun _ _ ⟨f, z⟩ => ⟨f0.trans f, z⟩) fun _ _ z => z
/-- an expression first -/
theorem zs_e {α β : Type} {R : Store → α → β → Prop} {r : Rv α} {m : M β} {f : α → Rv (Flow × Nv)} {g : β → M (Flow × Nv)} (h : Sim S R r m) (f0 : Fm S0 S mt tc e0 envD)
    (k : ∀ a b S', Kp S S' → Fm S0 S' mt tc e0 envD → R S' a b → SS mt Y tc S0 e0 S' (f a) (g b)) : SS mt Y tc S0 e0 S (r.bind f) (m.bind g) := by
  cases r with
  | bad => trivial
  | exc e =>
    show wpx _ _ _ _
    rw [wpx_bind]
    exact wpx_mono h (fun _ _ z => z.elim) fun _ _ ⟨a, b⟩ => ⟨b, envD, f0.trans (.kp a)⟩
  | ok a =>
    have h : wpx m (fun b S' => Kp S S' ∧ R S' a b) E0x S := h
    show SS mt Y tc S0 e0 S (f a) (m.bind g)
    cases e : f a with
    | bad => trivial
    | exc x =>
      show wpx _ _ _ _
      rw [wpx_bind]
      refine wpx_of_wp h fun b S1 ⟨k1, h1⟩ => ?_
      have := k a b S1 k1 (f0.trans (.kp k1)) h1
      rw [e] at this
      exact this
    | ok c =>
      show wpx _ _ _ _
      rw [wpx_bind]
      refine wpx_of_wp h fun b S1 ⟨k1, h1⟩ => ?_
      have := k a b S1 k1 (f0.trans (.kp k1)) h1
      rw [e] at this
      exact this
/-- a statement first -/
theorem zs_bind {r : Rv (Flow × Nv)} {m : M (Flow × Nv)} {f : Flow × Nv → Rv (Flow × Nv)} {g : Flow × Nv → M (Flow × Nv)} (h : SS mt Y tc S envD S r m) (f0 : Fm S0 S mt tc e0 envD)
    (k : ∀ q q' S', Fm S0 S' mt tc e0 q'.2 → FS mt Y tc S envD q q' S' → SS mt Y tc S0 e0 S' (f q) (g q')) : SS mt Y tc S0 e0 S (r.bind f) (m.bind g) := by
  cases r with
  | bad => trivial
  | exc e =>
    show wpx _ _ _ _
    rw [wpx_bind]
    exact wpx_mono h (fun _ _ z => z.elim) fun _ _ ⟨a, e', b⟩ => ⟨a, e', f0.trans b⟩
  | ok a =>
    have h : wpx m (FS mt Y tc S envD a) E0x S := h
    show SS mt Y tc S0 e0 S (f a) (m.bind g)
    cases e : f a with
    | bad => trivial
    | exc x =>
      show wpx _ _ _ _
      rw [wpx_bind]
      refine wpx_of_wp h fun b S1 h1 => ?_
      have := k a b S1 (f0.trans h1.1) h1
      rw [e] at this
      exact this
    | ok c =>
      show wpx _ _ _ _
      rw [wpx_bind]
      refine wpx_of_wp h fun b S1 h1 => ?_
      have := k a b S1 (f0.trans h1.1) h1
      rw [e] at this
      exact this
/-! patterns -/
def PO (mt : List Nat) (Y : Nat → Prop) (tp : List Nat) (S : Store) (envD : Nv) : Store → Nv → Nv → Prop := fun S' env' envD' => S' = S ∧ ER S mt Y env' envD' ∧ (∀ i ∈ mt, envD'[i]? = envD[i]?) ∧ ∀ i, i ∉ tp → envD'[i]? = envD[i]?
theorem xo_eq (h : ∀ i ∈ mt, e1[i]? = e0[i]?) : XO mt Y e1 = XO mt Y e0 := by
  funext n
  apply propext
  unfold XO OwnN
  constructor
  · rintro (z | ⟨j, a, b⟩)
    · exact .inl z
    · exact .inr ⟨j, a, h j a ▸ b⟩
  · rintro (z | ⟨j, a, b⟩)
    · exact .inl z
    · exact .inr ⟨j, a, (h j a).symm ▸ b⟩
theorem noP_nm {i : Nat} (h : noP mt (.nm i) = true) : i ∉ mt := by
  simpa [noP, tcP] using h
theorem noP_tup {ps : Pats} (h : noP mt (.tup ps) = true) : (tcPs ps).all (fun i => !mt.contains i) = true := h
mutual
theorem vP_ok : ∀ (p : Pat) {S : Store} {env envD : Nv} {v d : D}, noP mt p = true → CR S (XO mt Y envD) v d → ER S mt Y env envD → Sim S (PO mt Y (tcP p) S envD) (vP p v env) (evP C' p d envD)
  | .nm i, S, env, envD, v, d, h, hc, hE => by
    have hi := noP_nm h
    rw [vP, evP]
    refine sim_ret ⟨rfl, hE.set hi hc, fun j hj => List.getElem?_set_ne (ne_mem hi hj), fun j hj => List.getElem?_set_ne fun z => hj (by simp [tcP, z])⟩
  | .tup ps, S, env, envD, v, d, h, hc, hE => by
    cases v with
    | tup vs =>
      obtain ⟨ds, rfl, q⟩ := cr_tup.mp hc
      rw [vP, evP]
      exact vPs_ok ps (noP_tup h) q hE
    | _ => trivial
  | .sub _ _, _, _, _, _, _, _, _, _ => trivial
theorem vPs_ok : ∀ (p : Pats) {S : Store} {env envD : Nv} {vs ds : List D}, (tcPs p).all (fun i => !mt.contains i) = true → CRs S (XO mt Y envD) vs ds → ER S mt Y env envD → Sim S (PO mt Y (tcPs p) S envD) (vPs p vs env) (evPs C' p ds envD)
  | .nil, S, env, envD, vs, ds, h, hc, hE => by
    cases vs with
    | nil => cases hc.nilE; rw [vPs, evPs]; exact sim_ret ⟨rfl, hE, fun _ _ => rfl, fun _ _ => rfl⟩
    | cons _ _ => trivial
  | .cons p r, S, env, envD, vs, ds, h, hc, hE => by
    cases vs with
    | nil => trivial
    | cons v vs =>
      obtain ⟨d, ds, rfl, c1, c2⟩ := hc.consE
      rw [tcPs, List.all_append, Bool.and_eq_true] at h
      rw [vPs, evPs]
      refine sim_bind (vP_ok p h.1 c1 hE) fun a b S' k ⟨e1, e2, e3, e4⟩ => ?_
      subst e1
      rw [← xo_eq (Y := Y) e3] at c2
      refine sim_mono (vPs_ok r h.2 c2 e2) fun S2 a2 b2 k2 ⟨g1, g2, g3, g4⟩ => ⟨g1, g2, fun i hi => (g3 i hi).trans (e3 i hi), fun i hi => ?_⟩
      rw [tcPs, List.mem_append] at hi
      exact (g4 i fun z => hi (.inr z)).trans (e4 i fun z => hi (.inl z))
end
theorem PO.fm {tp : List Nat} {env' envD' : Nv} (h : PO mt Y tp S envD S' env' envD') : Fm S S' mt tp envD envD' := by
  obtain ⟨rfl, _, a, b⟩ := h
  exact ⟨Nat.le_refl _, fun _ _ _ q => q, fun i n hi _ z => (a i hi) ▸ z, b⟩
/-! loops -/
theorem whileV_ok {c : Nv → Rv D} {b : Nv → Rv (Flow × Nv)} {cD : Nv → M D} {bD : Nv → M (Flow × Nv)}
    (hc : ∀ env envD S, ER S mt Y env envD → SB mt Y S envD (c env) (cD envD)) (hb : ∀ env envD S, ER S mt Y env envD → SS mt Y tc S envD S (b env) (bD envD)) :
    ∀ (f : Nat) (env envD : Nv) (S : Store), Fm S0 S mt tc e0 envD → ER S mt Y env envD → SS mt Y tc S0 e0 S (whileV c b f env) (whileF cD bD f envD) := by
  intro f
  induction f with
  | zero => intro env envD S _ _; trivial
  | succ f ih =>
    intro env envD S f0 hE
    rw [whileV, whileF]
    refine zs_e (hc _ _ _ hE) f0 fun x d S1 k1 f1 q1 => ?_
    refine zs_e (asB_ok q1) f1 fun i j S2 k2 f2 q2 => ?_
    subst q2
    have E2 := hE.kp (k1.trans k2)
    cases i with
    | false => exact zs_nx f2 E2
    | true =>
      refine zs_bind (hb _ _ _ E2) f2 fun q q' S3 f3 h3 => ?_
      obtain ⟨fl, e3⟩ := q
      obtain ⟨fl', e3'⟩ := q'
      obtain ⟨g1, g2⟩ := h3
      cases fl <;> cases fl' <;> first | exact g2.elim | skip
      · exact ih _ _ _ f3 g2
      · exact zs_nx f3 g2
      · exact ih _ _ _ f3 g2
      · exact zs_ret ⟨f3, g2⟩
def StJ (mt tc : List Nat) (Y : Nat → Prop) (S : Store) (e : Nv) (J : ItV) : Prop := ∀ n, (J = .lst n ∨ ∃ k, J = .rev n k) → n < S.length ∧ (¬ XO mt Y e n ∨ ∃ i, i ∈ mt ∧ i ∉ tc ∧ e[i]? = some (some (.loc n)))
theorem StJ.step {J : ItV} (h : StJ mt tc Y S e0 J) (hE : ER S mt Y env e0) (f : Fm S S' mt tc e0 e1) : StJ mt tc Y S' e1 J ∧ ∀ i, itO J i S' = itO J i S := by
  have key : ∀ n, (J = .lst n ∨ ∃ k, J = .rev n k) → rd S' n = rd S n := by
    intro n hn
    obtain ⟨hl, q⟩ := h n hn
    have e := List.getElem?_eq_getElem hl
    have : S'[n]? = some S[n] := by
      refine f.keep n _ (fun i hi ht z => ?_) e
      rcases q with q | ⟨j, a, b, c⟩
      · exact q (.inr ⟨i, hi, z⟩)
      · exact b (hE.dis i j n hi a z c ▸ ht)
    unfold rd
    rw [this, e]
  refine ⟨fun n hn => ?_, fun i => ?_⟩
  · obtain ⟨hl, q⟩ := h n hn
    refine ⟨Nat.lt_of_lt_of_le hl f.len, q.imp (fun z w => z (w.imp id fun ⟨i, hi, x⟩ => ⟨i, hi, f.old i n hi hl x⟩)) fun ⟨i, a, b, c⟩ => ⟨i, a, b, (f.same i b).trans c⟩⟩
  · cases J with
    | lst n => show (rd S' n).map _ = (rd S n).map _; rw [key n (.inl rfl)]
    | rev n m => show (match rd S' n with | some _ => _ | none => _) = (match rd S n with | some _ => _ | none => _); rw [key n (.inr ⟨m, rfl⟩)]
    | _ => rfl
theorem forV_ok {J : ItV} {p : Pat} {b : Nv → Rv (Flow × Nv)} {bD : Nv → M (Flow × Nv)} {items es : List D} {tb : List Nat} (hp : noP mt p = true)
    (ht : ∀ i ∈ tcP p ++ tb, i ∈ tc) (hb : ∀ env envD S, ER S mt Y env envD → SS mt Y tb S envD S (b env) (bD envD)) :
    ∀ (k i f : Nat) (env envD : Nv) (S : Store), es.length - i = k → i ≤ es.length → k < f → Fm S0 S mt tc e0 envD → ER S mt Y env envD → CRs S (XO mt Y envD) items es → ItOk J S es → StJ mt (tcP p ++ tb) Y S envD J →
      SS mt Y tc S0 e0 S (forV (vP p) b (items.drop i) env) (forF J (evP C' p) bD f i envD) := by
  intro k
  induction k with
  | zero =>
    intro i f env envD S hk hi hf f0 hE hc hit hst
    obtain ⟨f, rfl⟩ : ∃ g, f = g + 1 := ⟨f - 1, by omega⟩
    have e : i = es.length := by omega
    subst e
    rw [← hc.length, List.drop_length, forV, forF]
    show wpx _ _ _ _
    rw [wpx_bind, e_itAt (hit _), hc.length, List.getElem?_eq_none (Nat.le_refl _)]
    exact zs_nx f0 hE
  | succ k ih =>
    intro i f env envD S hk hi hf f0 hE hc hit hst
    obtain ⟨f, rfl⟩ : ∃ g, f = g + 1 := ⟨f - 1, by omega⟩
    have hlt : i < es.length := by omega
    have hl2 : i < items.length := by rw [hc.length]; exact hlt
    obtain ⟨d, hd, cd⟩ := hc.at (List.getElem?_eq_getElem hl2)
    rw [List.drop_eq_getElem_cons hl2, forV, forF]
    have pre : ∀ {r : Rv (Flow × Nv)}, SS mt Y tc S0 e0 S r (M.bind (evP C' p d envD) fun env1 => M.bind (bD env1) fun r => match r with
        | (.nx, env') => forF J (evP C' p) bD f (i + 1) env'
        | (.ct, env') => forF J (evP C' p) bD f (i + 1) env'
        | (.bk, env') => M.ret (.nx, env')
        | (.rt d, env') => M.ret (.rt d, env')) → SS mt Y tc S0 e0 S r (M.bind (itAt J i) fun o => match o with
        | none => M.ret (.nx, envD)
        | some d => M.bind (evP C' p d envD) fun env1 => M.bind (bD env1) fun r => match r with
          | (.nx, env') => forF J (evP C' p) bD f (i + 1) env'
          | (.ct, env') => forF J (evP C' p) bD f (i + 1) env'
          | (.bk, env') => M.ret (.nx, env')
          | (.rt d, env') => M.ret (.rt d, env')) := by
      intro r h
      cases r with
      | bad => trivial
      | exc x => show wpx _ _ _ _; rw [wpx_bind, e_itAt (hit i), hd]; exact h
      | ok x => show wpx _ _ _ _; rw [wpx_bind, e_itAt (hit i), hd]; exact h
    refine pre ?_
    refine zs_e (vP_ok p hp cd hE) f0 fun env1 envD1 S1 k1 f1 po => ?_
    have fp : Fm S S1 mt tc envD envD1 := po.fm.mono fun i hi => ht i (List.mem_append.mpr (.inl hi))
    have fp' : Fm S S1 mt (tcP p ++ tb) envD envD1 := po.fm.mono fun i hi => List.mem_append.mpr (.inl hi)
    have E1 : ER S1 mt Y env1 envD1 := by obtain ⟨rfl, h, _⟩ := po; exact h
    have hb1 := zs_mono (tc' := tc) (fun i hi => ht i (List.mem_append.mpr (.inr hi))) (hb _ _ _ E1)
    have f01 := f0.trans fp
    have st1 := hst.step hE fp'
    cases r : b env1 with
    | bad => trivial
    | exc x =>
      have := hb1
      rw [r] at this
      show wpx _ _ _ _
      rw [wpx_bind]
      exact wpx_mono this (fun _ _ z => z.elim) fun _ _ ⟨a, e', b⟩ => ⟨a, e', f01.trans b⟩
    | ok q =>
      have hq := hb _ _ _ E1
      rw [r] at hq
      have hq : wpx (bD envD1) (FS mt Y tb S1 envD1 q) E0x S1 := hq
      obtain ⟨fl, e3⟩ := q
      have fin : ∀ {r2 : Rv (Flow × Nv)} {G : Flow × Nv → M (Flow × Nv)}, (∀ q' S', FS mt Y tb S1 envD1 (fl, e3) q' S' → SS mt Y tc S0 e0 S' r2 (G q')) → SS mt Y tc S0 e0 S1 r2 ((bD envD1).bind G) := by
        intro r2 G h
        cases r2 with
        | bad => trivial
        | exc x => show wpx _ _ _ _; rw [wpx_bind]; exact wpx_of_wp hq fun a S' z => h a S' z
        | ok x => show wpx _ _ _ _; rw [wpx_bind]; exact wpx_of_wp hq fun a S' z => h a S' z
      rw [rv_ok]
      refine fin fun q' S2 h2 => ?_
      obtain ⟨fl', e3'⟩ := q'
      obtain ⟨g1, g2⟩ := h2
      have g1' : Fm S1 S2 mt (tcP p ++ tb) envD1 e3' := g1.mono fun i hi => List.mem_append.mpr (.inr hi)
      have f02 : Fm S0 S2 mt tc e0 e3' := f01.trans (g1.mono fun i hi => ht i (List.mem_append.mpr (.inr hi)))
      have st2 := st1.1.step E1 g1'
      have go : ER S2 mt Y e3 e3' → SS mt Y tc S0 e0 S2 (forV (vP p) b (items.drop (i + 1)) e3) (forF J (evP C' p) bD f (i + 1) e3') := fun E2 =>
        ih (i + 1) f e3 e3' S2 (by omega) (by omega) (by omega) f02 E2 (g1.crs (fp.crs hc)) (fun j => by rw [st2.2, st1.2]; exact hit j) st2.1
      cases fl <;> cases fl' <;> first | exact g2.elim | skip
      · exact go g2
      · exact zs_nx f02 g2
      · exact go g2
      · exact zs_ret ⟨f02, g2⟩
/-! changes of a list -/
theorem own_mut {i n : Nat} {xs ds : List D} (hi : i ∈ mt) (hE : ER S mt Y env envD) (hn : envD[i]? = some (some (.loc n))) (hl : i < env.length) (c : CRs S (XO mt Y envD) xs ds) : ER (S.set n (.lst ds)) mt Y (env.set i (some (.lst xs))) envD := by
  have hX : XO mt Y envD n := .inr ⟨i, hi, hn⟩
  have hs : n < S.length := (hE.own i n hi hn).2
  refine ⟨by simp [hE.len], fun j v e => ?_, fun j m a b => ⟨(hE.own j m a b).1, by rw [List.length_set]; exact (hE.own j m a b).2⟩, hE.dis, fun m y => by rw [List.length_set]; exact hE.yb m y⟩
  rw [List.getElem?_set] at e
  by_cases hj : i = j
  · subst hj
    rw [if_pos rfl, if_pos hl] at e
    cases e
    exact ⟨.loc n, hn, ⟨n, ds, rfl, List.getElem?_set_self hs, crs_upd hX c⟩, fun z => (z hi).elim⟩
  · rw [if_neg hj] at e
    obtain ⟨d, a, b, f⟩ := hE.val j v e
    refine ⟨d, a, ?_, fun z => cr_upd hX (f z)⟩
    by_cases hm : j ∈ mt
    · cases v with
      | lst vs =>
        obtain ⟨m, es, rfl, e2, e3⟩ := b
        refine ⟨m, es, rfl, ?_, crs_upd hX e3⟩
        rw [List.getElem?_set_ne (fun (z : n = m) => hj (hE.dis i j n hi hm hn (by rw [z]; exact a)))]
        exact e2
      | _ => exact cr_upd hX (show CR S _ _ d from b)
    · exact (cr_upd hX (f hm)).b
theorem fm_mut {i n : Nat} {c : Cell} (hi : i ∈ mt) (hn : envD[i]? = some (some (.loc n))) : Fm S (S.set n c) mt [i] envD envD :=
  ⟨by simp, fun m d h q => by rw [List.getElem?_set_ne (fun (z : n = m) => h i hi (by simp) (by rw [← z]; exact hn))]; exact q, fun _ _ _ _ z => z, fun _ _ => rfl⟩
def MutP (S : Store) (X : Nat → Prop) (n : Nat) (r : Rv (D × List D)) (m : M D) : Prop := match r with
  | .ok p => wpx m (fun d S' => ∃ ds', S' = S.set n (.lst ds') ∧ CRs S X p.2 ds' ∧ CR S X p.1 d) E0x S
  | .exc _ => False
  | .bad => True
theorem mut_ok {b : Bi} {n : Nat} {xs ds ys es : List D} (hb : isMut b = true) (hn : S[n]? = some (.lst ds)) (hc : CRs S X xs ds) (ha : b = .extend → CBs S X ys es) (ha' : b ≠ .extend → CRs S X ys es) :
    MutP S X n (mutV b xs ys) (builtin b (.loc n :: es)) := by
  cases b <;> first | cases hb | skip
  · -- append
    have ha := ha' (fun z => nomatch z)
    match ys, ha with
    | [], _ => trivial
    | _ :: _ :: _, _ => trivial
    | [y], ha =>
      obtain ⟨d, r, rfl, c1, c2⟩ := ha.consE
      cases c2.nilE
      show MutP S X n ((guardV (decide (xs.length < sizeLine))).bind _) _
      by_cases hl : xs.length < sizeLine
      · rw [decide_eq_true hl]
        show wpx (M.bind (owL n) _) _ _ _
        rw [wpx_bind, p_owL hn, wpx_bind, wpx_guard]
        refine ⟨by rw [← hc.length]; exact decide_eq_true hl, ?_⟩
        rw [wpx_bind, x_wrL, wpx_ret]
        exact ⟨_, rfl, hc.append (.cons c1 .nil), cr_non.mpr rfl⟩
      · rw [decide_eq_false hl]; trivial
  · -- pop0
    have ha := ha' (fun z => nomatch z)
    match ys, ha with
    | _ :: _, _ => trivial
    | [], ha =>
      cases ha.nilE
      show MutP S X n ((optV xs[xs.length - 1]?).bind _) _
      cases q : xs[xs.length - 1]? with
      | none => trivial
      | some v =>
        obtain ⟨d, e, c⟩ := hc.at q
        rw [hc.length] at e
        show wpx (M.bind (owL n) _) _ _ _
        rw [wpx_bind, p_owL hn, e, wpx_bind, wpx_opt_some, wpx_bind, x_wrL, wpx_ret]
        exact ⟨_, rfl, hc.dropLast, c⟩
  · -- pop1
    have ha := ha' (fun z => nomatch z)
    match ys, ha with
    | [], _ => trivial
    | x :: _ :: _, _ => cases x <;> trivial
    | [y], ha =>
      obtain ⟨d, r, rfl, c1, c2⟩ := ha.consE
      cases c2.nilE
      cases y with
      | int i =>
        cases cr_int.mp c1
        show MutP S X n ((guardV (decide (-(2 ^ 63) ≤ i) && decide (i < 2 ^ 63))).bind _) _
        cases g : (decide (-(2 ^ 63) ≤ i) && decide (i < 2 ^ 63)) with
        | false => trivial
        | true =>
          show MutP S X n ((optV (seqIndex? i xs.length)).bind _) _
          cases q : seqIndex? i xs.length with
          | none => trivial
          | some k =>
            show MutP S X n ((optV xs[k]?).bind _) _
            cases q2 : xs[k]? with
            | none => trivial
            | some v =>
              obtain ⟨d, e, c⟩ := hc.at q2
              rw [hc.length] at q
              show wpx (M.bind (owL n) _) _ _ _
              rw [wpx_bind, p_owL hn, wpx_bind, wpx_guard]
              refine ⟨g, ?_⟩
              rw [q, wpx_bind, wpx_opt_some, e, wpx_bind, wpx_opt_some, wpx_bind, x_wrL, wpx_ret]
              exact ⟨_, rfl, hc.eraseIdx k, c⟩
      | _ => trivial
  · -- extend
    have ha := ha rfl
    match ys, ha with
    | [], _ => trivial
    | x :: _ :: _, _ => cases x <;> trivial
    | [y], ha =>
      obtain ⟨d, rfl, c⟩ := cbs1 ha
      cases y with
      | lst us =>
        obtain ⟨m, ws, rfl, e1, q⟩ := cb_lst.mp c
        show MutP S X n ((guardV (ok2 (xs.length + us.length))).bind _) _
        cases g : ok2 (xs.length + us.length) with
        | false => trivial
        | true =>
          show wpx (M.bind (owL n) _) _ _ _
          rw [wpx_bind, p_owL hn, wpx_bind, p_owL e1, wpx_bind, wpx_guard]
          refine ⟨by rw [← hc.length, ← q.length]; exact g, ?_⟩
          rw [wpx_bind, x_wrL, wpx_ret]
          exact ⟨_, rfl, hc.append q, cr_non.mpr rfl⟩
      | _ => trivial
  · -- reverse
    have ha := ha' (fun z => nomatch z)
    match ys, ha with
    | _ :: _, _ => trivial
    | [], ha =>
      cases ha.nilE
      show wpx (M.bind (owL n) _) _ _ _
      rw [wpx_bind, p_owL hn, wpx_bind, x_wrL, wpx_ret]
      exact ⟨_, rfl, hc.reverse, cr_non.mpr rfl⟩
  · -- insert
    have ha := ha' (fun z => nomatch z)
    match ys, ha with
    | [], _ => trivial
    | [x], _ => cases x <;> trivial
    | x :: y :: z :: r, _ => cases x <;> trivial
    | [x, y], ha =>
      obtain ⟨d, r, rfl, c1, c2⟩ := ha.consE
      obtain ⟨d2, r, rfl, c4, c3⟩ := c2.consE
      cases c3.nilE
      cases x with
      | int i =>
        cases cr_int.mp c1
        show MutP S X n ((guardV (decide (xs.length < sizeLine) && decide (0 ≤ i) && decide (i < 2 ^ 63))).bind _) _
        cases g : (decide (xs.length < sizeLine) && decide (0 ≤ i) && decide (i < 2 ^ 63)) with
        | false => trivial
        | true =>
          show wpx (M.bind (owL n) _) _ _ _
          rw [wpx_bind, p_owL hn, wpx_bind, wpx_guard]
          refine ⟨by rw [← hc.length]; exact g, ?_⟩
          rw [wpx_bind, x_wrL, wpx_ret]
          exact ⟨_, rfl, ((hc.take _).append (.cons c4 .nil)).append (hc.drop _), cr_non.mpr rfl⟩
      | _ => trivial
theorem lstAt_ok {i : Nat} {xs : List D} (hE : ER S mt Y env envD) (hi : i ∈ mt) (h : lstAt env i = .ok xs) : ∃ n ds, envD[i]? = some (some (.loc n)) ∧ S[n]? = some (.lst ds) ∧ CRs S (XO mt Y envD) xs ds ∧ i < env.length := by
  unfold lstAt at h
  split at h
  · rename_i ys e
    cases h
    obtain ⟨d, a, ⟨n, ds, rfl, e2, e3⟩, _⟩ := hE.val i _ e
    exact ⟨n, ds, a, e2, e3, (List.getElem?_eq_some_iff.mp e).1⟩
  · cases h
theorem mth_ok (hC : CtxOk C C') {b : Bi} {i : Nat} {es : Es} (hb : isMut b = true) (ho : okMth mt b i es = true) (hE : ER S mt Y env envD) :
    match mthV C b i es env with
    | .ok (r, env') => wpx (evE C' (.meth b (.v i) es) envD) (fun d S' => Fm S S' mt [i] envD envD ∧ ER S' mt Y env' envD ∧ CR S' (XO mt Y envD) r d) E0x S
    | .exc x => wpx (evE C' (.meth b (.v i) es) envD) (fun _ _ => False) (fun x' S' => Kp S S' ∧ x' = x) S
    | .bad => True := by
  unfold okMth at ho
  rw [Bool.and_eq_true] at ho
  have hi : i ∈ mt := by simpa using ho.1
  unfold mthV
  cases q : lstAt env i with
  | bad => trivial
  | exc x => unfold lstAt at q; split at q <;> cases q
  | ok xs =>
    obtain ⟨n, ds, h1, h2, h3, h4⟩ := lstAt_ok hE hi q
    have pre : ∀ (P : D → Store → Prop) E, wpx (evE C' (.meth b (.v i) es) envD) P E S ↔ wpx (M.bind (evEs C' es envD) fun ys => builtin b (.loc n :: ys)) P E S := by
      intro P E
      rw [evE]
      have : evE C' (.v i) envD = M.ret (.loc n) := by rw [evE, h1]
      rw [this, wpx_bind, wpx_ret, wpx_bind]
      have hr : recv b (.loc n) = M.bind (rdL n) fun _ => M.ret () := by cases b <;> first | rfl | cases hb
      rw [hr, wpx_bind, p_rdL h2, wpx_ret]
    rw [rv_ok]
    have args : Sim S (fun S' ys es => (b = .extend → CBs S' (XO mt Y envD) ys es) ∧ (b ≠ .extend → CRs S' (XO mt Y envD) ys es)) (vEs C es env) (evEs C' es envD) := by
      by_cases hx : b = .extend
      · subst hx
        exact sim_mono (vBs_ok hC es ho.2 hE) fun _ _ _ _ z => ⟨fun _ => z, fun w => (w rfl).elim⟩
      · have : okEs mt es = true := by
          have h := ho.2
          cases b <;> first | exact h | exact (hx rfl).elim
        exact sim_mono (vEs_ok hC es this hE) fun _ _ _ _ z => ⟨fun w => (hx w).elim, fun _ => z⟩
    cases r : vEs C es env with
    | bad => trivial
    | exc x =>
      rw [r] at args
      show wpx (evE C' (.meth b (.v i) es) envD) _ _ S
      rw [pre, wpx_bind]
      exact wpx_mono (show wpx _ _ _ _ from args) (fun _ _ z => z.elim) fun _ _ z => z
    | ok ys =>
      rw [r] at args
      have args : wpx (evEs C' es envD) (fun es' S' => Kp S S' ∧ (b = .extend → CBs S' (XO mt Y envD) ys es') ∧ (b ≠ .extend → CRs S' (XO mt Y envD) ys es')) E0x S := args
      rw [rv_ok, rv_ok]
      cases m : mutV b xs ys with
      | bad => trivial
      | exc x =>
        exfalso
        unfold wpx at args
        cases e : evEs C' es envD S with
        | ok es' S' =>
          rw [e] at args
          have := mut_ok (S := S') (X := XO mt Y envD) hb (args.1.keep _ _ h2) (h3.kp args.1) args.2.1 args.2.2
          rw [m] at this
          exact this
        | exc _ _ => rw [e] at args; exact args
        | bad => rw [e] at args; exact args
      | ok p =>
        obtain ⟨v, xs'⟩ := p
        show wpx (evE C' (.meth b (.v i) es) envD) _ _ S
        rw [pre, wpx_bind]
        refine wpx_of_wp args fun es' S1 ⟨k1, a1, a2⟩ => ?_
        have := mut_ok (S := S1) (X := XO mt Y envD) hb (k1.keep _ _ h2) (h3.kp k1) a1 a2
        rw [m] at this
        refine wpx_of_wp this ?_
        rintro d S2 ⟨ds', rfl, c1, c2⟩
        have hX : XO mt Y envD n := .inr ⟨i, hi, h1⟩
        exact ⟨(Fm.kp k1).trans (fm_mut hi h1), own_mut hi (hE.kp k1) h1 h4 c1, cr_upd hX c2⟩
end
end Mn
/-! Mn by value: statements and defs. -/
namespace Mn
open PySem L2
section
variable {C : CV} {C' : Ctx} {mt tc tc' : List Nat} {Y : Nat → Prop} {S S0 S1 S' : Store} {env envD e0 e1 e2 : Nv} {X : Nat → Prop}
/-- how a statement's kind reads back -/
theorem kind_expr {e : E} {b : Bi} {i : Nat} {es : Es} (h : kindS (.expr e) = .mth b i es) : e = .meth b (.v i) es ∧ isMut b = true := by
  cases e with
  | meth b' o es' =>
    cases o with
    | v j =>
      simp only [kindS] at h
      split at h
      · rename_i hb; cases h; exact ⟨rfl, hb⟩
      · cases h
    | _ => cases h
  | _ => cases h
theorem kind_expr' {e : E} : (∃ b i es, kindS (.expr e) = .mth b i es) ∨ kindS (.expr e) = .other := by
  cases e with
  | meth b' o es' =>
    cases o with
    | v j =>
      simp only [kindS]
      split
      · exact .inl ⟨_, _, _, rfl⟩
      · exact .inr rfl
    | _ => exact .inr rfl
  | _ => exact .inr rfl
theorem kind_set {p : Pat} {e : E} : (∃ j b i es, p = .nm j ∧ e = .meth b (.v i) es ∧ isMut b = true ∧ kindS (.set p e) = .mset j b i es) ∨ (∃ i k, p = .sub (.v i) k ∧ kindS (.set p e) = .sub i k e) ∨ kindS (.set p e) = .other := by
  cases p with
  | nm j =>
    cases e with
    | meth b' o es' =>
      cases o with
      | v i =>
        cases hb : isMut b' with
        | true => exact .inl ⟨j, b', i, es', rfl, rfl, hb, by simp only [kindS, hb]⟩
        | false => exact .inr (.inr (by simp only [kindS, hb]))
      | _ => exact .inr (.inr rfl)
    | _ => exact .inr (.inr rfl)
  | tup ps => exact .inr (.inr rfl)
  | sub o k =>
    cases o with
    | v i => exact .inr (.inl ⟨i, k, rfl, rfl⟩)
    | _ => exact .inr (.inr rfl)
/-- a changing method, and what goes on -/
theorem zs_mth (hC : CtxOk C C') {b : Bi} {i : Nat} {es : Es} (hb : isMut b = true) (ho : okMth mt b i es = true) (hi : i ∈ tc) (hE : ER S mt Y env envD) {f : D × Nv → Rv (Flow × Nv)} {g : D → M (Flow × Nv)}
    (k : ∀ r env' d S', Fm S S' mt tc envD envD → ER S' mt Y env' envD → CR S' (XO mt Y envD) r d → SS mt Y tc S envD S' (f (r, env')) (g d)) : SS mt Y tc S envD S ((mthV C b i es env).bind f) ((evE C' (.meth b (.v i) es) envD).bind g) := by
  have h := mth_ok hC hb ho hE
  cases q : mthV C b i es env with
  | bad => trivial
  | exc x =>
    rw [q] at h
    show wpx _ _ _ _
    rw [wpx_bind]
    exact wpx_mono h (fun _ _ z => z.elim) fun _ _ ⟨a, b⟩ => ⟨b, envD, .kp a⟩
  | ok p =>
    obtain ⟨r, env'⟩ := p
    rw [q] at h
    have h : wpx (evE C' (.meth b (.v i) es) envD) (fun d S' => Fm S S' mt [i] envD envD ∧ ER S' mt Y env' envD ∧ CR S' (XO mt Y envD) r d) E0x S := h
    rw [rv_ok]
    cases e : f (r, env') with
    | bad => trivial
    | exc x =>
      show wpx _ _ _ _
      rw [wpx_bind]
      refine wpx_of_wp h fun d S1 ⟨a1, a2, a3⟩ => ?_
      have := k r env' d S1 (a1.mono (by simpa using hi)) a2 a3
      rw [e] at this
      exact this
    | ok c =>
      show wpx _ _ _ _
      rw [wpx_bind]
      refine wpx_of_wp h fun d S1 ⟨a1, a2, a3⟩ => ?_
      have := k r env' d S1 (a1.mono (by simpa using hi)) a2 a3
      rw [e] at this
      exact this
/-- a name takes a new list -/
theorem own_new {i : Nat} {v d : D} (hi : i ∈ mt) (hE : ER S mt Y env envD) (k : Kp S S') (h : RE (XO mt Y envD) S true S' v d) : ER S' mt Y (env.set i (some v)) (envD.set i (some d)) ∧ Fm S S' mt [i] envD (envD.set i (some d)) := by
  have sub : ∀ n, n < S.length → XO mt Y (envD.set i (some d)) n → XO mt Y envD n := by
    rintro n hn (z | ⟨j, a, b⟩)
    · exact .inl z
    · rw [List.getElem?_set] at b
      by_cases hj : i = j
      · subst hj
        rw [if_pos rfl] at b
        split at b
        · cases b
          have := (h.2 rfl n rfl).1
          omega
        · cases b
      · rw [if_neg hj] at b
        exact .inr ⟨j, a, b⟩
  have sub2 : ∀ n, XO mt Y (envD.set i (some d)) n → XO mt Y envD n ∨ d = .loc n := by
    rintro n (z | ⟨j, a, b⟩)
    · exact .inl (.inl z)
    · rw [List.getElem?_set] at b
      by_cases hj : i = j
      · subst hj
        rw [if_pos rfl] at b
        split at b
        · cases b; exact .inr rfl
        · cases b
      · rw [if_neg hj] at b
        exact .inl (.inr ⟨j, a, b⟩)
  refine ⟨⟨by simp [hE.len], fun j w e => ?_, fun j n a b => ?_, fun j k' n a b e f => ?_, fun n y => Nat.lt_of_lt_of_le (hE.yb n y) k.len⟩, ⟨k.len, fun _ _ _ q => k.keep _ _ q, fun j n hj hn z => ?_, fun j hj => List.getElem?_set_ne (fun z => hj (by simp [z]))⟩⟩
  · rw [List.getElem?_set] at e
    by_cases hj : i = j
    · subst hj
      rw [if_pos rfl] at e
      split at e
      · rename_i hl
        cases e
        refine ⟨d, List.getElem?_set_self (by rw [← hE.len]; exact hl), ?_, fun z => (z hi).elim⟩
        have h1 := h.1
        cases v with
        | lst vs =>
          obtain ⟨n, ds, rfl, e2, e3, e4⟩ := cr_lst.mp h1
          obtain ⟨ds', g1, g2⟩ := (h.2 rfl n rfl).2 vs rfl
          refine ⟨n, ds', rfl, g1, g2.go (fun _ _ _ q => q) fun m _ z => ?_⟩
          rcases sub2 m z with z | z
          · exact .inl z
          · cases z; exact .inr rfl
        | tup vs =>
          refine (CR.go (S := S') (X := XO mt Y envD) (fun _ _ _ q => q) (fun n hn z => ?_) h1 : CR S' _ (D.tup vs) d)
          rcases sub2 n z with z | z
          · exact z
          · obtain ⟨ds, q, _⟩ := cr_tup.mp h1; rw [q] at z; cases z
        | non => exact CR.go (S := S') (X := XO mt Y envD) (fun _ _ _ q => q) (fun n hn z => (sub2 n z).resolve_right (by rw [cr_non.mp h1]; intro z; cases z)) h1
        | bl _ => exact CR.go (S := S') (X := XO mt Y envD) (fun _ _ _ q => q) (fun n hn z => (sub2 n z).resolve_right (by rw [cr_bl.mp h1]; intro z; cases z)) h1
        | int _ => exact CR.go (S := S') (X := XO mt Y envD) (fun _ _ _ q => q) (fun n hn z => (sub2 n z).resolve_right (by rw [cr_int.mp h1]; intro z; cases z)) h1
        | str _ => exact CR.go (S := S') (X := XO mt Y envD) (fun _ _ _ q => q) (fun n hn z => (sub2 n z).resolve_right (by rw [cr_str.mp h1]; intro z; cases z)) h1
        | loc _ => exact (cr_loc h1).elim
        | dct _ _ => exact (cr_dct h1).elim
      · cases e
    · rw [if_neg hj] at e
      obtain ⟨d', a, b, c⟩ := hE.val j w e
      refine ⟨d', by rw [List.getElem?_set_ne hj]; exact a, ?_, fun z => (c z).go (fun n ds _ q => k.keep _ _ q) sub⟩
      cases w with
      | lst vs => obtain ⟨n, ds, e1, e2, e3⟩ := b; exact ⟨n, ds, e1, k.keep _ _ e2, e3.go (fun n ds _ q => k.keep _ _ q) sub⟩
      | _ => exact CR.go (fun n ds _ q => k.keep _ _ q) sub (show CR S _ _ d' from b)
  · rw [List.getElem?_set] at b
    by_cases hj : i = j
    · subst hj
      rw [if_pos rfl] at b
      split at b
      · cases b
        have q := h.1
        have hl := (h.2 rfl n rfl).1
        refine ⟨fun y => ?_, ?_⟩
        · have := hE.yb n y; omega
        · cases v with
          | lst vs => obtain ⟨m, ds, e1, _, e3, _⟩ := cr_lst.mp q; cases e1; exact (List.getElem?_eq_some_iff.mp e3).1
          | tup vs => obtain ⟨ds, e, _⟩ := cr_tup.mp q; cases e
          | non => cases cr_non.mp q
          | bl _ => cases cr_bl.mp q
          | int _ => cases cr_int.mp q
          | str _ => cases cr_str.mp q
          | loc _ => exact (cr_loc q).elim
          | dct _ _ => exact (cr_dct q).elim
      · cases b
    · rw [if_neg hj] at b
      exact ⟨(hE.own j n a b).1, Nat.lt_of_lt_of_le (hE.own j n a b).2 k.len⟩
  · have cl : ∀ j, j ∈ mt → (envD.set i (some d))[j]? = some (some (.loc n)) → (j = i ∧ S.length ≤ n) ∨ (j ≠ i ∧ envD[j]? = some (some (.loc n)) ∧ n < S.length) := by
      intro j hj q
      rw [List.getElem?_set] at q
      by_cases hij : i = j
      · subst hij
        rw [if_pos rfl] at q
        split at q
        · cases q; exact .inl ⟨rfl, (h.2 rfl n rfl).1⟩
        · cases q
      · rw [if_neg hij] at q
        exact .inr ⟨fun z => hij z.symm, q, (hE.own j n hj q).2⟩
    rcases cl j a e with ⟨rfl, h1⟩ | ⟨h1, h2, h3⟩
    · rcases cl k' b f with ⟨rfl, _⟩ | ⟨_, _, h3⟩
      · rfl
      · omega
    · rcases cl k' b f with ⟨rfl, _⟩ | ⟨_, h4, _⟩
      · omega
      · exact hE.dis j k' n a b h2 h4
  · rw [List.getElem?_set] at z
    by_cases hij : i = j
    · subst hij
      rw [if_pos rfl] at z
      split at z
      · cases z
        have := (h.2 rfl n rfl).1
        omega
      · cases z
    · rw [if_neg hij] at z; exact z
theorem mem_sub {a b : List Nat} {tc : List Nat} (h : ∀ i ∈ a ++ b, i ∈ tc) : (∀ i ∈ a, i ∈ tc) ∧ ∀ i ∈ b, i ∈ tc := ⟨fun i hi => h i (List.mem_append.mpr (.inl hi)), fun i hi => h i (List.mem_append.mpr (.inr hi))⟩
/-- what is given back -/
theorem ret_val {e : E} (hC : CtxOk C C') (h : okB mt e = true) (hE : ER S mt Y env envD) : Sim S (fun S' v d => CR S' Y v d) (vE C e env) (evE C' e envD) := by
  rcases okB_or h with ⟨i, rfl⟩ | h
  · rw [vE, evE]
    cases q : env[i]? with
    | none => trivial
    | some o =>
      cases o with
      | none => trivial
      | some v =>
        obtain ⟨d, a, b, c⟩ := hE.val i v q
        rw [a]
        refine sim_ret ?_
        by_cases hi : i ∈ mt
        · cases v with
          | lst vs =>
            obtain ⟨n, ds, rfl, e2, e3⟩ := b
            exact cr_lst.mpr ⟨n, ds, rfl, (hE.own i n hi a).1, e2, e3.go (fun _ _ _ q => q) fun _ _ z => .inl z⟩
          | _ => exact CR.go (X := XO mt Y envD) (fun _ _ _ q => q) (fun _ _ z => Or.inl z) (show CR S _ _ d from b)
        · exact (c hi).go (fun _ _ _ q => q) fun _ _ z => Or.inl z
  · exact sim_mono (vE_ok hC e h hE) fun _ _ _ _ q => q.1.go (fun _ _ _ q => q) fun _ _ z => Or.inl z
theorem src_ok (hC : CtxOk C C') {es : Es} (h : srcOk mt tc es = true) (hE : ER S mt Y env envD) :
    Sim S (fun S' vs ds => CBs S' (XO mt Y envD) vs ds ∧ ∀ n, ds = [.loc n] → (¬ XO mt Y envD n ∨ ∃ i, i ∈ mt ∧ i ∉ tc ∧ envD[i]? = some (some (.loc n)))) (vEs C es env) (evEs C' es envD) := by
  have other : okEs mt es = true → Sim S (fun S' vs ds => CBs S' (XO mt Y envD) vs ds ∧ ∀ n, ds = [.loc n] → (¬ XO mt Y envD n ∨ ∃ i, i ∈ mt ∧ i ∉ tc ∧ envD[i]? = some (some (.loc n)))) (vEs C es env) (evEs C' es envD) := fun h =>
    sim_mono (vEs_ok hC es h hE) fun S' vs ds k q => ⟨q.b, fun n e => by
      subst e
      match vs, q with
      | [], q => exact nomatch q.nilE
      | v :: r, q =>
        obtain ⟨d, r', e, c, _⟩ := q.consE
        cases e
        cases v with
        | lst us => obtain ⟨m, es, e, g, _⟩ := cr_lst.mp c; cases e; exact .inl g
        | tup vs => obtain ⟨ds, e, _⟩ := cr_tup.mp c; cases e
        | non => cases cr_non.mp c
        | bl _ => cases cr_bl.mp c
        | int _ => cases cr_int.mp c
        | str _ => cases cr_str.mp c
        | loc _ => exact (cr_loc c).elim
        | dct _ _ => exact (cr_dct c).elim⟩
  match es, h, other with
  | .cons (.v i) .nil, h, other =>
    by_cases hi : i ∈ mt
    · have hb : okBs mt (.cons (.v i) .nil) = true := rfl
      have ht : i ∉ tc := by
        simp only [srcOk, Bool.or_eq_true] at h
        rcases h with h | h
        · exact (no_in h hi).elim
        · simpa using h
      rw [vEs, evEs, vEs, evEs]
      rw [vE, evE]
      cases q : env[i]? with
      | none => trivial
      | some o =>
        cases o with
        | none => trivial
        | some v =>
          obtain ⟨d, a, b, c⟩ := hE.val i v q
          rw [a]
          refine sim_ret ⟨⟨d, [], rfl, b, rfl⟩, fun n e => ?_⟩
          cases e
          exact .inr ⟨i, hi, ht, a⟩
    · exact other (by simp [okEs, okE, hi])
  | .nil, h, other => exact other h
  | .cons (.c _) r, h, other => exact other (by simpa only [srcOk] using h)
  | .cons (.v i) (.cons _ _), h, other => exact other (by simpa only [srcOk] using h)
  | .cons (.g _) r, h, other => exact other (by simpa only [srcOk] using h)
  | .cons (.bin _ _ _) r, h, other => exact other (by simpa only [srcOk] using h)
  | .cons (.neg _) r, h, other => exact other (by simpa only [srcOk] using h)
  | .cons (.cmp _ _ _) r, h, other => exact other (by simpa only [srcOk] using h)
  | .cons (.cmp3 _ _ _ _ _) r, h, other => exact other (by simpa only [srcOk] using h)
  | .cons (.tr _) r, h, other => exact other (by simpa only [srcOk] using h)
  | .cons (.not _) r, h, other => exact other (by simpa only [srcOk] using h)
  | .cons (.and _ _) r, h, other => exact other (by simpa only [srcOk] using h)
  | .cons (.or _ _) r, h, other => exact other (by simpa only [srcOk] using h)
  | .cons (.vand _ _) r, h, other => exact other (by simpa only [srcOk] using h)
  | .cons (.vor _ _) r, h, other => exact other (by simpa only [srcOk] using h)
  | .cons (.ite _ _ _) r, h, other => exact other (by simpa only [srcOk] using h)
  | .cons (.tup _) r, h, other => exact other (by simpa only [srcOk] using h)
  | .cons (.lst _) r, h, other => exact other (by simpa only [srcOk] using h)
  | .cons (.idx _ _) r, h, other => exact other (by simpa only [srcOk] using h)
  | .cons (.slc0 _) r, h, other => exact other (by simpa only [srcOk] using h)
  | .cons (.slcL _ _) r, h, other => exact other (by simpa only [srcOk] using h)
  | .cons (.slcH _ _) r, h, other => exact other (by simpa only [srcOk] using h)
  | .cons (.slcB _ _ _) r, h, other => exact other (by simpa only [srcOk] using h)
  | .cons (.call _ _) r, h, other => exact other (by simpa only [srcOk] using h)
  | .cons (.bi _ _) r, h, other => exact other (by simpa only [srcOk] using h)
  | .cons (.meth _ _ _) r, h, other => exact other (by simpa only [srcOk] using h)
  | .cons (.comp _ _ _ _ _ _) r, h, other => exact other (by simpa only [srcOk] using h)
end
end Mn
/-! Mn by value: statements and defs, the theorems. -/
namespace Mn
open PySem L2
section
variable {C : CV} {C' : Ctx} {mt tc tc' : List Nat} {Y : Nat → Prop} {S S0 S1 S' : Store} {env envD e0 e1 e2 : Nv} {X : Nat → Prop}
theorem fm_set {i : Nat} {x : Option D} (hi : i ∉ mt) (ht : i ∈ tc) : Fm S S mt tc envD (envD.set i x) :=
  ⟨Nat.le_refl _, fun _ _ _ q => q, fun j n hj _ z => by rw [List.getElem?_set_ne (ne_mem hi hj)] at z; exact z, fun j hj => List.getElem?_set_ne fun (z : i = j) => hj (z ▸ ht)⟩
theorem zs_pure {α : Type} {a : α} {r : Rv (Flow × Nv)} {g : α → M (Flow × Nv)} (h : SS mt Y tc S0 e0 S r (g a)) : SS mt Y tc S0 e0 S r ((M.ret a).bind g) := by
  cases r with
  | bad => trivial
  | exc x => show wpx _ _ _ _; rw [wpx_bind, wpx_ret]; exact h
  | ok x => show wpx _ _ _ _; rw [wpx_bind, wpx_ret]; exact h
/-- the statements that are no changes -/
theorem vS_set (hC : CtxOk C C') {p : Pat} {e : E} (h : (okE mt e && (noP mt p || nmF p e)) = true) (ht : ∀ i ∈ tcP p, i ∈ tc) (hE : ER S mt Y env envD) :
    SS mt Y tc S envD S ((vE C e env).bind fun d => (vP p d env).bind fun env' => .ok (.nx, env')) (M.bind (evE C' e envD) fun d => M.bind (evP C' p d envD) fun env' => M.ret (.nx, env')) := by
  rw [Bool.and_eq_true, Bool.or_eq_true] at h
  by_cases hp : noP mt p = true
  · refine zs_e (vE_ok hC e h.1 hE) .refl fun v d S1 k1 f1 q1 => ?_
    refine zs_e (vP_ok p hp q1.1 (hE.kp k1)) f1 fun env1 envD1 S2 k2 f2 po => ?_
    have f := f1.trans (po.fm.mono ht)
    obtain ⟨rfl, E2, _⟩ := po
    exact zs_nx f E2
  · have h2 := h.2.resolve_left hp
    cases p with
    | nm i =>
      have hi : i ∈ mt := by
        simp only [noP, tcP, List.all_cons, List.all_nil, Bool.and_true] at hp
        simpa using hp
      have hf : frsh e = true := h2
      have a := vE_ok (S := S) hC e h.1 hE
      rw [hf] at a
      refine zs_e a .refl fun v d S1 k1 f1 q1 => ?_
      rw [vP, evP, rv_ok]
      obtain ⟨E2, f2⟩ := own_new hi hE k1 q1
      exact zs_pure (zs_nx (f2.mono ht) E2)
    | tup _ => cases h2
    | sub _ _ => cases h2
mutual
theorem vS_ok (hC : CtxOk C C') : ∀ (s : Sm) {tc : List Nat} {S : Store} {env envD : Nv}, okS mt s = true → (∀ i ∈ tcS s, i ∈ tc) → ER S mt Y env envD → SS mt Y tc S envD S (vS C s env) (evS C' s envD)
  | .expr e, tc, S, env, envD, h, ht, hE => by
    rw [vS, evS]
    rw [okS] at h
    rw [tcS] at ht
    rcases kind_expr' (e := e) with ⟨b, i, es, hk⟩ | hk
    · obtain ⟨rfl, hb⟩ := kind_expr hk
      simp only [hk] at h ht ⊢
      exact zs_mth hC hb h (ht i (by simp)) hE fun r env' d S' f E' c => zs_nx f E'
    · simp only [hk] at h ⊢
      exact zs_e (vB_of h hE fun z => vE_ok hC e z hE) .refl fun v d S1 k1 f1 q1 => zs_nx f1 (hE.kp k1)
  | .set p e, tc, S, env, envD, h, ht, hE => by
    rw [vS, evS]
    rw [okS] at h
    rw [tcS] at ht
    rcases kind_set (p := p) (e := e) with ⟨j, b, i, es, rfl, rfl, hb, hk⟩ | ⟨i, k, rfl, hk⟩ | hk
    · simp only [hk] at h ht ⊢
      rw [Bool.and_eq_true] at h
      have hj := no_in h.2
      refine zs_mth hC hb h.1 (ht i (by simp)) hE fun r env' d S' f E' c => ?_
      rw [evP]
      exact zs_pure (zs_nx (f.trans (fm_set hj (ht j (by simp)))) (E'.set hj c))
    · simp only [hk] at h ht ⊢
      rw [Bool.and_eq_true, Bool.and_eq_true] at h
      obtain ⟨⟨h1, h2⟩, h3⟩ := h
      have hi : i ∈ mt := by simpa using h1
      refine zs_e (vE_ok hC e h3 hE) .refl fun v d S1 k1 f1 q1 => ?_
      have E1 := hE.kp k1
      cases q : lstAt env i with
      | bad => trivial
      | exc x => unfold lstAt at q; split at q <;> cases q
      | ok xs =>
        obtain ⟨n, ds, g1, g2, g3, g4⟩ := lstAt_ok E1 hi q
        rw [rv_ok, evP]
        have ev : evE C' (.v i) envD = M.ret (.loc n) := by rw [evE, g1]
        rw [ev]
        have pre : ∀ {r : Rv (Flow × Nv)} {G : D → M Nv} {F : Nv → M (Flow × Nv)}, SS mt Y tc S envD S1 r (M.bind (G (.loc n)) F) → SS mt Y tc S envD S1 r (M.bind (M.bind (M.ret (.loc n)) G) F) := by
          intro r G F h
          cases r with
          | bad => trivial
          | exc x => show wpx _ _ _ _; rw [wpx_bind, wpx_bind, wpx_ret]; exact wpx_bind.mp h
          | ok x => show wpx _ _ _ _; rw [wpx_bind, wpx_bind, wpx_ret]; exact wpx_bind.mp h
        refine pre ?_
        have assoc : ∀ {α β γ : Type} {m : M α} {f : α → M β} {g : β → M γ}, M.bind (M.bind m f) g = M.bind m fun a => M.bind (f a) g := by
          intro α β γ m f g
          funext S
          unfold M.bind
          cases m S <;> rfl
        rw [assoc]
        refine zs_e (vB_of h2 E1 fun z => vE_ok hC k z E1) f1 fun y z S2 k2 f2 q2 => ?_
        cases y with
        | int j =>
          cases cb_int.mp q2
          show SS mt Y tc S envD S2 ((optV (ixN xs.length j)).bind fun j => .ok (.nx, env.set i (some (.lst (xs.set j v))))) _
          cases qi : ixN xs.length j with
          | none => trivial
          | some j' =>
            show wpx _ _ _ _
            rw [wpx_bind]
            show wpx (M.bind (owL n) _) _ _ _
            have g3' := g3.kp k2
            rw [wpx_bind, p_owL (k2.keep _ _ g2), ← g3.length, qi, wpx_bind, wpx_opt_some, wpx_bind, x_wrL, wpx_ret, wpx_ret]
            exact ⟨f2.trans ((fm_mut hi g1).mono (by intro a ha; exact ht a ha)), own_mut hi (E1.kp k2) g1 g4 (g3'.set j' (q1.1.kp k2))⟩
        | _ => trivial
    · simp only [hk] at h ht ⊢
      exact vS_set hC h ht hE
  | .par i j a b, tc, S, env, envD, h, ht, hE => by
    rw [okS, Bool.and_eq_true, Bool.and_eq_true, Bool.and_eq_true] at h
    rw [tcS] at ht
    rw [vS, evS]
    obtain ⟨⟨⟨h1, h2⟩, h3⟩, h4⟩ := h
    have hi := no_in h3
    have hj := no_in h4
    refine zs_e (vE_ok hC a h1 hE) .refl fun v d S1 k1 f1 q1 => ?_
    refine zs_e (vE_ok hC b h2 (hE.kp k1)) f1 fun w e S2 k2 f2 q2 => ?_
    have E2 := ((hE.kp k1).kp k2).set hi (q1.1.kp k2)
    have c2 : CR S2 (XO mt Y (envD.set i (some d))) w e := by rw [XO.set hi]; exact q2.1
    exact zs_nx ((f2.trans (fm_set hi (ht i (by simp)))).trans (fm_set hj (ht j (by simp)))) (E2.set hj c2)
  | .aug i o e, tc, S, env, envD, h, ht, hE => by
    rw [okS, Bool.and_eq_true] at h
    rw [tcS] at ht
    have hi := no_in h.2
    rw [vS, evS]
    cases q : env[i]? with
    | none => trivial
    | some x =>
      cases x with
      | none => trivial
      | some x =>
        obtain ⟨d, a, c, _⟩ := hE.val i x q
        rw [a]
        refine zs_e (vB_of h.1 hE fun z => vE_ok hC e z hE) .refl fun v y S1 k1 f1 q1 => ?_
        refine zs_e (aug_ok (b := false) (c.kp k1) q1) f1 fun w z S2 k2 f2 q2 => ?_
        exact zs_nx (f2.trans (fm_set hi (ht i (by simp)))) (((hE.kp k1).kp k2).set hi q2.1)
  | .ret e, tc, S, env, envD, h, ht, hE => by
    rw [okS] at h
    rw [vS, evS]
    exact zs_e (ret_val hC h hE) .refl fun v d S1 k1 f1 q1 => zs_ret ⟨f1, q1⟩
  | .ife c a b, tc, S, env, envD, h, ht, hE => by
    rw [okS, Bool.and_eq_true, Bool.and_eq_true] at h
    rw [tcS] at ht
    rw [vS, evS]
    refine zs_e (vB_of h.1.1 hE fun z => vE_ok hC c z hE) .refl fun v d S1 k1 f1 q1 => ?_
    refine zs_e (asB_ok q1) f1 fun i j S2 k2 f2 q2 => ?_
    subst q2
    have E2 := (hE.kp k1).kp k2
    cases i with
    | true => exact zs_base f2 (vSs_ok hC a h.1.2 (mem_sub ht).1 E2)
    | false => exact zs_base f2 (vSs_ok hC b h.2 (mem_sub ht).2 E2)
  | .whl c b, tc, S, env, envD, h, ht, hE => by
    rw [okS, Bool.and_eq_true] at h
    rw [tcS] at ht
    rw [vS, evS]
    exact whileV_ok (fun env envD S hE => vB_of h.1 hE fun z => vE_ok hC c z hE) (fun env envD S hE => vSs_ok hC b h.2 ht hE) FUEL env envD S .refl hE
  | .fr p k es b, tc, S, env, envD, h, ht, hE => by
    rw [okS, Bool.and_eq_true, Bool.and_eq_true] at h
    rw [tcS] at ht
    rw [vS, evS]
    obtain ⟨⟨h1, h2⟩, h3⟩ := h
    refine zs_e (src_ok hC h1 hE) .refl fun xs ds S1 k1 f1 ⟨q1, s1⟩ => ?_
    refine zs_e (items_ok q1) f1 fun items J S2 k2 f2 ⟨es', c2, it2, l2⟩ => ?_
    unfold lenOk
    by_cases hlen : items.length ≤ 2000000000
    rotate_left
    · rw [decide_eq_false hlen]; trivial
    rw [decide_eq_true hlen, gv_true, rv_ok]
    have E2 := (hE.kp k1).kp k2
    have h := forV_ok (C' := C') (S0 := S) (e0 := envD) (Y := Y) (p := p) (b := vSs C b) (bD := evSs C' b) (tb := tcSs b) (tc := tc) h2 ht (fun env envD S hE => vSs_ok hC b h3 (fun i hi => hi) hE) es'.length 0 FUEL env envD S2 rfl (Nat.zero_le _) (by rw [← c2.length]; unfold FUEL; omega) f2 E2 c2 it2 (fun n hn => ⟨(l2 n hn).2, s1 n (l2 n hn).1⟩)
    rw [List.drop_zero] at h
    exact h
  | .brk, tc, S, env, envD, h, ht, hE => zs_ret ⟨.refl, hE⟩
  | .cnt, tc, S, env, envD, h, ht, hE => zs_ret ⟨.refl, hE⟩
  | .pass, tc, S, env, envD, h, ht, hE => zs_ret ⟨.refl, hE⟩
theorem vSs_ok (hC : CtxOk C C') : ∀ (s : Sms) {tc : List Nat} {S : Store} {env envD : Nv}, okSs mt s = true → (∀ i ∈ tcSs s, i ∈ tc) → ER S mt Y env envD → SS mt Y tc S envD S (vSs C s env) (evSs C' s envD)
  | .nil, tc, S, env, envD, h, ht, hE => by rw [vSs, evSs]; exact zs_nx .refl hE
  | .cons s r, tc, S, env, envD, h, ht, hE => by
    rw [okSs, Bool.and_eq_true] at h
    rw [tcSs] at ht
    rw [vSs, evSs]
    refine zs_bind (vS_ok hC s h.1 (mem_sub ht).1 hE) .refl fun q q' S1 f1 h1 => ?_
    obtain ⟨fl, e3⟩ := q
    obtain ⟨fl', e3'⟩ := q'
    obtain ⟨g1, g2⟩ := h1
    cases fl <;> cases fl' <;> first | exact g2.elim | skip
    · exact zs_base f1 (vSs_ok hC r h.2 (mem_sub ht).2 g2)
    · exact zs_ret ⟨f1, g2⟩
    · exact zs_ret ⟨f1, g2⟩
    · exact zs_ret ⟨f1, g2⟩
end
end
/-! ### defs -/
section
variable {defs : List (Str × Def)} {glob : Str → Option D}
theorem start_er {d : Def} {vs ds : List D} {S : Store} {X : Nat → Prop} (hX : ∀ n, X n → n < S.length) (h : CRs S X vs ds) (hm : ∀ i ∈ mtSs d.body, vs.length ≤ i) : ER S (mtSs d.body) X (startD d.slots vs) (startD d.slots ds) := by
  have get : ∀ {us : List D} {i : Nat} {v : D}, (startD d.slots us)[i]? = some (some v) ↔ us[i]? = some v := by
    intro us i v
    unfold startD
    rw [List.getElem?_append, List.length_map]
    split
    · rw [List.getElem?_map]
      cases us[i]? <;> simp
    · rename_i hi
      rw [List.getElem?_replicate]
      constructor
      · intro z; split at z <;> cases z
      · intro z; have := (List.getElem?_eq_some_iff.mp z).1; omega
  have no : ∀ i n, i ∈ mtSs d.body → (startD d.slots ds)[i]? = some (some (.loc n)) → False := fun i n hi z => by
    have := (List.getElem?_eq_some_iff.mp (get.mp z)).1
    have := hm i hi
    rw [h.length] at this
    omega
  have xo : ∀ n, XO (mtSs d.body) X (startD d.slots ds) n → X n := fun n z => z.elim id fun ⟨i, a, b⟩ => (no i n a b).elim
  refine ⟨?_, fun i v e => ?_, fun i n a b => (no i n a b).elim, fun i j n a b e f => (no i n a e).elim, hX⟩
  · unfold startD; simp [h.length]
  · obtain ⟨e2, a, b⟩ := h.at (get.mp e)
    have b' := b.go (S' := S) (X' := XO (mtSs d.body) X (startD d.slots ds)) (fun _ _ _ q => q) fun n _ z => xo n z
    exact ⟨e2, get.mpr a, b'.b, fun _ => b'⟩
theorem ctx_ok (hg : ∀ x d, glob x = some d → plain d = true) : ∀ n, CtxOk ⟨glob, callV defs glob n⟩ ⟨glob, callN defs glob n⟩ := by
  intro n
  induction n with
  | zero => exact ⟨rfl, hg, fun f vs ds S X _ _ => trivial⟩
  | succ n ih =>
    refine ⟨rfl, hg, fun f vs ds S X hX h => ?_⟩
    show Sim S _ (callV defs glob (n + 1) f vs) (callN defs glob (n + 1) f ds)
    unfold callV callN
    cases hd : defs.lookup f with
    | none => trivial
    | some d =>
      simp only []
      unfold callD
      by_cases hk : okD d = true ∧ vs.length = d.arity
      · obtain ⟨h1, h2⟩ := hk
        have e1 : (okD d && vs.length == d.arity) = true := by rw [h1, h2]; simp
        rw [e1, gv_true, rv_ok]
        unfold okD at h1
        rw [Bool.and_eq_true] at h1
        have hm : ∀ i ∈ mtSs d.body, vs.length ≤ i := fun i hi => by
          have := List.all_eq_true.mp h1.2 i hi
          rw [h2]; simpa using this
        refine sim_pre (b := ()) (fun P E => by rw [wpx_guard]; exact ⟨fun z => z.2, fun z => ⟨by rw [← h.length, h2]; simp, z⟩⟩) ?_
        have E0 := start_er hX h hm
        have hs := vSs_ok ih d.body h1.1 (fun i hi => hi) E0
        have no : ∀ i n, i ∈ mtSs d.body → (startD d.slots ds)[i]? ≠ some (some (.loc n)) := fun i n hi z => by
          unfold startD at z
          have := hm i hi
          rw [List.getElem?_append_right (by rw [List.length_map, ← h.length]; exact this), List.getElem?_replicate] at z
          split at z <;> cases z
        have kp : ∀ {S' : Store} {e' : Nv}, Fm S S' (mtSs d.body) (tcSs d.body) (startD d.slots ds) e' → Kp S S' := fun f => ⟨f.len, fun n c q => f.keep n c (fun i hi _ => no i n hi) q⟩
        cases r : vSs ⟨glob, callV defs glob n⟩ d.body (startD d.slots vs) with
        | bad => trivial
        | exc x =>
          rw [r] at hs
          show wpx _ _ _ _
          rw [wpx_bind]
          exact wpx_mono (show wpx _ _ _ _ from hs) (fun _ _ z => z.elim) fun _ _ ⟨a, e', f⟩ => ⟨kp f, a⟩
        | ok q =>
          rw [r] at hs
          have hs : wpx (evSs ⟨glob, callN defs glob n⟩ d.body (startD d.slots ds)) (FS (mtSs d.body) X (tcSs d.body) S (startD d.slots ds) q) E0x S := hs
          obtain ⟨fl, e⟩ := q
          rw [rv_ok]
          have fin : ∀ {v : D}, (∀ q' S', FS (mtSs d.body) X (tcSs d.body) S (startD d.slots ds) (fl, e) q' S' → wpx (retOf q') (fun d S'' => Kp S S'' ∧ CR S'' X v d) E0x S') → Sim S (fun S' v d => CR S' X v d) (.ok v) (M.bind (evSs ⟨glob, callN defs glob n⟩ d.body (startD d.slots ds)) retOf) := by
            intro v k
            show wpx _ _ _ _
            rw [wpx_bind]
            exact wpx_of_wp hs k
          cases fl with
          | nx =>
            refine fin fun q' S' ⟨f, z⟩ => ?_
            obtain ⟨fl', e'⟩ := q'
            cases fl' <;> first | exact z.elim | skip
            exact ⟨kp f, cr_non.mpr rfl⟩
          | rt v =>
            refine fin fun q' S' ⟨f, z⟩ => ?_
            obtain ⟨fl', e'⟩ := q'
            cases fl' <;> first | exact z.elim | skip
            exact ⟨kp f, z⟩
          | bk => trivial
          | ct => trivial
      · have e1 : (okD d && vs.length == d.arity) = false := by
          cases a : okD d with
          | false => rfl
          | true =>
            cases b : vs.length == d.arity with
            | false => rfl
            | true => exact (hk ⟨a, by simpa using b⟩).elim
        rw [e1]
        trivial
/-- a call by value, of values, gives a value: it is what the store's call gives -/
theorem of_callV {n : Nat} {f : Str} {ds : List D} {v : D} {S : Store} (hg : ∀ x d, glob x = some d → plain d = true) (h : callV defs glob n f ds = .ok v) (hd : plains ds = true) (hv : plain v = true) : wp (callN defs glob n f ds) (fun d S' => d = v ∧ Kp S S') S := by
  have := (ctx_ok (defs := defs) hg n).call f ds ds S (fun _ => False) (fun _ z => z.elim) ((crs_plain hd).mpr rfl)
  rw [show (CV.call ⟨glob, callV defs glob n⟩ f ds) = .ok v from h] at this
  exact wp_mono (show wpx _ _ _ _ from this) fun d S' ⟨k, c⟩ => ⟨(cr_plain hv).mp c, k⟩
end
end Mn
/-! Mn by value: rules to run with. -/
namespace Mn
open PySem L2 PyProof.Rows PySem.StrLaws
section
variable {i j : Int} {x y : Str} {xs ys : List D} {n m : Nat} {d e : D} {b : Bool}
theorem y_addI : binV .add (.int i) (.int j) = .ok (.int (i + j)) := Eq.trans rfl rfl
theorem y_addS : binV .add (.str x) (.str y) = (guardV (ok2 (x.length + y.length))).bind fun _ => .ok (.str (x ++ y)) := Eq.trans rfl rfl
theorem y_addT : binV .add (.tup xs) (.tup ys) = (guardV (ok2 (xs ++ ys).length)).bind fun _ => .ok (.tup (xs ++ ys)) := Eq.trans rfl rfl
theorem y_addL : binV .add (.lst xs) (.lst ys) = (guardV (ok2 (xs ++ ys).length)).bind fun _ => .ok (.lst (xs ++ ys)) := Eq.trans rfl rfl
theorem y_sub : binV .sub (.int i) (.int j) = .ok (.int (i - j)) := Eq.trans rfl rfl
theorem y_mulT : binV .mul (.tup xs) (.int j) = (guardV (!xs.isEmpty && decide (2 ≤ j) && decide (j ≤ 1000) && decide (xs.length ≤ 1000))).bind fun _ => .ok (.tup (rep xs j.toNat)) := Eq.trans rfl rfl
theorem y_mulL : binV .mul (.lst xs) (.int j) = (guardV (decide (-(2 ^ 63) ≤ j) && decide (j < 2 ^ 63) && ok2 (xs.length * j.toNat))).bind fun _ => .ok (.lst (rep xs j.toNat)) := Eq.trans rfl rfl
theorem y_mul : binV .mul (.int i) (.int j) = (guardV (cMul i j)).bind fun _ => .ok (.int (i * j)) := Eq.trans rfl rfl
theorem y_eqStr : eqV (.str x) (.str y) = .ok (x == y) := by unfold eqV; simp [pyL, py, fitEq, isStrD, PyData.eqv]
theorem y_eqInt : eqV (.int i) (.int j) = .ok (i == j) := by unfold eqV; simp [pyL, py, fitEq, isStrD, PyData.eqv, PyData.canLay0, PyData.depth]
theorem y_eqBl {c : Bool} : eqV (.bl b) (.bl c) = .ok (b == c) := by unfold eqV; simp [pyL, py, fitEq, isStrD, PyData.eqv, PyData.canLay0, PyData.depth]
theorem y_eq : cmpV .eq d e = eqV d e := Eq.trans rfl rfl
theorem y_ne : cmpV .ne d e = (eqV d e).bind fun b => .ok (!b) := Eq.trans rfl rfl
theorem y_ltI : cmpV .lt (.int i) (.int j) = .ok (decide (i < j)) := Eq.trans rfl rfl
theorem y_lt : cmpV .lt d e = optV (ltD 100 d e) := Eq.trans rfl rfl
theorem y_gt : cmpV .gt (.int i) (.int j) = .ok (decide (j < i)) := Eq.trans rfl rfl
theorem y_le : cmpV .le (.int i) (.int j) = .ok (decide (i ≤ j)) := Eq.trans rfl rfl
theorem y_ge : cmpV .ge (.int i) (.int j) = .ok (decide (j ≤ i)) := Eq.trans rfl rfl
theorem y_inn : cmpV .inn d e = inV d e := Eq.trans rfl rfl
theorem y_nin : cmpV .nin d e = (inV d e).bind fun b => .ok (!b) := Eq.trans rfl rfl
theorem y_isnN : cmpV .isn .non .non = .ok true := Eq.trans rfl rfl
theorem y_isnB : cmpV .isn (.bl b) .non = .ok false := Eq.trans rfl rfl
theorem y_isnI : cmpV .isn (.int i) .non = .ok false := Eq.trans rfl rfl
theorem y_isnS : cmpV .isn (.str x) .non = .ok false := Eq.trans rfl rfl
theorem y_isnT : cmpV .isn (.tup xs) .non = .ok false := Eq.trans rfl rfl
theorem y_isnL : cmpV .isn (.lst xs) .non = .ok false := Eq.trans rfl rfl
theorem y_isnnN : cmpV .isnn .non .non = .ok false := Eq.trans rfl rfl
theorem y_isnnB : cmpV .isnn (.bl b) .non = .ok true := Eq.trans rfl rfl
theorem y_isnnI : cmpV .isnn (.int i) .non = .ok true := Eq.trans rfl rfl
theorem y_isnnS : cmpV .isnn (.str x) .non = .ok true := Eq.trans rfl rfl
theorem y_isnnT : cmpV .isnn (.tup xs) .non = .ok true := Eq.trans rfl rfl
theorem y_isnnL : cmpV .isnn (.lst xs) .non = .ok true := Eq.trans rfl rfl
theorem y_inT : inV d (.tup ys) = optV (inAll d ys) := by cases d <;> rfl
theorem y_inL : inV d (.lst ys) = optV (inAll d ys) := by cases d <;> rfl
theorem y_inS : inV (.str x) (.str y) = .ok (!(Builtin.Str.occurrences y x 0 y.length 1).isEmpty) := Eq.trans rfl rfl
theorem y_idxT : idxV (.tup xs) (.int i) = optV (atI xs i) := Eq.trans rfl rfl
theorem y_idxL : idxV (.lst xs) (.int i) = optV (atI xs i) := Eq.trans rfl rfl
theorem y_idxS : idxV (.str x) (.int i) = (guardV (ok2 x.length)).bind fun _ => optV ((atI x.cps.toList i).map fun c => .str ⟨#[c]⟩) := Eq.trans rfl rfl
theorem y_slcT {lo hi : Option Int} : slcV (.tup xs) lo hi = .ok (.tup (cutD xs lo hi)) := Eq.trans rfl rfl
theorem y_slcL {lo hi : Option Int} : slcV (.lst xs) lo hi = .ok (.lst (cutD xs lo hi)) := Eq.trans rfl rfl
theorem y_slcS {lo hi : Option Int} : slcV (.str x) lo hi = (guardV (ok2 x.length)).bind fun _ => .ok (.str (cutS x lo hi)) := Eq.trans rfl rfl
theorem y_lenS : biV .len [.str x] = (guardV (ok2 x.length)).bind fun _ => .ok (.int x.length) := Eq.trans rfl rfl
theorem y_lenT : biV .len [.tup xs] = .ok (.int xs.length) := Eq.trans rfl rfl
theorem y_lenL : biV .len [.lst xs] = .ok (.int xs.length) := Eq.trans rfl rfl
theorem y_int : biV .int [.int i] = .ok (.int i) := Eq.trans rfl rfl
theorem y_intB : biV .int [.bl b] = .ok (.int (if b then 1 else 0)) := Eq.trans rfl rfl
theorem y_abs : biV .abs [.int i] = .ok (.int (if i < 0 then -i else i)) := Eq.trans rfl rfl
theorem y_max2 : biV .max2 [.int i, .int j] = .ok (.int (if j > i then j else i)) := Eq.trans rfl rfl
theorem y_min2 : biV .min2 [.int i, .int j] = .ok (.int (if j < i then j else i)) := Eq.trans rfl rfl
theorem y_max1 : biV .max1 [.lst xs] = (optV (intsD xs)).bind fun is => (guardV (!is.isEmpty)).bind fun _ => .ok (.int (maxI is)) := Eq.trans rfl rfl
theorem y_sum : biV .sum [.lst xs] = (optV (intsD xs)).bind fun is => .ok (.int is.sum) := Eq.trans rfl rfl
theorem y_listT : biV .list [.tup xs] = .ok (.lst xs) := Eq.trans rfl rfl
theorem y_listL : biV .list [.lst xs] = .ok (.lst xs) := Eq.trans rfl rfl
theorem y_tupT : biV .tuple [.tup xs] = .ok (.tup xs) := Eq.trans rfl rfl
theorem y_tupL : biV .tuple [.lst xs] = .ok (.tup xs) := Eq.trans rfl rfl
theorem y_strI : biV .str [.int i] = (guardV (decide (i.natAbs.log2 < 1920))).bind fun _ => .ok (.str (toString i)) := Eq.trans rfl rfl
theorem y_all : biV .all [.lst xs] = (optV (boolsD xs)).bind fun bs => .ok (.bl (bs.all id)) := Eq.trans rfl rfl
theorem y_any : biV .any [.lst xs] = (optV (boolsD xs)).bind fun bs => .ok (.bl (bs.any id)) := Eq.trans rfl rfl
theorem y_split : biV .split [.str x, .str y] = (guardV (!(y.length == 0) && decide (x.length + 2 ≤ sizeLine))).bind fun _ => .ok (.lst ((Txt.split x y).map .str)) := Eq.trans rfl rfl
theorem y_starts : biV .startswith [.str x, .str y] = .ok (.bl (Txt.startswith x y)) := Eq.trans rfl rfl
theorem y_joinL : biV .join [.str x, .lst xs] = (optV (strsD xs)).bind fun ys => (guardV (decide (lenJ x ys ≤ 16777216))).bind fun _ => .ok (.str (Txt.join x ys)) := Eq.trans rfl rfl
theorem y_reprB : biV .repr [.bl b] = .ok (.str (if b then "True" else "False")) := Eq.trans rfl rfl
theorem y_rcS : recvV .split (.str x) = .ok () := Eq.trans rfl rfl
theorem y_rcW : recvV .startswith (.str x) = .ok () := Eq.trans rfl rfl
theorem y_rcJ : recvV .join (.str x) = .ok () := Eq.trans rfl rfl
theorem y_asB : asBV (.bl b) = .ok b := Eq.trans rfl rfl
theorem y_asI : asIV (.int i) = .ok i := Eq.trans rfl rfl
theorem y_trN : truV .non = .ok false := Eq.trans rfl rfl
theorem y_trB : truV (.bl b) = .ok b := Eq.trans rfl rfl
theorem y_trI : truV (.int i) = .ok (i != 0) := Eq.trans rfl rfl
theorem y_trT : truV (.tup xs) = .ok (!xs.isEmpty) := Eq.trans rfl rfl
theorem y_trL : truV (.lst xs) = .ok (!xs.isEmpty) := Eq.trans rfl rfl
theorem y_itT : itemsV .seq [.tup xs] = .ok xs := Eq.trans rfl rfl
theorem y_itL : itemsV .seq [.lst xs] = .ok xs := Eq.trans rfl rfl
theorem y_itS : itemsV .seq [.str x] = .ok (strItems x) := Eq.trans rfl rfl
theorem y_itRL : itemsV .rev [.lst xs] = .ok xs.reverse := Eq.trans rfl rfl
theorem y_itRT : itemsV .rev [.tup xs] = .ok xs.reverse := Eq.trans rfl rfl
theorem y_it1 (h0 : 0 ≤ i) (h1 : i ≤ 1000000000) : itemsV .rng1 [.int i] = .ok (rngD 0 i.toNat) := by
  show (guardV (decide (-(2 ^ 62) ≤ i) && decide (i < 2 ^ 62))).bind _ = _
  have : (decide (-(2 ^ 62) ≤ i) && decide (i < 2 ^ 62)) = true := by simp; omega
  rw [this]; rfl
theorem y_it2 (h0 : 0 ≤ i) (h1 : i ≤ 1000000000) (h2 : 0 ≤ j) (h3 : j ≤ 1000000000) : itemsV .rng2 [.int i, .int j] = .ok (rngD i (j - i).toNat) := by
  show (guardV (decide (-(2 ^ 62) ≤ i) && decide (i < 2 ^ 62) && decide (-(2 ^ 62) ≤ j) && decide (j < 2 ^ 62))).bind _ = _
  have : (decide (-(2 ^ 62) ≤ i) && decide (i < 2 ^ 62) && decide (-(2 ^ 62) ≤ j) && decide (j < 2 ^ 62)) = true := by simp; omega
  rw [this]; rfl
theorem y_len {xs : List D} (h : xs.length ≤ 2000000000) : lenOk xs = .ok () := by unfold lenOk; rw [decide_eq_true h]; rfl
theorem y_ok2 (h : n ≤ 16777216) : guardV (ok2 n) = .ok () := by unfold ok2; rw [decide_eq_true (show n ≤ sizeLine from h)]; rfl
theorem y_lstAt {env : Nv} {i : Nat} (h : env[i]? = some (some (.lst xs))) : lstAt env i = .ok xs := by unfold lstAt; rw [h]
theorem y_app : mutV .append xs [d] = (guardV (decide (xs.length < sizeLine))).bind fun _ => .ok (.non, xs ++ [d]) := Eq.trans rfl rfl
theorem y_ext : mutV .extend xs [.lst ys] = (guardV (ok2 (xs.length + ys.length))).bind fun _ => .ok (.non, xs ++ ys) := Eq.trans rfl rfl
theorem y_lt16 (h : n < 16777216) : guardV (decide (n < sizeLine)) = .ok () := by rw [decide_eq_true (show n < sizeLine from h)]; rfl
theorem inAll_strs {x : Str} {zs : List Str} : inAll (.str x) (zs.map .str) = some (zs.any (· == x)) := by
  have p2 : ∀ l : List Str, pyAll (l.map D.str) = some (l.map PyData.str) := by
    intro l
    induction l with
    | nil => rfl
    | cons a l ih => rw [List.map_cons, pyAll, ih]; rfl
  have e : (zs.map D.str).all flatD = true := List.all_eq_true.mpr fun y hy => by obtain ⟨z, _, rfl⟩ := List.mem_map.mp hy; rfl
  unfold inAll
  rw [p2]
  show (if (flatD (.str x) && (zs.map D.str).all flatD) || _ then some ((zs.map PyData.str).any fun z => PyData.eqv z (.str x)) else none) = _
  rw [e]
  show some _ = some _
  congr 1
  rw [List.any_map]
  clear e p2
  induction zs with
  | nil => rfl
  | cons z zs ih =>
    rw [List.any_cons, List.any_cons, ih]
    congr 1
theorem lA_0 {xx : Unit} {r : Nv} {xs : List D} : lstAt (some (.lst xs) :: r) 0 = .ok xs := Eq.trans rfl rfl
theorem lA_1 {a0 : Option D} {r : Nv} {xs : List D} : lstAt (a0 :: some (.lst xs) :: r) 1 = .ok xs := Eq.trans rfl rfl
theorem lA_2 {a0 a1 : Option D} {r : Nv} {xs : List D} : lstAt (a0 :: a1 :: some (.lst xs) :: r) 2 = .ok xs := Eq.trans rfl rfl
theorem lA_3 {a0 a1 a2 : Option D} {r : Nv} {xs : List D} : lstAt (a0 :: a1 :: a2 :: some (.lst xs) :: r) 3 = .ok xs := Eq.trans rfl rfl
theorem lA_4 {a0 a1 a2 a3 : Option D} {r : Nv} {xs : List D} : lstAt (a0 :: a1 :: a2 :: a3 :: some (.lst xs) :: r) 4 = .ok xs := Eq.trans rfl rfl
theorem lA_5 {a0 a1 a2 a3 a4 : Option D} {r : Nv} {xs : List D} : lstAt (a0 :: a1 :: a2 :: a3 :: a4 :: some (.lst xs) :: r) 5 = .ok xs := Eq.trans rfl rfl
theorem lA_6 {a0 a1 a2 a3 a4 a5 : Option D} {r : Nv} {xs : List D} : lstAt (a0 :: a1 :: a2 :: a3 :: a4 :: a5 :: some (.lst xs) :: r) 6 = .ok xs := Eq.trans rfl rfl
theorem lA_7 {a0 a1 a2 a3 a4 a5 a6 : Option D} {r : Nv} {xs : List D} : lstAt (a0 :: a1 :: a2 :: a3 :: a4 :: a5 :: a6 :: some (.lst xs) :: r) 7 = .ok xs := Eq.trans rfl rfl
theorem lA_8 {a0 a1 a2 a3 a4 a5 a6 a7 : Option D} {r : Nv} {xs : List D} : lstAt (a0 :: a1 :: a2 :: a3 :: a4 :: a5 :: a6 :: a7 :: some (.lst xs) :: r) 8 = .ok xs := Eq.trans rfl rfl
def thenV (C : CV) (r : Sms) (q : Rv (Flow × Nv)) : Rv (Flow × Nv) := q.bind fun q => match q with
  | (.nx, env') => vSs C r env'
  | (f, env') => .ok (f, env')
theorem vs_nil {C : CV} {env : Nv} : vSs C .nil env = .ok (.nx, env) := by rw [vSs]
theorem vs_cons {C : CV} {s : Sm} {r : Sms} {env : Nv} : vSs C (.cons s r) env = thenV C r (vS C s env) := by rw [vSs]; rfl
theorem tv_nx {C : CV} {r : Sms} {env : Nv} : thenV C r (.ok (.nx, env)) = vSs C r env := Eq.trans rfl rfl
theorem tv_rt {C : CV} {r : Sms} {env : Nv} {v : D} : thenV C r (.ok (.rt v, env)) = .ok (.rt v, env) := Eq.trans rfl rfl
theorem tv_bk {C : CV} {r : Sms} {env : Nv} : thenV C r (.ok (.bk, env)) = .ok (.bk, env) := Eq.trans rfl rfl
theorem tv_ct {C : CV} {r : Sms} {env : Nv} : thenV C r (.ok (.ct, env)) = .ok (.ct, env) := Eq.trans rfl rfl
/-- a call by value -/
theorem y_call {defs : List (Str × Def)} {glob : Str → Option D} {n : Nat} {f : Str} {d : Def} {ds : List D} {r : Rv D} (hd : defs.lookup f = some d) (hk : okD d = true) (ha : ds.length = d.arity) (h : (vSs ⟨glob, callV defs glob n⟩ d.body (startD d.slots ds)).bind retV = r) :
    callV defs glob (n + 1) f ds = r := by
  unfold callV
  simp only [hd]
  have : (okD d && ds.length == d.arity) = true := by rw [hk, ha]; simp
  rw [this, gv_true, rv_ok]
  exact h
/-- a comprehension -/
theorem compV_fm {put : D → Nv → Nv} {cond elt : Nv → Rv D} {env : Nv} {p : D → Bool} {f : D → D} : ∀ (items acc : List D), (∀ d ∈ items, cond (put d env) = .ok (.bl (p d))) → (∀ d ∈ items, p d = true → elt (put d env) = .ok (f d)) → acc.length + items.length < 16777216 →
    compV put cond elt env items acc = .ok (acc ++ (items.filter p).map f)
  | [], acc, _, _, _ => by rw [compV]; simp
  | d :: ds, acc, hc, he, hl => by
    rw [compV, hc d (List.mem_cons_self ..), rv_ok, y_asB, rv_ok]
    simp only [List.length_cons] at hl
    have ih := fun a h => compV_fm ds a (fun e h => hc e (List.mem_cons_of_mem _ h)) (fun e h => he e (List.mem_cons_of_mem _ h)) h
    cases hp : p d with
    | true =>
      simp only []
      rw [he d (List.mem_cons_self ..) hp, rv_ok, y_lt16 (by omega), rv_ok, ih _ (by simp; omega), List.filter_cons_of_pos hp]
      simp
    | false =>
      simp only []
      rw [ih _ (by omega), List.filter_cons_of_neg (by simp [hp])]
theorem compV_map {put : D → Nv → Nv} {cond elt : Nv → Rv D} {env : Nv} {f : D → D} {items : List D} (hc : ∀ d ∈ items, cond (put d env) = .ok (.bl true)) (he : ∀ d ∈ items, elt (put d env) = .ok (f d)) (hl : items.length < 16777216) : compV put cond elt env items [] = .ok (items.map f) := by
  rw [compV_fm (p := fun _ => true) items [] hc (fun d h _ => he d h) (by simpa using hl), List.filter_eq_self.mpr (fun _ _ => rfl)]
  rfl
theorem bools_map {xs : List D} {p : D → Bool} : boolsD (xs.map fun d => .bl (p d)) = some (xs.map p) := by
  induction xs with
  | nil => rfl
  | cons x xs ih => rw [List.map_cons, boolsD, ih]; rfl
theorem ints_map {α : Type} {xs : List α} {p : α → Int} : intsD (xs.map fun d => .int (p d)) = some (xs.map p) := by
  induction xs with
  | nil => rfl
  | cons x xs ih => rw [List.map_cons, intsD, ih]; rfl
/-- a char in a text -/
theorem in_one {z : Str} {c : Nat} : inV (.str ⟨#[c]⟩) (.str z) = .ok (decide (c ∈ z.cps.toList)) := by
  rw [y_inS, found_one]
end
end Mn
namespace Mn
open PySem L2
def kvbl  (b : Bool) : Rv D := Rv.ok (.bl b)
theorem g_bl  {b : Bool} : kvbl  b = Rv.ok (.bl b) := Eq.trans rfl rfl
def kvbin (C : CV) (o : BOp) (b : Mn.E) (env : Nv) (x : D) : Rv D := Rv.bind (vE C b env) (binV o x)
theorem g_bin {C : CV} {o : BOp} {b : Mn.E} {env : Nv} {x : D} : kvbin C o b env x = Rv.bind (vE C b env) (binV o x) := Eq.trans rfl rfl
def kvnegi  (i : Int) : Rv D := Rv.ok (.int (-i))
theorem g_negi  {i : Int} : kvnegi  i = Rv.ok (.int (-i)) := Eq.trans rfl rfl
def kvneg  (x : D) : Rv D := Rv.bind (asIV x) kvnegi
theorem g_neg  {x : D} : kvneg  x = Rv.bind (asIV x) kvnegi := Eq.trans rfl rfl
def kvcmpb (o : COp) (x : D) (y : D) : Rv D := Rv.bind (cmpV o x y) kvbl
theorem g_cmpb {o : COp} {x : D} {y : D} : kvcmpb o x y = Rv.bind (cmpV o x y) kvbl := Eq.trans rfl rfl
def kvcmp (C : CV) (o : COp) (b : Mn.E) (env : Nv) (x : D) : Rv D := Rv.bind (vE C b env) (kvcmpb o x)
theorem g_cmp {C : CV} {o : COp} {b : Mn.E} {env : Nv} {x : D} : kvcmp C o b env x = Rv.bind (vE C b env) (kvcmpb o x) := Eq.trans rfl rfl
def kvc3c (C : CV) (p : COp) (c : Mn.E) (env : Nv) (y : D) (k : Bool) : Rv D := match k with
  | true => Rv.bind (vE C c env) (kvcmpb p y)
  | false => Rv.ok (.bl false)
theorem g_c3cT {C : CV} {p : COp} {c : Mn.E} {env : Nv} {y : D} : kvc3c C p c env y true = Rv.bind (vE C c env) (kvcmpb p y) := Eq.trans rfl rfl
theorem g_c3cF {C : CV} {p : COp} {c : Mn.E} {env : Nv} {y : D} : kvc3c C p c env y false = Rv.ok (.bl false) := Eq.trans rfl rfl
def kvc3b (C : CV) (o p : COp) (c : Mn.E) (env : Nv) (x : D) (y : D) : Rv D := Rv.bind (cmpV o x y) (kvc3c C p c env y)
theorem g_c3b {C : CV} {o p : COp} {c : Mn.E} {env : Nv} {x : D} {y : D} : kvc3b C o p c env x y = Rv.bind (cmpV o x y) (kvc3c C p c env y) := Eq.trans rfl rfl
def kvc3 (C : CV) (o p : COp) (b c : Mn.E) (env : Nv) (x : D) : Rv D := Rv.bind (vE C b env) (kvc3b C o p c env x)
theorem g_c3 {C : CV} {o p : COp} {b c : Mn.E} {env : Nv} {x : D} : kvc3 C o p b c env x = Rv.bind (vE C b env) (kvc3b C o p c env x) := Eq.trans rfl rfl
def kvtr  (x : D) : Rv D := Rv.bind (truV x) kvbl
theorem g_tr  {x : D} : kvtr  x = Rv.bind (truV x) kvbl := Eq.trans rfl rfl
def kvnotb  (b : Bool) : Rv D := Rv.ok (.bl (!b))
theorem g_notb  {b : Bool} : kvnotb  b = Rv.ok (.bl (!b)) := Eq.trans rfl rfl
def kvnot  (x : D) : Rv D := Rv.bind (asBV x) kvnotb
theorem g_not  {x : D} : kvnot  x = Rv.bind (asBV x) kvnotb := Eq.trans rfl rfl
def kvand2 (C : CV) (b : Mn.E) (env : Nv) (k : Bool) : Rv D := match k with
  | true => vE C b env
  | false => Rv.ok (.bl false)
theorem g_and2T {C : CV} {b : Mn.E} {env : Nv} : kvand2 C b env true = vE C b env := Eq.trans rfl rfl
theorem g_and2F {C : CV} {b : Mn.E} {env : Nv} : kvand2 C b env false = Rv.ok (.bl false) := Eq.trans rfl rfl
def kvand (C : CV) (b : Mn.E) (env : Nv) (x : D) : Rv D := Rv.bind (asBV x) (kvand2 C b env)
theorem g_and {C : CV} {b : Mn.E} {env : Nv} {x : D} : kvand C b env x = Rv.bind (asBV x) (kvand2 C b env) := Eq.trans rfl rfl
def kvor2 (C : CV) (b : Mn.E) (env : Nv) (k : Bool) : Rv D := match k with
  | true => Rv.ok (.bl true)
  | false => vE C b env
theorem g_or2T {C : CV} {b : Mn.E} {env : Nv} : kvor2 C b env true = Rv.ok (.bl true) := Eq.trans rfl rfl
theorem g_or2F {C : CV} {b : Mn.E} {env : Nv} : kvor2 C b env false = vE C b env := Eq.trans rfl rfl
def kvor (C : CV) (b : Mn.E) (env : Nv) (x : D) : Rv D := Rv.bind (asBV x) (kvor2 C b env)
theorem g_or {C : CV} {b : Mn.E} {env : Nv} {x : D} : kvor C b env x = Rv.bind (asBV x) (kvor2 C b env) := Eq.trans rfl rfl
def kvvand2 (C : CV) (b : Mn.E) (env : Nv) (x : D) (k : Bool) : Rv D := match k with
  | true => vE C b env
  | false => Rv.ok x
theorem g_vand2T {C : CV} {b : Mn.E} {env : Nv} {x : D} : kvvand2 C b env x true = vE C b env := Eq.trans rfl rfl
theorem g_vand2F {C : CV} {b : Mn.E} {env : Nv} {x : D} : kvvand2 C b env x false = Rv.ok x := Eq.trans rfl rfl
def kvvand (C : CV) (b : Mn.E) (env : Nv) (x : D) : Rv D := Rv.bind (truV x) (kvvand2 C b env x)
theorem g_vand {C : CV} {b : Mn.E} {env : Nv} {x : D} : kvvand C b env x = Rv.bind (truV x) (kvvand2 C b env x) := Eq.trans rfl rfl
def kvvor2 (C : CV) (b : Mn.E) (env : Nv) (x : D) (k : Bool) : Rv D := match k with
  | true => Rv.ok x
  | false => vE C b env
theorem g_vor2T {C : CV} {b : Mn.E} {env : Nv} {x : D} : kvvor2 C b env x true = Rv.ok x := Eq.trans rfl rfl
theorem g_vor2F {C : CV} {b : Mn.E} {env : Nv} {x : D} : kvvor2 C b env x false = vE C b env := Eq.trans rfl rfl
def kvvor (C : CV) (b : Mn.E) (env : Nv) (x : D) : Rv D := Rv.bind (truV x) (kvvor2 C b env x)
theorem g_vor {C : CV} {b : Mn.E} {env : Nv} {x : D} : kvvor C b env x = Rv.bind (truV x) (kvvor2 C b env x) := Eq.trans rfl rfl
def kvite2 (C : CV) (a b : Mn.E) (env : Nv) (k : Bool) : Rv D := match k with
  | true => vE C a env
  | false => vE C b env
theorem g_ite2T {C : CV} {a b : Mn.E} {env : Nv} : kvite2 C a b env true = vE C a env := Eq.trans rfl rfl
theorem g_ite2F {C : CV} {a b : Mn.E} {env : Nv} : kvite2 C a b env false = vE C b env := Eq.trans rfl rfl
def kvite (C : CV) (a b : Mn.E) (env : Nv) (x : D) : Rv D := Rv.bind (asBV x) (kvite2 C a b env)
theorem g_ite {C : CV} {a b : Mn.E} {env : Nv} {x : D} : kvite C a b env x = Rv.bind (asBV x) (kvite2 C a b env) := Eq.trans rfl rfl
def kvidx (C : CV) (b : Mn.E) (env : Nv) (x : D) : Rv D := Rv.bind (vE C b env) (idxV x)
theorem g_idx {C : CV} {b : Mn.E} {env : Nv} {x : D} : kvidx C b env x = Rv.bind (vE C b env) (idxV x) := Eq.trans rfl rfl
def kvsl0  (x : D) : Rv D := slcV x none none
theorem g_sl0  {x : D} : kvsl0  x = slcV x none none := Eq.trans rfl rfl
def kvslL3 (x : D) (l : Int) : Rv D := slcV x (some l) none
theorem g_slL3 {x : D} {l : Int} : kvslL3 x l = slcV x (some l) none := Eq.trans rfl rfl
def kvslL2 (x : D) (y : D) : Rv D := Rv.bind (asIV y) (kvslL3 x)
theorem g_slL2 {x : D} {y : D} : kvslL2 x y = Rv.bind (asIV y) (kvslL3 x) := Eq.trans rfl rfl
def kvslL (C : CV) (lo : Mn.E) (env : Nv) (x : D) : Rv D := Rv.bind (vE C lo env) (kvslL2 x)
theorem g_slL {C : CV} {lo : Mn.E} {env : Nv} {x : D} : kvslL C lo env x = Rv.bind (vE C lo env) (kvslL2 x) := Eq.trans rfl rfl
def kvslH3 (x : D) (l : Int) : Rv D := slcV x none (some l)
theorem g_slH3 {x : D} {l : Int} : kvslH3 x l = slcV x none (some l) := Eq.trans rfl rfl
def kvslH2 (x : D) (y : D) : Rv D := Rv.bind (asIV y) (kvslH3 x)
theorem g_slH2 {x : D} {y : D} : kvslH2 x y = Rv.bind (asIV y) (kvslH3 x) := Eq.trans rfl rfl
def kvslH (C : CV) (lo : Mn.E) (env : Nv) (x : D) : Rv D := Rv.bind (vE C lo env) (kvslH2 x)
theorem g_slH {C : CV} {lo : Mn.E} {env : Nv} {x : D} : kvslH C lo env x = Rv.bind (vE C lo env) (kvslH2 x) := Eq.trans rfl rfl
def kvslB5 (x : D) (l : Int) (h : Int) : Rv D := slcV x (some l) (some h)
theorem g_slB5 {x : D} {l : Int} {h : Int} : kvslB5 x l h = slcV x (some l) (some h) := Eq.trans rfl rfl
def kvslB4 (x : D) (l : Int) (z : D) : Rv D := Rv.bind (asIV z) (kvslB5 x l)
theorem g_slB4 {x : D} {l : Int} {z : D} : kvslB4 x l z = Rv.bind (asIV z) (kvslB5 x l) := Eq.trans rfl rfl
def kvslB3 (C : CV) (hi : Mn.E) (env : Nv) (x : D) (l : Int) : Rv D := Rv.bind (vE C hi env) (kvslB4 x l)
theorem g_slB3 {C : CV} {hi : Mn.E} {env : Nv} {x : D} {l : Int} : kvslB3 C hi env x l = Rv.bind (vE C hi env) (kvslB4 x l) := Eq.trans rfl rfl
def kvslB2 (C : CV) (hi : Mn.E) (env : Nv) (x : D) (y : D) : Rv D := Rv.bind (asIV y) (kvslB3 C hi env x)
theorem g_slB2 {C : CV} {hi : Mn.E} {env : Nv} {x : D} {y : D} : kvslB2 C hi env x y = Rv.bind (asIV y) (kvslB3 C hi env x) := Eq.trans rfl rfl
def kvslB (C : CV) (lo hi : Mn.E) (env : Nv) (x : D) : Rv D := Rv.bind (vE C lo env) (kvslB2 C hi env x)
theorem g_slB {C : CV} {lo hi : Mn.E} {env : Nv} {x : D} : kvslB C lo hi env x = Rv.bind (vE C lo env) (kvslB2 C hi env x) := Eq.trans rfl rfl
def kvme3 (b : Bi) (x : D) (xs : List D) : Rv D := biV b (x :: xs)
theorem g_me3 {b : Bi} {x : D} {xs : List D} : kvme3 b x xs = biV b (x :: xs) := Eq.trans rfl rfl
def kvme2 (C : CV) (b : Bi) (es : Es) (env : Nv) (x : D) (u : Unit) : Rv D := Rv.bind (vEs C es env) (kvme3 b x)
theorem g_me2 {C : CV} {b : Bi} {es : Es} {env : Nv} {x : D} {u : Unit} : kvme2 C b es env x u = Rv.bind (vEs C es env) (kvme3 b x) := Eq.trans rfl rfl
def kvme (C : CV) (b : Bi) (es : Es) (env : Nv) (x : D) : Rv D := Rv.bind (recvV b x) (kvme2 C b es env x)
theorem g_me {C : CV} {b : Bi} {es : Es} {env : Nv} {x : D} : kvme C b es env x = Rv.bind (recvV b x) (kvme2 C b es env x) := Eq.trans rfl rfl
def kves2 (x : D) (xs : List D) : Rv (List D) := Rv.ok (x :: xs)
theorem g_es2 {x : D} {xs : List D} : kves2 x xs = Rv.ok (x :: xs) := Eq.trans rfl rfl
def kves (C : CV) (r : Es) (env : Nv) (x : D) : Rv (List D) := Rv.bind (vEs C r env) (kves2 x)
theorem g_es {C : CV} {r : Es} {env : Nv} {x : D} : kves C r env x = Rv.bind (vEs C r env) (kves2 x) := Eq.trans rfl rfl
theorem ge_c {C : CV} {env : Nv} {d : D} : vE C (.c d) env = Rv.ok d := by first | exact Eq.trans rfl rfl | (rw [vE] <;> rfl)
theorem ge_g {C : CV} {env : Nv} {x : Str} : vE C (.g x) env = optV (C.glob x) := by first | exact Eq.trans rfl rfl | (rw [vE] <;> rfl)
theorem ge_bin {C : CV} {env : Nv} {o : BOp} {a b : Mn.E} : vE C (.bin o a b) env = Rv.bind (vE C a env) (kvbin C o b env) := by first | exact Eq.trans rfl rfl | (rw [vE] <;> rfl)
theorem ge_neg {C : CV} {env : Nv} {a : Mn.E} : vE C (.neg a) env = Rv.bind (vE C a env) kvneg := by first | exact Eq.trans rfl rfl | (rw [vE] <;> rfl)
theorem ge_cmp {C : CV} {env : Nv} {o : COp} {a b : Mn.E} : vE C (.cmp o a b) env = Rv.bind (vE C a env) (kvcmp C o b env) := by first | exact Eq.trans rfl rfl | (rw [vE] <;> rfl)
theorem ge_cmp3 {C : CV} {env : Nv} {o p : COp} {a b c : Mn.E} : vE C (.cmp3 o p a b c) env = Rv.bind (vE C a env) (kvc3 C o p b c env) := by first | exact Eq.trans rfl rfl | (rw [vE] <;> rfl)
theorem ge_tr {C : CV} {env : Nv} {a : Mn.E} : vE C (.tr a) env = Rv.bind (vE C a env) kvtr := by first | exact Eq.trans rfl rfl | (rw [vE] <;> rfl)
theorem ge_not {C : CV} {env : Nv} {a : Mn.E} : vE C (.not a) env = Rv.bind (vE C a env) kvnot := by first | exact Eq.trans rfl rfl | (rw [vE] <;> rfl)
theorem ge_and {C : CV} {env : Nv} {a b : Mn.E} : vE C (.and a b) env = Rv.bind (vE C a env) (kvand C b env) := by first | exact Eq.trans rfl rfl | (rw [vE] <;> rfl)
theorem ge_or {C : CV} {env : Nv} {a b : Mn.E} : vE C (.or a b) env = Rv.bind (vE C a env) (kvor C b env) := by first | exact Eq.trans rfl rfl | (rw [vE] <;> rfl)
theorem ge_vand {C : CV} {env : Nv} {a b : Mn.E} : vE C (.vand a b) env = Rv.bind (vE C a env) (kvvand C b env) := by first | exact Eq.trans rfl rfl | (rw [vE] <;> rfl)
theorem ge_vor {C : CV} {env : Nv} {a b : Mn.E} : vE C (.vor a b) env = Rv.bind (vE C a env) (kvvor C b env) := by first | exact Eq.trans rfl rfl | (rw [vE] <;> rfl)
theorem ge_ite {C : CV} {env : Nv} {c a b : Mn.E} : vE C (.ite c a b) env = Rv.bind (vE C c env) (kvite C a b env) := by first | exact Eq.trans rfl rfl | (rw [vE] <;> rfl)
def kvtup  (xs : List D) : Rv D := Rv.bind (guardV (ok2 xs.length)) fun _ => .ok (.tup xs)
theorem g_tup  {xs : List D} : kvtup  xs = Rv.bind (guardV (ok2 xs.length)) fun _ => .ok (.tup xs) := Eq.trans rfl rfl
def kvlst  (xs : List D) : Rv D := Rv.bind (guardV (ok2 xs.length)) fun _ => .ok (.lst xs)
theorem g_lst  {xs : List D} : kvlst  xs = Rv.bind (guardV (ok2 xs.length)) fun _ => .ok (.lst xs) := Eq.trans rfl rfl
theorem ge_tup {C : CV} {env : Nv} {es : Es} : vE C (.tup es) env = Rv.bind (vEs C es env) kvtup := by first | exact Eq.trans rfl rfl | (rw [vE] <;> rfl)
theorem ge_lst {C : CV} {env : Nv} {es : Es} : vE C (.lst es) env = Rv.bind (vEs C es env) kvlst := by first | exact Eq.trans rfl rfl | (rw [vE] <;> rfl)
theorem ge_idx {C : CV} {env : Nv} {a b : Mn.E} : vE C (.idx a b) env = Rv.bind (vE C a env) (kvidx C b env) := by first | exact Eq.trans rfl rfl | (rw [vE] <;> rfl)
theorem ge_sl0 {C : CV} {env : Nv} {a : Mn.E} : vE C (.slc0 a) env = Rv.bind (vE C a env) kvsl0 := by first | exact Eq.trans rfl rfl | (rw [vE] <;> rfl)
theorem ge_slL {C : CV} {env : Nv} {a b : Mn.E} : vE C (.slcL a b) env = Rv.bind (vE C a env) (kvslL C b env) := by first | exact Eq.trans rfl rfl | (rw [vE] <;> rfl)
theorem ge_slH {C : CV} {env : Nv} {a b : Mn.E} : vE C (.slcH a b) env = Rv.bind (vE C a env) (kvslH C b env) := by first | exact Eq.trans rfl rfl | (rw [vE] <;> rfl)
theorem ge_slB {C : CV} {env : Nv} {a b c : Mn.E} : vE C (.slcB a b c) env = Rv.bind (vE C a env) (kvslB C b c env) := by first | exact Eq.trans rfl rfl | (rw [vE] <;> rfl)
theorem ge_call {C : CV} {env : Nv} {f : Str} {es : Es} : vE C (.call f es) env = Rv.bind (vEs C es env) (C.call f) := by first | exact Eq.trans rfl rfl | (rw [vE] <;> rfl)
theorem ge_bi {C : CV} {env : Nv} {b : Bi} {es : Es} : vE C (.bi b es) env = Rv.bind (vEs C es env) (biV b) := by first | exact Eq.trans rfl rfl | (rw [vE] <;> rfl)
theorem ge_meth {C : CV} {env : Nv} {b : Bi} {a : Mn.E} {es : Es} : vE C (.meth b a es) env = Rv.bind (vE C a env) (kvme C b es env) := by first | exact Eq.trans rfl rfl | (rw [vE] <;> rfl)
def kvco4  (ys : List D) : Rv D := Rv.ok (.lst ys)
theorem g_co4  {ys : List D} : kvco4  ys = Rv.ok (.lst ys) := Eq.trans rfl rfl
def kvco3 (C : CV) (elt : Mn.E) (sl : Nat) (own : List Nat) (cond : Mn.E) (env : Nv) (it : List D) (u : Unit) : Rv D := Rv.bind (compV (putD sl) (vE C cond) (vE C elt) (wipeD env own) it []) kvco4
theorem g_co3 {C : CV} {elt : Mn.E} {sl : Nat} {own : List Nat} {cond : Mn.E} {env : Nv} {it : List D} {u : Unit} : kvco3 C elt sl own cond env it u = Rv.bind (compV (putD sl) (vE C cond) (vE C elt) (wipeD env own) it []) kvco4 := Eq.trans rfl rfl
def kvco2 (C : CV) (elt : Mn.E) (sl : Nat) (own : List Nat) (cond : Mn.E) (env : Nv) (it : List D) : Rv D := Rv.bind (lenOk it) (kvco3 C elt sl own cond env it)
theorem g_co2 {C : CV} {elt : Mn.E} {sl : Nat} {own : List Nat} {cond : Mn.E} {env : Nv} {it : List D} : kvco2 C elt sl own cond env it = Rv.bind (lenOk it) (kvco3 C elt sl own cond env it) := Eq.trans rfl rfl
def kvco (C : CV) (elt : Mn.E) (sl : Nat) (own : List Nat) (i : IK) (cond : Mn.E) (env : Nv) (xs : List D) : Rv D := Rv.bind (itemsV i xs) (kvco2 C elt sl own cond env)
theorem g_co {C : CV} {elt : Mn.E} {sl : Nat} {own : List Nat} {i : IK} {cond : Mn.E} {env : Nv} {xs : List D} : kvco C elt sl own i cond env xs = Rv.bind (itemsV i xs) (kvco2 C elt sl own cond env) := Eq.trans rfl rfl
theorem ge_comp {C : CV} {env : Nv} {elt : Mn.E} {sl : Nat} {own : List Nat} {i : IK} {es : Es} {cond : Mn.E} : vE C (.comp elt sl own i es cond) env = Rv.bind (vEs C es env) (kvco C elt sl own i cond env) := by first | exact Eq.trans rfl rfl | (rw [vE] <;> rfl)
theorem ge_nil {C : CV} {env : Nv} : vEs C .nil env = Rv.ok [] := by first | exact Eq.trans rfl rfl | (rw [vEs] <;> rfl)
theorem ge_cons {C : CV} {env : Nv} {e : Mn.E} {r : Es} : vEs C (.cons e r) env = Rv.bind (vE C e env) (kves C r env) := by first | exact Eq.trans rfl rfl | (rw [vEs] <;> rfl)
def kvnx  (env : Nv) : Rv (Flow × Nv) := Rv.ok (.nx, env)
theorem g_nx  {env : Nv} : kvnx  env = Rv.ok (.nx, env) := Eq.trans rfl rfl
def kvex (env : Nv) (d : D) : Rv (Flow × Nv) := Rv.ok (.nx, env)
theorem g_ex {env : Nv} {d : D} : kvex env d = Rv.ok (.nx, env) := Eq.trans rfl rfl
def kvret (env : Nv) (d : D) : Rv (Flow × Nv) := Rv.ok (.rt d, env)
theorem g_ret {env : Nv} {d : D} : kvret env d = Rv.ok (.rt d, env) := Eq.trans rfl rfl
def kvif2 (C : CV) (a b : Sms) (env : Nv) (k : Bool) : Rv (Flow × Nv) := match k with
  | true => vSs C a env
  | false => vSs C b env
theorem g_if2T {C : CV} {a b : Sms} {env : Nv} : kvif2 C a b env true = vSs C a env := Eq.trans rfl rfl
theorem g_if2F {C : CV} {a b : Sms} {env : Nv} : kvif2 C a b env false = vSs C b env := Eq.trans rfl rfl
def kvif (C : CV) (a b : Sms) (env : Nv) (x : D) : Rv (Flow × Nv) := Rv.bind (asBV x) (kvif2 C a b env)
theorem g_if {C : CV} {a b : Sms} {env : Nv} {x : D} : kvif C a b env x = Rv.bind (asBV x) (kvif2 C a b env) := Eq.trans rfl rfl
def kvpr2 (i j : Nat) (env : Nv) (x : D) (y : D) : Rv (Flow × Nv) := Rv.ok (.nx, (env.set i (some x)).set j (some y))
theorem g_pr2 {i j : Nat} {env : Nv} {x : D} {y : D} : kvpr2 i j env x y = Rv.ok (.nx, (env.set i (some x)).set j (some y)) := Eq.trans rfl rfl
def kvpr (C : CV) (i j : Nat) (b : Mn.E) (env : Nv) (x : D) : Rv (Flow × Nv) := Rv.bind (vE C b env) (kvpr2 i j env x)
theorem g_pr {C : CV} {i j : Nat} {b : Mn.E} {env : Nv} {x : D} : kvpr C i j b env x = Rv.bind (vE C b env) (kvpr2 i j env x) := Eq.trans rfl rfl
theorem ge_ret {C : CV} {env : Nv} {e : Mn.E} : vS C (.ret e) env = Rv.bind (vE C e env) (kvret env) := by first | exact Eq.trans rfl rfl | (rw [vS] <;> rfl)
theorem ge_if {C : CV} {env : Nv} {c : Mn.E} {a b : Sms} : vS C (.ife c a b) env = Rv.bind (vE C c env) (kvif C a b env) := by first | exact Eq.trans rfl rfl | (rw [vS] <;> rfl)
theorem ge_par {C : CV} {env : Nv} {i j : Nat} {a b : Mn.E} : vS C (.par i j a b) env = Rv.bind (vE C a env) (kvpr C i j b env) := by first | exact Eq.trans rfl rfl | (rw [vS] <;> rfl)
theorem ge_brk {C : CV} {env : Nv} : vS C (.brk) env = Rv.ok (.bk, env) := by first | exact Eq.trans rfl rfl | (rw [vS] <;> rfl)
theorem ge_cnt {C : CV} {env : Nv} : vS C (.cnt) env = Rv.ok (.ct, env) := by first | exact Eq.trans rfl rfl | (rw [vS] <;> rfl)
theorem ge_pass {C : CV} {env : Nv} : vS C (.pass) env = Rv.ok (.nx, env) := by first | exact Eq.trans rfl rfl | (rw [vS] <;> rfl)
theorem ge_v {C : CV} {env : Nv} {i : Nat} : vE C (.v i) env = (match env[i]? with | some (some d) => Rv.ok d | _ => Rv.bad) := by rw [vE] <;> rfl
theorem ge_whl {C : CV} {env : Nv} {c : Mn.E} {b : Sms} : vS C (.whl c b) env = whileV (vE C c) (vSs C b) FUEL env := by first | exact Eq.trans rfl rfl | (rw [vS] <;> rfl)
def kvfr3 (C : CV) (p : Pat) (b : Sms) (env : Nv) (it : List D) (u : Unit) : Rv (Flow × Nv) := forV (vP p) (vSs C b) it env
theorem g_fr3 {C : CV} {p : Pat} {b : Sms} {env : Nv} {it : List D} {u : Unit} : kvfr3 C p b env it u = forV (vP p) (vSs C b) it env := Eq.trans rfl rfl
def kvfr2 (C : CV) (p : Pat) (b : Sms) (env : Nv) (it : List D) : Rv (Flow × Nv) := Rv.bind (lenOk it) (kvfr3 C p b env it)
theorem g_fr2 {C : CV} {p : Pat} {b : Sms} {env : Nv} {it : List D} : kvfr2 C p b env it = Rv.bind (lenOk it) (kvfr3 C p b env it) := Eq.trans rfl rfl
def kvfr (C : CV) (p : Pat) (i : IK) (b : Sms) (env : Nv) (xs : List D) : Rv (Flow × Nv) := Rv.bind (itemsV i xs) (kvfr2 C p b env)
theorem g_fr {C : CV} {p : Pat} {i : IK} {b : Sms} {env : Nv} {xs : List D} : kvfr C p i b env xs = Rv.bind (itemsV i xs) (kvfr2 C p b env) := Eq.trans rfl rfl
theorem ge_fr {C : CV} {env : Nv} {p : Pat} {i : IK} {es : Es} {b : Sms} : vS C (.fr p i es b) env = Rv.bind (vEs C es env) (kvfr C p i b env) := by first | exact Eq.trans rfl rfl | (rw [vS] <;> rfl)
def kvag2 (i : Nat) (env : Nv) (z : D) : Rv (Flow × Nv) := Rv.ok (.nx, env.set i (some z))
theorem g_ag2 {i : Nat} {env : Nv} {z : D} : kvag2 i env z = Rv.ok (.nx, env.set i (some z)) := Eq.trans rfl rfl
def kvag (i : Nat) (o : BOp) (x : D) (env : Nv) (y : D) : Rv (Flow × Nv) := Rv.bind (augV o x y) (kvag2 i env)
theorem g_ag {i : Nat} {o : BOp} {x : D} {env : Nv} {y : D} : kvag i o x env y = Rv.bind (augV o x y) (kvag2 i env) := Eq.trans rfl rfl
theorem ge_aug {C : CV} {env : Nv} {i : Nat} {o : BOp} {e : Mn.E} : vS C (.aug i o e) env = (match env[i]? with | some (some x) => Rv.bind (vE C e env) (kvag i o x env) | _ => Rv.bad) := by rw [vS] <;> rfl
def kvmt4 (i : Nat) (env : Nv) (r : D × List D) : Rv (D × Nv) := Rv.ok (r.1, env.set i (some (.lst r.2)))
theorem g_mt4 {i : Nat} {env : Nv} {r : D × List D} : kvmt4 i env r = Rv.ok (r.1, env.set i (some (.lst r.2))) := Eq.trans rfl rfl
def kvmt3 (b : Bi) (i : Nat) (ys : List D) (env : Nv) (xs : List D) : Rv (D × Nv) := Rv.bind (mutV b xs ys) (kvmt4 i env)
theorem g_mt3 {b : Bi} {i : Nat} {ys : List D} {env : Nv} {xs : List D} : kvmt3 b i ys env xs = Rv.bind (mutV b xs ys) (kvmt4 i env) := Eq.trans rfl rfl
def kvmt2 (b : Bi) (i : Nat) (env : Nv) (ys : List D) : Rv (D × Nv) := Rv.bind (lstAt env i) (kvmt3 b i ys env)
theorem g_mt2 {b : Bi} {i : Nat} {env : Nv} {ys : List D} : kvmt2 b i env ys = Rv.bind (lstAt env i) (kvmt3 b i ys env) := Eq.trans rfl rfl
def kvmt (C : CV) (b : Bi) (i : Nat) (es : Es) (env : Nv) (xs : List D) : Rv (D × Nv) := Rv.bind (vEs C es env) (kvmt2 b i env)
theorem g_mt {C : CV} {b : Bi} {i : Nat} {es : Es} {env : Nv} {xs : List D} : kvmt C b i es env xs = Rv.bind (vEs C es env) (kvmt2 b i env) := Eq.trans rfl rfl
def kvmx  (r : D × Nv) : Rv (Flow × Nv) := Rv.ok (.nx, r.2)
theorem g_mx  {r : D × Nv} : kvmx  r = Rv.ok (.nx, r.2) := Eq.trans rfl rfl
def kvms (j : Nat) (r : D × Nv) : Rv (Flow × Nv) := Rv.ok (.nx, r.2.set j (some r.1))
theorem g_ms {j : Nat} {r : D × Nv} : kvms j r = Rv.ok (.nx, r.2.set j (some r.1)) := Eq.trans rfl rfl
theorem ge_mth {C : CV} {env : Nv} {b : Bi} {i : Nat} {es : Es} (h : isMut b = true) : vS C (.expr (.meth b (.v i) es)) env = Rv.bind (Rv.bind (lstAt env i) (kvmt C b i es env)) kvmx := by rw [vS]; simp only [kindS, h]; rfl
theorem ge_mset {C : CV} {env : Nv} {b : Bi} {i j : Nat} {es : Es} (h : isMut b = true) : vS C (.set (.nm j) (.meth b (.v i) es)) env = Rv.bind (Rv.bind (lstAt env i) (kvmt C b i es env)) (kvms j) := by rw [vS]; simp only [kindS, h]; rfl
theorem ge_mappend {C : CV} {env : Nv} {i : Nat} {es : Es} : vS C (.expr (.meth .append (.v i) es)) env = Rv.bind (Rv.bind (lstAt env i) (kvmt C .append i es env)) kvmx := ge_mth rfl
theorem ge_sappend {C : CV} {env : Nv} {i j : Nat} {es : Es} : vS C (.set (.nm j) (.meth .append (.v i) es)) env = Rv.bind (Rv.bind (lstAt env i) (kvmt C .append i es env)) (kvms j) := ge_mset rfl
theorem ge_mpop0 {C : CV} {env : Nv} {i : Nat} {es : Es} : vS C (.expr (.meth .pop0 (.v i) es)) env = Rv.bind (Rv.bind (lstAt env i) (kvmt C .pop0 i es env)) kvmx := ge_mth rfl
theorem ge_spop0 {C : CV} {env : Nv} {i j : Nat} {es : Es} : vS C (.set (.nm j) (.meth .pop0 (.v i) es)) env = Rv.bind (Rv.bind (lstAt env i) (kvmt C .pop0 i es env)) (kvms j) := ge_mset rfl
theorem ge_mpop1 {C : CV} {env : Nv} {i : Nat} {es : Es} : vS C (.expr (.meth .pop1 (.v i) es)) env = Rv.bind (Rv.bind (lstAt env i) (kvmt C .pop1 i es env)) kvmx := ge_mth rfl
theorem ge_spop1 {C : CV} {env : Nv} {i j : Nat} {es : Es} : vS C (.set (.nm j) (.meth .pop1 (.v i) es)) env = Rv.bind (Rv.bind (lstAt env i) (kvmt C .pop1 i es env)) (kvms j) := ge_mset rfl
theorem ge_mextend {C : CV} {env : Nv} {i : Nat} {es : Es} : vS C (.expr (.meth .extend (.v i) es)) env = Rv.bind (Rv.bind (lstAt env i) (kvmt C .extend i es env)) kvmx := ge_mth rfl
theorem ge_sextend {C : CV} {env : Nv} {i j : Nat} {es : Es} : vS C (.set (.nm j) (.meth .extend (.v i) es)) env = Rv.bind (Rv.bind (lstAt env i) (kvmt C .extend i es env)) (kvms j) := ge_mset rfl
theorem ge_minsert {C : CV} {env : Nv} {i : Nat} {es : Es} : vS C (.expr (.meth .insert (.v i) es)) env = Rv.bind (Rv.bind (lstAt env i) (kvmt C .insert i es env)) kvmx := ge_mth rfl
theorem ge_sinsert {C : CV} {env : Nv} {i j : Nat} {es : Es} : vS C (.set (.nm j) (.meth .insert (.v i) es)) env = Rv.bind (Rv.bind (lstAt env i) (kvmt C .insert i es env)) (kvms j) := ge_mset rfl
theorem ge_mreverse {C : CV} {env : Nv} {i : Nat} {es : Es} : vS C (.expr (.meth .reverse (.v i) es)) env = Rv.bind (Rv.bind (lstAt env i) (kvmt C .reverse i es env)) kvmx := ge_mth rfl
theorem ge_sreverse {C : CV} {env : Nv} {i j : Nat} {es : Es} : vS C (.set (.nm j) (.meth .reverse (.v i) es)) env = Rv.bind (Rv.bind (lstAt env i) (kvmt C .reverse i es env)) (kvms j) := ge_mset rfl
def kvsu5 (i : Nat) (d : D) (env : Nv) (xs : List D) (j : Nat) : Rv (Flow × Nv) := Rv.ok (.nx, env.set i (some (.lst (xs.set j d))))
theorem g_su5 {i : Nat} {d : D} {env : Nv} {xs : List D} {j : Nat} : kvsu5 i d env xs j = Rv.ok (.nx, env.set i (some (.lst (xs.set j d)))) := Eq.trans rfl rfl
def kvsu4 (i : Nat) (d : D) (env : Nv) (y : Int) (xs : List D) : Rv (Flow × Nv) := Rv.bind (optV (ixN xs.length y)) (kvsu5 i d env xs)
theorem g_su4 {i : Nat} {d : D} {env : Nv} {y : Int} {xs : List D} : kvsu4 i d env y xs = Rv.bind (optV (ixN xs.length y)) (kvsu5 i d env xs) := Eq.trans rfl rfl
def kvsu3 (i : Nat) (d : D) (env : Nv) (y : Int) : Rv (Flow × Nv) := Rv.bind (lstAt env i) (kvsu4 i d env y)
theorem g_su3 {i : Nat} {d : D} {env : Nv} {y : Int} : kvsu3 i d env y = Rv.bind (lstAt env i) (kvsu4 i d env y) := Eq.trans rfl rfl
def kvsu2 (i : Nat) (d : D) (env : Nv) (y : D) : Rv (Flow × Nv) := Rv.bind (asIV y) (kvsu3 i d env)
theorem g_su2 {i : Nat} {d : D} {env : Nv} {y : D} : kvsu2 i d env y = Rv.bind (asIV y) (kvsu3 i d env) := Eq.trans rfl rfl
def kvsu1 (C : CV) (i : Nat) (k : Mn.E) (d : D) (env : Nv) (xs : List D) : Rv (Flow × Nv) := Rv.bind (vE C k env) (kvsu2 i d env)
theorem g_su1 {C : CV} {i : Nat} {k : Mn.E} {d : D} {env : Nv} {xs : List D} : kvsu1 C i k d env xs = Rv.bind (vE C k env) (kvsu2 i d env) := Eq.trans rfl rfl
def kvsu (C : CV) (i : Nat) (k : Mn.E) (env : Nv) (d : D) : Rv (Flow × Nv) := Rv.bind (lstAt env i) (kvsu1 C i k d env)
theorem g_su {C : CV} {i : Nat} {k : Mn.E} {env : Nv} {d : D} : kvsu C i k env d = Rv.bind (lstAt env i) (kvsu1 C i k d env) := Eq.trans rfl rfl
theorem ge_sub {C : CV} {env : Nv} {i : Nat} {k e : Mn.E} : vS C (.set (.sub (.v i) k) e) env = Rv.bind (vE C e env) (kvsu C i k env) := by first | exact Eq.trans rfl rfl | (rw [vS] <;> rfl)
def kvset (p : Pat) (env : Nv) (d : D) : Rv (Flow × Nv) := Rv.bind (vP p d env) kvnx
theorem g_set {p : Pat} {env : Nv} {d : D} : kvset p env d = Rv.bind (vP p d env) kvnx := Eq.trans rfl rfl
def notM : Mn.E → Bool
  | .meth b (.v _) _ => !isMut b
  | _ => true
theorem ge_set {C : CV} {env : Nv} {j : Nat} {e : Mn.E} (h : notM e = true) : vS C (.set (.nm j) e) env = Rv.bind (vE C e env) (kvset (.nm j) env) := by
  rw [vS]
  have : kindS (.set (.nm j) e) = .other := by
    cases e with
    | meth b o es => cases o <;> first | rfl | (simp only [kindS]; simp only [notM] at h; cases hb : isMut b <;> simp_all)
    | _ => rfl
  simp only [this]
  rfl
theorem ge_setT {C : CV} {env : Nv} {ps : Pats} {e : Mn.E} : vS C (.set (.tup ps) e) env = Rv.bind (vE C e env) (kvset (.tup ps) env) := by rw [vS] <;> rfl
theorem ge_expr {C : CV} {env : Nv} {e : Mn.E} (h : notM e = true) : vS C (.expr e) env = Rv.bind (vE C e env) (kvex env) := by
  rw [vS]
  have : kindS (.expr e) = .other := by
    cases e with
    | meth b o es => cases o <;> first | rfl | (simp only [kindS]; simp only [notM] at h; cases hb : isMut b <;> simp_all)
    | _ => rfl
  simp only [this]
  rfl
theorem ges_c {C : CV} {env : Nv} {j : Nat} {d : D} : vS C (.set (.nm j) (.c d)) env = Rv.bind (vE C (.c d) env) (kvset (.nm j) env) := ge_set (by first | rfl | (cases a <;> rfl))
theorem ges_v {C : CV} {env : Nv} {j : Nat} {i : Nat} : vS C (.set (.nm j) (.v i)) env = Rv.bind (vE C (.v i) env) (kvset (.nm j) env) := ge_set (by first | rfl | (cases a <;> rfl))
theorem ges_g {C : CV} {env : Nv} {j : Nat} {x : Str} : vS C (.set (.nm j) (.g x)) env = Rv.bind (vE C (.g x) env) (kvset (.nm j) env) := ge_set (by first | rfl | (cases a <;> rfl))
theorem ges_bin {C : CV} {env : Nv} {j : Nat} {o : BOp} {a b : Mn.E} : vS C (.set (.nm j) (.bin o a b)) env = Rv.bind (vE C (.bin o a b) env) (kvset (.nm j) env) := ge_set (by first | rfl | (cases a <;> rfl))
theorem ges_neg {C : CV} {env : Nv} {j : Nat} {a : Mn.E} : vS C (.set (.nm j) (.neg a)) env = Rv.bind (vE C (.neg a) env) (kvset (.nm j) env) := ge_set (by first | rfl | (cases a <;> rfl))
theorem ges_cmp {C : CV} {env : Nv} {j : Nat} {o : COp} {a b : Mn.E} : vS C (.set (.nm j) (.cmp o a b)) env = Rv.bind (vE C (.cmp o a b) env) (kvset (.nm j) env) := ge_set (by first | rfl | (cases a <;> rfl))
theorem ges_cmp3 {C : CV} {env : Nv} {j : Nat} {o p : COp} {a b c : Mn.E} : vS C (.set (.nm j) (.cmp3 o p a b c)) env = Rv.bind (vE C (.cmp3 o p a b c) env) (kvset (.nm j) env) := ge_set (by first | rfl | (cases a <;> rfl))
theorem ges_tr {C : CV} {env : Nv} {j : Nat} {a : Mn.E} : vS C (.set (.nm j) (.tr a)) env = Rv.bind (vE C (.tr a) env) (kvset (.nm j) env) := ge_set (by first | rfl | (cases a <;> rfl))
theorem ges_ite {C : CV} {env : Nv} {j : Nat} {c a b : Mn.E} : vS C (.set (.nm j) (.ite c a b)) env = Rv.bind (vE C (.ite c a b) env) (kvset (.nm j) env) := ge_set (by first | rfl | (cases a <;> rfl))
theorem ges_tup {C : CV} {env : Nv} {j : Nat} {es : Es} : vS C (.set (.nm j) (.tup es)) env = Rv.bind (vE C (.tup es) env) (kvset (.nm j) env) := ge_set (by first | rfl | (cases a <;> rfl))
theorem ges_lst {C : CV} {env : Nv} {j : Nat} {es : Es} : vS C (.set (.nm j) (.lst es)) env = Rv.bind (vE C (.lst es) env) (kvset (.nm j) env) := ge_set (by first | rfl | (cases a <;> rfl))
theorem ges_idx {C : CV} {env : Nv} {j : Nat} {a b : Mn.E} : vS C (.set (.nm j) (.idx a b)) env = Rv.bind (vE C (.idx a b) env) (kvset (.nm j) env) := ge_set (by first | rfl | (cases a <;> rfl))
theorem ges_slc0 {C : CV} {env : Nv} {j : Nat} {a : Mn.E} : vS C (.set (.nm j) (.slc0 a)) env = Rv.bind (vE C (.slc0 a) env) (kvset (.nm j) env) := ge_set (by first | rfl | (cases a <;> rfl))
theorem ges_slcL {C : CV} {env : Nv} {j : Nat} {a b : Mn.E} : vS C (.set (.nm j) (.slcL a b)) env = Rv.bind (vE C (.slcL a b) env) (kvset (.nm j) env) := ge_set (by first | rfl | (cases a <;> rfl))
theorem ges_slcH {C : CV} {env : Nv} {j : Nat} {a b : Mn.E} : vS C (.set (.nm j) (.slcH a b)) env = Rv.bind (vE C (.slcH a b) env) (kvset (.nm j) env) := ge_set (by first | rfl | (cases a <;> rfl))
theorem ges_slcB {C : CV} {env : Nv} {j : Nat} {a b c : Mn.E} : vS C (.set (.nm j) (.slcB a b c)) env = Rv.bind (vE C (.slcB a b c) env) (kvset (.nm j) env) := ge_set (by first | rfl | (cases a <;> rfl))
theorem ges_call {C : CV} {env : Nv} {j : Nat} {f : Str} {es : Es} : vS C (.set (.nm j) (.call f es)) env = Rv.bind (vE C (.call f es) env) (kvset (.nm j) env) := ge_set (by first | rfl | (cases a <;> rfl))
theorem gex_call {C : CV} {env : Nv} {f : Str} {es : Es} : vS C (.expr (.call f es)) env = Rv.bind (vE C (.call f es) env) (kvex env) := ge_expr rfl
theorem ges_bi {C : CV} {env : Nv} {j : Nat} {b : Bi} {es : Es} : vS C (.set (.nm j) (.bi b es)) env = Rv.bind (vE C (.bi b es) env) (kvset (.nm j) env) := ge_set (by first | rfl | (cases a <;> rfl))
theorem gex_bi {C : CV} {env : Nv} {b : Bi} {es : Es} : vS C (.expr (.bi b es)) env = Rv.bind (vE C (.bi b es) env) (kvex env) := ge_expr rfl
theorem ges_comp {C : CV} {env : Nv} {j : Nat} {elt : Mn.E} {sl : Nat} {own : List Nat} {i : IK} {es : Es} {cond : Mn.E} : vS C (.set (.nm j) (.comp elt sl own i es cond)) env = Rv.bind (vE C (.comp elt sl own i es cond) env) (kvset (.nm j) env) := ge_set (by first | rfl | (cases a <;> rfl))
theorem ges_and {C : CV} {env : Nv} {j : Nat} {a b : Mn.E} : vS C (.set (.nm j) (.and a b)) env = Rv.bind (vE C (.and a b) env) (kvset (.nm j) env) := ge_set (by first | rfl | (cases a <;> rfl))
theorem ges_or {C : CV} {env : Nv} {j : Nat} {a b : Mn.E} : vS C (.set (.nm j) (.or a b)) env = Rv.bind (vE C (.or a b) env) (kvset (.nm j) env) := ge_set (by first | rfl | (cases a <;> rfl))
theorem ges_vand {C : CV} {env : Nv} {j : Nat} {a b : Mn.E} : vS C (.set (.nm j) (.vand a b)) env = Rv.bind (vE C (.vand a b) env) (kvset (.nm j) env) := ge_set (by first | rfl | (cases a <;> rfl))
theorem ges_vor {C : CV} {env : Nv} {j : Nat} {a b : Mn.E} : vS C (.set (.nm j) (.vor a b)) env = Rv.bind (vE C (.vor a b) env) (kvset (.nm j) env) := ge_set (by first | rfl | (cases a <;> rfl))
theorem ges_not {C : CV} {env : Nv} {j : Nat} {a : Mn.E} : vS C (.set (.nm j) (.not a)) env = Rv.bind (vE C (.not a) env) (kvset (.nm j) env) := ge_set (by first | rfl | (cases a <;> rfl))
theorem ges_split {C : CV} {env : Nv} {j : Nat} {a : Mn.E} {es : Es} : vS C (.set (.nm j) (.meth .split a es)) env = Rv.bind (vE C (.meth .split a es) env) (kvset (.nm j) env) := ge_set (by first | rfl | (cases a <;> rfl))
theorem ges_join {C : CV} {env : Nv} {j : Nat} {a : Mn.E} {es : Es} : vS C (.set (.nm j) (.meth .join a es)) env = Rv.bind (vE C (.meth .join a es) env) (kvset (.nm j) env) := ge_set (by first | rfl | (cases a <;> rfl))
theorem ges_starts {C : CV} {env : Nv} {j : Nat} {a : Mn.E} {es : Es} : vS C (.set (.nm j) (.meth .startswith a es)) env = Rv.bind (vE C (.meth .startswith a es) env) (kvset (.nm j) env) := ge_set (by first | rfl | (cases a <;> rfl))
theorem ge_pnm {env : Nv} {i : Nat} {d : D} : vP (.nm i) d env = Rv.ok (env.set i (some d)) := by first | exact Eq.trans rfl rfl | (rw [vP] <;> rfl)
theorem ge_ptup {env : Nv} {ps : Pats} {xs : List D} : vP (.tup ps) (.tup xs) env = vPs ps xs env := by first | exact Eq.trans rfl rfl | (rw [vP] <;> rfl)
theorem ge_pnil {env : Nv} : vPs .nil [] env = Rv.ok env := by first | exact Eq.trans rfl rfl | (rw [vPs] <;> rfl)
def kvpc (r : Pats) (xs : List D) (env : Nv) : Rv Nv := vPs r xs env
theorem g_pc {r : Pats} {xs : List D} {env : Nv} : kvpc r xs env = vPs r xs env := Eq.trans rfl rfl
theorem ge_pcons {env : Nv} {p : Pat} {r : Pats} {x : D} {xs : List D} : vPs (.cons p r) (x :: xs) env = Rv.bind (vP p x env) (kvpc r xs) := by first | exact Eq.trans rfl rfl | (rw [vPs] <;> rfl)
theorem lk_0 : lenOk [] = .ok () := Eq.trans rfl rfl
theorem lk_1 {a : D} : lenOk [a] = .ok () := Eq.trans rfl rfl
theorem lk_2 {a b : D} : lenOk [a, b] = .ok () := Eq.trans rfl rfl
theorem lk_3 {a b c : D} : lenOk [a, b, c] = .ok () := Eq.trans rfl rfl
/-! loops -/
def nextF (asg : D → Nv → Rv Nv) (b : Nv → Rv (Flow × Nv)) (ds : List D) (q : Rv (Flow × Nv)) : Rv (Flow × Nv) := q.bind fun r => match r with
  | (.nx, env') => forV asg b ds env'
  | (.ct, env') => forV asg b ds env'
  | (.bk, env') => .ok (.nx, env')
  | (.rt d, env') => .ok (.rt d, env')
def kvfor (asg : D → Nv → Rv Nv) (b : Nv → Rv (Flow × Nv)) (ds : List D) (env1 : Nv) : Rv (Flow × Nv) := nextF asg b ds (b env1)
section
variable {asg : D → Nv → Rv Nv} {b : Nv → Rv (Flow × Nv)} {ds : List D} {d : D} {env : Nv}
theorem fo_nil : forV asg b [] env = .ok (.nx, env) := by rw [forV]
theorem fo_cons : forV asg b (d :: ds) env = (asg d env).bind (kvfor asg b ds) := by rw [forV] <;> rfl
theorem fo_app : kvfor asg b ds env = nextF asg b ds (b env) := Eq.trans rfl rfl
theorem fo_nx : nextF asg b ds (.ok (.nx, env)) = forV asg b ds env := Eq.trans rfl rfl
theorem fo_ct : nextF asg b ds (.ok (.ct, env)) = forV asg b ds env := Eq.trans rfl rfl
theorem fo_bk : nextF asg b ds (.ok (.bk, env)) = .ok (.nx, env) := Eq.trans rfl rfl
theorem fo_rt {v : D} : nextF asg b ds (.ok (.rt v, env)) = .ok (.rt v, env) := Eq.trans rfl rfl
/-- a loop that always goes on, its names by a state -/
theorem forV_fold {σ α : Type} {enc : σ → Nv} {ea : α → D} {g : σ → α → σ} : ∀ {items : List α} {s : σ}, (∀ s a, a ∈ items → (asg (ea a) (enc s)).bind b = .ok (.nx, enc (g s a))) → forV asg b (items.map ea) (enc s) = .ok (.nx, enc (items.foldl g s))
  | [], s, _ => by rw [List.map_nil, fo_nil]; rfl
  | a :: items, s, h => by
    have h1 := h s a (List.mem_cons_self ..)
    rw [List.map_cons, fo_cons]
    cases e : asg (ea a) (enc s) with
    | ok e1 =>
      rw [e, rv_ok] at h1
      rw [rv_ok, fo_app, h1, fo_nx, forV_fold fun s b hb => h s b (List.mem_cons_of_mem _ hb)]
      rfl
    | exc x => rw [e] at h1; cases h1
    | bad => rw [e] at h1; cases h1
/-- a loop by what holds before each turn -/
theorem forV_inv {α : Type} {ea : α → D} {R : Rv (Flow × Nv) → Prop} (P : List α → Nv → Prop) : ∀ {items : List α} {env : Nv}, P items env → (∀ a r env, P (a :: r) env → (∃ env', (asg (ea a) env).bind b = .ok (.nx, env') ∧ P r env') ∨ (∃ env', (asg (ea a) env).bind b = .ok (.ct, env') ∧ P r env') ∨ (∃ v env', (asg (ea a) env).bind b = .ok (.rt v, env') ∧ R (.ok (.rt v, env'))) ∨ ∃ env', (asg (ea a) env).bind b = .ok (.bk, env') ∧ R (.ok (.nx, env'))) → (∀ env, P [] env → R (.ok (.nx, env))) → R (forV asg b (items.map ea) env)
  | [], env, hp, _, hd => by rw [List.map_nil, fo_nil]; exact hd _ hp
  | a :: items, env, hp, h, hd => by
    have h1 := h a items env hp
    rw [List.map_cons, fo_cons]
    cases e : asg (ea a) env with
    | ok e1 =>
      rw [e, rv_ok] at h1
      rw [rv_ok, fo_app]
      rcases h1 with ⟨e', q, p⟩ | ⟨e', q, p⟩ | ⟨v, e', q, p⟩ | ⟨e', q, p⟩
      · rw [q, fo_nx]; exact forV_inv P p h hd
      · rw [q, fo_ct]; exact forV_inv P p h hd
      · rw [q, fo_rt]; exact p
      · rw [q, fo_bk]; exact p
    | exc x => rw [e] at h1; simp [Rv.bind] at h1
    | bad => rw [e] at h1; simp [Rv.bind] at h1
end
theorem compV_enc {α : Type} {ea F : α → D} {put : D → Nv → Nv} {cond elt : Nv → Rv D} {env : Nv} : ∀ (items : List α) (acc : List D), (∀ a ∈ items, cond (put (ea a) env) = .ok (.bl true)) → (∀ a ∈ items, elt (put (ea a) env) = .ok (F a)) → acc.length + items.length < 16777216 →
    compV put cond elt env (items.map ea) acc = .ok (acc ++ items.map F)
  | [], acc, _, _, _ => by rw [List.map_nil, compV]; simp
  | a :: items, acc, hc, he, hl => by
    simp only [List.length_cons] at hl
    rw [List.map_cons, compV, hc a (List.mem_cons_self ..), rv_ok, y_asB, rv_ok]
    simp only []
    rw [he a (List.mem_cons_self ..), rv_ok, y_lt16 (by omega), rv_ok, compV_enc items _ (fun b hb => hc b (List.mem_cons_of_mem _ hb)) (fun b hb => he b (List.mem_cons_of_mem _ hb)) (by simp; omega)]
    simp
theorem compV_encF {α : Type} {ea F : α → D} {p : α → Bool} {put : D → Nv → Nv} {cond elt : Nv → Rv D} {env : Nv} : ∀ (items : List α) (acc : List D), (∀ a ∈ items, cond (put (ea a) env) = .ok (.bl (p a))) → (∀ a ∈ items, p a = true → elt (put (ea a) env) = .ok (F a)) → acc.length + items.length < 16777216 →
    compV put cond elt env (items.map ea) acc = .ok (acc ++ (items.filter p).map F)
  | [], acc, _, _, _ => by rw [List.map_nil, compV]; simp
  | a :: items, acc, hc, he, hl => by
    simp only [List.length_cons] at hl
    have ih := fun acc h => compV_encF items acc (fun b hb => hc b (List.mem_cons_of_mem _ hb)) (fun b hb => he b (List.mem_cons_of_mem _ hb)) h
    rw [List.map_cons, compV, hc a (List.mem_cons_self ..), rv_ok, y_asB, rv_ok]
    cases hp : p a with
    | true =>
      simp only []
      rw [he a (List.mem_cons_self ..) hp, rv_ok, y_lt16 (by omega), rv_ok, ih _ (by simp; omega), List.filter_cons_of_pos hp]
      simp
    | false =>
      simp only []
      rw [ih _ (by omega), List.filter_cons_of_neg (by simp [hp])]
theorem ints_enc {α : Type} {p : α → Int} : ∀ {xs : List α}, intsD (xs.map fun a => .int (p a)) = some (xs.map p)
  | [] => rfl
  | x :: xs => by rw [List.map_cons, intsD, ints_enc]; rfl
/-- a call by value, its lists being such places -/
theorem of_callL {defs : List (Str × Def)} {glob : Str → Option D} {n : Nat} {f : Str} {ds vs : List D} {v : D} {S : Store} (hg : ∀ x d, glob x = some d → plain d = true) (h : callV defs glob n f vs = .ok v) (hd : CRs S (fun _ => False) vs ds) (hv : plain v = true) : wp (callN defs glob n f ds) (fun d S' => d = v ∧ Kp S S') S := by
  have := (ctx_ok (defs := defs) hg n).call f vs ds S (fun _ => False) (fun _ z => z.elim) hd
  rw [show (CV.call ⟨glob, callV defs glob n⟩ f vs) = .ok v from h] at this
  exact wp_mono (show wpx _ _ _ _ from this) fun d S' ⟨k, c⟩ => ⟨(cr_plain hv).mp c, k⟩
theorem cr_list {S : Store} {n : Nat} {xs : List D} (h : S[n]? = some (.lst xs)) (hx : plains xs = true) : CR S (fun _ => False) (.lst xs) (.loc n) := cr_lst.mpr ⟨n, xs, rfl, id, h, (crs_plain hx).mpr rfl⟩
theorem cr_pl {S : Store} {d : D} (h : plain d = true) : CR S (fun _ => False) d d := (cr_plain h).mpr rfl
/-- a new list is given back -/
theorem of_callN {defs : List (Str × Def)} {glob : Str → Option D} {n : Nat} {f : Str} {ds vs us : List D} {S : Store} (hg : ∀ x d, glob x = some d → plain d = true) (h : callV defs glob n f vs = .ok (.lst us)) (hd : CRs S (fun _ => False) vs ds) (hv : plains us = true) : wp (callN defs glob n f ds) (fun d S' => (∃ L, d = .loc L ∧ S'[L]? = some (.lst us)) ∧ Kp S S') S := by
  have := (ctx_ok (defs := defs) hg n).call f vs ds S (fun _ => False) (fun _ z => z.elim) hd
  rw [show (CV.call ⟨glob, callV defs glob n⟩ f vs) = .ok (.lst us) from h] at this
  refine wp_mono (show wpx _ _ _ _ from this) fun d S' ⟨k, c⟩ => ⟨?_, k⟩
  obtain ⟨L, es, e1, _, e3, e4⟩ := cr_lst.mp c
  rw [(crs_plain hv).mp e4] at e3
  exact ⟨L, e1, e3⟩
end Mn
/-! Mn by value: loops with names of no account; ranges. -/
namespace Mn
open PySem L2
section
variable {asg : D → Nv → Rv Nv} {b : Nv → Rv (Flow × Nv)} {ds : List D} {d : D} {env : Nv}
/-- a loop that always goes on: its state, and names of no account -/
theorem forV_j {σ α J : Type} (enc : σ → J → Nv) {ea : α → D} {g : σ → α → σ} : ∀ {items : List α} {s : σ} {j : J}, (∀ s j a, a ∈ items → ∃ j', (asg (ea a) (enc s j)).bind b = .ok (.nx, enc (g s a) j')) → ∃ j', forV asg b (items.map ea) (enc s j) = .ok (.nx, enc (items.foldl g s) j')
  | [], s, j, _ => ⟨j, by rw [List.map_nil, fo_nil]; rfl⟩
  | a :: items, s, j, h => by
    obtain ⟨j1, h1⟩ := h s j a (List.mem_cons_self ..)
    obtain ⟨j2, h2⟩ := forV_j (s := g s a) (j := j1) enc (g := g) (items := items) fun s j c hc => h s j c (List.mem_cons_of_mem _ hc)
    refine ⟨j2, ?_⟩
    rw [List.map_cons, fo_cons]
    cases e : asg (ea a) (enc s j) with
    | ok e1 =>
      rw [e, rv_ok] at h1
      rw [rv_ok, fo_app, h1, fo_nx, h2]
      rfl
    | exc x => rw [e] at h1; cases h1
    | bad => rw [e] at h1; cases h1
/-- a loop whose turns stand in a relation -/
theorem forV_r {σ α : Type} (enc : σ → Nv → Prop) {ea : α → D} {g : σ → α → σ} : ∀ {items : List α} {s : σ} {env : Nv}, enc s env → (∀ s env a, a ∈ items → enc s env → ∃ env', (asg (ea a) env).bind b = .ok (.nx, env') ∧ enc (g s a) env') → ∃ env', forV asg b (items.map ea) env = .ok (.nx, env') ∧ enc (items.foldl g s) env'
  | [], s, env, h0, _ => ⟨env, by rw [List.map_nil, fo_nil], h0⟩
  | a :: items, s, env, h0, h => by
    obtain ⟨e1, h1, h1'⟩ := h s env a (List.mem_cons_self ..) h0
    obtain ⟨e2, h2, h2'⟩ := forV_r enc (g := g) (items := items) h1' fun s j c hc => h s j c (List.mem_cons_of_mem _ hc)
    refine ⟨e2, ?_, h2'⟩
    rw [List.map_cons, fo_cons]
    cases e : asg (ea a) env with
    | ok e3 =>
      rw [e, rv_ok] at h1
      rw [rv_ok, fo_app, h1, fo_nx, h2]
    | exc x => rw [e] at h1; cases h1
    | bad => rw [e] at h1; cases h1
/-- a loop that always goes on, with what holds before each turn -/
theorem forV_s {σ α J : Type} (enc : σ → J → Nv) (P : List α → σ → Prop) {ea : α → D} {g : σ → α → σ} : ∀ {items : List α} {s : σ} {j : J}, P items s → (∀ a r s j, P (a :: r) s → (∃ j', (asg (ea a) (enc s j)).bind b = .ok (.nx, enc (g s a) j')) ∧ P r (g s a)) → ∃ j', forV asg b (items.map ea) (enc s j) = .ok (.nx, enc (items.foldl g s) j')
  | [], s, j, _, _ => ⟨j, by rw [List.map_nil, fo_nil]; rfl⟩
  | a :: items, s, j, hp, h => by
    obtain ⟨⟨j1, h1⟩, hp1⟩ := h a items s j hp
    obtain ⟨j2, h2⟩ := forV_s enc P (ea := ea) (g := g) (items := items) (j := j1) hp1 h
    refine ⟨j2, ?_⟩
    rw [List.map_cons, fo_cons]
    cases e : asg (ea a) (enc s j) with
    | ok e1 =>
      rw [e, rv_ok] at h1
      rw [rv_ok, fo_app, h1, fo_nx, h2]
      rfl
    | exc x => rw [e] at h1; cases h1
    | bad => rw [e] at h1; cases h1
/-- the same where turns may end by continue -/
theorem forV_c {σ α J : Type} (enc : σ → J → Nv) (P : List α → σ → Prop) {ea : α → D} {g : σ → α → σ} : ∀ {items : List α} {s : σ} {j : J}, P items s → (∀ a r s j, P (a :: r) s → (∃ j' f, (f = Mn.Flow.nx ∨ f = Mn.Flow.ct) ∧ (asg (ea a) (enc s j)).bind b = .ok (f, enc (g s a) j')) ∧ P r (g s a)) → ∃ j', forV asg b (items.map ea) (enc s j) = .ok (.nx, enc (items.foldl g s) j')
  | [], s, j, _, _ => ⟨j, by rw [List.map_nil, fo_nil]; rfl⟩
  | a :: items, s, j, hp, h => by
    obtain ⟨⟨j1, f, hf, h1⟩, hp1⟩ := h a items s j hp
    obtain ⟨j2, h2⟩ := forV_c enc P (ea := ea) (g := g) (items := items) (j := j1) hp1 h
    refine ⟨j2, ?_⟩
    rw [List.map_cons, fo_cons]
    cases e : asg (ea a) (enc s j) with
    | ok e1 =>
      rw [e, rv_ok] at h1
      rcases hf with rfl | rfl
      · rw [rv_ok, fo_app, h1, fo_nx, h2]
        rfl
      · rw [rv_ok, fo_app, h1, fo_ct, h2]
        rfl
    | exc x => rw [e] at h1; cases h1
    | bad => rw [e] at h1; cases h1
/-- a walk that may end early -/
def runE {σ α : Type} (g : σ → α → σ) (u : σ → α → Option D) : List α → σ → Sum σ D
  | [], s => .inl s
  | a :: r, s => match u s a with
    | none => runE g u r (g s a)
    | some v => .inr v
/-- a loop that may end early with a value: u tells whether -/
theorem forV_e {σ α J : Type} (enc : σ → J → Nv) {ea : α → D} {g : σ → α → σ} {u : σ → α → Option D} : ∀ {items : List α} {s : σ} {j : J}, (∀ s j a, a ∈ items → (u s a = none → ∃ j', (asg (ea a) (enc s j)).bind b = .ok (.nx, enc (g s a) j')) ∧ (∀ v, u s a = some v → ∃ e', (asg (ea a) (enc s j)).bind b = .ok (.rt v, e'))) →
    match runE g u items s with
    | .inl s' => ∃ j', forV asg b (items.map ea) (enc s j) = .ok (.nx, enc s' j')
    | .inr v => ∃ e', forV asg b (items.map ea) (enc s j) = .ok (.rt v, e')
  | [], s, j, _ => ⟨j, by rw [List.map_nil, fo_nil]⟩
  | a :: items, s, j, h => by
    have h0 := h s j a (List.mem_cons_self ..)
    rw [runE]
    cases e : u s a with
    | none =>
      obtain ⟨j1, h1⟩ := h0.1 e
      have h2 := forV_e (s := g s a) (j := j1) enc (g := g) (u := u) (items := items) fun s j c hc => h s j c (List.mem_cons_of_mem _ hc)
      simp only []
      rw [List.map_cons, fo_cons]
      cases e1 : asg (ea a) (enc s j) with
      | ok e2 =>
        rw [e1, rv_ok] at h1
        rw [rv_ok, fo_app, h1, fo_nx]
        exact h2
      | exc x => rw [e1] at h1; cases h1
      | bad => rw [e1] at h1; cases h1
    | some v =>
      obtain ⟨e', h1⟩ := h0.2 v e
      refine ⟨e', ?_⟩
      rw [List.map_cons, fo_cons]
      cases e1 : asg (ea a) (enc s j) with
      | ok e2 =>
        rw [e1, rv_ok] at h1
        rw [rv_ok, fo_app, h1, fo_rt]
      | exc x => rw [e1] at h1; cases h1
      | bad => rw [e1] at h1; cases h1
end
theorem y_maxN {a b : Nat} : biV .max2 [.int (a : Nat), .int (b : Nat)] = .ok (.int ((max a b : Nat) : Int)) := by
  rw [y_max2]
  congr 2
  split <;> omega
theorem rng_map {n a : Nat} : rngD (a : Nat) n = (List.range n).map fun k => D.int ((a + k : Nat) : Int) := by
  unfold rngD
  refine List.map_congr_left fun k _ => ?_
  congr 1
  push_cast; omega
theorem rng_zip {α : Type} {l : List α} : rngD 0 l.length = l.zipIdx.map fun p => D.int (p.2 : Nat) := by
  unfold rngD
  rw [List.zipIdx_eq_zip_range', List.range_eq_range']
  apply List.ext_getElem
  · simp
  · intro i h1 h2
    simp
theorem zip_at {α : Type} {l : List α} {p : α × Nat} (h : p ∈ l.zipIdx) : l[p.2]? = some p.1 ∧ p.2 < l.length := by
  have := List.mem_zipIdx_iff_getElem?.mp h
  exact ⟨this, (List.getElem?_eq_some_iff.mp this).1⟩
theorem y_atT {xs : List D} {k : Nat} {a : D} (h : xs[k]? = some a) : idxV (.tup xs) (.int (k : Nat)) = .ok a := by rw [y_idxT, atI_nat h]; rfl
theorem y_atL {xs : List D} {k : Nat} {a : D} (h : xs[k]? = some a) : idxV (.lst xs) (.int (k : Nat)) = .ok a := by rw [y_idxL, atI_nat h]; rfl
/-- a walk of a tuple in the store's evaluator, by what is left -/
theorem for_suf {α : Type} {ea : α → D} {asg : D → Nv → M Nv} {b : Nv → M (Mn.Flow × Nv)} {Q : Mn.Flow × Nv → Store → Prop} {E : Exn → Store → Prop} {S : Store} {env : Nv} (P : List α → Nv → Store → Prop) (items : List α) (hl : items.length < 1000000000) (p0 : P items env S)
    (step : ∀ a r env S, P (a :: r) env S → wpx (asg (ea a) env) (fun e1 S1 => wpx (b e1) (turnS (P r) Q) E S1) E S)
    (done : ∀ env S, P [] env S → Q (.nx, env) S) : wpx (forF (.tup (items.map ea)) asg b FUEL 0 env) Q E S := by
  refine for_items (items.map ea) (fun i env S => P (items.drop i) env S) (by rw [List.length_map]; exact fuel_big (by omega)) p0 (fun i env S _ _ => rfl) ?_ ?_
  · intro i d env S hi hp
    rw [List.getElem?_map] at hi
    cases e : items[i]? with
    | none => rw [e] at hi; cases hi
    | some a =>
      rw [e] at hi
      cases hi
      obtain ⟨hlt, rfl⟩ := List.getElem?_eq_some_iff.mp e
      rw [List.drop_eq_getElem_cons hlt] at hp
      exact step _ _ env S hp
  · intro env S hp
    rw [List.length_map, List.drop_length] at hp
    exact done env S hp
end Mn
namespace Lw
open PySem Mn L2
def top (i : Nat) : Stmt := PySem.Challenge.pw_flowform_k13_printed_programs.main.body.getD i (.Pass ⟨0, 0, 0, 0⟩)
def names : List Str := ["show_part", "show_condition", "show_simple", "loop_head", "if_lines", "statement_lines", "body_lines", "show_program", "_law_tape", "_law_draw", "_law_names", "_law_leaf", "_law_joined", "_law_condition", "_law_parts", "_law_wild", "_law_tree", "_law_wrapped", "_law_any", "_law_shown", "_law_simple", "_law_lines", "_law_printed", "_law_great", "law"]
def globs : List (Str × D) := [("TRUTHS", (.tup [(.str "false"), (.str "true")]))]
def glob (x : Str) : Option D := globs.lookup x
abbrev st_show_part : Stmt := top 2
def N_show_part : List Str := ["condition", "kinds"]
abbrev st_show_condition : Stmt := top 3
def N_show_condition : List Str := ["condition", "kind", "part"]
abbrev st_show_simple : Stmt := top 4
def N_show_simple : List Str := ["statement", "kind"]
abbrev st_loop_head : Stmt := top 5
def N_loop_head : List Str := ["statement", "label"]
abbrev st_if_lines : Stmt := top 6
def N_if_lines : List Str := ["statement", "indent", "start", "lines", "second"]
abbrev st_statement_lines : Stmt := top 7
def N_statement_lines : List Str := ["statement", "indent", "kind", "lines"]
abbrev st_body_lines : Stmt := top 8
def N_body_lines : List Str := ["body", "indent", "lines", "statement"]
abbrev st_show_program : Stmt := top 9
def N_show_program : List Str := ["program", "line"]
abbrev st__law_tape : Stmt := top 11
def N__law_tape : List Str := ["_law_script", "_law_total", "_law_cell"]
abbrev st__law_draw : Stmt := top 12
def N__law_draw : List Str := ["_law_tape_here", "_law_many", "_law_number", "_law_place"]
abbrev st__law_names : Stmt := top 13
def N__law_names : List Str := ["_law_tape_here", "_law_many", "_law_signs", "_law_words", "_law_stem", "_law_place", "_law_names_here", "_law_k", "_law_name", "_law_j", "_law_choice"]
abbrev st__law_leaf : Stmt := top 14
def N__law_leaf : List Str := ["_law_tape_here", "_law_world", "_law_flags", "_law_free"]
abbrev st__law_joined : Stmt := top 15
def N__law_joined : List Str := ["_law_word", "_law_left", "_law_right", "_law_parts_here", "_law_side"]
abbrev st__law_condition : Stmt := top 16
def N__law_condition : List Str := ["_law_tape_here", "_law_world", "_law_flags", "_law_limit", "_law_parts_here", "_law_k", "_law_part", "_law_j", "_law_place"]
abbrev st__law_parts : Stmt := top 17
def N__law_parts : List Str := ["_law_condition_here", "_law_part"]
abbrev st__law_wild : Stmt := top 18
def N__law_wild : List Str := ["_law_tape_here", "_law_names_here", "_law_room", "_law_depth", "_law_choice", "_law_name", "_law_label", "_law_value", "_law_condition_here", "_law_body", "_law_second", "_law_number", "_law_simple_here"]
abbrev st__law_tree : Stmt := top 19
def N__law_tree : List Str := ["_law_tape_here", "_law_names_here", "_law_room", "_law_depth", "_law_body", "_law_k"]
abbrev st__law_wrapped : Stmt := top 20
def N__law_wrapped : List Str := ["_law_tape_here", "_law_names_here", "_law_body", "_law_many", "_law_k", "_law_name", "_law_leaf_here", "_law_shells"]
abbrev st__law_any : Stmt := top 21
def N__law_any : List Str := ["_law_tape_here", "_law_names_here", "_law_share", "_law_room", "_law_program", "_law_k"]
abbrev st__law_shown : Stmt := top 22
def N__law_shown : List Str := ["_law_condition_here", "_law_texts", "_law_part", "_law_text"]
abbrev st__law_simple : Stmt := top 23
def N__law_simple : List Str := ["_law_statement"]
abbrev st__law_lines : Stmt := top 24
def N__law_lines : List Str := ["_law_body", "_law_indent", "_law_lines_here", "_law_statement", "_law_second", "_law_rest", "_law_head"]
abbrev st__law_printed : Stmt := top 25
def N__law_printed : List Str := ["_law_program", "_law_line"]
abbrev st__law_great : Stmt := top 26
def N__law_great : List Str := ["_law_tape_here", "_law_names_here", "_law_condition_here", "_law_k", "_law_leaf_here", "_law_choice"]
abbrev st_law : Stmt := top 27
def N_law : List Str := ["_law_script", "_law_tape_here", "_law_names_here", "_law_share", "_law_program", "_law_due", "_law_other", "_law_second", "_law_k", "_law_first"]
def b_show_part_1 : Sms :=
  (.cons (.ret (.bin .add (.bin .add (.c (.str "(")) (.call "show_condition" (.cons (.v 0) .nil))) (.c (.str ")"))))
  .nil)
def b_show_part_2 : Sms :=
  (.cons (.ret (.call "show_condition" (.cons (.v 0) .nil)))
  .nil)
def b_show_part : Sms :=
  (.cons (.ife (.cmp .inn (.idx (.v 0) (.c (.int 0))) (.v 1)) b_show_part_1 .nil)
  b_show_part_2)
def d_show_part : Def := ⟨2, 2, b_show_part⟩
def e_show_condition_1 : Mn.E :=
  (.call "show_part" (.cons (.v 2) (.cons (.tup (.cons (.c (.str "or")) .nil)) .nil)))
def e_show_condition_2 : Mn.E :=
  (.call "show_condition" (.cons (.v 2) .nil))
def b_show_condition_3 : Sms :=
  (.cons (.ret (.meth .join (.c (.str " && ")) (.cons (.comp e_show_condition_1 2 [2] .seq (.cons (.idx (.v 0) (.c (.int 1))) .nil) (.c (.bl true))) .nil)))
  .nil)
def b_show_condition_4 : Sms :=
  (.cons (.ret (.meth .join (.c (.str " || ")) (.cons (.comp e_show_condition_2 2 [2] .seq (.cons (.idx (.v 0) (.c (.int 1))) .nil) (.c (.bl true))) .nil)))
  .nil)
def b_show_condition_5 : Sms :=
  (.cons (.ret (.bin .add (.c (.str "!")) (.call "show_part" (.cons (.idx (.v 0) (.c (.int 1))) (.cons (.tup (.cons (.c (.str "and")) (.cons (.c (.str "or")) .nil))) .nil)))))
  .nil)
def b_show_condition_6 : Sms :=
  (.cons (.ife (.cmp .eq (.v 1) (.c (.str "and"))) b_show_condition_3 .nil)
  b_show_condition_4)
def b_show_condition_7 : Sms :=
  (.cons (.ife (.cmp .eq (.v 1) (.c (.str "not"))) b_show_condition_5 .nil)
  b_show_condition_6)
def b_show_condition_8 : Sms :=
  (.cons (.ife (.cmp .eq (.v 1) (.c (.str "flag"))) (.cons (.ret (.idx (.v 0) (.c (.int 1))))
  .nil) .nil)
  b_show_condition_7)
def b_show_condition : Sms :=
  (.cons (.set (.nm 1) (.idx (.v 0) (.c (.int 0))))
  (.cons (.ife (.cmp .eq (.v 1) (.c (.str "call"))) (.cons (.ret (.bin .add (.idx (.v 0) (.c (.int 1))) (.c (.str "()"))))
  .nil) .nil)
  b_show_condition_8))
def d_show_condition : Def := ⟨1, 3, b_show_condition⟩
def b_show_simple_1 : Sms :=
  (.cons (.ret (.bin .add (.bin .add (.bin .add (.v 1) (.c (.str " "))) (.bi .str (.cons (.idx (.v 0) (.c (.int 1))) .nil))) (.c (.str ";"))))
  .nil)
def b_show_simple_2 : Sms :=
  (.cons (.ife (.cmp .isn (.idx (.v 0) (.c (.int 1))) (.c .non)) (.cons (.ret (.bin .add (.v 1) (.c (.str ";"))))
  .nil) .nil)
  b_show_simple_1)
def b_show_simple_3 : Sms :=
  (.cons (.ife (.cmp .eq (.v 1) (.c (.str "set"))) (.cons (.ret (.bin .add (.bin .add (.bin .add (.idx (.v 0) (.c (.int 1))) (.c (.str " = "))) (.idx (.g "TRUTHS") (.bi .int (.cons (.idx (.v 0) (.c (.int 2))) .nil)))) (.c (.str ";"))))
  .nil) .nil)
  b_show_simple_2)
def b_show_simple_4 : Sms :=
  (.cons (.ife (.cmp .eq (.v 1) (.c (.str "let"))) (.cons (.ret (.bin .add (.bin .add (.bin .add (.bin .add (.c (.str "let ")) (.idx (.v 0) (.c (.int 1)))) (.c (.str " = "))) (.idx (.g "TRUTHS") (.bi .int (.cons (.idx (.v 0) (.c (.int 2))) .nil)))) (.c (.str ";"))))
  .nil) .nil)
  b_show_simple_3)
def b_show_simple : Sms :=
  (.cons (.set (.nm 1) (.idx (.v 0) (.c (.int 0))))
  (.cons (.ife (.cmp .eq (.v 1) (.c (.str "call"))) (.cons (.ret (.bin .add (.idx (.v 0) (.c (.int 1))) (.c (.str "();"))))
  .nil) .nil)
  b_show_simple_4))
def d_show_simple : Def := ⟨1, 2, b_show_simple⟩
def b_loop_head_1 : Sms :=
  (.cons (.ret (.bin .add (.bin .add (.bin .add (.v 1) (.c (.str "while ("))) (.call "show_condition" (.cons (.idx (.v 0) (.c (.int 2))) .nil))) (.c (.str ") {"))))
  .nil)
def b_loop_head_2 : Sms :=
  (.cons (.ret (.bin .add (.v 1) (.c (.str "for (;;) {"))))
  .nil)
def b_loop_head_3 : Sms :=
  (.cons (.ife (.cmp .eq (.idx (.v 0) (.c (.int 0))) (.c (.str "while"))) b_loop_head_1 .nil)
  b_loop_head_2)
def b_loop_head : Sms :=
  (.cons (.set (.nm 1) (.c (.str "")))
  (.cons (.ife (.cmp .isnn (.idx (.v 0) (.c (.int 1))) (.c .non)) (.cons (.set (.nm 1) (.bin .add (.idx (.v 0) (.c (.int 1))) (.c (.str ": "))))
  .nil) .nil)
  b_loop_head_3))
def d_loop_head : Def := ⟨1, 2, b_loop_head⟩
def b_if_lines_1 : Sms :=
  (.cons (.ret (.bin .add (.v 3) (.call "if_lines" (.cons (.idx (.v 4) (.c (.int 0))) (.cons (.v 1) (.cons (.c (.str "} else ")) .nil))))))
  .nil)
def b_if_lines_2 : Sms :=
  (.cons (.expr (.meth .append (.v 3) (.cons (.bin .add (.v 1) (.c (.str "} else {"))) .nil)))
  (.cons (.expr (.meth .extend (.v 3) (.cons (.call "body_lines" (.cons (.v 4) (.cons (.bin .add (.v 1) (.c (.str "  "))) .nil))) .nil)))
  (.cons (.ret (.bin .add (.v 3) (.lst (.cons (.bin .add (.v 1) (.c (.str "}"))) .nil))))
  .nil)))
def b_if_lines_3 : Sms :=
  (.cons (.ife (.and (.cmp .eq (.bi .len (.cons (.v 4) .nil)) (.c (.int 1))) (.cmp .eq (.idx (.idx (.v 4) (.c (.int 0))) (.c (.int 0))) (.c (.str "if")))) b_if_lines_1 .nil)
  b_if_lines_2)
def b_if_lines : Sms :=
  (.cons (.set (.nm 3) (.lst (.cons (.bin .add (.bin .add (.bin .add (.bin .add (.v 1) (.v 2)) (.c (.str "if ("))) (.call "show_condition" (.cons (.idx (.v 0) (.c (.int 1))) .nil))) (.c (.str ") {"))) .nil)))
  (.cons (.expr (.meth .extend (.v 3) (.cons (.call "body_lines" (.cons (.idx (.v 0) (.c (.int 2))) (.cons (.bin .add (.v 1) (.c (.str "  "))) .nil))) .nil)))
  (.cons (.set (.nm 4) (.idx (.v 0) (.c (.int 3))))
  (.cons (.ife (.cmp .eq (.bi .len (.cons (.v 4) .nil)) (.c (.int 0))) (.cons (.ret (.bin .add (.v 3) (.lst (.cons (.bin .add (.v 1) (.c (.str "}"))) .nil))))
  .nil) .nil)
  b_if_lines_3))))
def d_if_lines : Def := ⟨3, 5, b_if_lines⟩
def b_statement_lines_1 : Sms :=
  (.cons (.set (.nm 3) (.bin .add (.lst (.cons (.bin .add (.v 1) (.c (.str "try {"))) .nil)) (.call "body_lines" (.cons (.idx (.v 0) (.c (.int 1))) (.cons (.bin .add (.v 1) (.c (.str "  "))) .nil)))))
  (.cons (.ret (.bin .add (.bin .add (.bin .add (.v 3) (.lst (.cons (.bin .add (.v 1) (.c (.str "} finally {"))) .nil))) (.call "body_lines" (.cons (.idx (.v 0) (.c (.int 2))) (.cons (.bin .add (.v 1) (.c (.str "  "))) .nil)))) (.lst (.cons (.bin .add (.v 1) (.c (.str "}"))) .nil))))
  .nil))
def b_statement_lines_2 : Sms :=
  (.cons (.ret (.lst (.cons (.bin .add (.v 1) (.call "show_simple" (.cons (.v 0) .nil))) .nil)))
  .nil)
def b_statement_lines_3 : Sms :=
  (.cons (.ret (.bin .add (.bin .add (.lst (.cons (.bin .add (.v 1) (.c (.str "{"))) .nil)) (.call "body_lines" (.cons (.idx (.v 0) (.c (.int 1))) (.cons (.bin .add (.v 1) (.c (.str "  "))) .nil)))) (.lst (.cons (.bin .add (.v 1) (.c (.str "}"))) .nil))))
  .nil)
def b_statement_lines_4 : Sms :=
  (.cons (.ife (.cmp .eq (.v 2) (.c (.str "try"))) b_statement_lines_1 .nil)
  b_statement_lines_2)
def b_statement_lines_5 : Sms :=
  (.cons (.ret (.bin .add (.bin .add (.lst (.cons (.bin .add (.v 1) (.call "loop_head" (.cons (.v 0) .nil))) .nil)) (.call "body_lines" (.cons (.idx (.v 0) (.neg (.c (.int 1)))) (.cons (.bin .add (.v 1) (.c (.str "  "))) .nil)))) (.lst (.cons (.bin .add (.v 1) (.c (.str "}"))) .nil))))
  .nil)
def b_statement_lines_6 : Sms :=
  (.cons (.ife (.cmp .eq (.v 2) (.c (.str "block"))) b_statement_lines_3 .nil)
  b_statement_lines_4)
def b_statement_lines_7 : Sms :=
  (.cons (.ret (.call "if_lines" (.cons (.v 0) (.cons (.v 1) (.cons (.c (.str "")) .nil)))))
  .nil)
def b_statement_lines_8 : Sms :=
  (.cons (.ife (.or (.cmp .eq (.v 2) (.c (.str "while"))) (.cmp .eq (.v 2) (.c (.str "for")))) b_statement_lines_5 .nil)
  b_statement_lines_6)
def b_statement_lines : Sms :=
  (.cons (.set (.nm 2) (.idx (.v 0) (.c (.int 0))))
  (.cons (.ife (.cmp .eq (.v 2) (.c (.str "if"))) b_statement_lines_7 .nil)
  b_statement_lines_8))
def d_statement_lines : Def := ⟨2, 4, b_statement_lines⟩
def b_body_lines_1 : Sms :=
  (.cons (.expr (.meth .extend (.v 2) (.cons (.call "statement_lines" (.cons (.v 3) (.cons (.v 1) .nil))) .nil)))
  .nil)
def b_body_lines_2 : Sms :=
  (.cons (.ret (.v 2))
  .nil)
def b_body_lines : Sms :=
  (.cons (.set (.nm 2) (.lst .nil))
  (.cons (.fr (.nm 3) .seq (.cons (.v 0) .nil) b_body_lines_1)
  b_body_lines_2))
def d_body_lines : Def := ⟨2, 4, b_body_lines⟩
def e_show_program_1 : Mn.E :=
  (.bin .add (.v 1) (.c (.str "\n")))
def b_show_program : Sms :=
  (.cons (.ret (.meth .join (.c (.str "")) (.cons (.comp e_show_program_1 1 [1] .seq (.cons (.call "body_lines" (.cons (.v 0) (.cons (.c (.str "")) .nil))) .nil) (.c (.bl true))) .nil)))
  .nil)
def d_show_program : Def := ⟨1, 2, b_show_program⟩
def b__law_tape_1 : Sms :=
  (.cons (.set (.nm 1) (.bin .mod (.bi .int (.cons (.bin .add (.bin .mul (.v 1) (.c (.int 31))) (.bi .abs (.cons (.bi .int (.cons (.v 2) .nil)) .nil))) .nil)) (.c (.int 2147483647))))
  .nil)
def b__law_tape_2 : Sms :=
  (.cons (.ret (.lst (.cons (.bi .list (.cons (.v 0) .nil)) (.cons (.c (.int 0)) (.cons (.c (.int 0)) (.cons (.v 1) .nil))))))
  .nil)
def b__law_tape : Sms :=
  (.cons (.set (.nm 1) (.c (.int 7)))
  (.cons (.fr (.nm 2) .seq (.cons (.v 0) .nil) b__law_tape_1)
  b__law_tape_2))
def d__law_tape : Def := ⟨1, 3, b__law_tape⟩
def b__law_draw_1 : Sms :=
  (.cons (.set (.sub (.v 0) (.c (.int 2))) (.v 2))
  .nil)
def b__law_draw_2 : Sms :=
  (.cons (.set (.sub (.v 0) (.c (.int 1))) (.bin .add (.v 3) (.c (.int 1))))
  (.cons (.ife (.cmp .lt (.v 2) (.bin .pow (.c (.int 10)) (.c (.int 18)))) (.cons (.set (.nm 2) (.bin .mod (.bi .int (.cons (.bin .add (.bin .add (.bin .mul (.v 2) (.c (.int 48271))) (.bin .mul (.v 3) (.c (.int 69621)))) (.c (.int 5))) .nil)) (.c (.int 2147483647))))
  (.cons (.set (.nm 2) (.bin .mod (.bi .int (.cons (.bin .mul (.v 2) (.c (.int 69621))) .nil)) (.c (.int 2147483629))))
  (.cons (.ret (.bin .mod (.bi .int (.cons (.v 2) .nil)) (.bi .max2 (.cons (.v 1) (.cons (.c (.int 1)) .nil)))))
  .nil))) .nil)
  b__law_draw_1))
def b__law_draw_3 : Sms :=
  (.cons (.set (.nm 2) (.idx (.v 0) (.c (.int 2))))
  (.cons (.set (.sub (.v 0) (.c (.int 2))) (.bin .fdiv (.v 2) (.bi .max2 (.cons (.v 1) (.cons (.c (.int 2)) .nil)))))
  (.cons (.ret (.bin .mod (.bi .int (.cons (.v 2) .nil)) (.bi .max2 (.cons (.v 1) (.cons (.c (.int 1)) .nil)))))
  .nil)))
def b__law_draw : Sms :=
  (.cons (.ife (.cmp .eq (.idx (.v 0) (.c (.int 2))) (.c (.int 0))) (.cons (.set (.nm 3) (.idx (.v 0) (.c (.int 1))))
  (.cons (.set (.nm 2) (.c (.int 0)))
  (.cons (.ife (.cmp .lt (.v 3) (.bi .len (.cons (.idx (.v 0) (.c (.int 0))) .nil))) (.cons (.set (.nm 2) (.bi .abs (.cons (.bi .int (.cons (.idx (.idx (.v 0) (.c (.int 0))) (.v 3)) .nil)) .nil)))
  .nil) (.cons (.set (.sub (.v 0) (.c (.int 3))) (.bin .mod (.bi .int (.cons (.bin .add (.bin .add (.bin .mul (.idx (.v 0) (.c (.int 3))) (.c (.int 48271))) (.v 3)) (.c (.int 1))) .nil)) (.c (.int 2147483647))))
  (.cons (.set (.nm 2) (.idx (.v 0) (.c (.int 3))))
  .nil)))
  b__law_draw_2))) .nil)
  b__law_draw_3)
def d__law_draw : Def := ⟨2, 4, b__law_draw⟩
def b__law_names_1 : Sms :=
  (.cons (.expr (.meth .append (.v 6) (.cons (.v 8) .nil)))
  .nil)
def b__law_names_2 : Sms :=
  (.cons (.ife (.or (.cmp .inn (.v 8) (.v 3)) (.cmp .inn (.v 8) (.v 6))) (.cons (.set (.nm 8) (.bin .add (.c (.str "one_of_two_equal_names_")) (.bi .str (.cons (.v 7) .nil))))
  .nil) .nil)
  b__law_names_1)
def b__law_names_3 : Sms :=
  (.cons (.ife (.cmp .eq (.v 10) (.c (.int 2))) (.cons (.set (.nm 8) (.slcH (.idx (.v 3) (.call "_law_draw" (.cons (.v 0) (.cons (.c (.int 12)) .nil)))) (.neg (.c (.int 1)))))
  .nil) .nil)
  b__law_names_2)
def b__law_names_4 : Sms :=
  (.cons (.ife (.cmp .eq (.v 10) (.c (.int 1))) (.cons (.set (.nm 8) (.bin .add (.idx (.v 3) (.call "_law_draw" (.cons (.v 0) (.cons (.c (.int 12)) .nil)))) (.slcH (.v 8) (.c (.int 1)))))
  .nil) .nil)
  b__law_names_3)
def b__law_names_5 : Sms :=
  (.cons (.set (.nm 8) (.bin .add (.v 8) (.idx (.v 2) (.call "_law_draw" (.cons (.v 0) (.cons (.c (.int 63)) .nil))))))
  .nil)
def b__law_names_6 : Sms :=
  (.cons (.set (.nm 10) (.call "_law_draw" (.cons (.v 0) (.cons (.c (.int 16)) .nil))))
  (.cons (.ife (.cmp .eq (.v 10) (.c (.int 0))) (.cons (.set (.nm 8) (.bin .add (.v 8) (.bin .mul (.c (.str "x")) (.bin .sub (.c (.int 30)) (.bi .len (.cons (.v 8) .nil))))))
  .nil) .nil)
  b__law_names_4))
def b__law_names_7 : Sms :=
  (.cons (.set (.nm 8) (.bin .add (.bin .add (.slcH (.v 4) (.v 5)) (.idx (.v 2) (.call "_law_draw" (.cons (.v 0) (.cons (.c (.int 52)) .nil))))) (.slcL (.v 4) (.v 5))))
  (.cons (.fr (.nm 9) .rng1 (.cons (.idx (.lst (.cons (.c (.int 0)) (.cons (.c (.int 0)) (.cons (.c (.int 0)) (.cons (.c (.int 1)) (.cons (.c (.int 2)) (.cons (.c (.int 6)) .nil))))))) (.call "_law_draw" (.cons (.v 0) (.cons (.c (.int 6)) .nil)))) .nil) b__law_names_5)
  b__law_names_6))
def b__law_names_8 : Sms :=
  (.cons (.ret (.v 6))
  .nil)
def b__law_names : Sms :=
  (.cons (.set (.nm 2) (.c (.str "abcdefghijklmnopqrstuvwxyzABCDEFGHIJKLMNOPQRSTUVWXYZ0123456789_")))
  (.cons (.set (.nm 3) (.lst (.cons (.c (.str "let")) (.cons (.c (.str "if")) (.cons (.c (.str "else")) (.cons (.c (.str "while")) (.cons (.c (.str "for")) (.cons (.c (.str "break")) (.cons (.c (.str "continue")) (.cons (.c (.str "return")) (.cons (.c (.str "try")) (.cons (.c (.str "finally")) (.cons (.c (.str "true")) (.cons (.c (.str "false")) .nil))))))))))))))
  (.cons (.set (.nm 4) (.idx (.lst (.cons (.c (.str "")) (.cons (.c (.str "")) (.cons (.c (.str "sharedStem")) (.cons (.c (.str "while_x")) .nil))))) (.call "_law_draw" (.cons (.v 0) (.cons (.c (.int 4)) .nil)))))
  (.cons (.set (.nm 5) (.call "_law_draw" (.cons (.v 0) (.cons (.bin .add (.bi .len (.cons (.v 4) .nil)) (.c (.int 1))) .nil))))
  (.cons (.set (.nm 6) (.lst .nil))
  (.cons (.fr (.nm 7) .rng1 (.cons (.v 1) .nil) b__law_names_7)
  b__law_names_8))))))
def d__law_names : Def := ⟨2, 11, b__law_names⟩
def b__law_leaf_1 : Sms :=
  (.cons (.ret (.tup (.cons (.c (.str "flag")) (.cons (.idx (.v 2) (.call "_law_draw" (.cons (.v 0) (.cons (.bi .len (.cons (.v 2) .nil)) .nil)))) .nil))))
  .nil)
def b__law_leaf_2 : Sms :=
  (.cons (.set (.sub (.v 3) (.c (.int 1))) (.bin .sub (.idx (.v 3) (.c (.int 1))) (.c (.int 1))))
  (.cons (.ret (.tup (.cons (.c (.str "call")) (.cons (.idx (.idx (.v 1) (.c (.int 1))) (.call "_law_draw" (.cons (.v 0) (.cons (.bi .len (.cons (.idx (.v 1) (.c (.int 1))) .nil)) .nil)))) .nil))))
  .nil))
def b__law_leaf : Sms :=
  (.cons (.set (.nm 3) (.idx (.v 1) (.c (.int 0))))
  (.cons (.ife (.and (.tr (.v 2)) (.or (.cmp .eq (.idx (.v 3) (.c (.int 1))) (.c (.int 0))) (.cmp .eq (.call "_law_draw" (.cons (.v 0) (.cons (.c (.int 3)) .nil))) (.c (.int 0))))) b__law_leaf_1 .nil)
  b__law_leaf_2))
def d__law_leaf : Def := ⟨3, 4, b__law_leaf⟩
def b__law_joined_1 : Sms :=
  (.cons (.ife (.cmp .eq (.idx (.v 4) (.c (.int 0))) (.v 0)) (.cons (.set (.nm 3) (.bin .add (.v 3) (.bi .list (.cons (.idx (.v 4) (.c (.int 1))) .nil))))
  .nil) (.cons (.expr (.meth .append (.v 3) (.cons (.v 4) .nil)))
  .nil))
  .nil)
def b__law_joined_2 : Sms :=
  (.cons (.ret (.tup (.cons (.v 0) (.cons (.bi .tuple (.cons (.v 3) .nil)) .nil))))
  .nil)
def b__law_joined : Sms :=
  (.cons (.set (.nm 3) (.lst .nil))
  (.cons (.fr (.nm 4) .seq (.cons (.lst (.cons (.v 1) (.cons (.v 2) .nil))) .nil) b__law_joined_1)
  b__law_joined_2))
def d__law_joined : Def := ⟨3, 5, b__law_joined⟩
def b__law_condition_1 : Sms :=
  (.cons (.set (.nm 4) (.bin .add (.bin .add (.slcH (.v 4) (.v 8)) (.lst (.cons (.v 6) .nil))) (.slcL (.v 4) (.bin .add (.v 8) (.c (.int 2))))))
  .nil)
def b__law_condition_2 : Sms :=
  (.cons (.set (.nm 8) (.call "_law_draw" (.cons (.v 0) (.cons (.bin .sub (.bi .len (.cons (.v 4) .nil)) (.c (.int 1))) .nil))))
  (.cons (.set (.nm 6) (.call "_law_joined" (.cons (.idx (.lst (.cons (.c (.str "and")) (.cons (.c (.str "or")) .nil))) (.call "_law_draw" (.cons (.v 0) (.cons (.c (.int 2)) .nil)))) (.cons (.idx (.v 4) (.v 8)) (.cons (.idx (.v 4) (.bin .add (.v 8) (.c (.int 1)))) .nil)))))
  (.cons (.ife (.cmp .eq (.call "_law_draw" (.cons (.v 0) (.cons (.c (.int 4)) .nil))) (.c (.int 0))) (.cons (.set (.nm 6) (.tup (.cons (.c (.str "not")) (.cons (.v 6) .nil))))
  .nil) .nil)
  b__law_condition_1)))
def b__law_condition_3 : Sms :=
  (.cons (.ife (.cmp .gt (.bi .len (.cons (.v 4) .nil)) (.c (.int 1))) b__law_condition_2 .nil)
  .nil)
def b__law_condition_4 : Sms :=
  (.cons (.set (.sub (.idx (.v 1) (.c (.int 0))) (.c (.int 5))) (.bin .sub (.idx (.idx (.v 1) (.c (.int 0))) (.c (.int 5))) (.call "_law_parts" (.cons (.idx (.v 4) (.c (.int 0))) .nil))))
  (.cons (.ret (.idx (.v 4) (.c (.int 0))))
  .nil))
def b__law_condition_5 : Sms :=
  (.cons (.set (.nm 6) (.tup (.cons (.c (.str "not")) (.cons (.v 6) .nil))))
  .nil)
def b__law_condition_6 : Sms :=
  (.cons (.expr (.meth .append (.v 4) (.cons (.v 6) .nil)))
  .nil)
def b__law_condition_7 : Sms :=
  (.cons (.set (.nm 6) (.call "_law_leaf" (.cons (.v 0) (.cons (.v 1) (.cons (.v 2) .nil)))))
  (.cons (.fr (.nm 7) .rng1 (.cons (.idx (.lst (.cons (.c (.int 0)) (.cons (.c (.int 0)) (.cons (.c (.int 0)) (.cons (.c (.int 1)) (.cons (.c (.int 2)) .nil)))))) (.call "_law_draw" (.cons (.v 0) (.cons (.c (.int 5)) .nil)))) .nil) b__law_condition_5)
  b__law_condition_6))
def b__law_condition_8 : Sms :=
  (.cons (.fr (.nm 5) .rng1 (.cons (.c (.int 3)) .nil) b__law_condition_3)
  b__law_condition_4)
def b__law_condition_9 : Sms :=
  (.cons (.set (.sub (.idx (.v 1) (.c (.int 0))) (.c (.int 5))) (.bin .sub (.idx (.idx (.v 1) (.c (.int 0))) (.c (.int 5))) (.c (.int 1))))
  (.cons (.ret (.call "_law_leaf" (.cons (.v 0) (.cons (.v 1) (.cons (.v 2) .nil)))))
  .nil))
def b__law_condition_10 : Sms :=
  (.cons (.set (.nm 4) (.lst .nil))
  (.cons (.fr (.nm 5) .rng1 (.cons (.bin .add (.c (.int 1)) (.call "_law_draw" (.cons (.v 0) (.cons (.idx (.lst (.cons (.c (.int 1)) (.cons (.c (.int 1)) (.cons (.v 3) .nil)))) (.call "_law_draw" (.cons (.v 0) (.cons (.c (.int 3)) .nil)))) .nil)))) .nil) b__law_condition_7)
  b__law_condition_8))
def b__law_condition_11 : Sms :=
  (.cons (.ife (.cmp .lt (.idx (.idx (.v 1) (.c (.int 0))) (.c (.int 5))) (.c (.int 18))) b__law_condition_9 .nil)
  b__law_condition_10)
def b__law_condition : Sms :=
  (.cons (.set (.nm 3) (.c (.int 4)))
  (.cons (.ife (.not (.tr (.v 2))) (.cons (.set (.nm 3) (.bi .min2 (.cons (.c (.int 4)) (.cons (.idx (.idx (.v 1) (.c (.int 0))) (.c (.int 1))) .nil))))
  .nil) .nil)
  b__law_condition_11))
def d__law_condition : Def := ⟨3, 9, b__law_condition⟩
def e__law_parts_1 : Mn.E :=
  (.call "_law_parts" (.cons (.v 1) .nil))
def b__law_parts_2 : Sms :=
  (.cons (.ret (.bin .add (.c (.int 1)) (.bi .sum (.cons (.comp e__law_parts_1 1 [1] .seq (.cons (.idx (.v 0) (.c (.int 1))) .nil) (.c (.bl true))) .nil))))
  .nil)
def b__law_parts_3 : Sms :=
  (.cons (.ret (.c (.int 1)))
  .nil)
def b__law_parts_4 : Sms :=
  (.cons (.ret (.bin .add (.c (.int 1)) (.call "_law_parts" (.cons (.idx (.v 0) (.c (.int 1))) .nil))))
  .nil)
def b__law_parts_5 : Sms :=
  (.cons (.ife (.or (.cmp .eq (.idx (.v 0) (.c (.int 0))) (.c (.str "and"))) (.cmp .eq (.idx (.v 0) (.c (.int 0))) (.c (.str "or")))) b__law_parts_2 .nil)
  b__law_parts_3)
def b__law_parts : Sms :=
  (.cons (.ife (.cmp .eq (.idx (.v 0) (.c (.int 0))) (.c (.str "not"))) b__law_parts_4 .nil)
  b__law_parts_5)
def d__law_parts : Def := ⟨1, 2, b__law_parts⟩
def b__law_wild_1 : Sms :=
  (.cons (.set (.nm 10) (.call "_law_tree" (.cons (.v 0) (.cons (.v 1) (.cons (.v 2) (.cons (.bin .sub (.v 3) (.c (.int 1))) .nil))))))
  .nil)
def b__law_wild_2 : Sms :=
  (.cons (.ret (.tup (.cons (.c (.str "if")) (.cons (.v 8) (.cons (.v 9) (.cons (.v 10) .nil))))))
  .nil)
def b__law_wild_3 : Sms :=
  (.cons (.set (.nm 10) (.tup .nil))
  (.cons (.ife (.cmp .lt (.v 4) (.c (.int 15))) b__law_wild_1 .nil)
  b__law_wild_2))
def b__law_wild_4 : Sms :=
  (.cons (.set (.nm 8) (.call "_law_condition" (.cons (.v 0) (.cons (.lst (.cons (.lst (.cons (.c (.int 0)) (.cons (.c (.int 99)) (.cons (.c (.int 0)) (.cons (.c (.int 0)) (.cons (.c (.int 0)) (.cons (.c (.int 99)) .nil))))))) (.cons (.v 1) (.cons (.v 1) (.cons (.v 1) .nil))))) (.cons (.v 1) .nil)))))
  .nil)
def b__law_wild_5 : Sms :=
  (.cons (.set (.sub (.v 2) (.c (.int 0))) (.bin .sub (.idx (.v 2) (.c (.int 0))) (.call "_law_parts" (.cons (.v 8) .nil))))
  (.cons (.set (.nm 9) (.call "_law_tree" (.cons (.v 0) (.cons (.v 1) (.cons (.v 2) (.cons (.bin .sub (.v 3) (.c (.int 1))) .nil))))))
  (.cons (.ife (.cmp .lt (.v 4) (.c (.int 12))) (.cons (.ret (.tup (.cons (.c (.str "while")) (.cons (.v 6) (.cons (.v 8) (.cons (.v 9) .nil))))))
  .nil) .nil)
  b__law_wild_3)))
def b__law_wild_6 : Sms :=
  (.cons (.set (.nm 9) (.call "_law_tree" (.cons (.v 0) (.cons (.v 1) (.cons (.v 2) (.cons (.bin .sub (.v 3) (.c (.int 1))) .nil))))))
  (.cons (.ret (.tup (.cons (.c (.str "try")) (.cons (.v 9) (.cons (.call "_law_tree" (.cons (.v 0) (.cons (.v 1) (.cons (.v 2) (.cons (.bin .sub (.v 3) (.c (.int 1))) .nil))))) .nil)))))
  .nil))
def b__law_wild_7 : Sms :=
  (.cons (.set (.nm 8) (.tup (.cons (.c (.str "flag")) (.cons (.v 5) .nil))))
  (.cons (.ife (.cmp .gt (.idx (.v 2) (.c (.int 0))) (.c (.int 20))) b__law_wild_4 .nil)
  b__law_wild_5))
def b__law_wild_8 : Sms :=
  (.cons (.ret (.tup (.cons (.c (.str "for")) (.cons (.v 6) (.cons (.call "_law_tree" (.cons (.v 0) (.cons (.v 1) (.cons (.v 2) (.cons (.bin .sub (.v 3) (.c (.int 1))) .nil))))) .nil)))))
  .nil)
def b__law_wild_9 : Sms :=
  (.cons (.ife (.cmp .eq (.v 4) (.c (.int 9))) b__law_wild_6 .nil)
  b__law_wild_7)
def b__law_wild_10 : Sms :=
  (.cons (.ret (.tup (.cons (.c (.str "block")) (.cons (.call "_law_tree" (.cons (.v 0) (.cons (.v 1) (.cons (.v 2) (.cons (.bin .sub (.v 3) (.c (.int 1))) .nil))))) .nil))))
  .nil)
def b__law_wild_11 : Sms :=
  (.cons (.ife (.cmp .eq (.v 4) (.c (.int 8))) b__law_wild_8 .nil)
  b__law_wild_9)
def b__law_wild_12 : Sms :=
  (.cons (.set (.nm 11) (.idx (.lst (.cons (.c .non) (.cons (.c (.int 0)) (.cons (.c (.int 9)) (.cons (.c (.int 10)) (.cons (.c (.int 99)) (.cons (.call "_law_draw" (.cons (.v 0) (.cons (.c (.int 100)) .nil))) .nil))))))) (.call "_law_draw" (.cons (.v 0) (.cons (.c (.int 6)) .nil)))))
  (.cons (.set (.nm 12) (.lst (.cons (.tup (.cons (.c (.str "call")) (.cons (.v 5) .nil))) (.cons (.tup (.cons (.c (.str "let")) (.cons (.v 5) (.cons (.v 7) .nil)))) (.cons (.tup (.cons (.c (.str "set")) (.cons (.v 5) (.cons (.v 7) .nil)))) (.cons (.tup (.cons (.c (.str "break")) (.cons (.v 6) .nil))) (.cons (.tup (.cons (.c (.str "continue")) (.cons (.v 6) .nil))) .nil)))))))
  (.cons (.ret (.idx (.bin .add (.v 12) (.lst (.cons (.tup (.cons (.c (.str "return")) (.cons (.v 11) .nil))) .nil))) (.bin .mod (.bi .int (.cons (.v 4) .nil)) (.c (.int 6)))))
  .nil)))
def b__law_wild_13 : Sms :=
  (.cons (.ife (.cmp .lt (.v 4) (.c (.int 8))) b__law_wild_10 .nil)
  b__law_wild_11)
def b__law_wild : Sms :=
  (.cons (.set (.nm 4) (.call "_law_draw" (.cons (.v 0) (.cons (.c (.int 16)) .nil))))
  (.cons (.set (.nm 5) (.idx (.v 1) (.call "_law_draw" (.cons (.v 0) (.cons (.bi .len (.cons (.v 1) .nil)) .nil)))))
  (.cons (.set (.nm 6) (.idx (.lst (.cons (.c .non) (.cons (.v 5) .nil))) (.call "_law_draw" (.cons (.v 0) (.cons (.c (.int 2)) .nil)))))
  (.cons (.set (.nm 7) (.cmp .eq (.call "_law_draw" (.cons (.v 0) (.cons (.c (.int 2)) .nil))) (.c (.int 0))))
  (.cons (.ife (.or (.cmp .eq (.v 3) (.c (.int 0))) (.cmp .lt (.v 4) (.c (.int 6)))) b__law_wild_12 .nil)
  b__law_wild_13)))))
def d__law_wild : Def := ⟨4, 13, b__law_wild⟩
def b__law_tree_1 : Sms :=
  (.cons (.set (.sub (.v 2) (.c (.int 0))) (.bin .sub (.idx (.v 2) (.c (.int 0))) (.c (.int 1))))
  (.cons (.expr (.meth .append (.v 4) (.cons (.call "_law_wild" (.cons (.v 0) (.cons (.v 1) (.cons (.v 2) (.cons (.v 3) .nil))))) .nil)))
  .nil))
def b__law_tree_2 : Sms :=
  (.cons (.ife (.cmp .gt (.idx (.v 2) (.c (.int 0))) (.c (.int 0))) b__law_tree_1 .nil)
  .nil)
def b__law_tree_3 : Sms :=
  (.cons (.ret (.bi .tuple (.cons (.v 4) .nil)))
  .nil)
def b__law_tree : Sms :=
  (.cons (.set (.nm 4) (.lst .nil))
  (.cons (.fr (.nm 5) .rng1 (.cons (.idx (.lst (.cons (.c (.int 0)) (.cons (.c (.int 1)) (.cons (.c (.int 1)) (.cons (.c (.int 2)) (.cons (.c (.int 2)) (.cons (.c (.int 3)) .nil))))))) (.call "_law_draw" (.cons (.v 0) (.cons (.c (.int 6)) .nil)))) .nil) b__law_tree_2)
  b__law_tree_3))
def d__law_tree : Def := ⟨4, 6, b__law_tree⟩
def b__law_wrapped_1 : Sms :=
  (.cons (.set (.nm 5) (.idx (.v 1) (.call "_law_draw" (.cons (.v 0) (.cons (.bi .len (.cons (.v 1) .nil)) .nil)))))
  (.cons (.set (.nm 6) (.idx (.lst (.cons (.tup (.cons (.c (.str "call")) (.cons (.v 5) .nil))) (.cons (.tup (.cons (.c (.str "flag")) (.cons (.v 5) .nil))) .nil))) (.call "_law_draw" (.cons (.v 0) (.cons (.c (.int 2)) .nil)))))
  (.cons (.set (.nm 7) (.lst (.cons (.tup (.cons (.c (.str "block")) (.cons (.v 2) .nil))) (.cons (.tup (.cons (.c (.str "for")) (.cons (.c .non) (.cons (.v 2) .nil)))) (.cons (.tup (.cons (.c (.str "for")) (.cons (.v 5) (.cons (.v 2) .nil)))) (.cons (.tup (.cons (.c (.str "while")) (.cons (.v 5) (.cons (.v 6) (.cons (.v 2) .nil))))) .nil))))))
  (.cons (.set (.nm 7) (.bin .add (.v 7) (.lst (.cons (.tup (.cons (.c (.str "if")) (.cons (.v 6) (.cons (.v 2) (.cons (.tup .nil) .nil))))) (.cons (.tup (.cons (.c (.str "if")) (.cons (.v 6) (.cons (.tup .nil) (.cons (.v 2) .nil))))) (.cons (.tup (.cons (.c (.str "try")) (.cons (.v 2) (.cons (.tup .nil) .nil)))) (.cons (.tup (.cons (.c (.str "try")) (.cons (.tup .nil) (.cons (.v 2) .nil)))) .nil)))))))
  (.cons (.set (.nm 2) (.tup (.cons (.idx (.v 7) (.call "_law_draw" (.cons (.v 0) (.cons (.c (.int 8)) .nil)))) .nil)))
  .nil)))))
def b__law_wrapped_2 : Sms :=
  (.cons (.ret (.v 2))
  .nil)
def b__law_wrapped : Sms :=
  (.cons (.fr (.nm 4) .rng1 (.cons (.v 3) .nil) b__law_wrapped_1)
  b__law_wrapped_2)
def d__law_wrapped : Def := ⟨4, 8, b__law_wrapped⟩
def b__law_any_1 : Sms :=
  (.cons (.set (.sub (.v 3) (.c (.int 0))) (.bin .sub (.idx (.v 3) (.c (.int 0))) (.c (.int 1))))
  (.cons (.set (.nm 4) (.bin .add (.v 4) (.tup (.cons (.call "_law_wild" (.cons (.v 0) (.cons (.v 1) (.cons (.v 3) (.cons (.c (.int 4)) .nil))))) .nil))))
  .nil))
def b__law_any_2 : Sms :=
  (.cons (.ife (.cmp .gt (.idx (.v 3) (.c (.int 0))) (.c (.int 0))) b__law_any_1 .nil)
  .nil)
def b__law_any_3 : Sms :=
  (.cons (.ret (.v 4))
  .nil)
def b__law_any_4 : Sms :=
  (.cons (.set (.nm 4) (.call "_law_wrapped" (.cons (.v 0) (.cons (.v 1) (.cons (.v 4) (.cons (.call "_law_draw" (.cons (.v 0) (.cons (.c (.int 36)) .nil))) .nil))))))
  .nil)
def b__law_any_5 : Sms :=
  (.cons (.fr (.nm 5) .rng1 (.cons (.idx (.lst (.cons (.c (.int 0)) (.cons (.c (.int 0)) (.cons (.c (.int 1)) (.cons (.c (.int 3)) .nil))))) (.call "_law_draw" (.cons (.v 0) (.cons (.c (.int 4)) .nil)))) .nil) b__law_any_2)
  b__law_any_3)
def b__law_any : Sms :=
  (.cons (.set (.nm 2) (.call "_law_draw" (.cons (.v 0) (.cons (.c (.int 8)) .nil))))
  (.cons (.set (.nm 3) (.lst (.cons (.idx (.lst (.cons (.c (.int 12)) (.cons (.c (.int 30)) (.cons (.c (.int 60)) (.cons (.c (.int 60)) (.cons (.c (.int 60)) (.cons (.c (.int 100)) (.cons (.c (.int 100)) (.cons (.c (.int 150)) .nil))))))))) (.v 2)) .nil)))
  (.cons (.set (.nm 4) (.call "_law_tree" (.cons (.v 0) (.cons (.v 1) (.cons (.v 3) (.cons (.c (.int 5)) .nil))))))
  (.cons (.ife (.cmp .lt (.v 2) (.c (.int 2))) b__law_any_4 .nil)
  b__law_any_5))))
def d__law_any : Def := ⟨2, 6, b__law_any⟩
def b__law_shown_1 : Sms :=
  (.cons (.ret (.meth .join (.c (.str " || ")) (.cons (.v 1) .nil)))
  .nil)
def b__law_shown_2 : Sms :=
  (.cons (.expr (.meth .append (.v 1) (.cons (.v 3) .nil)))
  .nil)
def b__law_shown_3 : Sms :=
  (.cons (.set (.nm 3) (.call "_law_shown" (.cons (.v 2) .nil)))
  (.cons (.ife (.and (.cmp .eq (.idx (.v 0) (.c (.int 0))) (.c (.str "and"))) (.cmp .eq (.idx (.v 2) (.c (.int 0))) (.c (.str "or")))) (.cons (.set (.nm 3) (.bin .add (.bin .add (.c (.str "(")) (.v 3)) (.c (.str ")"))))
  .nil) .nil)
  b__law_shown_2))
def b__law_shown_4 : Sms :=
  (.cons (.ife (.cmp .eq (.idx (.v 0) (.c (.int 0))) (.c (.str "and"))) (.cons (.ret (.meth .join (.c (.str " && ")) (.cons (.v 1) .nil)))
  .nil) .nil)
  b__law_shown_1)
def b__law_shown_5 : Sms :=
  (.cons (.ret (.bin .add (.c (.str "!")) (.v 3)))
  .nil)
def b__law_shown_6 : Sms :=
  (.cons (.set (.nm 3) (.call "_law_shown" (.cons (.idx (.v 0) (.c (.int 1))) .nil)))
  (.cons (.ife (.or (.cmp .eq (.idx (.idx (.v 0) (.c (.int 1))) (.c (.int 0))) (.c (.str "and"))) (.cmp .eq (.idx (.idx (.v 0) (.c (.int 1))) (.c (.int 0))) (.c (.str "or")))) (.cons (.ret (.bin .add (.bin .add (.c (.str "!(")) (.v 3)) (.c (.str ")"))))
  .nil) .nil)
  b__law_shown_5))
def b__law_shown_7 : Sms :=
  (.cons (.set (.nm 1) (.lst .nil))
  (.cons (.fr (.nm 2) .seq (.cons (.idx (.v 0) (.c (.int 1))) .nil) b__law_shown_3)
  b__law_shown_4))
def b__law_shown_8 : Sms :=
  (.cons (.ife (.cmp .eq (.idx (.v 0) (.c (.int 0))) (.c (.str "not"))) b__law_shown_6 .nil)
  b__law_shown_7)
def b__law_shown_9 : Sms :=
  (.cons (.ife (.cmp .eq (.idx (.v 0) (.c (.int 0))) (.c (.str "flag"))) (.cons (.ret (.idx (.v 0) (.c (.int 1))))
  .nil) .nil)
  b__law_shown_8)
def b__law_shown : Sms :=
  (.cons (.ife (.cmp .eq (.idx (.v 0) (.c (.int 0))) (.c (.str "call"))) (.cons (.ret (.bin .add (.idx (.v 0) (.c (.int 1))) (.c (.str "()"))))
  .nil) .nil)
  b__law_shown_9)
def d__law_shown : Def := ⟨1, 4, b__law_shown⟩
def b__law_simple_1 : Sms :=
  (.cons (.ret (.bin .add (.bin .add (.bin .add (.idx (.v 0) (.c (.int 0))) (.c (.str " "))) (.bi .str (.cons (.idx (.v 0) (.c (.int 1))) .nil))) (.c (.str ";"))))
  .nil)
def b__law_simple_2 : Sms :=
  (.cons (.ife (.cmp .isn (.idx (.v 0) (.c (.int 1))) (.c .non)) (.cons (.ret (.bin .add (.idx (.v 0) (.c (.int 0))) (.c (.str ";"))))
  .nil) .nil)
  b__law_simple_1)
def b__law_simple_3 : Sms :=
  (.cons (.ife (.cmp .eq (.idx (.v 0) (.c (.int 0))) (.c (.str "set"))) (.cons (.ret (.bin .add (.bin .add (.bin .add (.idx (.v 0) (.c (.int 1))) (.c (.str " = "))) (.idx (.lst (.cons (.c (.str "false")) (.cons (.c (.str "true")) .nil))) (.bi .int (.cons (.idx (.v 0) (.c (.int 2))) .nil)))) (.c (.str ";"))))
  .nil) .nil)
  b__law_simple_2)
def b__law_simple_4 : Sms :=
  (.cons (.ife (.cmp .eq (.idx (.v 0) (.c (.int 0))) (.c (.str "let"))) (.cons (.ret (.bin .add (.bin .add (.bin .add (.bin .add (.c (.str "let ")) (.idx (.v 0) (.c (.int 1)))) (.c (.str " = "))) (.idx (.lst (.cons (.c (.str "false")) (.cons (.c (.str "true")) .nil))) (.bi .int (.cons (.idx (.v 0) (.c (.int 2))) .nil)))) (.c (.str ";"))))
  .nil) .nil)
  b__law_simple_3)
def b__law_simple : Sms :=
  (.cons (.ife (.cmp .eq (.idx (.v 0) (.c (.int 0))) (.c (.str "call"))) (.cons (.ret (.bin .add (.idx (.v 0) (.c (.int 1))) (.c (.str "();"))))
  .nil) .nil)
  b__law_simple_4)
def d__law_simple : Def := ⟨1, 1, b__law_simple⟩
def b__law_lines_1 : Sms :=
  (.cons (.set (.nm 2) (.bin .add (.bin .add (.v 2) (.lst (.cons (.bin .add (.v 1) (.c (.str "} else {"))) .nil))) (.call "_law_lines" (.cons (.v 4) (.cons (.bin .add (.v 1) (.c (.str "  "))) .nil)))))
  .nil)
def b__law_lines_2 : Sms :=
  (.cons (.set (.nm 5) (.call "_law_lines" (.cons (.v 4) (.cons (.v 1) .nil))))
  (.cons (.expr (.meth .append (.v 2) (.cons (.bin .add (.bin .add (.v 1) (.c (.str "} else "))) (.slcL (.idx (.v 5) (.c (.int 0))) (.bi .len (.cons (.v 1) .nil)))) .nil)))
  (.cons (.set (.nm 2) (.bin .add (.v 2) (.slcL (.v 5) (.c (.int 1)))))
  (.cons .cnt
  .nil))))
def b__law_lines_3 : Sms :=
  (.cons (.ife (.tr (.v 4)) b__law_lines_1 .nil)
  .nil)
def b__law_lines_4 : Sms :=
  (.cons (.set (.nm 2) (.bin .add (.bin .add (.v 2) (.lst (.cons (.bin .add (.bin .add (.bin .add (.v 1) (.c (.str "if ("))) (.call "_law_shown" (.cons (.idx (.v 3) (.c (.int 1))) .nil))) (.c (.str ") {"))) .nil))) (.call "_law_lines" (.cons (.idx (.v 3) (.c (.int 2))) (.cons (.bin .add (.v 1) (.c (.str "  "))) .nil)))))
  (.cons (.set (.nm 4) (.idx (.v 3) (.c (.int 3))))
  (.cons (.ife (.and (.cmp .eq (.bi .len (.cons (.v 4) .nil)) (.c (.int 1))) (.cmp .eq (.idx (.idx (.v 4) (.c (.int 0))) (.c (.int 0))) (.c (.str "if")))) b__law_lines_2 .nil)
  b__law_lines_3)))
def b__law_lines_5 : Sms :=
  (.cons (.set (.nm 2) (.bin .add (.bin .add (.v 2) (.lst (.cons (.bin .add (.v 1) (.v 6)) .nil))) (.call "_law_lines" (.cons (.idx (.v 3) (.bin .sub (.bi .len (.cons (.v 3) .nil)) (.c (.int 1)))) (.cons (.bin .add (.v 1) (.c (.str "  "))) .nil)))))
  .nil)
def b__law_lines_6 : Sms :=
  (.cons (.set (.nm 6) (.bin .add (.bin .add (.c (.str "while (")) (.call "_law_shown" (.cons (.idx (.v 3) (.c (.int 2))) .nil))) (.c (.str ") {"))))
  .nil)
def b__law_lines_7 : Sms :=
  (.cons (.ife (.cmp .isnn (.idx (.v 3) (.c (.int 1))) (.c .non)) (.cons (.set (.nm 6) (.bin .add (.bin .add (.idx (.v 3) (.c (.int 1))) (.c (.str ": "))) (.v 6)))
  .nil) .nil)
  b__law_lines_5)
def b__law_lines_8 : Sms :=
  (.cons (.set (.nm 6) (.c (.str "for (;;) {")))
  (.cons (.ife (.cmp .eq (.idx (.v 3) (.c (.int 0))) (.c (.str "while"))) b__law_lines_6 .nil)
  b__law_lines_7))
def b__law_lines_9 : Sms :=
  (.cons (.set (.nm 2) (.bin .add (.bin .add (.v 2) (.lst (.cons (.bin .add (.v 1) (.c (.str "try {"))) .nil))) (.call "_law_lines" (.cons (.idx (.v 3) (.c (.int 1))) (.cons (.bin .add (.v 1) (.c (.str "  "))) .nil)))))
  (.cons (.set (.nm 2) (.bin .add (.bin .add (.v 2) (.lst (.cons (.bin .add (.v 1) (.c (.str "} finally {"))) .nil))) (.call "_law_lines" (.cons (.idx (.v 3) (.c (.int 2))) (.cons (.bin .add (.v 1) (.c (.str "  "))) .nil)))))
  .nil))
def b__law_lines_10 : Sms :=
  (.cons (.set (.nm 2) (.bin .add (.bin .add (.v 2) (.lst (.cons (.bin .add (.v 1) (.c (.str "{"))) .nil))) (.call "_law_lines" (.cons (.idx (.v 3) (.c (.int 1))) (.cons (.bin .add (.v 1) (.c (.str "  "))) .nil)))))
  .nil)
def b__law_lines_11 : Sms :=
  (.cons (.expr (.meth .append (.v 2) (.cons (.bin .add (.v 1) (.call "_law_simple" (.cons (.v 3) .nil))) .nil)))
  (.cons .cnt
  .nil))
def b__law_lines_12 : Sms :=
  (.cons (.ife (.cmp .eq (.idx (.v 3) (.c (.int 0))) (.c (.str "block"))) b__law_lines_10 b__law_lines_11)
  .nil)
def b__law_lines_13 : Sms :=
  (.cons (.ife (.cmp .eq (.idx (.v 3) (.c (.int 0))) (.c (.str "try"))) b__law_lines_9 b__law_lines_12)
  .nil)
def b__law_lines_14 : Sms :=
  (.cons (.ife (.or (.cmp .eq (.idx (.v 3) (.c (.int 0))) (.c (.str "while"))) (.cmp .eq (.idx (.v 3) (.c (.int 0))) (.c (.str "for")))) b__law_lines_8 b__law_lines_13)
  .nil)
def b__law_lines_15 : Sms :=
  (.cons (.expr (.meth .append (.v 2) (.cons (.bin .add (.v 1) (.c (.str "}"))) .nil)))
  .nil)
def b__law_lines_16 : Sms :=
  (.cons (.ife (.cmp .eq (.idx (.v 3) (.c (.int 0))) (.c (.str "if"))) b__law_lines_4 b__law_lines_14)
  b__law_lines_15)
def b__law_lines_17 : Sms :=
  (.cons (.ret (.v 2))
  .nil)
def b__law_lines : Sms :=
  (.cons (.set (.nm 2) (.lst .nil))
  (.cons (.fr (.nm 3) .seq (.cons (.v 0) .nil) b__law_lines_16)
  b__law_lines_17))
def d__law_lines : Def := ⟨2, 7, b__law_lines⟩
def e__law_printed_1 : Mn.E :=
  (.bin .add (.v 1) (.c (.str "\n")))
def b__law_printed : Sms :=
  (.cons (.ret (.meth .join (.c (.str "")) (.cons (.comp e__law_printed_1 1 [1] .seq (.cons (.call "_law_lines" (.cons (.v 0) (.cons (.c (.str "")) .nil))) .nil) (.c (.bl true))) .nil)))
  .nil)
def d__law_printed : Def := ⟨1, 2, b__law_printed⟩
def b__law_great_1 : Sms :=
  (.cons (.set (.nm 2) (.call "_law_joined" (.cons (.idx (.lst (.cons (.c (.str "and")) (.cons (.c (.str "or")) .nil))) (.bin .sub (.v 5) (.c (.int 2)))) (.cons (.v 2) (.cons (.v 4) .nil)))))
  .nil)
def b__law_great_2 : Sms :=
  (.cons (.set (.nm 2) (.call "_law_joined" (.cons (.idx (.lst (.cons (.c (.str "and")) (.cons (.c (.str "or")) .nil))) (.bin .sub (.v 5) (.c (.int 4)))) (.cons (.v 4) (.cons (.v 2) .nil)))))
  .nil)
def b__law_great_3 : Sms :=
  (.cons (.ife (.cmp .lt (.v 5) (.c (.int 4))) b__law_great_1 b__law_great_2)
  .nil)
def b__law_great_4 : Sms :=
  (.cons (.set (.nm 4) (.tup (.cons (.idx (.lst (.cons (.c (.str "call")) (.cons (.c (.str "flag")) .nil))) (.call "_law_draw" (.cons (.v 0) (.cons (.c (.int 2)) .nil)))) (.cons (.idx (.v 1) (.call "_law_draw" (.cons (.v 0) (.cons (.bi .len (.cons (.v 1) .nil)) .nil)))) .nil))))
  (.cons (.set (.nm 5) (.call "_law_draw" (.cons (.v 0) (.cons (.c (.int 6)) .nil))))
  (.cons (.ife (.cmp .lt (.v 5) (.c (.int 2))) (.cons (.set (.nm 2) (.tup (.cons (.c (.str "not")) (.cons (.v 2) .nil))))
  .nil) b__law_great_3)
  .nil)))
def b__law_great_5 : Sms :=
  (.cons (.ret (.v 2))
  .nil)
def b__law_great : Sms :=
  (.cons (.set (.nm 2) (.call "_law_condition" (.cons (.v 0) (.cons (.lst (.cons (.lst (.cons (.c (.int 0)) (.cons (.c (.int 99)) (.cons (.c (.int 0)) (.cons (.c (.int 0)) (.cons (.c (.int 0)) (.cons (.c (.int 99)) .nil))))))) (.cons (.v 1) (.cons (.v 1) (.cons (.v 1) .nil))))) (.cons (.v 1) .nil)))))
  (.cons (.fr (.nm 3) .rng1 (.cons (.call "_law_draw" (.cons (.v 0) (.cons (.c (.int 11)) .nil))) .nil) b__law_great_4)
  b__law_great_5))
def d__law_great : Def := ⟨2, 6, b__law_great⟩
def b_law_1 : Sms :=
  (.cons (.set (.nm 4) (.bin .add (.v 4) (.tup (.cons (.tup (.cons (.c (.str "while")) (.cons (.idx (.lst (.cons (.c .non) (.cons (.idx (.v 2) (.c (.int 0))) .nil))) (.call "_law_draw" (.cons (.v 1) (.cons (.c (.int 2)) .nil)))) (.cons (.call "_law_great" (.cons (.v 1) (.cons (.v 2) .nil))) (.cons (.tup .nil) .nil))))) .nil))))
  .nil)
def b_law_2 : Sms :=
  (.cons (.set (.nm 5) (.call "_law_printed" (.cons (.v 4) .nil)))
  (.cons (.ret (.vand (.cmp .eq (.bi .repr (.cons (.call "show_program" (.cons (.v 4) .nil)) .nil)) (.bi .repr (.cons (.v 5) .nil))) (.cmp .eq (.bi .repr (.cons (.call "show_program" (.cons (.v 4) .nil)) .nil)) (.bi .repr (.cons (.v 5) .nil)))))
  .nil))
def b_law_3 : Sms :=
  (.cons (.set (.nm 9) (.idx (.lst (.cons (.tup .nil) (.cons (.tup (.cons (.tup (.cons (.c (.str "break")) (.cons (.c .non) .nil))) .nil)) (.cons (.tup (.cons (.tup (.cons (.c (.str "call")) (.cons (.idx (.v 2) (.c (.int 0))) .nil))) (.cons (.tup (.cons (.c (.str "continue")) (.cons (.idx (.v 2) (.c (.int 0))) .nil))) .nil))) .nil)))) (.call "_law_draw" (.cons (.v 1) (.cons (.c (.int 3)) .nil)))))
  (.cons (.set (.nm 7) (.tup (.cons (.tup (.cons (.c (.str "if")) (.cons (.tup (.cons (.c (.str "call")) (.cons (.idx (.v 2) (.call "_law_draw" (.cons (.v 1) (.cons (.bi .len (.cons (.v 2) .nil)) .nil)))) .nil))) (.cons (.v 9) (.cons (.v 7) .nil))))) .nil)))
  .nil))
def b_law_4 : Sms :=
  (.cons (.set (.nm 4) (.bin .add (.bin .add (.slcH (.v 4) (.c (.int 2))) (.v 7)) (.slcB (.v 4) (.c (.int 2)) (.c (.int 3)))))
  .nil)
def b_law_5 : Sms :=
  (.cons (.set (.nm 6) (.tup (.cons (.c (.str "if")) (.cons (.tup (.cons (.c (.str "flag")) (.cons (.idx (.v 2) (.c (.int 0))) .nil))) (.cons (.tup (.cons (.tup (.cons (.c (.str "call")) (.cons (.idx (.v 2) (.c (.int 0))) .nil))) .nil)) (.cons (.tup .nil) .nil))))))
  (.cons (.set (.nm 7) (.idx (.lst (.cons (.tup .nil) (.cons (.tup (.cons (.v 6) (.cons (.tup (.cons (.c (.str "return")) (.cons (.c .non) .nil))) .nil))) (.cons (.tup (.cons (.tup (.cons (.c (.str "block")) (.cons (.tup (.cons (.v 6) .nil)) .nil))) .nil)) (.cons (.tup (.cons (.tup (.cons (.c (.str "let")) (.cons (.idx (.v 2) (.c (.int 0))) (.cons (.c (.bl true)) .nil)))) (.cons (.v 6) .nil))) .nil))))) (.call "_law_draw" (.cons (.v 1) (.cons (.c (.int 4)) .nil)))))
  (.cons (.fr (.nm 8) .rng1 (.cons (.bin .add (.c (.int 1)) (.call "_law_draw" (.cons (.v 1) (.cons (.c (.int 9)) .nil)))) .nil) b_law_3)
  b_law_4)))
def b_law_6 : Sms :=
  (.cons (.ife (.cmp .eq (.v 3) (.c (.int 1))) b_law_1 .nil)
  b_law_2)
def b_law : Sms :=
  (.cons (.set (.nm 1) (.call "_law_tape" (.cons (.v 0) .nil)))
  (.cons (.set (.nm 2) (.call "_law_names" (.cons (.v 1) (.cons (.bin .add (.c (.int 1)) (.call "_law_draw" (.cons (.v 1) (.cons (.c (.int 4)) .nil)))) .nil))))
  (.cons (.set (.nm 3) (.call "_law_draw" (.cons (.v 1) (.cons (.c (.int 3)) .nil))))
  (.cons (.set (.nm 4) (.call "_law_any" (.cons (.v 1) (.cons (.v 2) .nil))))
  (.cons (.ife (.cmp .eq (.v 3) (.c (.int 0))) b_law_5 .nil)
  b_law_6)))))
def d_law : Def := ⟨1, 10, b_law⟩
def defs : List (Str × Def) := [(("show_part" : Str), d_show_part), (("show_condition" : Str), d_show_condition), (("show_simple" : Str), d_show_simple), (("loop_head" : Str), d_loop_head), (("if_lines" : Str), d_if_lines), (("statement_lines" : Str), d_statement_lines), (("body_lines" : Str), d_body_lines), (("show_program" : Str), d_show_program), (("_law_tape" : Str), d__law_tape), (("_law_draw" : Str), d__law_draw), (("_law_names" : Str), d__law_names), (("_law_leaf" : Str), d__law_leaf), (("_law_joined" : Str), d__law_joined), (("_law_condition" : Str), d__law_condition), (("_law_parts" : Str), d__law_parts), (("_law_wild" : Str), d__law_wild), (("_law_tree" : Str), d__law_tree), (("_law_wrapped" : Str), d__law_wrapped), (("_law_any" : Str), d__law_any), (("_law_shown" : Str), d__law_shown), (("_law_simple" : Str), d__law_simple), (("_law_lines" : Str), d__law_lines), (("_law_printed" : Str), d__law_printed), (("_law_great" : Str), d__law_great), (("law" : Str), d_law)]
theorem names_eq : defs.map (·.1) = names := rfl
end Lw
namespace Lw
open PySem Mn L2
local macro_rules | `(tactic| walk_at "mn") => `(tactic| try simp only [run_cons, run_nil, then_nx, then_rt, then_bk, then_ct, List.set_set, true_and, and_true, and_self, wpx_ret, wpx_opt_some, wpx_opt_none, wpx_guard, x_asB, x_asI, x_newL, x_newT, o_0, o_1, o_2, o_3, o_4, o_5, o_6, o_7, o_8, o_9, o_10, o_11, o_12, o_13, o_14, o_15, o_16, o_17, o_18, o_19, o_20, o_21, o_22, o_23, o_24, e_rdL, e_owL, rdC_lst, rdC_ro, owC_lst, ex_some, x_wrL, x_alloc, List.getElem?_cons_zero, List.getElem?_cons_succ, List.set_cons_zero, List.set_cons_succ, List.length_cons, List.length_nil, x_eqStr, x_eqInt, x_eqBl, atI_0, atI_1, atI_2, atI_3, ixN_0, ixN_1, ixN_2, ixN_3, ret_rt, ret_nx, b_addI, b_addS, b_addT, b_sub, b_mul, b_mod, b_fdiv, b_pow, c_eq, c_ne, c_ltI, c_gt, c_le, c_ge, c_isn, c_isnS, c_isnI, c_isnT, c_isnn, c_isnnS, c_isnnI, c_isnnT, i_T, i_L, u_lenT, u_lenL, u_int, u_intB, u_abs, u_max2, u_min2, u_tupL, u_tupT, u_append, u_listT, u_listL, sl_T, k_T, k_L, u_isTupleN, u_isTupleB, u_isTupleI, u_isTupleS, u_isTupleT, u_isTupleL, u_isStrN, u_isStrB, u_isStrI, u_isStrS, u_isStrT, u_isStrL, u_isIntN, u_isIntB, u_isIntI, u_isIntS, u_isIntT, u_isIntL, u_isBoolN, u_isBoolB, u_isBoolI, u_isBoolS, u_isBoolT, u_isBoolL, c_isnB, c_isnL, c_isnnB, c_isnnL, v_append, v_pop1, v_pop0, v_join, v_extend, v_insert, v_reverse, v_split, v_startswith, t_non, t_bl, t_T, t_L, sl_L, b_addL, atI_4, atI_5, ixN_4, ixN_5, str_beq, String.reduceBEq, q_inT, q_inL, c_inn, c_nin, u_strI, sl_S, u_lenS, q_bind, q_seq, q_bl, q_bin, q_negi, q_neg, q_cmpb, q_cmp, q_c3cT, q_c3cF, q_c3b, q_c3, q_tr, q_notb, q_not, q_and2T, q_and2F, q_and, q_or2T, q_or2F, q_or, q_vand2T, q_vand2F, q_vand, q_vor2T, q_vor2F, q_vor, q_ite2T, q_ite2F, q_ite, q_idx, q_sl0, q_slL3, q_slL2, q_slL, q_slH3, q_slH2, q_slH, q_slB5, q_slB4, q_slB3, q_slB2, q_slB, q_me3, q_me2, q_me, q_es2, q_es, qe_c, qe_g, qe_bin, qe_neg, qe_cmp, qe_cmp3, qe_tr, qe_not, qe_and, qe_or, qe_vand, qe_vor, qe_ite, qe_tup, qe_lst, qe_idx, qe_sl0, qe_slL, qe_slH, qe_slB, qe_call, qe_bi, qe_meth, q_co2, q_co, qe_comp, qe_nil, qe_cons, q_nx, q_ex, q_ret, q_if2T, q_if2F, q_if, q_pr2, q_pr, qe_ret, qe_if, qe_par, qe_brk, qe_cnt, qe_pass, qe_expr, q_set, qe_set, qe_whl, q_fr2, q_fr, qe_fr, q_ag2, q_ag, qe_aug, qe_v, qe_pnm, qe_ptup, qe_pnil, q_pc, qe_pcons, q_sb2, q_sb, qe_psub])
local macro_rules | `(tactic| walk_at "mn*") => `(tactic| try simp only [run_cons, run_nil, then_nx, then_rt, then_bk, then_ct, List.set_set, true_and, and_true, and_self, wpx_ret, wpx_opt_some, wpx_opt_none, wpx_guard, x_asB, x_asI, x_newL, x_newT, o_0, o_1, o_2, o_3, o_4, o_5, o_6, o_7, o_8, o_9, o_10, o_11, o_12, o_13, o_14, o_15, o_16, o_17, o_18, o_19, o_20, o_21, o_22, o_23, o_24, e_rdL, e_owL, rdC_lst, rdC_ro, owC_lst, ex_some, x_wrL, x_alloc, List.getElem?_cons_zero, List.getElem?_cons_succ, List.set_cons_zero, List.set_cons_succ, List.length_cons, List.length_nil, x_eqStr, x_eqInt, x_eqBl, atI_0, atI_1, atI_2, atI_3, ixN_0, ixN_1, ixN_2, ixN_3, ret_rt, ret_nx, b_addI, b_addS, b_addT, b_sub, b_mul, b_mod, b_fdiv, b_pow, c_eq, c_ne, c_ltI, c_gt, c_le, c_ge, c_isn, c_isnS, c_isnI, c_isnT, c_isnn, c_isnnS, c_isnnI, c_isnnT, i_T, i_L, u_lenT, u_lenL, u_int, u_intB, u_abs, u_max2, u_min2, u_tupL, u_tupT, u_append, u_listT, u_listL, sl_T, k_T, k_L, u_isTupleN, u_isTupleB, u_isTupleI, u_isTupleS, u_isTupleT, u_isTupleL, u_isStrN, u_isStrB, u_isStrI, u_isStrS, u_isStrT, u_isStrL, u_isIntN, u_isIntB, u_isIntI, u_isIntS, u_isIntT, u_isIntL, u_isBoolN, u_isBoolB, u_isBoolI, u_isBoolS, u_isBoolT, u_isBoolL, c_isnB, c_isnL, c_isnnB, c_isnnL, v_append, v_pop1, v_pop0, v_join, v_extend, v_insert, v_reverse, v_split, v_startswith, t_non, t_bl, t_T, t_L, sl_L, b_addL, atI_4, atI_5, ixN_4, ixN_5, str_beq, String.reduceBEq, q_inT, q_inL, c_inn, c_nin, u_strI, sl_S, u_lenS, q_bind, q_seq, q_bl, q_bin, q_negi, q_neg, q_cmpb, q_cmp, q_c3cT, q_c3cF, q_c3b, q_c3, q_tr, q_notb, q_not, q_and2T, q_and2F, q_and, q_or2T, q_or2F, q_or, q_vand2T, q_vand2F, q_vand, q_vor2T, q_vor2F, q_vor, q_ite2T, q_ite2F, q_ite, q_idx, q_sl0, q_slL3, q_slL2, q_slL, q_slH3, q_slH2, q_slH, q_slB5, q_slB4, q_slB3, q_slB2, q_slB, q_me3, q_me2, q_me, q_es2, q_es, qe_c, qe_g, qe_bin, qe_neg, qe_cmp, qe_cmp3, qe_tr, qe_not, qe_and, qe_or, qe_vand, qe_vor, qe_ite, qe_tup, qe_lst, qe_idx, qe_sl0, qe_slL, qe_slH, qe_slB, qe_call, qe_bi, qe_meth, q_co2, q_co, qe_comp, qe_nil, qe_cons, q_nx, q_ex, q_ret, q_if2T, q_if2F, q_if, q_pr2, q_pr, qe_ret, qe_if, qe_par, qe_brk, qe_cnt, qe_pass, qe_expr, q_set, qe_set, qe_whl, q_fr2, q_fr, qe_fr, q_ag2, q_ag, qe_aug, qe_v, qe_pnm, qe_ptup, qe_pnil, q_pc, qe_pcons, q_sb2, q_sb, qe_psub, *])
local macro_rules | `(tactic| walk_at "vl") => `(tactic| try simp only [str_beq, String.reduceBEq, beq_self_eq_true, Option.map_some, vs_nil, vs_cons, tv_nx, tv_rt, tv_bk, tv_ct, Bool.not_true, Bool.not_false, if_true, rv_ok, rv_exc, ov_some, gv_true, retV, putD, wipeD, List.getElem?_cons_zero, List.getElem?_cons_succ, List.set_cons_zero, List.set_cons_succ, List.length_cons, List.length_nil, atI_0, atI_1, atI_2, atI_3, atI_4, atI_5, ixN_0, ixN_1, ixN_2, ixN_3, lA_0, lA_1, lA_2, lA_3, lA_4, lA_5, lA_6, lA_7, lA_8, o_0, o_1, o_2, o_3, o_4, o_5, o_6, o_7, o_8, o_9, o_10, o_11, o_12, o_13, o_14, o_15, o_16, o_17, o_18, o_19, o_20, o_21, o_22, o_23, o_24, y_addI, y_addS, y_addT, y_addL, y_sub, y_eqStr, y_eqInt, y_eqBl, y_eq, y_ne, y_ltI, y_gt, y_le, y_ge, y_inn, y_nin, y_isnN, y_isnB, y_isnI, y_isnS, y_isnT, y_isnL, y_isnnN, y_isnnB, y_isnnI, y_isnnS, y_isnnT, y_isnnL, y_inT, y_inL, y_inS, y_idxT, y_idxL, y_idxS, y_slcT, y_slcL, y_slcS, y_lenS, y_lenT, y_lenL, y_int, y_intB, y_abs, y_max2, y_min2, y_max1, y_sum, y_listT, y_listL, y_tupT, y_tupL, y_strI, y_all, y_any, y_split, y_starts, y_joinL, y_reprB, y_rcS, y_rcW, y_rcJ, y_asB, y_asI, y_trN, y_trB, y_trI, y_trT, y_trL, y_itT, y_itL, y_itS, y_itRL, y_itRT, y_app, y_ext, g_bl, g_bin, g_negi, g_neg, g_cmpb, g_cmp, g_c3cT, g_c3cF, g_c3b, g_c3, g_tr, g_notb, g_not, g_and2T, g_and2F, g_and, g_or2T, g_or2F, g_or, g_vand2T, g_vand2F, g_vand, g_vor2T, g_vor2F, g_vor, g_ite2T, g_ite2F, g_ite, g_idx, g_sl0, g_slL3, g_slL2, g_slL, g_slH3, g_slH2, g_slH, g_slB5, g_slB4, g_slB3, g_slB2, g_slB, g_me3, g_me2, g_me, g_es2, g_es, ge_c, ge_g, ge_bin, ge_neg, ge_cmp, ge_cmp3, ge_tr, ge_not, ge_and, ge_or, ge_vand, ge_vor, ge_ite, g_tup, g_lst, ge_tup, ge_lst, ge_idx, ge_sl0, ge_slL, ge_slH, ge_slB, ge_call, ge_bi, ge_meth, g_co4, g_co3, g_co2, g_co, ge_comp, ge_nil, ge_cons, g_nx, g_ex, g_ret, g_if2T, g_if2F, g_if, g_pr2, g_pr, ge_ret, ge_if, ge_par, ge_brk, ge_cnt, ge_pass, ge_v, ge_whl, g_fr3, g_fr2, g_fr, ge_fr, g_ag2, g_ag, ge_aug, g_mt4, g_mt3, g_mt2, g_mt, g_mx, g_ms, ge_mappend, ge_sappend, ge_mpop0, ge_spop0, ge_mpop1, ge_spop1, ge_mextend, ge_sextend, ge_minsert, ge_sinsert, ge_mreverse, ge_sreverse, g_su5, g_su4, g_su3, g_su2, g_su1, g_su, ge_sub, g_set, ge_setT, ges_c, ges_v, ges_g, ges_bin, ges_neg, ges_cmp, ges_cmp3, ges_tr, ges_ite, ges_tup, ges_lst, ges_idx, ges_slc0, ges_slcL, ges_slcH, ges_slcB, ges_call, gex_call, ges_bi, gex_bi, ges_comp, ges_and, ges_or, ges_vand, ges_vor, ges_not, ges_split, ges_join, ges_starts, ge_pnm, ge_ptup, ge_pnil, g_pc, ge_pcons, lk_0, lk_1, lk_2, lk_3, fo_nil, fo_cons, fo_app, fo_nx, fo_ct, fo_bk, fo_rt])
local macro_rules | `(tactic| walk_at "vl*") => `(tactic| try simp only [str_beq, String.reduceBEq, beq_self_eq_true, Option.map_some, vs_nil, vs_cons, tv_nx, tv_rt, tv_bk, tv_ct, Bool.not_true, Bool.not_false, if_true, rv_ok, rv_exc, ov_some, gv_true, retV, putD, wipeD, List.getElem?_cons_zero, List.getElem?_cons_succ, List.set_cons_zero, List.set_cons_succ, List.length_cons, List.length_nil, atI_0, atI_1, atI_2, atI_3, atI_4, atI_5, ixN_0, ixN_1, ixN_2, ixN_3, lA_0, lA_1, lA_2, lA_3, lA_4, lA_5, lA_6, lA_7, lA_8, o_0, o_1, o_2, o_3, o_4, o_5, o_6, o_7, o_8, o_9, o_10, o_11, o_12, o_13, o_14, o_15, o_16, o_17, o_18, o_19, o_20, o_21, o_22, o_23, o_24, y_addI, y_addS, y_addT, y_addL, y_sub, y_eqStr, y_eqInt, y_eqBl, y_eq, y_ne, y_ltI, y_gt, y_le, y_ge, y_inn, y_nin, y_isnN, y_isnB, y_isnI, y_isnS, y_isnT, y_isnL, y_isnnN, y_isnnB, y_isnnI, y_isnnS, y_isnnT, y_isnnL, y_inT, y_inL, y_inS, y_idxT, y_idxL, y_idxS, y_slcT, y_slcL, y_slcS, y_lenS, y_lenT, y_lenL, y_int, y_intB, y_abs, y_max2, y_min2, y_max1, y_sum, y_listT, y_listL, y_tupT, y_tupL, y_strI, y_all, y_any, y_split, y_starts, y_joinL, y_reprB, y_rcS, y_rcW, y_rcJ, y_asB, y_asI, y_trN, y_trB, y_trI, y_trT, y_trL, y_itT, y_itL, y_itS, y_itRL, y_itRT, y_app, y_ext, g_bl, g_bin, g_negi, g_neg, g_cmpb, g_cmp, g_c3cT, g_c3cF, g_c3b, g_c3, g_tr, g_notb, g_not, g_and2T, g_and2F, g_and, g_or2T, g_or2F, g_or, g_vand2T, g_vand2F, g_vand, g_vor2T, g_vor2F, g_vor, g_ite2T, g_ite2F, g_ite, g_idx, g_sl0, g_slL3, g_slL2, g_slL, g_slH3, g_slH2, g_slH, g_slB5, g_slB4, g_slB3, g_slB2, g_slB, g_me3, g_me2, g_me, g_es2, g_es, ge_c, ge_g, ge_bin, ge_neg, ge_cmp, ge_cmp3, ge_tr, ge_not, ge_and, ge_or, ge_vand, ge_vor, ge_ite, g_tup, g_lst, ge_tup, ge_lst, ge_idx, ge_sl0, ge_slL, ge_slH, ge_slB, ge_call, ge_bi, ge_meth, g_co4, g_co3, g_co2, g_co, ge_comp, ge_nil, ge_cons, g_nx, g_ex, g_ret, g_if2T, g_if2F, g_if, g_pr2, g_pr, ge_ret, ge_if, ge_par, ge_brk, ge_cnt, ge_pass, ge_v, ge_whl, g_fr3, g_fr2, g_fr, ge_fr, g_ag2, g_ag, ge_aug, g_mt4, g_mt3, g_mt2, g_mt, g_mx, g_ms, ge_mappend, ge_sappend, ge_mpop0, ge_spop0, ge_mpop1, ge_spop1, ge_mextend, ge_sextend, ge_minsert, ge_sinsert, ge_mreverse, ge_sreverse, g_su5, g_su4, g_su3, g_su2, g_su1, g_su, ge_sub, g_set, ge_setT, ges_c, ges_v, ges_g, ges_bin, ges_neg, ges_cmp, ges_cmp3, ges_tr, ges_ite, ges_tup, ges_lst, ges_idx, ges_slc0, ges_slcL, ges_slcH, ges_slcB, ges_call, gex_call, ges_bi, gex_bi, ges_comp, ges_and, ges_or, ges_vand, ges_vor, ges_not, ges_split, ges_join, ges_starts, ge_pnm, ge_ptup, ge_pnil, g_pc, ge_pcons, lk_0, lk_1, lk_2, lk_3, fo_nil, fo_cons, fo_app, fo_nx, fo_ct, fo_bk, fo_rt, *])
/-- the tape -/
structure Tp (S : Store) (t : Nat) : Prop where
  ex : ∃ l xs p b c, S[t]? = some (.lst [.loc l, .int p, .int b, .int c]) ∧ S[l]? = some (.lst xs) ∧ (∀ x ∈ xs, ∃ i, x = D.int i) ∧ 0 ≤ p ∧ 0 ≤ b ∧ 0 ≤ c ∧ l < t
/-- all but the tape stands -/
structure Fr (t : Nat) (S S' : Store) : Prop where
  len : S.length ≤ S'.length
  keep : ∀ (i : Nat) c, i ≠ t → S[i]? = some c → S'[i]? = some c
  tp : Tp S' t
theorem tp_lt {S : Store} {t : Nat} (h : Tp S t) : t < S.length := by
  obtain ⟨l, xs, p, b, c, ht, _⟩ := h
  exact (List.getElem?_eq_some_iff.mp ht).1
/-- the tape's cell is written -/
theorem fr_set {S : Store} {t l : Nat} {xs : List D} {p b c p' b' c' : Int} (ht : S[t]? = some (.lst [.loc l, .int p, .int b, .int c])) (hl : S[l]? = some (.lst xs)) (hx : ∀ x ∈ xs, ∃ i, x = D.int i) (hp : 0 ≤ p') (hb : 0 ≤ b') (hc : 0 ≤ c') (hne : l < t) :
    Fr t S (S.set t (.lst [.loc l, .int p', .int b', .int c'])) := by
  have hlt := (List.getElem?_eq_some_iff.mp ht).1
  refine ⟨by simp, fun i c hi h => ?_, l, xs, p', b', c', ?_, ?_, hx, hp, hb, hc, hne⟩
  · rw [List.getElem?_set_ne (fun z => hi z.symm)]; exact h
  · rw [List.getElem?_set_self hlt]
  · rw [List.getElem?_set_ne (by omega)]; exact hl
set_option maxHeartbeats 4000000 in
theorem r_draw {n t : Nat} {S : Store} {m : Int} (hn : 1 ≤ n) (h : Tp S t) (hm : m < 1000000) : wp (callN defs glob n "_law_draw" [.loc t, .int m]) (fun d S' => ∃ v, d = .int v ∧ 0 ≤ v ∧ v < max m 1 ∧ Fr t S S') S := by
  obtain ⟨n, rfl⟩ : ∃ k, n = k + 1 := ⟨n - 1, by omega⟩
  obtain ⟨l, xs, p, b, c, ht, hl, hx, hp, hb, hc, hne⟩ := h
  have hlt := (List.getElem?_eq_some_iff.mp ht).1
  have s1 : ∀ c, (S.set t c)[t]? = some c := fun c => List.getElem?_set_self hlt
  have s2 : ∀ c, (S.set t c)[l]? = some (.lst xs) := fun c => by rw [List.getElem?_set_ne (by omega)]; exact hl
  have md : ∀ v : Int, 0 ≤ v → 0 ≤ v % max m 1 ∧ v % max m 1 < max m 1 := fun v hv => ⟨Int.emod_nonneg _ (by omega), Int.emod_lt_of_pos _ (by omega)⟩
  have mx1 : (if (1 : Int) > m then 1 else m) = max m 1 := by split <;> omega
  have mx2 : (if (2 : Int) > m then 2 else m) = max m 2 := by split <;> omega
  have g1 : decide (0 < max m 1) = true := by simp; omega
  have g2 : (decide (0 < max m 2) && decide (max m 2 < 1073741824)) = true := by simp; omega
  have g3 : decide ((0 : Int) < 2147483647) = true := by decide
  have g4 : decide ((0 : Int) < 2147483629) = true := by decide
  have g5 : ∀ v : Int, cMul v 48271 = true := fun v => by simp [cMul]
  have g6 : ∀ v : Int, cMul v 69621 = true := fun v => by simp [cMul]
  have g7 : (decide ((0 : Int) ≤ 18) && decide ((18 : Int) ≤ 1000000) && decide ((10 : Int).natAbs < 2 ^ 64)) = true := by decide
  have g8 : ∀ v : Int, 0 ≤ v % 2147483647 := fun v => Int.emod_nonneg _ (by decide)
  have g9 : ∀ v : Int, 0 ≤ v % 2147483629 := fun v => Int.emod_nonneg _ (by decide)
  have keep : S.set t (.lst [.loc l, .int p, .int b, .int c]) = S := by
    apply List.ext_getElem?
    intro j
    by_cases hj : t = j
    · subst hj; rw [s1, ht]
    · rw [List.getElem?_set_ne hj]
  -- the last three statements
  have last : ∀ p' b' c' : Int, 0 ≤ p' → 0 ≤ b' → 0 ≤ c' → (∃ v, D.int (b' % max m 1) = D.int v ∧ 0 ≤ v ∧ v < max m 1 ∧ Fr t S (S.set t (.lst [.loc l, .int p', .int (b' / max m 2), .int c']))) := fun p' b' c' h1 h2 h3 =>
    ⟨_, rfl, (md _ h2).1, (md _ h2).2, fr_set ht hl hx h1 (Int.ediv_nonneg h2 (by omega)) h3 hne⟩
  have last2 : ∀ v p' c' : Int, 0 ≤ v → 0 ≤ p' → 0 ≤ c' → (∃ w, D.int (v % max m 1) = D.int w ∧ 0 ≤ w ∧ w < max m 1 ∧ Fr t S (S.set t (.lst [.loc l, .int p', .int 0, .int c']))) := fun v p' c' h0 h1 h3 =>
    ⟨_, rfl, (md _ h0).1, (md _ h0).2, fr_set ht hl hx h1 (by omega) h3 hne⟩
  refine x_call (d := d__law_draw) rfl rfl ?_
  show wp (evSs _ b__law_draw [some (.loc t), some (.int m), none, none]) _ S
  simp only [b__law_draw, b__law_draw_1, b__law_draw_2, b__law_draw_3]
  walk_at "mn"
  simp only [ht]
  walk_at "mn"
  by_cases hb0 : b = 0
  · subst hb0
    simp only [beq_self_eq_true]
    walk_at "mn*"
    by_cases hpl : p < xs.length
    · have hpx : xs[p.toNat]? = some (xs[p.toNat]'(by omega)) := List.getElem?_eq_getElem (by omega)
      obtain ⟨i, hi⟩ := hx _ (List.getElem_mem (show p.toNat < xs.length by omega))
      rw [hi] at hpx
      have hi0 : 0 ≤ (if i < 0 then -i else i) := by split <;> omega
      generalize hv : (if i < 0 then -i else i) = v at *
      have hat := atI_lt hp hpx
      simp only [hpl, decide_true]
      walk_at "mn*"
      by_cases hs : v < 10 ^ (18 : Int).toNat
      · simp only [hs, decide_true]
        walk_at "mn*"
        exact last2 _ _ _ (g9 _) (by omega) hc
      · simp only [hs, decide_false]
        walk_at "mn*"
        exact last _ _ _ (by omega) hi0 hc
    · simp only [hpl, decide_false]
      walk_at "mn*"
      have hs : (c * 48271 + p + 1) % 2147483647 < 10 ^ (18 : Int).toNat := by
        have := Int.emod_lt_of_pos (c * 48271 + p + 1) (show (0 : Int) < 2147483647 by decide)
        have e : (10 : Int) ^ (18 : Int).toNat = 1000000000000000000 := by decide
        omega
      simp only [hs, decide_true]
      walk_at "mn*"
      exact last2 _ _ _ (g9 _) (by omega) (g8 _)
  · have : (b == 0) = false := by simpa using hb0
    simp only [this]
    walk_at "mn*"
theorem Tp.push {S : Store} {t : Nat} (h : Tp S t) (c : Cell) : Tp (S ++ [c]) t := by
  obtain ⟨l, xs, p, b, d, ht, hl, r⟩ := h
  exact ⟨l, xs, p, b, d, ap_old ht, ap_old hl, r⟩
theorem Tp.set {S : Store} {t L : Nat} (h : Tp S t) (hL : t < L) (c : Cell) : Tp (S.set L c) t := by
  obtain ⟨l, xs, p, b, d, ht, hl, h1, h2, h3, h4, h5⟩ := h
  exact ⟨l, xs, p, b, d, by rw [List.getElem?_set_ne (by omega)]; exact ht, by rw [List.getElem?_set_ne (by omega)]; exact hl, h1, h2, h3, h4, h5⟩
theorem Fr.refl {S : Store} {t : Nat} (h : Tp S t) : Fr t S S := ⟨Nat.le_refl _, fun _ _ _ h => h, h⟩
theorem Fr.trans {S S1 S2 : Store} {t : Nat} (a : Fr t S S1) (b : Fr t S1 S2) : Fr t S S2 :=
  ⟨Nat.le_trans a.len b.len, fun i c h g => b.keep i c h (a.keep i c h g), b.tp⟩
theorem Fr.push {S S1 : Store} {t : Nat} (a : Fr t S S1) (c : Cell) : Fr t S (S1 ++ [c]) :=
  ⟨by have := a.len; simp; omega, fun i d h g => ap_old (a.keep i d h g), a.tp.push c⟩
theorem Fr.set {S S1 : Store} {t L : Nat} (a : Fr t S S1) (ht : t < S.length) (hL : S.length ≤ L) (c : Cell) : Fr t S (S1.set L c) :=
  ⟨by have := a.len; simp; omega, fun i d h g => by
    have := (List.getElem?_eq_some_iff.mp g).1
    rw [List.getElem?_set_ne (by omega)]; exact a.keep i d h g, a.tp.set (by omega) c⟩
/-- the words of a file -/
def wordsD : List D := [D.str "let", D.str "if", D.str "else", D.str "while", D.str "for", D.str "break", D.str "continue", D.str "return", D.str "try", D.str "finally", D.str "true", D.str "false"]
theorem wordsD_eq : [D.str (Str.ofString "let"), D.str (Str.ofString "if"), D.str (Str.ofString "else"), D.str (Str.ofString "while"), D.str (Str.ofString "for"), D.str (Str.ofString "break"), D.str (Str.ofString "continue"), D.str (Str.ofString "return"), D.str (Str.ofString "try"), D.str (Str.ofString "finally"), D.str (Str.ofString "true"), D.str (Str.ofString "false")] = wordsD := rfl
def NmL (xs : List D) : Prop := ∀ x ∈ xs, ∃ s, x = D.str s ∧ Ws 70 s
theorem NmL.flat {xs : List D} (h : NmL xs) : ∀ x ∈ xs, flatD x = true := fun x hx => by obtain ⟨s, rfl, _⟩ := h x hx; rfl
theorem NmL.snoc {xs : List D} {s : Str} (h : NmL xs) (hs : Ws 70 s) : NmL (xs ++ [.str s]) := fun x hx => by
  rcases List.mem_append.mp hx with hx | hx
  · exact h x hx
  · have : x = .str s := by simpa using hx
    exact ⟨s, this, hs⟩
theorem wordsD_nm : NmL wordsD := fun d hd => by
  obtain ⟨s, h, hs⟩ := all_ws (k := 8) (xs := wordsD) (by decide +kernel) d hd
  exact ⟨s, h, hs.mono (by decide)⟩
structure NInv (t W L : Nat) (S0 : Store) (acc : List D) (S : Store) : Prop where
  f : Fr t S0 S
  w : S[W]? = some (.lst wordsD)
  l : S[L]? = some (.lst acc)
  a : NmL acc
  n : acc.length < 2000000
structure NCtx (t W L : Nat) (S0 : Store) : Prop where
  a : t < S0.length
  b : S0.length ≤ W
  c : W < L
abbrev sgn : Str := "abcdefghijklmnopqrstuvwxyzABCDEFGHIJKLMNOPQRSTUVWXYZ0123456789_"
theorem sgn_ws : Ws 63 sgn := by decide +kernel
theorem sgn_len : sgn.length = 63 := by decide +kernel
abbrev nenv (t W L : Nat) (m st pl k nm j ch : Option D) : Nv := [some (.loc t), m, some (.str sgn), some (.loc W), st, pl, some (.loc L), k, nm, j, ch]
theorem NInv.fr {t W L : Nat} {S0 S S' : Store} {acc : List D} (c : NCtx t W L S0) (i : NInv t W L S0 acc S) (f : Fr t S S') : NInv t W L S0 acc S' :=
  have := c.a; have := c.b; have := c.c
  ⟨i.f.trans f, f.keep _ _ (by omega) i.w, f.keep _ _ (by omega) i.l, i.a, i.n⟩
section
variable {n t W L : Nat} {S0 S : Store} {m st pl j : Option D} {acc : List D} {nm : Str} {k ch : Int} {Q : Mn.Flow × Nv → Store → Prop}
/-- what the row of a name leads to -/
def NOut (t W L : Nat) (S0 : Store) (acc : List D) (m st pl j : Option D) (k ch : Int) (Q : Mn.Flow × Nv → Store → Prop) : Prop :=
  ∀ S' s, Ws 70 s → Fr t S0 S' → S'[W]? = some (.lst wordsD) → S'[L]? = some (.lst (acc ++ [.str s])) → Q (.nx, nenv t W L m st pl (some (.int k)) (some (.str s)) j (some (.int ch))) S'
theorem names_1 (c : NCtx t W L S0) (i : NInv t W L S0 acc S) (hw : Ws 70 nm) (q : NOut t W L S0 acc m st pl j k ch Q) : wpx (evSs ⟨glob, callN defs glob n⟩ b__law_names_1 (nenv t W L m st pl (some (.int k)) (some (.str nm)) j (some (.int ch)))) Q E0x S := by
  simp only [b__law_names_1, nenv]
  walk_at "mn"
  simp only [i.l]
  walk_at "mn"
  have := c.a; have := c.b; have := c.c
  have := (List.getElem?_eq_some_iff.mp i.l).1
  refine ⟨by have := i.n; rw [decide_eq_true_eq]; show _ < 16777216; omega, q _ _ hw (i.f.set c.a (by omega) _) ?_ ?_⟩
  · rw [List.getElem?_set_ne (by omega)]; exact i.w
  · rw [List.getElem?_set_self (by omega)]
theorem names_2 (c : NCtx t W L S0) (i : NInv t W L S0 acc S) (hw : Ws 70 nm) (hk : 0 ≤ k) (hk2 : k < 1000000) (q : NOut t W L S0 acc m st pl j k ch Q) : wpx (evSs ⟨glob, callN defs glob n⟩ b__law_names_2 (nenv t W L m st pl (some (.int k)) (some (.str nm)) j (some (.int ch)))) Q E0x S := by
  simp only [b__law_names_2, nenv]
  walk_at "mn"
  try simp only [c_inn, inM]
  walk_at "mn"
  simp only [i.w]
  walk_at "mn"
  obtain ⟨b1, e1⟩ := inAll_flat (x := .str nm) rfl wordsD_nm.flat
  simp only [e1]
  walk_at "mn"
  have fin : Ws 70 (Str.ofString "one_of_two_equal_names_" ++ Str.ofString (toString k)) :=
    (Ws.add (show Ws 23 _ by decide +kernel) (Ws.num hk (by omega))).mono (by decide)
  have g : decide (k.natAbs.log2 < 1920) = true := log_small (by omega)
  have g2 : ok2 ((Str.ofString "one_of_two_equal_names_").length + (Str.ofString (toString k)).length) = true :=
    Ws.ok22 (show Ws 23 _ by decide +kernel) (Ws.num hk (by omega)) (by decide)
  cases b1 with
  | true =>
    walk_at "mn"
    try simp only [u_strI]
    walk_at "mn*"
    exact names_1 c i fin q
  | false =>
    walk_at "mn"
    simp only [i.l]
    walk_at "mn"
    obtain ⟨b2, e2⟩ := inAll_flat (x := .str nm) rfl i.a.flat
    simp only [e2]
    walk_at "mn"
    cases b2 with
    | true =>
      walk_at "mn"
      try simp only [u_strI]
      walk_at "mn*"
      exact names_1 c i fin q
    | false =>
      walk_at "mn"
      exact names_1 c i hw q
theorem w_word {W : Nat} {S : Store} {v : Int} {R : D → Store → Prop} (hW : S[W]? = some (.lst wordsD)) (h0 : 0 ≤ v) (h1 : v < 12) (h : ∀ s, Ws 8 s → R (.str s) S) : ∃ xs, rdC S[W]? = some xs ∧ wpx (opt (atI xs v)) R E0x S := by
  rw [hW, rdC_lst, ex_some]
  refine w_pick (P := fun d => ∃ s, d = .str s ∧ Ws 8 s) h0 h1 (all_ws (by decide +kernel)) ?_
  rintro _ ⟨s, rfl, hs⟩
  exact h s hs
theorem names_3 (c : NCtx t W L S0) (hn : 1 ≤ n) (i : NInv t W L S0 acc S) (hw : Ws 70 nm) (hk : 0 ≤ k) (hk2 : k < 1000000) (q : NOut t W L S0 acc m st pl j k ch Q) : wpx (evSs ⟨glob, callN defs glob n⟩ b__law_names_3 (nenv t W L m st pl (some (.int k)) (some (.str nm)) j (some (.int ch)))) Q E0x S := by
  simp only [b__law_names_3, nenv]
  walk_at "mn"
  by_cases h : ch = 2
  · subst h
    simp only [beq_self_eq_true]
    walk_at "mn"
    refine wpx_of_wp (r_draw hn i.f.tp (by decide)) ?_
    rintro _ S1 ⟨v, rfl, v0, v1, f1⟩
    walk_at "mn"
    refine w_word (i.fr c f1).w v0 v1 ?_
    intro s hs
    walk_at "mn"
    try simp only [sl_S, wpx_bind, wpx_guard]
    refine ⟨hs.ok2 (by decide), ?_⟩
    walk_at "mn"
    exact names_2 c (i.fr c f1) (hs.cut.mono (by decide)) hk hk2 q
  · have e : (ch == 2) = false := by simpa using h
    simp only [e]
    walk_at "mn"
    exact names_2 c i hw hk hk2 q
theorem names_4 (c : NCtx t W L S0) (hn : 1 ≤ n) (i : NInv t W L S0 acc S) (hw : Ws 60 nm) (hk : 0 ≤ k) (hk2 : k < 1000000) (q : NOut t W L S0 acc m st pl j k ch Q) : wpx (evSs ⟨glob, callN defs glob n⟩ b__law_names_4 (nenv t W L m st pl (some (.int k)) (some (.str nm)) j (some (.int ch)))) Q E0x S := by
  simp only [b__law_names_4, nenv]
  walk_at "mn"
  by_cases h : ch = 1
  · subst h
    simp only [beq_self_eq_true]
    walk_at "mn"
    refine wpx_of_wp (r_draw hn i.f.tp (by decide)) ?_
    rintro _ S1 ⟨v, rfl, v0, v1, f1⟩
    walk_at "mn"
    refine w_word (i.fr c f1).w v0 v1 ?_
    intro s hs
    walk_at "mn"
    try simp only [sl_S, wpx_bind, wpx_guard]
    refine ⟨hw.ok2 (by decide), ?_⟩
    walk_at "mn"
    refine ⟨hs.ok22 hw.cut (by decide), ?_⟩
    exact names_3 c hn (i.fr c f1) ((hs.add hw.cut).mono (by decide)) hk hk2 q
  · have e : (ch == 1) = false := by simpa using h
    simp only [e]
    walk_at "mn"
    exact names_3 c hn i (hw.mono (by decide)) hk hk2 q
theorem names_6 {ch : Option D} {k : Int} (c : NCtx t W L S0) (hn : 1 ≤ n) (i : NInv t W L S0 acc S) (hw : Ws 30 nm) (hk : 0 ≤ k) (hk2 : k < 1000000) (q : ∀ ch : Int, NOut t W L S0 acc m st pl j k ch Q) : wpx (evSs ⟨glob, callN defs glob n⟩ b__law_names_6 (nenv t W L m st pl (some (.int k)) (some (.str nm)) j ch)) Q E0x S := by
  simp only [b__law_names_6, nenv]
  walk_at "mn"
  refine wpx_of_wp (r_draw hn i.f.tp (by decide)) ?_
  rintro _ S1 ⟨v, rfl, v0, v1, f1⟩
  walk_at "mn"
  by_cases h : v = 0
  · subst h
    simp only [beq_self_eq_true]
    walk_at "mn"
    try simp only [u_lenS]
    walk_at "mn"
    refine ⟨hw.ok2 (by decide), ?_⟩
    simp only [b_mulS]
    walk_at "mn"
    have := hw.1
    have e : (⟨(Mn.rep (Str.ofString "x").cps.toList (30 - (nm.length : Int)).toNat).toArray⟩ : Str) = ⟨(Mn.rep [120] (30 - (nm.length : Int)).toNat).toArray⟩ := rfl
    have hx := (Ws.repeat (n := (30 - (nm.length : Int)).toNat) (show 120 < 128 by decide)).mono (show _ ≤ 30 by omega)
    refine ⟨by rw [show (Str.ofString "x").length = 1 from rfl]; simp; omega, ?_⟩
    rw [e]
    refine ⟨hw.ok22 hx (by decide), ?_⟩
    exact names_4 c hn (i.fr c f1) (hw.add hx) hk hk2 (q _)
  · have e : (v == 0) = false := by simpa using h
    simp only [e]
    walk_at "mn"
    exact names_4 c hn (i.fr c f1) (hw.mono (by decide)) hk hk2 (q _)
end
section
variable {n t W L : Nat} {S0 S : Store} {m st pl j : Option D} {acc : List D} {nm : Str} {k ch : Int} {Q : Mn.Flow × Nv → Store → Prop}
theorem names_7 {nm j ch : Option D} {s : Str} {p : Int} {k : Int} (c : NCtx t W L S0) (hn : 1 ≤ n) (i : NInv t W L S0 acc S) (hs : Ws 10 s) (hk : 0 ≤ k) (hk2 : k < 1000000) (q : ∀ j, ∀ ch : Int, NOut t W L S0 acc m (some (.str s)) (some (.int p)) j k ch Q) : wpx (evSs ⟨glob, callN defs glob n⟩ b__law_names_7 (nenv t W L m (some (.str s)) (some (.int p)) (some (.int k)) nm j ch)) Q E0x S := by
  simp only [b__law_names_7, nenv]
  walk_at "mn"
  try simp only [sl_S]
  walk_at "mn"
  refine ⟨hs.ok2 (by decide), ?_⟩
  refine wpx_of_wp (r_draw hn i.f.tp (by decide)) ?_
  rintro _ S1 ⟨v, rfl, v0, v1, f1⟩
  walk_at "mn"
  refine w_sign sgn_ws (by decide) v0 (by rw [sgn_len]; omega) ?_
  intro x hx
  walk_at "mn"
  have w1 := (hs.cut (lo := none) (hi := some p)).add hx
  have w2 := w1.add (hs.cut (lo := some p) (hi := none))
  refine ⟨(hs.cut (lo := none) (hi := some p)).ok22 hx (by decide), ?_⟩
  walk_at "mn"
  refine ⟨hs.ok2 (by decide), ?_⟩
  walk_at "mn"
  refine ⟨w1.ok22 hs.cut (by decide), ?_⟩
  walk_at "mn"
  refine wpx_of_wp (r_draw hn (f1.push _).tp (by decide)) ?_
  rintro _ S2 ⟨v', rfl, v0', v1', f2⟩
  walk_at "mn"
  have f12 := (f1.push _).trans f2
  have hl := f2.keep _ _ (by have := tp_lt f1.tp; omega) ap_self
  simp only [hl]
  walk_at "mn"
  refine w_pick (P := fun d => ∃ i, d = .int i ∧ 0 ≤ i ∧ i ≤ 6) v0' v1' (all_in (by decide +kernel)) ?_
  rintro _ ⟨g, rfl, g0, g1⟩
  walk_at "mn"
  simp only [k_r1n g0 (show g < 1000000000 by omega)]
  walk_at "mn"
  have i2 := i.fr c f12
  refine for_rng (fun q env S' => ∃ (nm' : Str) (j' : Option D), env = nenv t W L m (some (.str s)) (some (.int p)) (some (.int k)) (some (.str nm')) j' ch ∧ Ws (21 + q) nm' ∧ NInv t W L S0 acc S') g0 (by omega) ⟨_, _, rfl, w2.mono (by decide), i2⟩ ?_ ?_
  · rintro q env S' hq ⟨nm', j', rfl, hw', i'⟩
    simp only [nenv, b__law_names_5]
    walk_at "mn"
    refine wpx_of_wp (r_draw hn i'.f.tp (by decide)) ?_
    rintro _ S3 ⟨v3, rfl, v30, v31, f3⟩
    walk_at "mn"
    refine w_sign sgn_ws (by decide) v30 (by rw [sgn_len]; omega) ?_
    intro y hy
    walk_at "mn"
    exact ⟨hw'.ok22 hy (by omega), _, _, rfl, hw'.add hy, i'.fr c f3⟩
  · rintro env S' ⟨nm', j', rfl, hw', i'⟩
    rw [then_nx]
    exact names_6 c hn i' (hw'.mono (by omega)) hk hk2 (q _)
end
set_option maxHeartbeats 4000000 in
theorem r_names {n t : Nat} {S : Store} {m : Int} (hn : 2 ≤ n) (h : Tp S t) (h0 : 0 ≤ m) (hm : m < 1000000) : wp (callN defs glob n "_law_names" [.loc t, .int m]) (fun d S' => ∃ L xs, d = .loc L ∧ S.length ≤ L ∧ S'[L]? = some (.lst xs) ∧ xs.length = m.toNat ∧ NmL xs ∧ Fr t S S') S := by
  obtain ⟨n, rfl⟩ : ∃ k, n = k + 1 := ⟨n - 1, by omega⟩
  refine x_call (d := d__law_names) rfl rfl ?_
  show wp (evSs _ b__law_names [some (.loc t), some (.int m), none, none, none, none, none, none, none, none, none]) _ S
  simp only [b__law_names]
  walk_at "mn"
  have ht := tp_lt h
  simp only [wordsD_eq]
  have f0 := ((Fr.refl h).push (.lst wordsD)).push (.lst [D.str (Str.ofString ""), D.str (Str.ofString ""), D.str (Str.ofString "sharedStem"), D.str (Str.ofString "while_x")])
  refine wpx_of_wp (r_draw (by omega) f0.tp (by decide)) ?_
  rintro _ S1 ⟨v, rfl, v0, v1, f1⟩
  walk_at "mn"
  have e1 := f1.keep _ _ (by simp only [List.length_append]; omega) ap_self
  have e0 := f1.keep _ _ (by omega) (ap_old ap_self)
  simp only [e1]
  walk_at "mn"
  refine w_pick (P := fun d => ∃ s, d = .str s ∧ Ws 10 s) v0 v1 (all_ws (by decide +kernel)) ?_
  rintro _ ⟨s, rfl, hs⟩
  try simp only [u_lenS]
  walk_at "mn"
  refine ⟨hs.ok2 (by decide), ?_⟩
  refine wpx_of_wp (r_draw (by omega) f1.tp (by have := hs.1; omega)) ?_
  rintro _ S2 ⟨p, rfl, p0, p1, f2⟩
  walk_at "mn"
  walk_at "mn"
  simp only [k_r1n h0 (show m < 1000000000 by omega)]
  walk_at "mn"
  have f12 := (f0.trans f1).trans f2
  have hl0 := f0.len
  have hl1 := f1.len
  have hl2 := f2.len
  simp only [List.length_append, List.length_cons, List.length_nil] at hl0 hl1
  have c : NCtx t S.length S2.length S := ⟨ht, Nat.le_refl _, by omega⟩
  refine for_rng (fun q env S' => ∃ (acc : List D) (k nm j ch : Option D), env = nenv t S.length S2.length (some (.int m)) (some (.str s)) (some (.int p)) k nm j ch ∧ NInv t S.length S2.length S acc S' ∧ acc.length = q) h0 (by omega) ⟨[], _, _, _, _, rfl, ⟨f12.push _, ap_old (f2.keep _ _ (by omega) e0), ap_self, fun _ h => (nomatch h), by decide⟩, rfl⟩ ?_ ?_
  · rintro q env S' hq ⟨acc, k, nm, j, ch, rfl, i', hq'⟩
    simp only [nenv]
    walk_at "mn"
    refine names_7 c (by omega) i' hs (by omega) (by omega) ?_
    intro j ch S3 s3 hs3 f3 w3 l3
    exact ⟨_, _, _, _, _, rfl, ⟨f3, w3, l3, i'.a.snoc hs3, by simp; omega⟩, by simp; omega⟩
  · rintro env S' ⟨acc, k, nm, j, ch, rfl, i', hq'⟩
    rw [then_nx]
    simp only [nenv, b__law_names_8]
    walk_at "mn"
    exact ⟨_, _, rfl, by omega, i'.l, hq', i'.a, i'.f⟩
set_option maxHeartbeats 4000000 in
theorem r_tape {n : Nat} {ns : List Int} (hn : 1 ≤ n) (hl : ns.length ≤ 63) : wp (callN defs glob n "_law_tape" [.loc 0]) (fun d S' => ∃ t, d = .loc t ∧ Tp S' t) [.ro (ns.map D.int)] := by
  obtain ⟨n, rfl⟩ : ∃ k, n = k + 1 := ⟨n - 1, by omega⟩
  refine x_call (d := d__law_tape) rfl rfl ?_
  show wp (evSs _ b__law_tape [some (.loc 0), none, none]) _ _
  simp only [b__law_tape]
  walk_at "mn"
  refine for_items (ns.map D.int) (fun i env S' => ∃ (v : Int) (z : Option D), env = [some (.loc 0), some (.int v), z] ∧ 0 ≤ v ∧ S' = [.ro (ns.map D.int)]) (fuel_big (by simp; omega)) ⟨7, none, rfl, by decide, rfl⟩ (fun i env S _ h => by obtain ⟨v, z, _, _, rfl⟩ := h; exact k_Lit rfl) ?_ ?_
  · rintro i d env S' hd ⟨v, z, rfl, hv, rfl⟩
    rw [List.getElem?_map] at hd
    cases ea : ns[i]? with
    | none => rw [ea] at hd; cases hd
    | some b =>
      rw [ea] at hd
      cases hd
      have g5 : ∀ v : Int, cMul v 31 = true := fun v => by simp [cMul]
      have g3 : decide ((0 : Int) < 2147483647) = true := by decide
      simp only [b__law_tape_1]
      walk_at "mn*"
      exact ⟨_, _, rfl, Int.emod_nonneg _ (by decide), rfl⟩
  · rintro env S' ⟨v, z, rfl, hv, rfl⟩
    rw [then_nx]
    simp only [b__law_tape_2]
    walk_at "mn"
    refine ⟨2, rfl, 1, ns.map D.int, 0, 0, v, rfl, rfl, ?_, by decide, by decide, hv, by decide⟩
    intro x hx
    obtain ⟨i, _, rfl⟩ := List.mem_map.mp hx
    exact ⟨i, rfl⟩
open Pg
/-- the world's places and names -/
structure WX where
  (t w f c l g : Nat)
  (cs ls gs : List D)
structure WSt (x : WX) : Prop where
  tw : x.t < x.w
  tc : x.t < x.c
  tl : x.t < x.l
  tg : x.t < x.g
  tf : x.t < x.f
  fw : x.f ≠ x.w
  fc : x.f ≠ x.c
  fl : x.f ≠ x.l
  fg : x.f ≠ x.g
  cn : NmL x.cs
  c1 : 1 ≤ x.cs.length
  c2 : x.cs.length ≤ 1000
  ln : NmL x.ls
  l1 : 1 ≤ x.ls.length
  l2 : x.ls.length ≤ 1000
  gn : NmL x.gs
  g2 : x.gs.length ≤ 1000
/-- the declarations that are left -/
def fvx (x : WX) (S : Store) : Int := match S[x.f]? with
  | some (.lst [_, _, _, .int a3, _, _]) => a3
  | _ => 0
theorem fv_eq {x : WX} {S : Store} {a0 a1 a2 a3 a4 a5 : Int} (h : S[x.f]? = some (.lst [.int a0, .int a1, .int a2, .int a3, .int a4, .int a5])) : fvx x S = a3 := by unfold fvx; rw [h]
theorem fv_same {x : WX} {S S' : Store} (h : S'[x.f]? = S[x.f]?) : fvx x S' = fvx x S := by unfold fvx; rw [h]
structure WI (x : WX) (S : Store) : Prop where
  tp : Tp S x.t
  w : S[x.w]? = some (.lst [.loc x.f, .loc x.c, .loc x.l, .loc x.g])
  c : S[x.c]? = some (.lst x.cs)
  l : S[x.l]? = some (.lst x.ls)
  g : S[x.g]? = some (.lst x.gs)
  f : ∃ a0 a1 a2 a3 a4 a5 : Int, S[x.f]? = some (.lst [.int a0, .int a1, .int a2, .int a3, .int a4, .int a5])
  n3 : 0 ≤ fvx x S
/-- all but the tape, the free counts and M stands -/
structure WF (x : WX) (M : List Nat) (S S' : Store) : Prop where
  len : S.length ≤ S'.length
  keep : ∀ (i : Nat) c, i ≠ x.t → i ≠ x.f → i ∉ M → S[i]? = some c → S'[i]? = some c
  wi : WI x S'
  fv : fvx x S' ≤ fvx x S
section
variable {x : WX} {M N : List Nat} {A B C S S' : Store}
theorem WF.refl (h : WI x S) : WF x M S S := ⟨Nat.le_refl _, fun _ _ _ _ _ q => q, h, Int.le_refl _⟩
theorem WF.trans (a : WF x M A B) (b : WF x M B C) : WF x M A C :=
  ⟨Nat.le_trans a.len b.len, fun i c h1 h2 h3 q => b.keep i c h1 h2 h3 (a.keep i c h1 h2 h3 q), b.wi, Int.le_trans b.fv a.fv⟩
theorem WF.mono (h : ∀ i ∈ M, i ∈ N) (a : WF x M A B) : WF x N A B :=
  ⟨a.len, fun i c h1 h2 h3 q => a.keep i c h1 h2 (fun z => h3 (h i z)) q, a.wi, a.fv⟩
theorem WI.kp (h : WI x S) (k : Kp S S') : WI x S' := by
  obtain ⟨l, xs, p, b, c, ht, hl, r⟩ := h.tp
  obtain ⟨a0, a1, a2, a3, a4, a5, hf⟩ := h.f
  exact ⟨⟨l, xs, p, b, c, k.keep _ _ ht, k.keep _ _ hl, r⟩, k.keep _ _ h.w, k.keep _ _ h.c, k.keep _ _ h.l, k.keep _ _ h.g, ⟨a0, a1, a2, a3, a4, a5, k.keep _ _ hf⟩, by rw [fv_same ((k.keep _ _ hf).trans hf.symm)]; exact h.n3⟩
theorem WI.fv_kp (h : WI x S) (k : Kp S S') : fvx x S' = fvx x S := by
  obtain ⟨a0, a1, a2, a3, a4, a5, hf⟩ := h.f
  exact fv_same ((k.keep _ _ hf).trans hf.symm)
theorem WF.kp (a : WF x M A B) (k : Kp B C) : WF x M A C := ⟨Nat.le_trans a.len k.len, fun i c h1 h2 h3 q => k.keep _ _ (a.keep i c h1 h2 h3 q), a.wi.kp k, by rw [a.wi.fv_kp k]; exact a.fv⟩
theorem WF.push (a : WF x M A B) (c : Cell) : WF x M A (B ++ [c]) := a.kp ((Kp.refl B).push c)
theorem WI.fr (ws : WSt x) (h : WI x S) (f : Fr x.t S S') : WI x S' := by
  obtain ⟨a0, a1, a2, a3, a4, a5, hf⟩ := h.f
  have := ws.tw
  have := ws.tc
  have := ws.tl
  have := ws.tg
  have := ws.tf
  exact ⟨f.tp, f.keep _ _ (by omega) h.w, f.keep _ _ (by omega) h.c, f.keep _ _ (by omega) h.l, f.keep _ _ (by omega) h.g, ⟨a0, a1, a2, a3, a4, a5, f.keep _ _ (by omega) hf⟩, by rw [fv_same ((f.keep _ _ (by omega) hf).trans hf.symm)]; exact h.n3⟩
theorem WI.fv_fr (ws : WSt x) (h : WI x S) (f : Fr x.t S S') : fvx x S' = fvx x S := by
  obtain ⟨a0, a1, a2, a3, a4, a5, hf⟩ := h.f
  exact fv_same ((f.keep _ _ (by have := ws.tf; omega) hf).trans hf.symm)
theorem WF.fr (ws : WSt x) (a : WF x M A B) (f : Fr x.t B C) : WF x M A C := ⟨Nat.le_trans a.len f.len, fun i c h1 h2 h3 q => f.keep _ _ h1 (a.keep i c h1 h2 h3 q), a.wi.fr ws f, by rw [a.wi.fv_fr ws f]; exact a.fv⟩
/-- the free counts are written -/
theorem WF.free (ws : WSt x) (a : WF x M A B) {a0 a1 a2 a3 a4 a5 b0 b1 b2 b3 b4 b5 : Int} (hf : B[x.f]? = some (.lst [.int a0, .int a1, .int a2, .int a3, .int a4, .int a5])) (h3 : b3 = a3 ∨ (0 < a3 ∧ b3 = a3 - 1)) : WF x M A (B.set x.f (.lst [.int b0, .int b1, .int b2, .int b3, .int b4, .int b5])) := by
  have w := a.wi
  have hl := (List.getElem?_eq_some_iff.mp hf).1
  refine ⟨by have := a.len; simp; omega, fun i c h1 h2 h3 q => ?_, ⟨w.tp.set ws.tf _, ?_, ?_, ?_, ?_, ⟨_, _, _, _, _, _, List.getElem?_set_self hl⟩, ?_⟩, ?_⟩
  · rw [List.getElem?_set_ne (fun z => h2 z.symm)]; exact a.keep i c h1 h2 h3 q
  · rw [List.getElem?_set_ne ws.fw]; exact w.w
  · rw [List.getElem?_set_ne ws.fc]; exact w.c
  · rw [List.getElem?_set_ne ws.fl]; exact w.l
  · rw [List.getElem?_set_ne ws.fg]; exact w.g
  · have := w.n3
    rw [fv_eq hf] at this
    rw [fv_eq (List.getElem?_set_self hl)]
    omega
  · have := a.fv
    rw [fv_eq hf] at this
    rw [fv_eq (List.getElem?_set_self hl)]
    omega
/-- a list of one's own is written -/
theorem WF.own {L : Nat} (h : WI x A) (a : WF x M A B) (hL : A.length ≤ L) (c : Cell) : WF x M A (B.set L c) := by
  have w := a.wi
  obtain ⟨a0, a1, a2, a3, a4, a5, hf⟩ := h.f
  have lt : ∀ {i : Nat} {c : Cell}, A[i]? = some c → L ≠ i := fun q => by have := (List.getElem?_eq_some_iff.mp q).1; omega
  have htl := tp_lt h.tp
  obtain ⟨b0, b1, b2, b3, b4, b5, hg⟩ := w.f
  refine ⟨by have := a.len; simp; omega, fun i c h1 h2 h3 q => ?_, ⟨w.tp.set (by omega) _, ?_, ?_, ?_, ?_, ⟨b0, b1, b2, b3, b4, b5, ?_⟩, ?_⟩, ?_⟩
  · rw [List.getElem?_set_ne (lt q)]; exact a.keep i c h1 h2 h3 q
  · rw [List.getElem?_set_ne (lt h.w)]; exact w.w
  · rw [List.getElem?_set_ne (lt h.c)]; exact w.c
  · rw [List.getElem?_set_ne (lt h.l)]; exact w.l
  · rw [List.getElem?_set_ne (lt h.g)]; exact w.g
  · rw [List.getElem?_set_ne (lt hf)]; exact hg
  · rw [fv_same (List.getElem?_set_ne (lt hf))]; exact w.n3
  · rw [fv_same (List.getElem?_set_ne (lt hf))]; exact a.fv
end
abbrev RP (R : D → Store → Prop) : Mn.Flow × Nv → Store → Prop := fun r S' => wp (retOf r) R S'
/-- the names that are visible -/
structure Vis (x : WX) (S : Store) (F : Nat) (vis : List Str) : Prop where
  at' : S[F]? = some (.lst (vis.map .str))
  ft : F ≠ x.t
  ff : F ≠ x.f
  nm : ∀ s ∈ vis, Ws 70 s
  len : vis.length ≤ 1000
theorem Vis.keep {x : WX} {S S' : Store} {F : Nat} {vis : List Str} {M : List Nat} (v : Vis x S F vis) (hM : F ∉ M) (f : WF x M S S') : Vis x S' F vis := ⟨f.keep _ _ v.ft v.ff hM v.at', v.ft, v.ff, v.nm, v.len⟩
theorem nmL_str {xs : List D} (h : NmL xs) : ∃ ss : List Str, xs = ss.map .str ∧ ∀ s ∈ ss, Ws 70 s := by
  induction xs with
  | nil => exact ⟨[], rfl, fun _ h => nomatch h⟩
  | cons a xs ih =>
    obtain ⟨s, rfl, hs⟩ := h a (List.mem_cons_self ..)
    obtain ⟨ss, rfl, hss⟩ := ih fun y hy => h y (List.mem_cons_of_mem _ hy)
    exact ⟨s :: ss, rfl, fun y hy => by rcases List.mem_cons.mp hy with rfl | hy; exact hs; exact hss y hy⟩
theorem pick_str {ss : List Str} {v : Int} {R : D → Store → Prop} {S : Store} (h0 : 0 ≤ v) (h1 : v < ss.length) (h : ∀ s ∈ ss, R (.str s) S) : wpx (opt (atI (ss.map D.str) v)) R E0x S := by
  have hl : v.toNat < ss.length := by omega
  have : atI (ss.map D.str) v = some (.str ss[v.toNat]) := atI_lt h0 (by rw [List.getElem?_map, List.getElem?_eq_getElem hl]; rfl)
  rw [this]
  exact h _ (List.getElem_mem hl)
set_option maxHeartbeats 4000000 in
theorem r_leaf {n : Nat} {x : WX} {S : Store} {F : Nat} {vis : List Str} (hn : 2 ≤ n) (ws : WSt x) (wi : WI x S) (v : Vis x S F vis) : wp (callN defs glob n "_law_leaf" [.loc x.t, .loc x.w, .loc F]) (fun d S' => ∃ c : Cn, d = c.d ∧ c.ok vis ∧ c.sz = 1 ∧ WF x [] S S') S := by
  obtain ⟨n, rfl⟩ : ∃ k, n = k + 1 := ⟨n - 1, by omega⟩
  refine x_call (d := d__law_leaf) rfl rfl ?_
  show wp (evSs _ b__law_leaf [some (.loc x.t), some (.loc x.w), some (.loc F), none]) _ S
  have f0 : WF x [] S S := .refl wi
  -- the call
  have last : ∀ S1, WF x [] S S1 → wpx (evSs ⟨glob, callN defs glob n⟩ b__law_leaf_2 [some (.loc x.t), some (.loc x.w), some (.loc F), some (.loc x.f)]) (fun r S' => wp (retOf r) (fun d S' => ∃ c : Cn, d = c.d ∧ c.ok vis ∧ c.sz = 1 ∧ WF x [] S S') S') E0x S1 := by
    intro S1 f1
    obtain ⟨a0, a1, a2, a3, a4, a5, hf⟩ := f1.wi.f
    have hl := (List.getElem?_eq_some_iff.mp hf).1
    have f2 := f1.free ws hf (b0 := a0) (b1 := a1 - 1) (b2 := a2) (b3 := a3) (b4 := a4) (b5 := a5) (.inl rfl)
    have e2 := f2.wi
    simp only [b__law_leaf_2]
    walk_at "mn"
    simp only [hf]
    walk_at "mn"
    simp only [hf]
    walk_at "mn"
    simp only [e2.w]
    walk_at "mn"
    simp only [e2.w]
    walk_at "mn"
    simp only [e2.c]
    walk_at "mn"
    refine wpx_of_wp (r_draw (by omega) e2.tp (by have := ws.c2; omega)) ?_
    rintro _ S3 ⟨v, rfl, v0, v1, f3⟩
    walk_at "mn"
    have e3 := e2.fr ws f3
    simp only [e3.c]
    walk_at "mn"
    refine w_pick v0 (by have := ws.c1; omega) ws.cn ?_
    rintro _ ⟨s, rfl, hs⟩
    walk_at "mn"
    exact ⟨.call s, rfl, hs, rfl, f2.fr ws f3⟩
  -- a flag
  have flag : vis ≠ [] → ∀ S1, WF x [] S S1 → wpx (evSs ⟨glob, callN defs glob n⟩ b__law_leaf_1 [some (.loc x.t), some (.loc x.w), some (.loc F), some (.loc x.f)]) (thenS ⟨glob, callN defs glob n⟩ b__law_leaf_2 (fun r S' => wp (retOf r) (fun d S' => ∃ c : Cn, d = c.d ∧ c.ok vis ∧ c.sz = 1 ∧ WF x [] S S') S') E0x) E0x S1 := by
    intro hv S1 f1
    have v1' := v.keep (by simp) f1
    simp only [b__law_leaf_1]
    walk_at "mn"
    simp only [v1'.at']
    walk_at "mn"
    have hlen := List.length_pos_iff.mpr hv
    refine wpx_of_wp (r_draw (by omega) f1.wi.tp (by have := v.len; simp; omega)) ?_
    rintro _ S3 ⟨v3, rfl, v0, v1, f3⟩
    walk_at "mn"
    have f2 := f1.fr ws f3
    simp only [(v.keep (by simp) f2).at']
    walk_at "mn"
    refine pick_str v0 (by simp at v1; omega) ?_
    intro s hs
    walk_at "mn"
    exact ⟨.flag s, rfl, ⟨v.nm s hs, hs⟩, rfl, f2⟩
  simp only [b__law_leaf]
  walk_at "mn"
  simp only [wi.w]
  walk_at "mn"
  simp only [v.at']
  walk_at "mn"
  obtain ⟨a0, a1, a2, a3, a4, a5, hf⟩ := wi.f
  cases vis with
  | nil =>
    simp only [List.map_nil, List.isEmpty_nil, Bool.not_true]
    walk_at "mn"
    exact last S f0
  | cons s0 vis =>
    simp only [List.map_cons, List.isEmpty_cons, Bool.not_false]
    walk_at "mn"
    simp only [hf]
    walk_at "mn"
    cases hz : a1 == 0 with
    | true =>
      walk_at "mn"
      exact flag (by simp) S f0
    | false =>
      walk_at "mn"
      refine wpx_of_wp (r_draw (by omega) wi.tp (by decide)) ?_
      rintro _ S3 ⟨v3, rfl, v0, v1, f3⟩
      have f1 := f0.fr ws f3
      walk_at "mn"
      cases hz : v3 == 0 with
      | true => walk_at "mn"; exact flag (by simp) S3 f1
      | false => walk_at "mn"; exact last S3 f1
open Pg
theorem globs_plain : ∀ x d, glob x = some d → plain d = true := by
  intro x d h
  have : globs.all (fun p => plain p.2) = true := by decide +kernel
  have hm : ∃ y, (y, d) ∈ globs := by
    unfold glob at h
    generalize globs = l at h
    induction l with
    | nil => cases h
    | cons p l ih =>
      rw [List.lookup_cons] at h
      split at h
      · cases h; exact ⟨p.1, List.mem_cons_self ..⟩
      · obtain ⟨y, hy⟩ := ih h; exact ⟨y, List.mem_cons_of_mem _ hy⟩
  obtain ⟨y, hy⟩ := hm
  exact List.all_eq_true.mp this _ hy
theorem by_val {n : Nat} {f : Str} {ds : List D} {v : D} {S : Store} (h : callV defs glob n f ds = .ok v) (hd : plains ds = true) (hv : plain v = true) : wp (callN defs glob n f ds) (fun d S' => d = v ∧ Kp S S') S := of_callV globs_plain h hd hv
def hdw : Cn → Str
  | .call _ => sCall
  | .flag _ => sFlag
  | .no _ => sNot
  | .op o _ => wd o
def sndw : Cn → D
  | .call s => .str s
  | .flag s => .str s
  | .no c => c.d
  | .op _ ps => .tup (Cn.ds ps)
theorem cd_eq (c : Cn) : c.d = .tup [.str (hdw c), sndw c] := by cases c <;> rfl
theorem hdw_eq (c : Cn) (o : Bool) : (hdw c == wd o) = isOp o c := by cases c <;> cases o <;> first | (simp only [hdw, wd, isOp]; decide +kernel) | (rename_i o' _; cases o' <;> (simp only [hdw, wd, isOp]; decide +kernel))
theorem op_of {o : Bool} {c : Cn} (h : isOp o c = true) : c = .op o (parts o c) ∧ sndw c = .tup ((parts o c).map Cn.d) := by
  cases c with
  | op o' ps =>
    have e : o' = o := by simpa [isOp] using h
    subst e
    rw [parts, if_pos rfl]
    exact ⟨rfl, by rw [sndw, cds_map]⟩
  | _ => cases h
theorem parts_no {o : Bool} {c : Cn} (h : isOp o c = false) : parts o c = [c] := by
  cases c with
  | op o' ps =>
    have e : ¬ o' = o := by simpa [isOp] using h
    rw [parts, if_neg e]
  | _ => rfl
theorem v_joined {n : Nat} {o : Bool} {a b : Cn} (hn : 1 ≤ n) (ha : a.sz ≤ 100000) (hb : b.sz ≤ 100000) (oa : (parts o a).length ≤ 100000) (ob : (parts o b).length ≤ 100000) : callV defs glob n "_law_joined" [.str (wd o), a.d, b.d] = .ok (joined o a b).d := by
  obtain ⟨n, rfl⟩ : ∃ k, n = k + 1 := ⟨n - 1, by omega⟩
  refine y_call (d := d__law_joined) rfl (by decide +kernel) rfl ?_
  show (vSs _ b__law_joined [some (.str (wd o)), some a.d, some b.d, none, none]).bind retV = _
  -- a turn
  have turn : ∀ (acc : List D) (c : Cn) (z : Option D), acc.length ≤ 100000 → (parts o c).length ≤ 100000 → vSs ⟨glob, callV defs glob n⟩ b__law_joined_1 [some (.str (wd o)), some a.d, some b.d, some (.lst acc), some c.d] = .ok (.nx, [some (.str (wd o)), some a.d, some b.d, some (.lst (acc ++ (parts o c).map Cn.d)), some c.d]) := by
    intro acc c z hl hc
    simp only [b__law_joined_1]
    rw [cd_eq c]
    walk_at "vl"
    rw [hdw_eq]
    cases h : isOp o c with
    | true =>
      obtain ⟨h1, h2⟩ := op_of h
      walk_at "vl"
      rw [h2]
      walk_at "vl"
      rw [y_ok2 (by simp; omega)]
      walk_at "vl"
    | false =>
      rw [parts_no h]
      walk_at "vl"
      rw [y_lt16 (by omega)]
      walk_at "vl"
      rw [← cd_eq c]
      rfl
  simp only [b__law_joined]
  walk_at "vl"
  rw [turn [] a none (by decide) oa]
  walk_at "vl"
  rw [turn _ b none (by simpa using oa) ob]
  walk_at "vl"
  simp only [b__law_joined_2]
  walk_at "vl"
  rw [joined, Cn.d, cds_map, List.nil_append, List.map_append]
theorem v_parts : ∀ (m : Nat) (c : Cn) (n : Nat), c.dp ≤ m → m ≤ n → c.sz ≤ 1000000 → callV defs glob n "_law_parts" [c.d] = .ok (.int (c.pz : Nat)) := by
  intro m
  induction m with
  | zero => intro c n h; cases c <;> simp [Cn.dp] at h
  | succ m ih =>
    intro c n hm hn hs
    obtain ⟨n, rfl⟩ : ∃ k, n = k + 1 := ⟨n - 1, by omega⟩
    refine y_call (d := d__law_parts) rfl (by decide +kernel) rfl ?_
    show (vSs _ b__law_parts [some c.d, none]).bind retV = _
    simp only [b__law_parts]
    cases c with
    | call s =>
      simp only [Cn.d]
      walk_at "vl"
      simp only [b__law_parts_5]
      walk_at "vl"
      simp only [b__law_parts_3]
      walk_at "vl"
      rfl
    | flag s =>
      simp only [Cn.d]
      walk_at "vl"
      simp only [b__law_parts_5]
      walk_at "vl"
      simp only [b__law_parts_3]
      walk_at "vl"
      rfl
    | no c =>
      rw [Cn.dp] at hm
      rw [Cn.sz] at hs
      simp only [Cn.d]
      walk_at "vl"
      simp only [b__law_parts_4]
      walk_at "vl"
      rw [ih c n (by omega) (by omega) (by omega)]
      walk_at "vl"
      rw [Cn.pz]
      simp
    | op o ps =>
      rw [Cn.dp] at hm
      rw [Cn.sz] at hs
      have lz := cszs_len ps
      simp only [Cn.d, cds_map]
      have e1 : (wd o == Str.ofString "not") = false := by cases o <;> decide +kernel
      have e2 : (wd o == Str.ofString "and") = !o := by cases o <;> decide +kernel
      have e3 : (wd o == Str.ofString "or") = o := by cases o <;> decide +kernel
      walk_at "vl"
      rw [e1]
      walk_at "vl"
      simp only [b__law_parts_5]
      walk_at "vl"
      rw [e2]
      have fin : vSs ⟨glob, callV defs glob n⟩ b__law_parts_2 [some (D.tup [D.str (wd o), D.tup (ps.map Cn.d)]), none] = .ok (.rt (.int ((Cn.op o ps).pz : Nat)), [some (D.tup [D.str (wd o), D.tup (ps.map Cn.d)]), none]) := by
        simp only [b__law_parts_2]
        walk_at "vl"
        rw [y_len (by simp; omega)]
        walk_at "vl"
        rw [compV_enc (F := fun p : Cn => .int (p.pz : Nat)) ps [] (fun a _ => rfl) ?_ (by simp; omega)]
        rotate_left
        · intro a ha
          have := csz_mem ha
          simp only [e__law_parts_1]
          walk_at "vl"
          exact ih a n (by omega) (by omega) (by omega)
        walk_at "vl"
        rw [List.nil_append, ints_enc]
        walk_at "vl"
        rw [Cn.pz]
        congr 4
        have : ∀ l : List Cn, (l.map fun p => (p.pz : Int)).sum = (Cn.pzs l : Nat) := by
          intro l
          induction l with
          | nil => rfl
          | cons p l ih => rw [List.map_cons, List.sum_cons, ih, Cn.pzs]; simp
        rw [this]
        simp
      cases o with
      | false =>
        walk_at "vl"
        rw [fin]
        walk_at "vl"
      | true =>
        walk_at "vl"
        rw [e3]
        walk_at "vl"
        rw [fin]
        walk_at "vl"
mutual
theorem cn_plain : ∀ c : Cn, Mn.plain c.d = true
  | .call s => rfl
  | .flag s => rfl
  | .no c => by rw [Cn.d]; simp [Mn.plain, Mn.plains, cn_plain c]
  | .op o ps => by rw [Cn.d]; simp [Mn.plain, Mn.plains, cns_plain ps]
theorem cns_plain : ∀ ps : List Cn, Mn.plains (Cn.ds ps) = true
  | [] => rfl
  | p :: ps => by rw [Cn.ds]; simp [Mn.plains, cn_plain p, cns_plain ps]
end
open Pg
abbrev CnP (x : WX) (vis : List Str) (S : Store) : D → Store → Prop := fun d S' => ∃ c : Cn, d = c.d ∧ c.ok vis ∧ c.sz ≤ 18 ∧ WF x [] S S'
abbrev cenv (x : WX) (F : Nat) (a b c d e f : Option D) : Nv := [some (.loc x.t), some (.loc x.w), some (.loc F), a, b, c, d, e, f]
theorem len_at {S : Store} {L : Nat} {c : Cell} (h : S[L]? = some c) : L < S.length := (List.getElem?_eq_some_iff.mp h).1
section
variable {n : Nat} {x : WX} {S S1 : Store} {F L : Nat} {vis : List Str}
set_option maxHeartbeats 4000000 in
theorem cond_end {ps : List Cn} {a c d e f : Option D} (hn : 20 ≤ n) (ws : WSt x) (f1 : WF x [] S S1) (hL : S1[L]? = some (.lst (ps.map Cn.d))) (hLf : L ≠ x.f) (h1 : 1 ≤ ps.length) (ho : ∀ p ∈ ps, p.ok vis) (hs : Cn.szs ps ≤ 18) : wpx (evSs ⟨glob, callN defs glob n⟩ b__law_condition_4 (cenv x F a (some (.loc L)) c d e f)) (RP (CnP x vis S)) E0x S1 := by
  match ps, h1 with
  | p :: ps, _ =>
    rw [Cn.szs] at hs
    obtain ⟨a0, a1, a2, a3, a4, a5, hf⟩ := f1.wi.f
    simp only [b__law_condition_4]
    walk_at "mn"
    simp only [f1.wi.w]
    walk_at "mn"
    simp only [hf]
    walk_at "mn"
    simp only [hL, List.map_cons]
    walk_at "mn"
    have hp := cdp_sz p
    refine wpx_of_wp (by_val (v_parts 18 p n (by omega) (by omega) (by omega)) (by simp [Mn.plains]; exact cn_plain p) rfl) ?_
    rintro _ S2 ⟨rfl, k2⟩
    have f2 := f1.kp k2
    have hf2 := k2.keep _ _ hf
    have hL2 := k2.keep _ _ hL
    walk_at "mn"
    simp only [f2.wi.w]
    walk_at "mn"
    simp only [hf2]
    walk_at "mn"
    have f3 := f2.free ws hf2 (b0 := a0) (b1 := a1) (b2 := a2) (b3 := a3) (b4 := a4) (b5 := a5 - (p.pz : Nat)) (.inl rfl)
    have hL3 : (S2.set x.f (.lst [.int a0, .int a1, .int a2, .int a3, .int a4, .int (a5 - (p.pz : Nat))]))[L]? = some (.lst (p.d :: ps.map Cn.d)) := by
      rw [List.getElem?_set_ne (fun z => hLf z.symm)]; exact hL2
    simp only [hL3]
    walk_at "mn"
    exact ⟨p, rfl, ho p (List.mem_cons_self ..), by omega, f3⟩
end
open Pg
/-- parts that stand in a list -/
structure PL (x : WX) (vis : List Str) (S0 S : Store) (L : Nat) (ps : List Cn) (k : Nat) : Prop where
  f : WF x [] S0 S
  at' : S[L]? = some (.lst (ps.map Cn.d))
  ge : S0.length ≤ L
  ok : ∀ p ∈ ps, p.ok vis
  sz : Cn.szs ps ≤ k
theorem PL.lf {x : WX} {vis : List Str} {S0 S : Store} {L k : Nat} {ps : List Cn} (wi : WI x S0) (p : PL x vis S0 S L ps k) : L ≠ x.f ∧ L ≠ x.t := by
  obtain ⟨a0, a1, a2, a3, a4, a5, hf⟩ := wi.f
  have := len_at hf
  have := tp_lt wi.tp
  have := p.ge
  exact ⟨by omega, by omega⟩
theorem PL.fr {x : WX} {vis : List Str} {S0 S S' : Store} {L k : Nat} {ps : List Cn} (ws : WSt x) (wi : WI x S0) (p : PL x vis S0 S L ps k) (f : Fr x.t S S') : PL x vis S0 S' L ps k :=
  ⟨p.f.fr ws f, f.keep _ _ (p.lf wi).2 p.at', p.ge, p.ok, p.sz⟩
theorem PL.kp {x : WX} {vis : List Str} {S0 S S' : Store} {L k : Nat} {ps : List Cn} (p : PL x vis S0 S L ps k) (f : Kp S S') : PL x vis S0 S' L ps k :=
  ⟨p.f.kp f, f.keep _ _ p.at', p.ge, p.ok, p.sz⟩
theorem PL.wf {x : WX} {vis : List Str} {S0 S S' : Store} {L k : Nat} {ps : List Cn} (wi : WI x S0) (p : PL x vis S0 S L ps k) (f : WF x [] S S') : PL x vis S0 S' L ps k :=
  ⟨p.f.trans f, f.keep _ _ (p.lf wi).2 (p.lf wi).1 (by simp) p.at', p.ge, p.ok, p.sz⟩
theorem szs_take_drop (ps : List Cn) (i : Nat) : Cn.szs (ps.take i) + Cn.szs (ps.drop i) = Cn.szs ps := by rw [← cszs_app, List.take_append_drop]
theorem szs_two {ps : List Cn} {i : Nat} (h : i + 1 < ps.length) : Cn.szs (ps.take i) + (ps[i].sz + (ps[i + 1].sz + Cn.szs (ps.drop (i + 2)))) = Cn.szs ps := by
  have a := szs_take_drop ps i
  rw [List.drop_eq_getElem_cons (show i < ps.length by omega), List.drop_eq_getElem_cons h, Cn.szs, Cn.szs] at a
  exact a
theorem cut_to {xs : List D} {i : Int} (h0 : 0 ≤ i) : cutD xs none (some i) = xs.take i.toNat := by
  obtain ⟨k, rfl⟩ := Int.eq_ofNat_of_zero_le h0
  have : HT.sIx xs.length xs.length (some (k : Int)) = min k xs.length := HT.sIx_nat _ _ _
  unfold cutD
  rw [this, HT.sIx_none, List.drop_zero, Nat.sub_zero]
  simp
theorem cut_at {xs : List D} {i : Int} (h0 : 0 ≤ i) : cutD xs (some i) none = xs.drop i.toNat := by
  obtain ⟨k, rfl⟩ := Int.eq_ofNat_of_zero_le h0
  have : HT.sIx xs.length 0 (some (k : Int)) = min k xs.length := HT.sIx_nat _ _ _
  unfold cutD
  rw [this, HT.sIx_none]
  by_cases h : k ≤ xs.length
  · rw [Nat.min_eq_left h, List.take_of_length_le (by simp)]; simp
  · rw [Nat.min_eq_right (by omega), List.drop_length, List.drop_eq_nil_of_le (by simp; omega)]; simp
section
variable {n : Nat} {x : WX} {S S1 : Store} {F L k : Nat} {vis : List Str}
set_option maxHeartbeats 8000000 in
/-- one joining -/
theorem cond_turn {ps : List Cn} {a c d e f : Option D} {R : Option D → Option D → Nat → Store → Prop} (hn : 20 ≤ n) (ws : WSt x) (wi : WI x S) (p : PL x vis S S1 L ps k) (hk : k ≤ 100) (h1 : 1 ≤ ps.length)
    (q : ∀ S2 L2 ps2 d2 f2, PL x vis S S2 L2 ps2 (k + 2) → 1 ≤ ps2.length → R d2 f2 L2 S2) :
    wpx (evSs ⟨glob, callN defs glob n⟩ b__law_condition_3 (cenv x F a (some (.loc L)) c d e f)) (fun r S2 => ∃ d2 f2 L2, r = (.nx, cenv x F a (some (.loc L2)) c d2 e f2) ∧ R d2 f2 L2 S2) E0x S1 := by
  have lz := cszs_len ps
  have := p.sz
  simp only [b__law_condition_3, cenv]
  walk_at "mn"
  simp only [p.at']
  walk_at "mn"
  by_cases h2 : 1 < ((ps.map Cn.d).length : Int)
  · have h2' : 1 < ps.length := by rw [List.length_map] at h2; omega
    simp only [h2, decide_true]
    walk_at "mn"
    simp only [b__law_condition_2]
    walk_at "mn"
    simp only [p.at']
    walk_at "mn"
    refine wpx_of_wp (r_draw (by omega) p.f.wi.tp (by simp; omega)) ?_
    rintro _ S2 ⟨v, rfl, v0, v1, f2⟩
    have p2 := p.fr ws wi f2
    walk_at "mn"
    have p3 := p2.kp ((Kp.refl S2).push (.lst [D.str (Str.ofString "and"), D.str (Str.ofString "or")]))
    refine wpx_of_wp (r_draw (by omega) p3.f.wi.tp (by decide)) ?_
    rintro _ S4 ⟨v4, rfl, v40, v41, f4⟩
    have p4 := p3.fr ws wi f4
    have l2 := p2.f.len
    have t0 := tp_lt wi.tp
    have e4 := f4.keep _ _ (by omega) ap_self
    walk_at "mn"
    simp only [e4]
    walk_at "mn"
    refine w_pick (P := fun d => ∃ o : Bool, d = D.str (wd o)) v40 v41 ?_ ?_
    · intro d hd
      simp only [List.mem_cons, List.mem_nil_iff, or_false] at hd
      rcases hd with rfl | rfl
      · exact ⟨false, rfl⟩
      · exact ⟨true, rfl⟩
    rintro _ ⟨o, rfl⟩
    walk_at "mn"
    simp only [p4.at']
    walk_at "mn"
    have hv : v.toNat + 1 < ps.length := by simp at v1; omega
    have a1 : atI (ps.map Cn.d) v = some (ps[v.toNat]'(by omega)).d := atI_lt v0 (by rw [List.getElem?_map, List.getElem?_eq_getElem (show v.toNat < ps.length by omega)]; rfl)
    have a2 : atI (ps.map Cn.d) (v + 1) = some (ps[v.toNat + 1]'hv).d := atI_lt (by omega) (by rw [show (v + 1).toNat = v.toNat + 1 by omega, List.getElem?_map, List.getElem?_eq_getElem hv]; rfl)
    simp only [a1]
    walk_at "mn"
    simp only [p4.at']
    walk_at "mn"
    simp only [a2]
    walk_at "mn"
    have m1 := List.getElem_mem (show v.toNat < ps.length by omega)
    have m2 := List.getElem_mem hv
    have o1 := p.ok _ m1
    have o2 := p.ok _ m2
    have s1 := (csz_mem m1).1
    have s2 := (csz_mem m2).1
    have q1 := parts_ok (o := o) o1
    have q2 := parts_ok (o := o) o2
    have j := joined_ok (o := o) o1 o2
    have c1 := cszs_len (parts o ps[v.toNat])
    have c2 := cszs_len (parts o ps[v.toNat + 1])
    refine wpx_of_wp (by_val (v_joined (o := o) (by omega) (by omega) (by omega) (by omega) (by omega)) (by simp [Mn.plains, Mn.plain, cn_plain]) (cn_plain _)) ?_
    rintro _ S5 ⟨rfl, k5⟩
    have p5 := p4.kp k5
    walk_at "mn"
    refine wpx_of_wp (r_draw (by omega) p5.f.wi.tp (by decide)) ?_
    rintro _ S6 ⟨v6, rfl, v60, v61, f6⟩
    have p6 := p5.fr ws wi f6
    walk_at "mn"
    have tot := szs_two hv
    -- the list is put together
    have last : ∀ (m : Cn), m.ok vis → m.sz ≤ ps[v.toNat].sz + ps[v.toNat + 1].sz + 2 → wpx (evSs ⟨glob, callN defs glob n⟩ b__law_condition_1 (cenv x F a (some (.loc L)) c (some m.d) e (some (.int v)))) (thenS ⟨glob, callN defs glob n⟩ .nil (fun r S2 => ∃ d2 f2 L2, r = (.nx, cenv x F a (some (.loc L2)) c d2 e f2) ∧ R d2 f2 L2 S2) E0x) E0x S6 := by
      intro m mo ms
      have lt6 := len_at p6.at'
      simp only [b__law_condition_1, cenv]
      walk_at "mn"
      try simp only [sl_L]
      walk_at "mn"
      simp only [p6.at']
      walk_at "mn"
      rw [cut_to v0]
      try simp only [b_addL]
      walk_at "mn"
      have hA : (S6 ++ [Cell.lst ((ps.map Cn.d).take v.toNat)] ++ [Cell.lst [m.d]])[S6.length]? = some (.lst ((ps.map Cn.d).take v.toNat)) := ap_old ap_self
      have hB : (S6 ++ [Cell.lst ((ps.map Cn.d).take v.toNat)] ++ [Cell.lst [m.d]])[(S6 ++ [Cell.lst ((ps.map Cn.d).take v.toNat)]).length]? = some (.lst [m.d]) := ap_self
      simp only [List.length_append, List.length_cons, List.length_nil] at hB
      try simp only [hA, List.length_append]
      walk_at "mn"
      simp only [hB]
      walk_at "mn"
      have zz : sizeLine = 16777216 := rfl
      refine ⟨by unfold ok2; rw [decide_eq_true_iff]; simp; omega, ?_⟩
      have p7 := ((p6.kp ((Kp.refl _).push (.lst ((ps.map Cn.d).take v.toNat)))).kp ((Kp.refl _).push (.lst [m.d]))).kp ((Kp.refl _).push (.lst ((ps.map Cn.d).take v.toNat ++ [m.d])))
      walk_at "mn"
      simp only [p7.at']
      walk_at "mn"
      rw [cut_at (show 0 ≤ v + 2 by omega)]
      generalize hS7 : S6 ++ [Cell.lst ((ps.map Cn.d).take v.toNat)] ++ [Cell.lst [m.d]] ++ [Cell.lst ((ps.map Cn.d).take v.toNat ++ [m.d])] = S7 at p7 ⊢
      have hC : (S7 ++ [Cell.lst ((ps.map Cn.d).drop (v + 2).toNat)])[S6.length + (0 + 1) + (0 + 1)]? = some (.lst ((ps.map Cn.d).take v.toNat ++ [m.d])) := by
        apply ap_old
        rw [← hS7]
        have : (S6 ++ [Cell.lst ((ps.map Cn.d).take v.toNat)] ++ [Cell.lst [m.d]] ++ [Cell.lst ((ps.map Cn.d).take v.toNat ++ [m.d])])[(S6 ++ [Cell.lst ((ps.map Cn.d).take v.toNat)] ++ [Cell.lst [m.d]]).length]? = some (.lst ((ps.map Cn.d).take v.toNat ++ [m.d])) := ap_self
        simpa only [List.length_append, List.length_cons, List.length_nil] using this
      have l7 : S7.length = S6.length + (0 + 1) + (0 + 1) + (0 + 1) := by rw [← hS7]; simp only [List.length_append, List.length_cons, List.length_nil]
      have hD : (S7 ++ [Cell.lst ((ps.map Cn.d).drop (v + 2).toNat)])[S6.length + (0 + 1) + (0 + 1) + (0 + 1)]? = some (.lst ((ps.map Cn.d).drop (v + 2).toNat)) := by rw [← l7]; exact ap_self
      walk_at "mn"
      simp only [hC]
      walk_at "mn"
      simp only [hD]
      walk_at "mn"
      refine ⟨by unfold ok2; rw [decide_eq_true_iff]; simp; omega, ?_⟩
      have p8 := p7.kp ((Kp.refl _).push (.lst ((ps.map Cn.d).drop (v + 2).toNat)))
      generalize hS8 : S7 ++ [Cell.lst ((ps.map Cn.d).drop (v + 2).toNat)] = S8 at p8 ⊢
      have l8 : S8.length = S6.length + (0 + 1) + (0 + 1) + (0 + 1) + (0 + 1) := by rw [← hS8, List.length_append, l7]; rfl
      have ls := p6.f.len
      refine ⟨_, _, _, rfl, q _ _ (ps.take v.toNat ++ [m] ++ ps.drop (v.toNat + 2)) _ _ ⟨p8.f.push _, ?_, by omega, ?_, ?_⟩ (by simp; omega)⟩
      · rw [show S6.length + (0 + 1) + (0 + 1) + (0 + 1) + (0 + 1) = S8.length from l8.symm]
        rw [show (v + 2).toNat = v.toNat + 2 by omega]
        simp only [List.map_append, List.map_take, List.map_drop, List.map_cons, List.map_nil]
        exact ap_self
      · intro y hy
        rcases List.mem_append.mp hy with hy | hy
        · rcases List.mem_append.mp hy with hy | hy
          · exact p.ok y (List.mem_of_mem_take hy)
          · rw [List.mem_singleton.mp hy]; exact mo
        · exact p.ok y (List.mem_of_mem_drop hy)
      · rw [cszs_app, cszs_app]
        simp only [Cn.szs]
        omega
    cases hz : v6 == 0 with
    | true =>
      walk_at "mn"
      exact last (.no (joined o ps[v.toNat] ps[v.toNat + 1])) j.1 (by rw [Cn.sz]; omega)
    | false =>
      walk_at "mn"
      exact last (joined o ps[v.toNat] ps[v.toNat + 1]) j.1 (by omega)
  · simp only [h2, decide_false]
    walk_at "mn"
    exact ⟨_, _, _, rfl, q _ _ _ _ _ ⟨p.f, p.at', p.ge, p.ok, by omega⟩ h1⟩
end
open Pg
section
variable {n : Nat} {x : WX} {S S1 : Store} {F L k : Nat} {vis : List Str}
set_option maxHeartbeats 4000000 in
theorem cond_8 {ps : List Cn} {a c d e f : Option D} (hn : 20 ≤ n) (ws : WSt x) (wi : WI x S) (p : PL x vis S S1 L ps 12) (h1 : 1 ≤ ps.length) : wpx (evSs ⟨glob, callN defs glob n⟩ b__law_condition_8 (cenv x F a (some (.loc L)) c d e f)) (RP (CnP x vis S)) E0x S1 := by
  simp only [b__law_condition_8, cenv]
  walk_at "mn"
  simp only [k_r1n (show (0 : Int) ≤ 3 by decide) (show (3 : Int) < 1000000000 by decide)]
  walk_at "mn"
  refine for_rng (fun q env S' => ∃ (L2 : Nat) (ps2 : List Cn) (c d e f : Option D), env = cenv x F a (some (.loc L2)) c d e f ∧ PL x vis S S' L2 ps2 (12 + 2 * q) ∧ 1 ≤ ps2.length) (by decide) (by decide) ⟨L, ps, _, _, _, _, rfl, p, h1⟩ ?_ ?_
  · rintro q env S' hq ⟨L2, ps2, c, d, e, f, rfl, p2, h2⟩
    simp only [cenv]
    walk_at "mn"
    refine wpx_mono (cond_turn (R := fun d2 f2 L2 S2 => ∃ ps2, PL x vis S S2 L2 ps2 (12 + 2 * (q + 1)) ∧ 1 ≤ ps2.length) (c := some (.int (q : Nat))) hn ws wi p2 (by omega) h2 (fun S2 L2 ps2 d2 f2 p3 h3 => ⟨ps2, p3, h3⟩)) ?_ fun _ _ z => z
    rintro r S2 ⟨d2, f2, L3, rfl, ps3, p3, h3⟩
    exact ⟨L3, ps3, _, _, _, _, rfl, p3, h3⟩
  · rintro env S' ⟨L2, ps2, c, d, e, f, rfl, p2, h2⟩
    rw [then_nx]
    exact cond_end hn ws p2.f p2.at' (p2.lf wi).1 h2 p2.ok (by have := p2.sz; omega)
/-- a leaf with its negations is put behind the others -/
theorem cond_7 {ps : List Cn} {a c d e f : Option D} (hn : 20 ≤ n) (ws : WSt x) (wi : WI x S) (v : Vis x S F vis) (p : PL x vis S S1 L ps k) (hk : k ≤ 100) : wpx (evSs ⟨glob, callN defs glob n⟩ b__law_condition_7 (cenv x F a (some (.loc L)) c d e f)) (fun r S2 => ∃ d2 e2 c2, r = (.nx, cenv x F a (some (.loc L)) c d2 e2 f) ∧ PL x vis S S2 L (ps ++ [c2]) (k + 3)) E0x S1 := by
  have lz := cszs_len ps
  have := p.sz
  simp only [b__law_condition_7, cenv]
  walk_at "mn"
  refine wpx_of_wp (r_leaf (by omega) ws p.f.wi (v.keep (by simp) p.f)) ?_
  rintro _ S2 ⟨cn, rfl, co, cs, f2⟩
  have p2 := p.wf wi f2
  walk_at "mn"
  have p3 := p2.kp ((Kp.refl S2).push (.lst [D.int 0, D.int 0, D.int 0, D.int 1, D.int 2]))
  refine wpx_of_wp (r_draw (by omega) p3.f.wi.tp (by decide)) ?_
  rintro _ S4 ⟨v4, rfl, v40, v41, f4⟩
  have p4 := p3.fr ws wi f4
  have t0 := tp_lt wi.tp
  have l2 := p2.f.len
  have e4 := f4.keep _ _ (by omega) ap_self
  walk_at "mn"
  simp only [e4]
  walk_at "mn"
  refine w_pick (P := fun d => ∃ i, d = .int i ∧ 0 ≤ i ∧ i ≤ 2) v40 v41 (all_in (by decide +kernel)) ?_
  rintro _ ⟨g, rfl, g0, g1⟩
  walk_at "mn"
  simp only [k_r1n g0 (show g < 1000000000 by omega)]
  walk_at "mn"
  refine for_rng (fun q env S' => ∃ (c2 : Cn) (e2 : Option D), env = cenv x F a (some (.loc L)) c (some c2.d) e2 f ∧ c2.ok vis ∧ c2.sz = 1 + q ∧ S' = S4) g0 (by omega) ⟨cn, _, rfl, co, cs, rfl⟩ ?_ ?_
  · rintro q env S' hq ⟨c2, e2, rfl, o2, s2, rfl⟩
    simp only [b__law_condition_5, cenv]
    walk_at "mn"
    exact ⟨.no c2, _, rfl, o2, by rw [Cn.sz]; omega, rfl⟩
  · rintro env S' ⟨c2, e2, rfl, o2, s2, rfl⟩
    rw [then_nx]
    have lt := len_at p4.at'
    simp only [b__law_condition_6, cenv]
    walk_at "mn"
    try simp only [p4.at']
    walk_at "mn"
    try simp only [p4.at']
    walk_at "mn"
    refine ⟨by rw [List.length_map, decide_eq_true_iff]; show _ < 16777216; omega, ?_⟩
    refine ⟨_, _, c2, rfl, p4.f.own wi p4.ge _, ?_, p4.ge, ?_, ?_⟩
    · rw [List.getElem?_set_self lt, List.map_append]; rfl
    · intro y hy
      rcases List.mem_append.mp hy with hy | hy
      · exact p4.ok y hy
      · rw [List.mem_singleton.mp hy]; exact o2
    · rw [cszs_app]
      have := p4.sz
      simp only [Cn.szs]
      omega
end
set_option maxHeartbeats 4000000 in
theorem r_condition {n : Nat} {x : WX} {S : Store} {F : Nat} {vis : List Str} (hn : 21 ≤ n) (ws : WSt x) (wi : WI x S) (v : Vis x S F vis) : wp (callN defs glob n "_law_condition" [.loc x.t, .loc x.w, .loc F]) (CnP x vis S) S := by
  obtain ⟨n, rfl⟩ : ∃ k, n = k + 1 := ⟨n - 1, by omega⟩
  refine x_call (d := d__law_condition) rfl rfl ?_
  show wp (evSs _ b__law_condition [some (.loc x.t), some (.loc x.w), some (.loc F), none, none, none, none, none, none]) _ S
  have f0 : WF x [] S S := .refl wi
  have t0 := tp_lt wi.tp
  have c11 : ∀ lim : Int, lim ≤ 4 → wpx (evSs ⟨glob, callN defs glob n⟩ b__law_condition_11 (cenv x F (some (.int lim)) none none none none none)) (RP (CnP x vis S)) E0x S := by
    intro lim hlim
    obtain ⟨a0, a1, a2, a3, a4, a5, hf⟩ := wi.f
    simp only [b__law_condition_11, cenv]
    walk_at "mn"
    try simp only [wi.w]
    walk_at "mn"
    try simp only [hf]
    walk_at "mn"
    by_cases h5 : a5 < 18
    · simp only [h5, decide_true]
      walk_at "mn"
      simp only [b__law_condition_9]
      walk_at "mn"
      try simp only [wi.w]
      walk_at "mn"
      try simp only [hf]
      walk_at "mn"
      try simp only [wi.w]
      walk_at "mn"
      try simp only [hf]
      walk_at "mn"
      have f1 := f0.free ws hf (b0 := a0) (b1 := a1) (b2 := a2) (b3 := a3) (b4 := a4) (b5 := a5 - 1) (.inl rfl)
      refine wpx_of_wp (r_leaf (by omega) ws f1.wi (v.keep (by simp) f1)) ?_
      rintro _ S2 ⟨cn, rfl, co, cs, f2⟩
      walk_at "mn"
      exact ⟨cn, rfl, co, by omega, f1.trans f2⟩
    · simp only [h5, decide_false]
      walk_at "mn"
      simp only [b__law_condition_10]
      walk_at "mn"
      have p0 : PL x vis S (S ++ [.lst []]) S.length [] 0 := ⟨f0.push _, ap_self, Nat.le_refl _, fun _ h => (nomatch h), Nat.le_refl _⟩
      have p1 := p0.kp ((Kp.refl _).push (.lst [D.int 1, D.int 1, D.int lim]))
      refine wpx_of_wp (r_draw (by omega) p1.f.wi.tp (by decide)) ?_
      rintro _ S2 ⟨v2, rfl, v20, v21, f2⟩
      have p2 := p1.fr ws wi f2
      have e2 := f2.keep _ _ (by simp; omega) ap_self
      walk_at "mn"
      simp only [e2]
      walk_at "mn"
      refine w_pick (P := fun d => ∃ i, d = .int i ∧ i ≤ 4) v20 v21 ?_ ?_
      · intro d hd
        simp only [List.mem_cons, List.mem_nil_iff, or_false] at hd
        rcases hd with rfl | rfl | rfl
        · exact ⟨1, rfl, by decide⟩
        · exact ⟨1, rfl, by decide⟩
        · exact ⟨lim, rfl, hlim⟩
      rintro _ ⟨g, rfl, hg⟩
      walk_at "mn"
      refine wpx_of_wp (r_draw (by omega) p2.f.wi.tp (by omega)) ?_
      rintro _ S3 ⟨v3, rfl, v30, v31, f3⟩
      have p3 := p2.fr ws wi f3
      walk_at "mn"
      simp only [k_r1n (show 0 ≤ 1 + v3 by omega) (show 1 + v3 < 1000000000 by omega)]
      walk_at "mn"
      refine for_rng (fun q env S' => ∃ (ps2 : List Cn) (c d e f : Option D), env = cenv x F (some (.int lim)) (some (.loc S.length)) c d e f ∧ PL x vis S S' S.length ps2 (3 * q) ∧ ps2.length = q) (by omega) (by omega) ⟨[], _, _, _, _, rfl, p3, rfl⟩ ?_ ?_
      · rintro q env S' hq ⟨ps2, c, d, e, f, rfl, p4, h4⟩
        simp only [cenv]
        walk_at "mn"
        refine wpx_mono (cond_7 (c := some (.int (q : Nat))) (by omega) ws wi v p4 (by omega)) ?_ fun _ _ z => z
        rintro r S2 ⟨d2, e2, c2, rfl, p5⟩
        exact ⟨_, _, _, _, _, rfl, p5, by simp; omega⟩
      · rintro env S' ⟨ps2, c, d, e, f, rfl, p4, h4⟩
        rw [then_nx]
        exact cond_8 (by omega) ws wi ⟨p4.f, p4.at', p4.ge, p4.ok, by have := p4.sz; omega⟩ (by omega)
  simp only [b__law_condition]
  walk_at "mn"
  simp only [v.at']
  walk_at "mn"
  cases vis with
  | nil =>
    simp only [List.map_nil, List.isEmpty_nil, Bool.not_true, Bool.not_false]
    walk_at "mn"
    try simp only [wi.w]
    walk_at "mn"
    obtain ⟨a0, a1, a2, a3, a4, a5, hf⟩ := wi.f
    try simp only [hf]
    walk_at "mn"
    exact c11 _ (by split <;> omega)
  | cons s0 vis =>
    simp only [List.map_cons, List.isEmpty_cons, Bool.not_false, Bool.not_true]
    walk_at "mn"
    exact c11 _ (by decide)
open Pg
/-- all but the tape and the room stands -/
structure Wf (t rm : Nat) (S S' : Store) (r : Int) : Prop where
  len : S.length ≤ S'.length
  keep : ∀ (i : Nat) c, i ≠ t → i ≠ rm → S[i]? = some c → S'[i]? = some c
  tp : Tp S' t
  ro : S'[rm]? = some (.lst [.int r])
  tr : t < rm
/-- the names -/
structure Nn (S : Store) (t rm N : Nat) (vis : List Str) : Prop where
  at' : S[N]? = some (.lst (vis.map .str))
  tn : t < N
  nr : N ≠ rm
  nm : ∀ s ∈ vis, Ws 70 s
  l1 : 1 ≤ vis.length
  l2 : vis.length ≤ 1000
section
variable {t rm N : Nat} {A B C S S' : Store} {vis : List Str} {r r' : Int}
theorem Wf.refl (h : Tp S t) (hr : S[rm]? = some (.lst [.int r])) (tr : t < rm) : Wf t rm S S r := ⟨Nat.le_refl _, fun _ _ _ _ q => q, h, hr, tr⟩
theorem Wf.trans (a : Wf t rm A B r) (b : Wf t rm B C r') : Wf t rm A C r' := ⟨Nat.le_trans a.len b.len, fun i c h1 h2 q => b.keep i c h1 h2 (a.keep i c h1 h2 q), b.tp, b.ro, a.tr⟩
theorem Wf.fr (a : Wf t rm A B r) (b : Fr t B C) : Wf t rm A C r :=
  ⟨Nat.le_trans a.len b.len, fun i c h1 h2 q => b.keep i c h1 (a.keep i c h1 h2 q), b.tp, b.keep _ _ (by have := a.tr; omega) a.ro, a.tr⟩
theorem Tp.kp' (h : Tp S t) (k : Kp S S') : Tp S' t := by
  obtain ⟨l, xs, p, b, c, ht, hl, r⟩ := h
  exact ⟨l, xs, p, b, c, k.keep _ _ ht, k.keep _ _ hl, r⟩
theorem Wf.kp (a : Wf t rm A B r) (b : Kp B C) : Wf t rm A C r :=
  ⟨Nat.le_trans a.len b.len, fun i c h1 h2 q => b.keep i c (a.keep i c h1 h2 q), a.tp.kp' b, b.keep _ _ a.ro, a.tr⟩
theorem Wf.push (a : Wf t rm A B r) (c : Cell) : Wf t rm A (B ++ [c]) r := a.kp ((Kp.refl B).push c)
/-- the room is written -/
theorem Wf.room (a : Wf t rm A B r) (r' : Int) : Wf t rm A (B.set rm (.lst [.int r'])) r' := by
  have hr := a.ro
  exact ⟨by have := a.len; simp; omega, fun i c h1 h2 q => by rw [List.getElem?_set_ne (fun z => h2 z.symm)]; exact a.keep i c h1 h2 q, a.tp.set a.tr _, List.getElem?_set_self (len_at hr), a.tr⟩
/-- a list of one's own is written -/
theorem Wf.own {L : Nat} (a : Wf t rm A B r) (ht : t < A.length) (hr : rm < A.length) (hL : A.length ≤ L) (c : Cell) : Wf t rm A (B.set L c) r := by
  have h := a.ro
  exact ⟨by have := a.len; simp; omega, fun i d h1 h2 q => by
    have := (List.getElem?_eq_some_iff.mp q).1
    rw [List.getElem?_set_ne (by omega)]; exact a.keep i d h1 h2 q, a.tp.set (by omega) _, by rw [List.getElem?_set_ne (by omega)]; exact h, a.tr⟩
theorem Nn.go (v : Nn S t rm N vis) (f : Wf t rm S S' r) : Nn S' t rm N vis := { v with at' := f.keep _ _ (by have := v.tn; omega) v.nr v.at' }
theorem Nn.nml (v : Nn S t rm N vis) : NmL (vis.map .str) := fun x hx => by
  obtain ⟨s, hs, rfl⟩ := List.mem_map.mp hx
  exact ⟨s, rfl, v.nm s hs⟩
/-- a condition drawn over the names -/
theorem r_wcond {n : Nat} (hn : 21 ≤ n) (v : Nn S t rm N vis) (f : Wf t rm A S r) :
    wp (callN defs glob n "_law_condition" [.loc t, .loc (S ++ [Cell.lst [D.int 0, .int 99, .int 0, .int 0, .int 0, .int 99]]).length, .loc N]) (fun d S' => ∃ c : Cn, d = c.d ∧ c.ok vis ∧ c.sz ≤ 18 ∧ Wf t rm A S' r) (S ++ [Cell.lst [D.int 0, .int 99, .int 0, .int 0, .int 0, .int 99]] ++ [Cell.lst [.loc S.length, .loc N, .loc N, .loc N]]) := by
  have tl := tp_lt f.tp
  have Nl := len_at v.at'
  have g := (f.push (Cell.lst [D.int 0, .int 99, .int 0, .int 0, .int 0, .int 99])).push (Cell.lst [.loc S.length, .loc N, .loc N, .loc N])
  have hf := ap_old (c := Cell.lst [.loc S.length, .loc N, .loc N, .loc N]) (ap_self (S := S) (c := Cell.lst [D.int 0, .int 99, .int 0, .int 0, .int 0, .int 99]))
  have hw := ap_self (S := S ++ [Cell.lst [D.int 0, .int 99, .int 0, .int 0, .int 0, .int 99]]) (c := Cell.lst [.loc S.length, .loc N, .loc N, .loc N])
  have hN := ap_old (c := Cell.lst [.loc S.length, .loc N, .loc N, .loc N]) (ap_old (c := Cell.lst [D.int 0, .int 99, .int 0, .int 0, .int 0, .int 99]) v.at')
  have eL : (S ++ [Cell.lst [D.int 0, .int 99, .int 0, .int 0, .int 0, .int 99]]).length = S.length + 1 := by simp
  rw [eL] at hw ⊢
  generalize S ++ [Cell.lst [D.int 0, .int 99, .int 0, .int 0, .int 0, .int 99]] ++ [Cell.lst [.loc S.length, .loc N, .loc N, .loc N]] = S2 at g hf hw hN ⊢
  have tn := v.tn
  let x : WX := ⟨t, S.length + 1, S.length, N, N, N, vis.map .str, vis.map .str, vis.map .str⟩
  have ws : WSt x := by
    have h1 := v.l1
    have h2 := v.l2
    constructor <;> first | exact v.nml | (simp only [x, List.length_map]; omega) | (show (_ : Nat) < _; simp only [x]; omega) | (show (_ : Nat) ≠ _; simp only [x]; omega)
  have wi : WI x S2 := ⟨g.tp, hw, hN, hN, hN, ⟨0, 99, 0, 0, 0, 99, hf⟩, by rw [fv_eq (x := x) hf]; decide⟩
  have vs : Vis x S2 N vis := ⟨hN, by show N ≠ t; omega, by show N ≠ S.length; omega, v.nm, v.l2⟩
  refine wp_mono (r_condition (x := x) hn ws wi vs) ?_
  rintro d S3 ⟨c, rfl, c1, c2, f3⟩
  have hr := f.ro
  have rl := len_at hr
  have flen := f.len
  have hr' := g.ro
  exact ⟨c, rfl, c1, c2, ⟨Nat.le_trans g.len f3.len, fun i e h1 h2 q => f3.keep i e h1 (by
    have := (List.getElem?_eq_some_iff.mp q).1
    show i ≠ S.length
    omega) (by simp) (g.keep i e h1 h2 q), f3.wi.tp, f3.keep _ _ (by have := f.tr; show rm ≠ t; omega) (by show rm ≠ S.length; omega) (by simp) hr', f.tr⟩⟩
end
abbrev WP (t rm : Nat) (A : Store) (r : Int) (k : Nat) (vis : List Str) : D → Store → Prop := fun d S' => ∃ (s : Pg.St) (r' : Int), d = s.d ∧ s.wk vis ∧ s.sz ≤ wz k ∧ s.dp ≤ 19 + k ∧ Wf t rm A S' r' ∧ (s.sz : Int) + r' = r + 1 ∧ (0 ≤ r → -1 ≤ r')
abbrev WB (t rm : Nat) (A : Store) (r : Int) (k : Nat) (vis : List Str) : D → Store → Prop := fun d S' => ∃ (b : List Pg.St) (r' : Int), d = .tup (b.map Pg.St.d) ∧ Pg.St.wks vis b ∧ Pg.St.szs b ≤ 3 * wz k ∧ Pg.St.dps b ≤ 19 + k ∧ Wf t rm A S' r' ∧ (Pg.St.szs b : Int) + r' = r ∧ (-1 ≤ r → -1 ≤ r')
def TreeAt (k : Nat) : Prop := ∀ (n t rm N : Nat) (vis : List Str) (A S : Store) (d r : Int), 40 + 3 * k ≤ n → d = (k : Int) → Wf t rm A S r → Nn S t rm N vis → wp (callN defs glob n "_law_tree" [.loc t, .loc N, .loc rm, .int d]) (WB t rm A r k vis) S
def WildAt (k : Nat) : Prop := ∀ (n t rm N : Nat) (vis : List Str) (A S : Store) (d r : Int), 39 + 3 * k ≤ n → d = (k : Int) → Wf t rm A S r → Nn S t rm N vis → wp (callN defs glob n "_law_wild" [.loc t, .loc N, .loc rm, .int d]) (WP t rm A r k vis) S
open Pg
abbrev wenv (t N rm : Nat) (d ch : Int) (s : Str) (o : Option Str) (v : Bool) (a b c e f : Option D) : Nv := [some (.loc t), some (.loc N), some (.loc rm), some (.int d), some (.int ch), some (.str s), some (lb o), some (.bl v), a, b, c, e, f]
mutual
theorem pz_sz : ∀ c : Cn, c.pz = c.sz
  | .call _ => rfl
  | .flag _ => rfl
  | .no c => by rw [Cn.pz, Cn.sz, pz_sz c]; omega
  | .op _ ps => by rw [Cn.pz, Cn.sz, pzs_szs ps]; omega
theorem pzs_szs : ∀ ps : List Cn, Cn.pzs ps = Cn.szs ps
  | [] => rfl
  | p :: ps => by rw [Cn.pzs, Cn.szs, pz_sz p, pzs_szs ps]
end
section
variable {n k t N rm : Nat} {A S S1 : Store} {vis : List Str} {d ch : Int} {s : Str} {o : Option Str} {vl : Bool} {a b c e f : Option D} {R : Mn.Flow × Nv → Store → Prop} {r : Int}
set_option maxHeartbeats 4000000 in
theorem wild_12 (hn : 5 ≤ n) (h0 : 0 ≤ ch) (hs : Ws 70 s) (ho : lbOk o) (f1 : Wf t rm A S r) : wpx (evSs ⟨glob, callN defs glob n⟩ b__law_wild_12 (wenv t N rm d ch s o vl a b c e f)) (thenS ⟨glob, callN defs glob n⟩ b__law_wild_13 (RP (WP t rm A r k vis)) E0x) E0x S := by
  have zp := wz_pos k
  simp only [b__law_wild_12, wenv]
  walk_at "mn"
  refine wpx_of_wp (r_draw (by omega) f1.tp (by decide)) ?_
  rintro _ S2 ⟨w, rfl, w0, w1, q2⟩
  have f2 := f1.fr q2
  walk_at "mn"
  have f3 := f2.push (.lst [D.non, D.int 0, D.int 9, D.int 10, D.int 99, D.int w])
  refine wpx_of_wp (r_draw (by omega) f3.tp (by decide)) ?_
  rintro _ S4 ⟨v4, rfl, v40, v41, q4⟩
  have e4 := q4.keep _ _ (by have := tp_lt f2.tp; omega) ap_self
  have f4 := f3.fr q4
  walk_at "mn"
  simp only [e4]
  walk_at "mn"
  refine w_pick (P := fun d => ∃ o : Option Int, d = nb o ∧ nbOk o) v40 v41 ?_ ?_
  · intro d hd
    simp only [List.mem_cons, List.mem_nil_iff, or_false] at hd
    rcases hd with rfl | rfl | rfl | rfl | rfl | rfl
    · exact ⟨none, rfl, trivial⟩
    · exact ⟨some 0, rfl, by decide, by decide⟩
    · exact ⟨some 9, rfl, by decide, by decide⟩
    · exact ⟨some 10, rfl, by decide, by decide⟩
    · exact ⟨some 99, rfl, by decide, by decide⟩
    · exact ⟨some w, rfl, w0, by omega⟩
  rintro _ ⟨q, rfl, hr⟩
  walk_at "mn"
  try simp only [ap_old ap_self]
  walk_at "mn"
  try simp only [ap_self]
  walk_at "mn"
  refine ⟨rfl, ?_⟩
  have hc0 := Int.emod_nonneg ch (show (6 : Int) ≠ 0 by decide)
  have hc1 := Int.emod_lt_of_pos ch (show (0 : Int) < 6 by decide)
  refine ⟨by decide, ?_⟩
  walk_at "mn"
  try simp only [ap_self]
  walk_at "mn"
  refine w_pick (P := fun d => ∃ p : Pg.St, d = p.d ∧ p.wk vis ∧ p.sz = 1 ∧ p.dp = 1) hc0 (by simpa using hc1) ?_ ?_
  · intro d hd
    simp only [List.cons_append, List.nil_append, List.mem_cons, List.mem_nil_iff, or_false] at hd
    rcases hd with rfl | rfl | rfl | rfl | rfl | rfl
    · exact ⟨.call s, rfl, hs, rfl, rfl⟩
    · exact ⟨.lt s vl, rfl, hs, rfl, rfl⟩
    · exact ⟨.st s vl, rfl, hs, rfl, rfl⟩
    · exact ⟨.brk o, rfl, ho, rfl, rfl⟩
    · exact ⟨.cnt o, rfl, ho, rfl, rfl⟩
    · exact ⟨.ret q, rfl, hr, rfl, rfl⟩
  rintro _ ⟨p, rfl, p1, p2, p3⟩
  walk_at "mn"
  exact ⟨p, r, rfl, p1, by omega, by omega, ((f4.push _).push _).push _, by omega, by omega⟩
set_option maxHeartbeats 4000000 in
theorem wild_10 (hT : TreeAt k) (hn : 41 + 3 * k ≤ n) (hd : d = (k : Int) + 1) (v : Nn S t rm N vis) (f1 : Wf t rm A S r) : wpx (evSs ⟨glob, callN defs glob n⟩ b__law_wild_10 (wenv t N rm d ch s o vl a b c e f)) (thenS ⟨glob, callN defs glob n⟩ b__law_wild_11 (RP (WP t rm A r (k + 1) vis)) E0x) E0x S := by
  simp only [b__law_wild_10, wenv]
  walk_at "mn"
  refine wpx_of_wp (hT n t rm N vis A S _ _ (by omega) (by omega) f1 v) ?_
  rintro _ S2 ⟨q, r2, rfl, q1, q2, q3, f2, e2, l2⟩
  walk_at "mn"
  exact ⟨.blk q, r2, by rw [Pg.St.d, sds_map], q1, by simp only [Pg.St.sz, wz]; omega, by simp only [Pg.St.dp]; omega, f2, by simp only [Pg.St.sz]; omega, by omega⟩
set_option maxHeartbeats 4000000 in
theorem wild_8 (hT : TreeAt k) (hn : 41 + 3 * k ≤ n) (hd : d = (k : Int) + 1) (ho : lbOk o) (v : Nn S t rm N vis) (f1 : Wf t rm A S r) : wpx (evSs ⟨glob, callN defs glob n⟩ b__law_wild_8 (wenv t N rm d ch s o vl a b c e f)) (thenS ⟨glob, callN defs glob n⟩ b__law_wild_9 (RP (WP t rm A r (k + 1) vis)) E0x) E0x S := by
  simp only [b__law_wild_8, wenv]
  walk_at "mn"
  refine wpx_of_wp (hT n t rm N vis A S _ _ (by omega) (by omega) f1 v) ?_
  rintro _ S2 ⟨q, r2, rfl, q1, q2, q3, f2, e2, l2⟩
  walk_at "mn"
  exact ⟨.fr o q, r2, by rw [Pg.St.d, sds_map], ⟨ho, q1⟩, by simp only [Pg.St.sz, wz]; omega, by simp only [Pg.St.dp]; omega, f2, by simp only [Pg.St.sz]; omega, by omega⟩
set_option maxHeartbeats 4000000 in
theorem wild_6 (hT : TreeAt k) (hn : 41 + 3 * k ≤ n) (hd : d = (k : Int) + 1) (v : Nn S t rm N vis) (f1 : Wf t rm A S r) : wpx (evSs ⟨glob, callN defs glob n⟩ b__law_wild_6 (wenv t N rm d ch s o vl a b c e f)) (thenS ⟨glob, callN defs glob n⟩ b__law_wild_7 (RP (WP t rm A r (k + 1) vis)) E0x) E0x S := by
  simp only [b__law_wild_6, wenv]
  walk_at "mn"
  refine wpx_of_wp (hT n t rm N vis S S _ _ (by omega) (by omega) (.refl f1.tp f1.ro f1.tr) v) ?_
  rintro _ S2 ⟨q, r2, rfl, q1, q2, q3, f2, e2, l2⟩
  have f12 := f1.trans f2
  walk_at "mn"
  refine wpx_of_wp (hT n t rm N vis A S2 _ _ (by omega) (by omega) f12 (v.go f2)) ?_
  rintro _ S3 ⟨q', r3, rfl, q1', q2', q3', f3, e3, l3⟩
  walk_at "mn"
  exact ⟨.tr q q', r3, by rw [Pg.St.d, sds_map, sds_map], ⟨q1, q1'⟩, by simp only [Pg.St.sz, wz]; omega, by simp only [Pg.St.dp]; omega, f3, by simp only [Pg.St.sz]; omega, by omega⟩
set_option maxHeartbeats 4000000 in
theorem wild_5 {cn : Cn} (hT : TreeAt k) (hn : 41 + 3 * k ≤ n) (hd : d = (k : Int) + 1) (ho : lbOk o) (hc : cn.ok vis) (hz : cn.sz ≤ 18) (hz2 : 0 ≤ r → -1 ≤ r - (cn.sz : Nat)) (v : Nn S t rm N vis) (f1 : Wf t rm A S r) : wpx (evSs ⟨glob, callN defs glob n⟩ b__law_wild_5 (wenv t N rm d ch s o vl (some cn.d) b c e f)) (RP (WP t rm A r (k + 1) vis)) E0x S := by
  have cd := cdp_sz cn
  have hr := f1.ro
  have pzsz := pz_sz cn
  simp only [b__law_wild_5, wenv]
  walk_at "mn"
  simp only [hr]
  walk_at "mn"
  refine wpx_of_wp (by_val (v_parts 18 cn n (by omega) (by omega) (by omega)) (by simp [Mn.plains]; exact cn_plain cn) rfl) ?_
  rintro _ S2 ⟨rfl, k2⟩
  have f2 := f1.kp k2
  have hr2 := k2.keep _ _ hr
  walk_at "mn"
  simp only [hr2]
  walk_at "mn"
  have f3 := f2.room (r - (cn.pz : Nat))
  have v3 : Nn (S2.set rm (.lst [.int (r - (cn.pz : Nat))])) t rm N vis := v.go ((Wf.refl f1.tp f1.ro f1.tr).kp k2 |>.room _)
  generalize S2.set rm (.lst [.int (r - (cn.pz : Nat))]) = S3 at f3 v3 ⊢
  refine wpx_of_wp (hT n t rm N vis S3 S3 _ _ (by omega) (by omega) (.refl f3.tp f3.ro f3.tr) v3) ?_
  rintro _ S4 ⟨q, r4, rfl, q1, q2, q3, g4, e4, l4⟩
  have f4 := f3.trans g4
  have v4 := v3.go g4
  walk_at "mn"
  by_cases h12 : ch < 12
  · simp only [h12, decide_true]
    walk_at "mn"
    exact ⟨.whl o cn q, r4, by rw [Pg.St.d, sds_map], ⟨ho, hc, q1⟩, by simp only [Pg.St.sz, wz]; omega, by simp only [Pg.St.dp]; omega, f4, by simp only [Pg.St.sz]; omega, by omega⟩
  · simp only [h12, decide_false]
    walk_at "mn"
    simp only [b__law_wild_3]
    walk_at "mn"
    by_cases h15 : ch < 15
    · simp only [h15, decide_true]
      walk_at "mn"
      simp only [b__law_wild_1]
      walk_at "mn"
      refine wpx_of_wp (hT n t rm N vis A S4 _ _ (by omega) (by omega) f4 v4) ?_
      rintro _ S5 ⟨q', r5, rfl, q1', q2', q3', f5, e5, l5⟩
      walk_at "mn"
      simp only [b__law_wild_2]
      walk_at "mn"
      exact ⟨.ife cn q q', r5, by rw [Pg.St.d, sds_map, sds_map], ⟨hc, q1, q1'⟩, by simp only [Pg.St.sz, wz]; omega, by simp only [Pg.St.dp]; omega, f5, by simp only [Pg.St.sz]; omega, by omega⟩
    · simp only [h15, decide_false]
      walk_at "mn"
      simp only [b__law_wild_2]
      walk_at "mn"
      exact ⟨.ife cn q [], r4, by rw [Pg.St.d, sds_map, sds_map]; rfl, ⟨hc, q1, trivial⟩, by simp only [Pg.St.sz, Pg.St.szs, wz]; omega, by simp only [Pg.St.dp, Pg.St.dps]; omega, f4, by simp only [Pg.St.sz, Pg.St.szs]; omega, by omega⟩
set_option maxHeartbeats 4000000 in
theorem wild_13 (hT : TreeAt k) (hn : 41 + 3 * k ≤ n) (hd : d = (k : Int) + 1) (hs : s ∈ vis) (ho : lbOk o) (v : Nn S t rm N vis) (f1 : Wf t rm A S r) : wpx (evSs ⟨glob, callN defs glob n⟩ b__law_wild_13 (wenv t N rm d ch s o vl a b c e f)) (RP (WP t rm A r (k + 1) vis)) E0x S := by
  simp only [b__law_wild_13, wenv]
  walk_at "mn"
  by_cases h8 : ch < 8
  · simp only [h8, decide_true]
    walk_at "mn"
    exact wild_10 hT hn hd v f1
  · simp only [h8, decide_false]
    walk_at "mn"
    simp only [b__law_wild_11]
    walk_at "mn"
    cases e8 : ch == 8 with
    | true => walk_at "mn"; exact wild_8 hT hn hd ho v f1
    | false =>
      walk_at "mn"
      simp only [b__law_wild_9]
      walk_at "mn"
      cases e9 : ch == 9 with
      | true => walk_at "mn"; exact wild_6 hT hn hd v f1
      | false =>
        walk_at "mn"
        simp only [b__law_wild_7]
        walk_at "mn"
        have hr := f1.ro
        simp only [hr]
        walk_at "mn"
        by_cases h20 : 20 < r
        · simp only [h20, decide_true]
          walk_at "mn"
          simp only [b__law_wild_4]
          walk_at "mn"
          refine wpx_of_wp (r_wcond (A := S) (by omega) v (.refl f1.tp f1.ro f1.tr)) ?_
          rintro _ S2 ⟨cn, rfl, c1, c2, g2⟩
          walk_at "mn"
          exact wild_5 hT hn hd ho c1 c2 (by omega) (v.go g2) (f1.trans g2)
        · simp only [h20, decide_false]
          walk_at "mn"
          exact wild_5 (cn := .flag s) hT hn hd ho ⟨v.nm s hs, hs⟩ (by simp [Cn.sz]) (by simp only [Cn.sz]; omega) v f1
end
set_option maxHeartbeats 4000000 in
theorem wild_at {k : Nat} (hT : ∀ j, k = j + 1 → TreeAt j) : WildAt k := by
  intro n t rm N vis A S d r hn hd f0 v0
  obtain ⟨n, rfl⟩ : ∃ k, n = k + 1 := ⟨n - 1, by omega⟩
  refine x_call (d := d__law_wild) rfl rfl ?_
  show wp (evSs _ b__law_wild [some (.loc t), some (.loc N), some (.loc rm), some (.int d), none, none, none, none, none, none, none, none, none]) _ S
  simp only [b__law_wild]
  walk_at "mn"
  refine wpx_of_wp (r_draw (by omega) f0.tp (by decide)) ?_
  rintro _ S1 ⟨ch, rfl, c0, c1, q1⟩
  have f1 := f0.fr q1
  have g1 := (Wf.refl f0.tp f0.ro f0.tr).fr q1
  have v1 := v0.go g1
  walk_at "mn"
  simp only [v1.at']
  walk_at "mn"
  refine wpx_of_wp (r_draw (by omega) f1.tp (by have := v0.l2; rw [List.length_map]; omega)) ?_
  rintro _ S2 ⟨w, rfl, w0, w1, q2⟩
  have f2 := f1.fr q2
  have g2 := g1.fr q2
  have v2 := v0.go g2
  walk_at "mn"
  simp only [v2.at']
  walk_at "mn"
  refine pick_str w0 (by have := v0.l1; rw [List.length_map] at w1; omega) ?_
  intro s hs
  have hw := v0.nm s hs
  walk_at "mn"
  have f3 := f2.push (.lst [D.non, D.str s])
  have g3 := g2.push (.lst [D.non, D.str s])
  refine wpx_of_wp (r_draw (by omega) f3.tp (by decide)) ?_
  rintro _ S4 ⟨v4, rfl, v40, v41, q4⟩
  have e4 := q4.keep _ _ (by have := tp_lt f2.tp; omega) ap_self
  have f4 := f3.fr q4
  have g4 := g3.fr q4
  walk_at "mn"
  simp only [e4]
  walk_at "mn"
  refine w_pick (P := fun d => ∃ o : Option Str, d = lb o ∧ lbOk o) v40 v41 ?_ ?_
  · intro d hd
    simp only [List.mem_cons, List.mem_nil_iff, or_false] at hd
    rcases hd with rfl | rfl
    · exact ⟨none, rfl, trivial⟩
    · exact ⟨some s, rfl, hw⟩
  rintro _ ⟨o, rfl, ho⟩
  walk_at "mn"
  refine wpx_of_wp (r_draw (by omega) f4.tp (by decide)) ?_
  rintro _ S5 ⟨w5, rfl, w50, w51, q5⟩
  have f5 := f4.fr q5
  have v5 := v0.go (g4.fr q5)
  walk_at "mn"
  cases ed : d == 0 with
  | true =>
    walk_at "mn"
    exact wild_12 (k := k) (vis := vis) (by omega) c0 hw ho f5
  | false =>
    walk_at "mn"
    obtain ⟨j, rfl⟩ : ∃ j, k = j + 1 := ⟨k - 1, by
      have : d ≠ 0 := by simpa using ed
      omega⟩
    by_cases h6 : ch < 6
    · simp only [h6, decide_true]
      walk_at "mn"
      exact wild_12 (k := j + 1) (vis := vis) (by omega) c0 hw ho f5
    · simp only [h6, decide_false]
      walk_at "mn"
      exact wild_13 (hT j rfl) (by omega) (by omega) hs ho v5 f5
open Pg
set_option maxHeartbeats 4000000 in
theorem tree_at {k : Nat} (hW : WildAt k) : TreeAt k := by
  intro n t rm N vis A S d r hn hd f0 v0
  obtain ⟨n, rfl⟩ : ∃ k, n = k + 1 := ⟨n - 1, by omega⟩
  refine x_call (d := d__law_tree) rfl rfl ?_
  show wp (evSs _ b__law_tree [some (.loc t), some (.loc N), some (.loc rm), some (.int d), none, none]) _ S
  simp only [b__law_tree]
  walk_at "mn"
  have tl := tp_lt f0.tp
  have rl : rm < S.length := len_at f0.ro
  have Nl := len_at v0.at'
  have e0 := Wf.refl (S := S) f0.tp f0.ro f0.tr
  have f1 := (e0.push (.lst [])).push (.lst [D.int 0, D.int 1, D.int 1, D.int 2, D.int 2, D.int 3])
  refine wpx_of_wp (r_draw (by omega) f1.tp (by decide)) ?_
  rintro _ S2 ⟨w, rfl, w0, w1, q2⟩
  have f2 := f1.fr q2
  have e2 := q2.keep _ _ (by simp; omega) ap_self
  have hb2 := q2.keep _ _ (by omega) (ap_old (c := .lst [D.int 0, D.int 1, D.int 1, D.int 2, D.int 2, D.int 3]) (ap_self (S := S) (c := .lst [])))
  walk_at "mn"
  simp only [e2]
  walk_at "mn"
  refine w_pick (P := fun d => ∃ i, d = .int i ∧ 0 ≤ i ∧ i ≤ 3) w0 w1 (all_in (by decide +kernel)) ?_
  rintro _ ⟨g, rfl, g0, g1⟩
  walk_at "mn"
  simp only [k_r1n g0 (show g < 1000000000 by omega)]
  walk_at "mn"
  refine for_rng (fun q env S' => ∃ (b : List Pg.St) (z : Option D) (r' : Int), env = [some (.loc t), some (.loc N), some (.loc rm), some (.int d), some (.loc S.length), z] ∧ S'[S.length]? = some (.lst (b.map Pg.St.d)) ∧ (Wf t rm S S' r' ∧ (Pg.St.szs b : Int) + r' = r ∧ (-1 ≤ r → -1 ≤ r')) ∧ Pg.St.wks vis b ∧ Pg.St.szs b ≤ q * wz k ∧ Pg.St.dps b ≤ 19 + k ∧ b.length ≤ q) g0 (by omega) ⟨[], none, r, rfl, hb2, ⟨f2, by simp only [Pg.St.szs]; omega, by omega⟩, trivial, Nat.zero_le _, Nat.zero_le _, Nat.le_refl _⟩ ?_ ?_
  · rintro q env S' hq ⟨b, z, r1, rfl, hb, ⟨f, fe, fl⟩, b1, b2, b3, b4⟩
    have hr := f.ro
    walk_at "mn"
    simp only [b__law_tree_2]
    walk_at "mn"
    simp only [hr]
    walk_at "mn"
    by_cases h0 : 0 < r1
    · simp only [h0, decide_true]
      walk_at "mn"
      simp only [b__law_tree_1]
      walk_at "mn"
      simp only [hr]
      walk_at "mn"
      try simp only [hr]
      walk_at "mn"
      have f3 := f.room (r1 - 1)
      have hb3 : (S'.set rm (.lst [.int (r1 - 1)]))[S.length]? = some (.lst (b.map Pg.St.d)) := by rw [List.getElem?_set_ne (by omega)]; exact hb
      generalize S'.set rm (.lst [.int (r1 - 1)]) = S3 at f3 hb3 ⊢
      simp only [hb3]
      walk_at "mn"
      refine wpx_of_wp (hW n t rm N vis S3 S3 d _ (by omega) hd (.refl f3.tp f3.ro f3.tr) (v0.go f3)) ?_
      rintro _ S4 ⟨p, r4, rfl, p1, p2, p3, g4, e4, l4⟩
      have f4 := f3.trans g4
      have hb4 := g4.keep _ _ (by omega) (by omega) hb3
      walk_at "mn"
      simp only [hb4]
      walk_at "mn"
      refine ⟨by rw [List.length_map, decide_eq_true_iff]; show _ < 16777216; omega, ?_⟩
      refine ⟨b ++ [p], _, r4, rfl, ?_, ⟨f4.own tl rl (Nat.le_refl _) _, by rw [sszs_app]; simp only [Pg.St.szs]; push_cast; omega, by omega⟩, wks_app b1 ⟨p1, trivial⟩, ?_, ?_, by simp; omega⟩
      · rw [List.getElem?_set_self (len_at hb4)]; simp
      · rw [sszs_app, Nat.add_mul]; simp only [Pg.St.szs]; omega
      · rw [sdps_app]; simp only [Pg.St.dps]; omega
    · simp only [h0, decide_false]
      walk_at "mn"
      exact ⟨b, _, r1, rfl, hb, ⟨f, fe, fl⟩, b1, by rw [Nat.add_mul]; omega, b3, by omega⟩
  · rintro env S' ⟨b, z, r1, rfl, hb, ⟨f, fe, fl⟩, b1, b2, b3, b4⟩
    rw [then_nx]
    simp only [b__law_tree_3]
    walk_at "mn"
    simp only [hb]
    walk_at "mn"
    have hg : g.toNat ≤ 3 := by omega
    exact ⟨b, r1, rfl, b1, Nat.le_trans b2 (Nat.mul_le_mul_right _ hg), b3, f0.trans f, fe, fl⟩
theorem tree_all : ∀ k, TreeAt k ∧ WildAt k
  | 0 => have h := wild_at (k := 0) (fun j h => by omega); ⟨tree_at h, h⟩
  | k + 1 => have h := wild_at (k := k + 1) (fun j h => by
      have : j = k := by omega
      subst this
      exact (tree_all j).1); ⟨tree_at h, h⟩
/-! shells -/
set_option maxHeartbeats 4000000 in
theorem r_wrapped {n t rm N : Nat} {vis : List Str} {A S : Store} {b : List Pg.St} {m r : Int} {z dp : Nat} (hn : 10 ≤ n) (f0 : Wf t rm A S r) (v0 : Nn S t rm N vis) (m0 : 0 ≤ m) (m1 : m ≤ 36) (hb : Pg.St.wks vis b) (hz : Pg.St.szs b ≤ z) (hd : Pg.St.dps b ≤ dp) (hd1 : 1 ≤ dp) (hz1 : z ≤ 1000000) :
    wp (callN defs glob n "_law_wrapped" [.loc t, .loc N, .tup (b.map Pg.St.d), .int m]) (fun d S' => ∃ b : List Pg.St, d = .tup (b.map Pg.St.d) ∧ Pg.St.wks vis b ∧ Pg.St.szs b ≤ z + 72 ∧ Pg.St.dps b ≤ dp + 36 ∧ Wf t rm A S' r) S := by
  obtain ⟨n, rfl⟩ : ∃ k, n = k + 1 := ⟨n - 1, by omega⟩
  refine x_call (d := d__law_wrapped) rfl rfl ?_
  show wp (evSs _ b__law_wrapped [some (.loc t), some (.loc N), some (.tup (b.map Pg.St.d)), some (.int m), none, none, none, none]) _ S
  simp only [b__law_wrapped]
  walk_at "mn"
  simp only [k_r1n m0 (show m < 1000000000 by omega)]
  walk_at "mn"
  refine for_rng (fun q env S' => ∃ (b : List Pg.St) (z4 z5 z6 z7 : Option D), env = [some (.loc t), some (.loc N), some (.tup (b.map Pg.St.d)), some (.int m), z4, z5, z6, z7] ∧ Wf t rm S S' r ∧ Pg.St.wks vis b ∧ Pg.St.szs b ≤ z + 2 * q ∧ Pg.St.dps b ≤ dp + q) m0 (by omega) ⟨b, none, none, none, none, rfl, .refl f0.tp f0.ro f0.tr, hb, by omega, by omega⟩ ?_ ?_
  · rintro q env S' hq ⟨b, z4, z5, z6, z7, rfl, f, b1, b2, b3⟩
    have v := v0.go f
    walk_at "mn"
    simp only [b__law_wrapped_1]
    walk_at "mn"
    simp only [v.at']
    walk_at "mn"
    refine wpx_of_wp (r_draw (by omega) f.tp (by have := v0.l2; rw [List.length_map]; omega)) ?_
    rintro _ S2 ⟨w, rfl, w0, w1, q2⟩
    have f2 := f.fr q2
    have v2 := v0.go f2
    walk_at "mn"
    simp only [v2.at']
    walk_at "mn"
    refine pick_str w0 (by have := v0.l1; rw [List.length_map] at w1; omega) ?_
    intro s hs
    have hw := v0.nm s hs
    walk_at "mn"
    have f3 := f2.push (.lst [D.tup [D.str "call", D.str s], D.tup [D.str "flag", D.str s]])
    refine wpx_of_wp (r_draw (by omega) f3.tp (by decide)) ?_
    rintro _ S4 ⟨v4, rfl, v40, v41, q4⟩
    have e4 := q4.keep _ _ (by have := tp_lt f2.tp; omega) ap_self
    have f4 := f3.fr q4
    walk_at "mn"
    simp only [e4]
    walk_at "mn"
    refine w_pick (P := fun d => ∃ c : Cn, d = c.d ∧ c.ok vis ∧ c.sz = 1 ∧ c.dp = 1) v40 v41 ?_ ?_
    · intro d hd
      simp only [List.mem_cons, List.mem_nil_iff, or_false] at hd
      rcases hd with rfl | rfl
      · exact ⟨.call s, rfl, hw, rfl, rfl⟩
      · exact ⟨.flag s, rfl, ⟨hw, hs⟩, rfl, rfl⟩
    rintro _ ⟨c, rfl, hc, hcz, hcd⟩
    walk_at "mn"
    try simp only [ap_old ap_self]
    walk_at "mn"
    try simp only [ap_self]
    walk_at "mn"
    refine ⟨rfl, ?_⟩
    have g := ((f4.push (.lst [D.tup [D.str "block", D.tup (b.map Pg.St.d)], D.tup [D.str "for", D.non, D.tup (b.map Pg.St.d)], D.tup [D.str "for", D.str s, D.tup (b.map Pg.St.d)], D.tup [D.str "while", D.str s, c.d, D.tup (b.map Pg.St.d)]])).push (.lst [D.tup [D.str "if", c.d, D.tup (b.map Pg.St.d), D.tup []], D.tup [D.str "if", c.d, D.tup [], D.tup (b.map Pg.St.d)], D.tup [D.str "try", D.tup (b.map Pg.St.d), D.tup []], D.tup [D.str "try", D.tup [], D.tup (b.map Pg.St.d)]])).push (.lst ([D.tup [D.str "block", D.tup (b.map Pg.St.d)], D.tup [D.str "for", D.non, D.tup (b.map Pg.St.d)], D.tup [D.str "for", D.str s, D.tup (b.map Pg.St.d)], D.tup [D.str "while", D.str s, c.d, D.tup (b.map Pg.St.d)]] ++ [D.tup [D.str "if", c.d, D.tup (b.map Pg.St.d), D.tup []], D.tup [D.str "if", c.d, D.tup [], D.tup (b.map Pg.St.d)], D.tup [D.str "try", D.tup (b.map Pg.St.d), D.tup []], D.tup [D.str "try", D.tup [], D.tup (b.map Pg.St.d)]]))
    refine wpx_of_wp (r_draw (by omega) g.tp (by decide)) ?_
    rintro _ S6 ⟨v6, rfl, v60, v61, q6⟩
    have f6 := g.fr q6
    have e6 := q6.keep _ _ (by have := tp_lt f4.tp; simp; omega) ap_self
    walk_at "mn"
    simp only [e6]
    walk_at "mn"
    refine w_pick (P := fun d => ∃ p : Pg.St, d = p.d ∧ p.wk vis ∧ p.sz ≤ Pg.St.szs b + 2 ∧ p.dp ≤ max 1 (Pg.St.dps b) + 1) v60 (by simp only [List.length_append, List.length_cons, List.length_nil]; omega) ?_ ?_
    · intro d hd
      simp only [List.cons_append, List.nil_append, List.mem_cons, List.mem_nil_iff, or_false] at hd
      rcases hd with rfl | rfl | rfl | rfl | rfl | rfl | rfl | rfl
      · exact ⟨.blk b, by simp [Pg.St.d, sds_map], b1, by simp only [Pg.St.sz]; omega, by simp only [Pg.St.dp]; omega⟩
      · exact ⟨.fr none b, by simp [Pg.St.d, sds_map, lb], ⟨trivial, b1⟩, by simp only [Pg.St.sz]; omega, by simp only [Pg.St.dp]; omega⟩
      · exact ⟨.fr (some s) b, by simp [Pg.St.d, sds_map, lb], ⟨hw, b1⟩, by simp only [Pg.St.sz]; omega, by simp only [Pg.St.dp]; omega⟩
      · exact ⟨.whl (some s) c b, by simp [Pg.St.d, sds_map, lb], ⟨hw, hc, b1⟩, by simp only [Pg.St.sz]; omega, by simp only [Pg.St.dp]; omega⟩
      · exact ⟨.ife c b [], by simp [Pg.St.d, sds_map], ⟨hc, b1, trivial⟩, by simp only [Pg.St.sz, Pg.St.szs]; omega, by simp only [Pg.St.dp, Pg.St.dps]; omega⟩
      · exact ⟨.ife c [] b, by simp [Pg.St.d, sds_map], ⟨hc, trivial, b1⟩, by simp only [Pg.St.sz, Pg.St.szs]; omega, by simp only [Pg.St.dp, Pg.St.dps]; omega⟩
      · exact ⟨.tr b [], by simp [Pg.St.d, sds_map], ⟨b1, trivial⟩, by simp only [Pg.St.sz, Pg.St.szs]; omega, by simp only [Pg.St.dp, Pg.St.dps]; omega⟩
      · exact ⟨.tr [] b, by simp [Pg.St.d, sds_map], ⟨trivial, b1⟩, by simp only [Pg.St.sz, Pg.St.szs]; omega, by simp only [Pg.St.dp, Pg.St.dps]; omega⟩
    rintro _ ⟨p, rfl, p1, p2, p3⟩
    walk_at "mn"
    exact ⟨[p], _, _, _, _, rfl, f6, ⟨p1, trivial⟩, by simp only [Pg.St.szs]; omega, by simp only [Pg.St.dps]; omega⟩
  · rintro env S' ⟨b, z4, z5, z6, z7, rfl, f, b1, b2, b3⟩
    rw [then_nx]
    simp only [b__law_wrapped_2]
    walk_at "mn"
    exact ⟨b, rfl, b1, by omega, by omega, f0.trans f⟩
open Pg
set_option maxHeartbeats 4000000 in
theorem r_any {n t N : Nat} {vis : List Str} {S : Store} (hn : 60 ≤ n) (h : Tp S t) (hN : S[N]? = some (.lst (vis.map .str))) (tn : t < N) (nm : ∀ s ∈ vis, Ws 70 s) (l1 : 1 ≤ vis.length) (l2 : vis.length ≤ 1000) :
    wp (callN defs glob n "_law_any" [.loc t, .loc N]) (fun d S' => ∃ b : List Pg.St, d = .tup (b.map Pg.St.d) ∧ Pg.St.wks vis b ∧ Pg.St.szs b ≤ 240 ∧ Pg.St.dps b ≤ 60 ∧ Fr t S S') S := by
  obtain ⟨n, rfl⟩ : ∃ k, n = k + 1 := ⟨n - 1, by omega⟩
  refine x_call (d := d__law_any) rfl rfl ?_
  show wp (evSs _ b__law_any [some (.loc t), some (.loc N), none, none, none, none]) _ S
  have tl := tp_lt h
  have Nl := len_at hN
  have w5 : wz 5 = 38876 := by decide
  have w4 : wz 4 = 6476 := by decide
  simp only [b__law_any]
  walk_at "mn"
  refine wpx_of_wp (r_draw (by omega) h (by decide)) ?_
  rintro _ S1 ⟨sh, rfl, s0, s1, q1⟩
  walk_at "mn"
  simp only [ap_self]
  walk_at "mn"
  refine w_pick (P := fun d => ∃ i, d = .int i ∧ 0 ≤ i ∧ i ≤ 150) s0 s1 (all_in (by decide +kernel)) ?_
  rintro _ ⟨r, rfl, r0, r1⟩
  walk_at "mn"
  have g1 := (q1.push (.lst [D.int 12, D.int 30, D.int 60, D.int 60, D.int 60, D.int 100, D.int 100, D.int 150])).push (.lst [D.int r])
  have hrm := ap_self (S := S1 ++ [Cell.lst [D.int 12, D.int 30, D.int 60, D.int 60, D.int 60, D.int 100, D.int 100, D.int 150]]) (c := .lst [D.int r])
  have len1 := q1.len
  have erm : (S1 ++ [Cell.lst [D.int 12, D.int 30, D.int 60, D.int 60, D.int 60, D.int 100, D.int 100, D.int 150]]).length = S1.length + 1 := by simp
  rw [erm] at hrm ⊢
  generalize S1 ++ [Cell.lst [D.int 12, D.int 30, D.int 60, D.int 60, D.int 60, D.int 100, D.int 100, D.int 150]] ++ [.lst [D.int r]] = S2 at g1 hrm ⊢
  have f2 : Wf t (S1.length + 1) S2 S2 r := .refl g1.tp hrm (by omega)
  have v2 : Nn S2 t (S1.length + 1) N vis := ⟨g1.keep _ _ (by omega) hN, tn, by omega, nm, l1, l2⟩
  -- the end
  have toF : ∀ S' r', Wf t (S1.length + 1) S2 S' r' → Fr t S S' := fun S' _ f => ⟨Nat.le_trans g1.len f.len, fun i c hi q => f.keep i c hi (by have := (List.getElem?_eq_some_iff.mp q).1; omega) (g1.keep i c hi q), f.tp⟩
  have rest : ∀ (S3 : Store) (b : List Pg.St) (z : Option D) (r3 : Int), Wf t (S1.length + 1) S2 S3 r3 → -1 ≤ r3 → (Pg.St.szs b : Int) + r3 ≤ 222 → Pg.St.wks vis b →  Pg.St.dps b ≤ 60 → wpx (evSs ⟨glob, callN defs glob n⟩ b__law_any_5 [some (.loc t), some (.loc N), some (.int sh), some (.loc (S1.length + 1)), some (.tup (b.map Pg.St.d)), z]) (RP (fun d S' => ∃ b : List Pg.St, d = .tup (b.map Pg.St.d) ∧ Pg.St.wks vis b ∧ Pg.St.szs b ≤ 240 ∧ Pg.St.dps b ≤ 60 ∧ Fr t S S')) E0x S3 := by
    intro S3 b z r3 f3 n3 b2 b1 b3
    simp only [b__law_any_5]
    walk_at "mn"
    have f4 := f3.push (.lst [D.int 0, D.int 0, D.int 1, D.int 3])
    refine wpx_of_wp (r_draw (by omega) f4.tp (by decide)) ?_
    rintro _ S5 ⟨w, rfl, w0, w1, q5⟩
    have e5 := q5.keep _ _ (by have := tp_lt f3.tp; omega) ap_self
    have f5 := f4.fr q5
    walk_at "mn"
    simp only [e5]
    walk_at "mn"
    refine w_pick (P := fun d => ∃ i, d = .int i ∧ 0 ≤ i ∧ i ≤ 3) w0 w1 (all_in (by decide +kernel)) ?_
    rintro _ ⟨g, rfl, g0, g1'⟩
    walk_at "mn"
    simp only [k_r1n g0 (show g < 1000000000 by omega)]
    walk_at "mn"
    refine for_rng (fun q env S' => ∃ (b : List Pg.St) (z : Option D) (r3 : Int), env = [some (.loc t), some (.loc N), some (.int sh), some (.loc (S1.length + 1)), some (.tup (b.map Pg.St.d)), z] ∧ Wf t (S1.length + 1) S2 S' r3 ∧ Pg.St.wks vis b ∧ (-1 ≤ r3 ∧ (Pg.St.szs b : Int) + r3 ≤ 222) ∧ Pg.St.dps b ≤ 60) g0 (by omega) ⟨b, z, r3, rfl, f5, b1, ⟨n3, b2⟩, b3⟩ ?_ ?_
    · rintro q env S' hq ⟨b, z, r', rfl, f, b1, ⟨n3, b2⟩, b3⟩
      have hr := f.ro
      have bl := sszs_len b
      walk_at "mn"
      simp only [b__law_any_2]
      walk_at "mn"
      simp only [hr]
      walk_at "mn"
      by_cases h0 : 0 < r'
      · simp only [h0, decide_true]
        walk_at "mn"
        simp only [b__law_any_1]
        walk_at "mn"
        simp only [hr]
        walk_at "mn"
        try simp only [hr]
        walk_at "mn"
        have f3 := f.room (r' - 1)
        generalize S'.set (S1.length + 1) (.lst [.int (r' - 1)]) = S6 at f3 ⊢
        refine wpx_of_wp ((tree_all 4).2 n t _ N vis S6 S6 4 _ (by omega) rfl (.refl f3.tp f3.ro f3.tr) (v2.go f3)) ?_
        rintro _ S7 ⟨p, r7, rfl, p1, p2, p3, g4, e4, l4⟩
        walk_at "mn"
        refine ⟨decide_eq_true (by rw [List.length_append, List.length_map]; show _ ≤ 16777216; simp; omega), ?_⟩
        refine ⟨b ++ [p], some (.int (q : Nat)), r7, ?_, f3.trans g4, wks_app b1 ⟨p1, trivial⟩, ⟨by omega, ?_⟩, ?_⟩
        · simp
        · rw [sszs_app]; simp only [Pg.St.szs]; push_cast; omega
        · rw [sdps_app]; simp only [Pg.St.dps]; omega
      · simp only [h0, decide_false]
        walk_at "mn"
        exact ⟨b, _, r', rfl, f, b1, ⟨n3, b2⟩, b3⟩
    · rintro env S' ⟨b, z, r', rfl, f, b1, ⟨n3, b2⟩, b3⟩
      rw [then_nx]
      simp only [b__law_any_3]
      walk_at "mn"
      exact ⟨b, rfl, b1, by omega, b3, toF _ _ f⟩
  refine wpx_of_wp ((tree_all 5).1 n t _ N vis S2 S2 5 _ (by omega) rfl f2 v2) ?_
  rintro _ S3 ⟨b, r3, rfl, b1, b2, b3, f3, e3, l3⟩
  walk_at "mn"
  by_cases h2 : sh < 2
  · simp only [h2, decide_true]
    walk_at "mn"
    simp only [b__law_any_4]
    walk_at "mn"
    refine wpx_of_wp (r_draw (by omega) f3.tp (by decide)) ?_
    rintro _ S4 ⟨v4, rfl, v40, v41, q4⟩
    have f4 := f3.fr q4
    walk_at "mn"
    refine wpx_of_wp (r_wrapped (dp := 24) (by omega) f4 (v2.go f4) v40 (by omega) b1 (Nat.le_refl _) b3 (by decide) (by omega)) ?_
    rintro _ S5 ⟨b', rfl, c1, c2, c3, f5⟩
    walk_at "mn"
    exact rest S5 b' none r3 f5 (l3 (by omega)) (by omega) c1 (by omega)
  · simp only [h2, decide_false]
    walk_at "mn"
    exact rest S3 b none r3 f3 (l3 (by omega)) (by omega) b1 (by omega)
open Pg
set_option maxHeartbeats 4000000 in
theorem r_great {n t N : Nat} {vis : List Str} {S : Store} (hn : 60 ≤ n) (h : Tp S t) (hN : S[N]? = some (.lst (vis.map .str))) (tn : t < N) (nm : ∀ s ∈ vis, Ws 70 s) (l1 : 1 ≤ vis.length) (l2 : vis.length ≤ 1000) :
    wp (callN defs glob n "_law_great" [.loc t, .loc N]) (fun d S' => ∃ c : Cn, d = c.d ∧ c.ok vis ∧ c.sz ≤ 40 ∧ Fr t S S') S := by
  obtain ⟨n, rfl⟩ : ∃ k, n = k + 1 := ⟨n - 1, by omega⟩
  refine x_call (d := d__law_great) rfl rfl ?_
  show wp (evSs _ b__law_great [some (.loc t), some (.loc N), none, none, none, none]) _ S
  have tl := tp_lt h
  have Nl := len_at hN
  have hrm := ap_self (S := S) (c := .lst [.int 0])
  -- a room of no account
  have nml : NmL (vis.map .str) := fun x hx => by
    obtain ⟨s, hs, rfl⟩ := List.mem_map.mp hx
    exact ⟨s, rfl, nm s hs⟩
  simp only [b__law_great]
  walk_at "mn"
  have hf := ap_old (c := Cell.lst [.loc S.length, .loc N, .loc N, .loc N]) (ap_self (S := S) (c := Cell.lst [D.int 0, .int 99, .int 0, .int 0, .int 0, .int 99]))
  have hw := ap_self (S := S ++ [Cell.lst [D.int 0, .int 99, .int 0, .int 0, .int 0, .int 99]]) (c := Cell.lst [.loc S.length, .loc N, .loc N, .loc N])
  have hN2 := ap_old (c := Cell.lst [.loc S.length, .loc N, .loc N, .loc N]) (ap_old (c := Cell.lst [D.int 0, .int 99, .int 0, .int 0, .int 0, .int 99]) hN)
  have g := ((Fr.refl h).push (Cell.lst [D.int 0, .int 99, .int 0, .int 0, .int 0, .int 99])).push (Cell.lst [.loc S.length, .loc N, .loc N, .loc N])
  have eL : (S ++ [Cell.lst [D.int 0, .int 99, .int 0, .int 0, .int 0, .int 99]]).length = S.length + 1 := by simp
  rw [eL] at hw ⊢
  generalize S ++ [Cell.lst [D.int 0, .int 99, .int 0, .int 0, .int 0, .int 99]] ++ [Cell.lst [.loc S.length, .loc N, .loc N, .loc N]] = S2 at g hf hw hN2 ⊢
  let x : WX := ⟨t, S.length + 1, S.length, N, N, N, vis.map .str, vis.map .str, vis.map .str⟩
  have ws : WSt x := by
    constructor <;> first | exact nml | (simp only [x, List.length_map]; omega) | (show (_ : Nat) < _; simp only [x]; omega) | (show (_ : Nat) ≠ _; simp only [x]; omega)
  have wi : WI x S2 := ⟨g.tp, hw, hN2, hN2, hN2, ⟨0, 99, 0, 0, 0, 99, hf⟩, by rw [fv_eq (x := x) hf]; decide⟩
  have vs : Vis x S2 N vis := ⟨hN2, by show N ≠ t; omega, by show N ≠ S.length; omega, nm, l2⟩
  refine wpx_of_wp (r_condition (x := x) (by omega) ws wi vs) ?_
  rintro _ S3 ⟨c, rfl, c1, c2, f3⟩
  have g3 : Fr t S S3 := ⟨Nat.le_trans g.len f3.len, fun i e h1 q => f3.keep i e h1 (by
    have := (List.getElem?_eq_some_iff.mp q).1
    show i ≠ S.length
    omega) (by simp) (g.keep i e h1 q), f3.wi.tp⟩
  walk_at "mn"
  refine wpx_of_wp (r_draw (by omega) g3.tp (by decide)) ?_
  rintro _ S4 ⟨v4, rfl, v40, v41, f4⟩
  have g4 := g3.trans f4
  walk_at "mn"
  simp only [k_r1n v40 (show v4 < 1000000000 by omega)]
  walk_at "mn"
  refine for_rng (fun i env S' => ∃ (c : Cn) (z3 z4 z5 : Option D), env = [some (.loc t), some (.loc N), some c.d, z3, z4, z5] ∧ Fr t S S' ∧ c.ok vis ∧ c.sz ≤ 18 + 2 * i) v40 (by omega) ⟨c, none, none, none, rfl, g4, c1, c2⟩ ?_ ?_
  · rintro i env S' hi ⟨c, z3, z4, z5, rfl, f, c1, c2⟩
    walk_at "mn"
    simp only [b__law_great_4]
    walk_at "mn"
    have f5 := f.push (.lst [D.str "call", D.str "flag"])
    refine wpx_of_wp (r_draw (by omega) f5.tp (by decide)) ?_
    rintro _ S6 ⟨v6, rfl, v60, v61, f6⟩
    have e6 := f6.keep _ _ (by have := tp_lt f.tp; omega) ap_self
    have g6 := f5.trans f6
    have hN6 := g6.keep _ _ (by omega) hN
    walk_at "mn"
    simp only [e6]
    walk_at "mn"
    refine w_pick (P := fun d => d = .str sCall ∨ d = .str sFlag) v60 v61 ?_ ?_
    · intro d hd
      simp only [List.mem_cons, List.mem_nil_iff, or_false] at hd
      exact hd
    intro dk hdk
    walk_at "mn"
    simp only [hN6]
    walk_at "mn"
    refine wpx_of_wp (r_draw (by omega) g6.tp (by rw [List.length_map]; omega)) ?_
    rintro _ S7 ⟨v7, rfl, v70, v71, f7⟩
    have g7 := g6.trans f7
    have hN7 := g7.keep _ _ (by omega) hN
    walk_at "mn"
    simp only [hN7]
    walk_at "mn"
    refine pick_str v70 (by rw [List.length_map] at v71; omega) ?_
    intro s hs
    walk_at "mn"
    obtain ⟨lf, hlf, l1', l2'⟩ : ∃ lf : Cn, D.tup [dk, D.str s] = lf.d ∧ lf.ok vis ∧ lf.sz = 1 := by
      rcases hdk with rfl | rfl
      · exact ⟨.call s, rfl, nm s hs, rfl⟩
      · exact ⟨.flag s, rfl, ⟨nm s hs, hs⟩, rfl⟩
    rw [hlf]
    refine wpx_of_wp (r_draw (by omega) g7.tp (by decide)) ?_
    rintro _ S8 ⟨v8, rfl, v80, v81, f8⟩
    have g8 := g7.trans f8
    walk_at "mn"
    have pa := fun o => parts_ok (o := o) c1
    have pl := fun o => parts_ok (o := o) l1'
    have ja := fun o => joined_ok (o := o) c1 l1'
    have jb := fun o => joined_ok (o := o) l1' c1
    have la := fun o => cszs_len (parts o c)
    have lb := fun o => cszs_len (parts o lf)
    by_cases h2 : v8 < 2
    · simp only [h2, decide_true]
      walk_at "mn"
      exact ⟨.no c, _, _, _, rfl, g8, c1, by simp only [Cn.sz]; omega⟩
    · simp only [h2, decide_false]
      walk_at "mn"
      simp only [b__law_great_3]
      walk_at "mn"
      by_cases h4 : v8 < 4
      · simp only [h4, decide_true]
        walk_at "mn"
        simp only [b__law_great_1]
        walk_at "mn"
        simp only [ap_self]
        walk_at "mn"
        have g9 := g8.push (.lst [D.str "and", D.str "or"])
        refine w_pick (P := fun d => ∃ o, d = .str (wd o)) (show 0 ≤ v8 - 2 by omega) (by simp; omega) ?_ ?_
        · intro d hd
          simp only [List.mem_cons, List.mem_nil_iff, or_false] at hd
          rcases hd with rfl | rfl
          · exact ⟨false, rfl⟩
          · exact ⟨true, rfl⟩
        rintro _ ⟨o, rfl⟩
        walk_at "mn"
        have h1 := pa o
        have h2 := pl o
        have h3 := la o
        have h4 := lb o
        refine wpx_of_wp (by_val (v_joined (by omega) (by omega) (by omega) (by omega) (by omega)) (by simp [Mn.plains, Mn.plain, cn_plain]) (cn_plain _)) ?_
        rintro _ S9 ⟨rfl, k9⟩
        walk_at "mn"
        exact ⟨joined o c lf, _, _, _, rfl, ⟨Nat.le_trans g9.len k9.len, fun i e hi q => k9.keep _ _ (g9.keep i e hi q), g9.tp.kp' k9⟩, (ja o).1, by have := (ja o).2; omega⟩
      · simp only [h4, decide_false]
        walk_at "mn"
        simp only [b__law_great_2]
        walk_at "mn"
        simp only [ap_self]
        walk_at "mn"
        have g9 := g8.push (.lst [D.str "and", D.str "or"])
        refine w_pick (P := fun d => ∃ o, d = .str (wd o)) (show 0 ≤ v8 - 4 by omega) (by simp; omega) ?_ ?_
        · intro d hd
          simp only [List.mem_cons, List.mem_nil_iff, or_false] at hd
          rcases hd with rfl | rfl
          · exact ⟨false, rfl⟩
          · exact ⟨true, rfl⟩
        rintro _ ⟨o, rfl⟩
        walk_at "mn"
        have h1 := pa o
        have h2 := pl o
        have h3 := la o
        have h4 := lb o
        refine wpx_of_wp (by_val (v_joined (by omega) (by omega) (by omega) (by omega) (by omega)) (by simp [Mn.plains, Mn.plain, cn_plain]) (cn_plain _)) ?_
        rintro _ S9 ⟨rfl, k9⟩
        walk_at "mn"
        exact ⟨joined o lf c, _, _, _, rfl, ⟨Nat.le_trans g9.len k9.len, fun i e hi q => k9.keep _ _ (g9.keep i e hi q), g9.tp.kp' k9⟩, (jb o).1, by have := (jb o).2; omega⟩
  · rintro env S' ⟨c, z3, z4, z5, rfl, f, c1, c2⟩
    rw [then_nx]
    simp only [b__law_great_5]
    walk_at "mn"
    exact ⟨c, rfl, c1, by omega, f⟩
open Pg PySem.StrLaws
theorem g_len : (Str.ofString " && ").length = 4 ∧ (Str.ofString " || ").length = 4 := by decide +kernel
theorem v_part {vis : List Str} {n : Nat} (c : Cn) (hc : c.ok vis) (hs : c.sz ≤ 400) (h : callV defs glob n "show_condition" [c.d] = .ok (.str c.tx)) :
    callV defs glob (n + 1) "show_part" [c.d, .tup [.str sOr]] = .ok (.str (par (isOp true c) c.tx)) ∧ callV defs glob (n + 1) "show_part" [c.d, .tup [.str sAnd, .str sOr]] = .ok (.str (par (isOp false c || isOp true c) c.tx)) := by
  have hl := (tx_len c hc).1
  have e1 : (sOr == hdw c) = isOp true c := by rw [← hdw_eq]; exact BEq.comm
  have e2 : (sAnd == hdw c) = isOp false c := by rw [← hdw_eq]; exact BEq.comm
  have i1 : inAll (.str (hdw c)) [.str sOr] = some (isOp true c) := by
    rw [show ([.str sOr] : List D) = [sOr].map .str from rfl, inAll_strs, ← e1]
    simp
  have i2 : inAll (.str (hdw c)) [.str sAnd, .str sOr] = some (isOp false c || isOp true c) := by
    rw [show ([.str sAnd, .str sOr] : List D) = [sAnd, sOr].map .str from rfl, inAll_strs, ← e1, ← e2]
    simp
  rw [cd_eq c] at h ⊢
  constructor
  · refine y_call (d := d_show_part) rfl (by decide +kernel) rfl ?_
    show (vSs _ b_show_part [some _, some _]).bind retV = _
    simp only [b_show_part]
    walk_at "vl"
    rw [i1]
    cases e : isOp true c with
    | true =>
      walk_at "vl"
      simp only [b_show_part_1]
      walk_at "vl"
      rw [h]
      walk_at "vl"
      rw [y_ok2 (by rw [l_lp]; omega)]
      walk_at "vl"
      rw [y_ok2 (by rw [strLen_append, l_lp, l_rp]; omega)]
      walk_at "vl"
      simp only [par, if_true, Str.append_assoc]
    | false =>
      walk_at "vl"
      simp only [b_show_part_2]
      walk_at "vl"
      rw [h]
      walk_at "vl"
      simp only [par, Bool.false_eq_true, if_false]
  · refine y_call (d := d_show_part) rfl (by decide +kernel) rfl ?_
    show (vSs _ b_show_part [some _, some _]).bind retV = _
    simp only [b_show_part]
    walk_at "vl"
    rw [i2]
    cases e : (isOp false c || isOp true c) with
    | true =>
      walk_at "vl"
      simp only [b_show_part_1]
      walk_at "vl"
      rw [h]
      walk_at "vl"
      rw [y_ok2 (by rw [l_lp]; omega)]
      walk_at "vl"
      rw [y_ok2 (by rw [strLen_append, l_lp, l_rp]; omega)]
      walk_at "vl"
      simp only [par, if_true, Str.append_assoc]
    | false =>
      walk_at "vl"
      simp only [b_show_part_2]
      walk_at "vl"
      rw [h]
      walk_at "vl"
      simp only [par, Bool.false_eq_true, if_false]
theorem strs_enc {α : Type} {f : α → Str} : ∀ {l : List α}, strsD (l.map fun a => .str (f a)) = some (l.map f)
  | [] => rfl
  | a :: l => by rw [List.map_cons, strsD, strs_enc]; rfl
theorem v_show {vis : List Str} : ∀ (m : Nat) (c : Cn) (n : Nat), c.dp ≤ m → 2 * m ≤ n → c.ok vis → c.sz ≤ 400 → callV defs glob n "show_condition" [c.d] = .ok (.str c.tx) := by
  intro m
  induction m with
  | zero => intro c n h; cases c <;> simp [Cn.dp] at h
  | succ m ih =>
    intro c n hm hn hc hs
    obtain ⟨n, rfl⟩ : ∃ k, n = k + 2 := ⟨n - 2, by omega⟩
    refine y_call (d := d_show_condition) rfl (by decide +kernel) rfl ?_
    show (vSs _ b_show_condition [some c.d, none, none]).bind retV = _
    have hl := (tx_len c hc).1
    simp only [b_show_condition]
    cases c with
    | call s =>
      have h1 : s.length ≤ 70 := hc.1
      simp only [Cn.d]
      walk_at "vl"
      rw [y_ok2 (by rw [l_call]; omega)]
      walk_at "vl"
      rfl
    | flag s =>
      simp only [Cn.d]
      walk_at "vl"
      simp only [b_show_condition_8]
      walk_at "vl"
      rfl
    | no c =>
      rw [Cn.dp] at hm
      rw [Cn.sz] at hs
      have h1 := (tx_len c hc).1
      have h2 := par_len (isOp false c || isOp true c) c.tx
      have hp := (v_part (n := n) c hc (by omega) (ih c n (by omega) (by omega) hc (by omega))).2
      simp only [Cn.d]
      walk_at "vl"
      simp only [b_show_condition_8]
      walk_at "vl"
      simp only [b_show_condition_7]
      walk_at "vl"
      simp only [b_show_condition_5]
      walk_at "vl"
      rw [hp]
      walk_at "vl"
      rw [y_ok2 (by rw [l_no]; omega)]
      walk_at "vl"
      rfl
    | op o ps =>
      rw [Cn.dp] at hm
      rw [Cn.sz] at hs
      have lz := cszs_len ps
      have hb := txs_len o ps hc.2
      have e0 : (wd o == Str.ofString "call") = false := by cases o <;> decide +kernel
      have e1 : (wd o == Str.ofString "flag") = false := by cases o <;> decide +kernel
      have e2 : (wd o == Str.ofString "not") = false := by cases o <;> decide +kernel
      have e3 : (wd o == Str.ofString "and") = !o := by cases o <;> decide +kernel
      simp only [Cn.d, cds_map]
      walk_at "vl"
      rw [e0]
      walk_at "vl"
      simp only [b_show_condition_8]
      walk_at "vl"
      rw [e1]
      walk_at "vl"
      simp only [b_show_condition_7]
      walk_at "vl"
      rw [e2]
      walk_at "vl"
      simp only [b_show_condition_6]
      walk_at "vl"
      rw [e3]
      have ht : Cn.txs o ps = ps.map fun p => par (!o && isOp true p) p.tx := txs_map ps
      have hlj : ∀ a : Str, a.length = 4 → guardV (decide (lenJ a (ps.map fun p => par (!o && isOp true p) p.tx) ≤ 16777216)) = .ok () := by
        intro a ha
        rw [← ht]
        have : lenJ a (Cn.txs o ps) ≤ 16777216 := by
          unfold lenJ
          rw [ha, show (Cn.txs o ps).length = ps.length by rw [ht, List.length_map]]
          have := hb.1
          omega
        rw [decide_eq_true this]
        rfl
      cases o with
      | false =>
        walk_at "vl"
        simp only [b_show_condition_3]
        walk_at "vl"
        rw [y_len (by simp; omega)]
        walk_at "vl"
        rw [compV_enc (F := fun p : Cn => .str (par (isOp true p) p.tx)) ps [] (fun a _ => rfl) ?_ (by simp; omega)]
        rotate_left
        · intro a ha
          have h1 := csz_mem ha
          have ha' := coks_all.mp hc.2 a ha
          simp only [e_show_condition_1]
          walk_at "vl"
          exact (v_part (n := n) a ha' (by omega) (ih a n (by omega) (by omega) ha' (by omega))).1
        walk_at "vl"
        rw [List.nil_append, strs_enc]
        walk_at "vl"
        have := hlj " && " g_len.1
        simp only [Bool.not_false, Bool.true_and] at this
        rw [this]
        walk_at "vl"
        simp only [Cn.tx, ht, Bool.not_false, Bool.true_and, Bool.false_eq_true, if_false]
      | true =>
        walk_at "vl"
        simp only [b_show_condition_4]
        walk_at "vl"
        rw [y_len (by simp; omega)]
        walk_at "vl"
        rw [compV_enc (F := fun p : Cn => .str p.tx) ps [] (fun a _ => rfl) ?_ (by simp; omega)]
        rotate_left
        · intro a ha
          have h1 := csz_mem ha
          have ha' := coks_all.mp hc.2 a ha
          simp only [e_show_condition_2]
          walk_at "vl"
          exact ih a (n + 1) (by omega) (by omega) ha' (by omega)
        walk_at "vl"
        rw [List.nil_append, strs_enc]
        walk_at "vl"
        have hpar : (ps.map fun p => par (!true && isOp true p) p.tx) = ps.map Cn.tx := by
          refine List.map_congr_left fun p _ => ?_
          simp [par]
        have := hlj " || " g_len.2
        rw [hpar] at this ht
        rw [this]
        walk_at "vl"
        simp only [Cn.tx, ht, if_true]
open Pg PySem.StrLaws
theorem s_1 : (Str.ofString "();").length = 3 := by decide +kernel
theorem s_2 : (Str.ofString "let ").length = 4 := by decide +kernel
theorem s_3 : (Str.ofString " = ").length = 3 := by decide +kernel
theorem s_4 : (Str.ofString ";").length = 1 := by decide +kernel
theorem s_5 : (Str.ofString " ").length = 1 := by decide +kernel
theorem s_6 : (Str.ofString ": ").length = 2 := by decide +kernel
theorem s_7 : sBreak.length = 5 := by decide +kernel
theorem s_8 : sContinue.length = 8 := by decide +kernel
theorem s_9 : sReturn.length = 6 := by decide +kernel
theorem trt_len (v : Bool) : (trt v).length ≤ 5 := by cases v <;> decide +kernel
theorem glob_truths : glob "TRUTHS" = some (.tup [.str "false", .str "true"]) := by rfl
def flat : Pg.St → Bool
  | .ife _ _ _ => false
  | .whl _ _ _ => false
  | .fr _ _ => false
  | .tr _ _ => false
  | .blk _ => false
  | _ => true
theorem num_str {i : Int} (h : 0 ≤ i ∧ i < 100) : decide (i.natAbs.log2 < 1920) = true ∧ (Str.ofString (toString i)).length ≤ 10 := by
  constructor
  · rw [decide_eq_true_iff]
    have := Nat.log2_le_self i.natAbs
    omega
  · have h2 : ∀ j : Nat, j < 100 → (Str.ofString (toString ((j : Nat) : Int))).length ≤ 10 := by decide +kernel
    obtain ⟨j, rfl⟩ : ∃ j : Nat, i = j := ⟨i.toNat, by omega⟩
    exact h2 j (by omega)
theorem y_strS {x : Str} : biV .str [.str x] = .ok (.str x) := rfl
set_option maxHeartbeats 1000000 in
theorem v_simple {vis : List Str} {n : Nat} (p : Pg.St) (hn : 1 ≤ n) (h : p.wk vis) (hf : flat p = true) : callV defs glob n "show_simple" [p.d] = .ok (.str p.smp) := by
  obtain ⟨n, rfl⟩ : ∃ k, n = k + 1 := ⟨n - 1, by omega⟩
  refine y_call (d := d_show_simple) rfl (by decide +kernel) rfl ?_
  show (vSs _ b_show_simple [some p.d, none]).bind retV = _
  simp only [b_show_simple]
  cases p with
  | call s =>
    have h1 : s.length ≤ 70 := h.1
    simp only [Pg.St.d]
    walk_at "vl"
    rw [y_ok2 (by rw [s_1]; omega)]
    walk_at "vl"
    rfl
  | lt x v =>
    have h1 : x.length ≤ 70 := h.1
    simp only [Pg.St.d]
    walk_at "vl"
    simp only [b_show_simple_4]
    walk_at "vl"
    rw [y_ok2 (by rw [s_2]; omega)]
    walk_at "vl"
    rw [y_ok2 (by rw [strLen_append, s_2, s_3]; omega)]
    walk_at "vl"
    have hv := trt_len v
    rw [glob_truths]
    walk_at "vl"
    rw [show optV (atI [D.str "false", D.str "true"] (if v = true then 1 else 0)) = .ok (.str (trt v)) by cases v <;> rfl]
    walk_at "vl"
    rw [y_ok2 (by rw [strLen_append, strLen_append, s_2, s_3]; omega)]
    walk_at "vl"
    rw [y_ok2 (by rw [strLen_append, strLen_append, strLen_append, s_2, s_3, s_4]; omega)]
    walk_at "vl"
    simp only [Pg.St.smp, Str.append_assoc]
  | st x v =>
    have h1 : x.length ≤ 70 := h.1
    have hv := trt_len v
    simp only [Pg.St.d]
    walk_at "vl"
    simp only [b_show_simple_4]
    walk_at "vl"
    simp only [b_show_simple_3]
    walk_at "vl"
    rw [y_ok2 (by rw [s_3]; omega)]
    walk_at "vl"
    rw [glob_truths]
    walk_at "vl"
    rw [show optV (atI [D.str "false", D.str "true"] (if v = true then 1 else 0)) = .ok (.str (trt v)) by cases v <;> rfl]
    walk_at "vl"
    rw [y_ok2 (by rw [strLen_append, s_3]; omega)]
    walk_at "vl"
    rw [y_ok2 (by rw [strLen_append, strLen_append, s_3, s_4]; omega)]
    walk_at "vl"
    simp only [Pg.St.smp, Str.append_assoc]
  | brk l =>
    simp only [Pg.St.d]
    walk_at "vl"
    simp only [b_show_simple_4]
    walk_at "vl"
    simp only [b_show_simple_3]
    walk_at "vl"
    simp only [b_show_simple_2]
    walk_at "vl"
    cases l with
    | none =>
      simp only [lb]
      walk_at "vl"
      rw [y_ok2 (by rw [s_7, s_4]; omega)]
      walk_at "vl"
      rfl
    | some s =>
      have h1 : s.length ≤ 70 := h.1
      simp only [lb]
      walk_at "vl"
      simp only [b_show_simple_1]
      walk_at "vl"
      rw [y_ok2 (by rw [s_7, s_5]; omega)]
      walk_at "vl"
      rw [y_strS]
      walk_at "vl"
      rw [y_ok2 (by rw [strLen_append, s_7, s_5]; omega)]
      walk_at "vl"
      rw [y_ok2 (by rw [strLen_append, strLen_append, s_7, s_5, s_4]; omega)]
      walk_at "vl"
      simp only [Pg.St.smp, Str.append_assoc]
  | cnt l =>
    simp only [Pg.St.d]
    walk_at "vl"
    simp only [b_show_simple_4]
    walk_at "vl"
    simp only [b_show_simple_3]
    walk_at "vl"
    simp only [b_show_simple_2]
    walk_at "vl"
    cases l with
    | none =>
      simp only [lb]
      walk_at "vl"
      rw [y_ok2 (by rw [s_8, s_4]; omega)]
      walk_at "vl"
      rfl
    | some s =>
      have h1 : s.length ≤ 70 := h.1
      simp only [lb]
      walk_at "vl"
      simp only [b_show_simple_1]
      walk_at "vl"
      rw [y_ok2 (by rw [s_8, s_5]; omega)]
      walk_at "vl"
      rw [y_strS]
      walk_at "vl"
      rw [y_ok2 (by rw [strLen_append, s_8, s_5]; omega)]
      walk_at "vl"
      rw [y_ok2 (by rw [strLen_append, strLen_append, s_8, s_5, s_4]; omega)]
      walk_at "vl"
      simp only [Pg.St.smp, Str.append_assoc]
  | ret o =>
    simp only [Pg.St.d]
    walk_at "vl"
    simp only [b_show_simple_4]
    walk_at "vl"
    simp only [b_show_simple_3]
    walk_at "vl"
    simp only [b_show_simple_2]
    walk_at "vl"
    cases o with
    | none =>
      simp only [nb]
      walk_at "vl"
      rw [y_ok2 (by rw [s_9, s_4]; omega)]
      walk_at "vl"
      rfl
    | some i =>
      have hi := num_str (show 0 ≤ i ∧ i < 100 from h)
      simp only [nb]
      walk_at "vl"
      simp only [b_show_simple_1]
      walk_at "vl"
      rw [y_ok2 (by rw [s_9, s_5]; omega)]
      walk_at "vl"
      rw [hi.1]
      walk_at "vl"
      rw [y_ok2 (by have := hi.2; rw [strLen_append, s_9, s_5]; omega)]
      walk_at "vl"
      rw [y_ok2 (by have := hi.2; rw [strLen_append, strLen_append, s_9, s_5, s_4]; omega)]
      walk_at "vl"
      simp only [Pg.St.smp, Str.append_assoc]
  | _ => cases hf
open Pg PySem.StrLaws
theorem str_e (x : Str) : Str.ofString "" ++ x = x := by
  show (⟨#[] ++ x.cps⟩ : Str) = x
  simp
theorem v_head {vis : List Str} {n : Nat} {l : Option Str} {c : Cn} {X : D} (hn : 2 * c.dp + 1 ≤ n) (hl : lbOk l) (hc : c.ok vis) (hs : c.sz ≤ 400) : callV defs glob n "loop_head" [.tup [.str sWhile, lb l, c.d, X]] = .ok (.str (lbt l ++ ("while (" ++ (c.tx ++ ") {")))) := by
  obtain ⟨n, rfl⟩ : ∃ k, n = k + 1 := ⟨n - 1, by omega⟩
  refine y_call (d := d_loop_head) rfl (by decide +kernel) rfl ?_
  show (vSs _ b_loop_head [some _, none]).bind retV = _
  have ht := (tx_len c hc).1
  have hv := v_show c.dp c n (Nat.le_refl _) (by omega) hc hs
  simp only [b_loop_head]
  cases l with
  | none =>
    simp only [lb]
    walk_at "vl"
    simp only [b_loop_head_3]
    walk_at "vl"
    simp only [b_loop_head_1]
    walk_at "vl"
    rw [y_ok2 (by rw [l_e, l_wh]; omega)]
    walk_at "vl"
    rw [hv]
    walk_at "vl"
    rw [y_ok2 (by rw [strLen_append, l_e, l_wh]; omega)]
    walk_at "vl"
    rw [y_ok2 (by rw [strLen_append, strLen_append, l_e, l_wh, l_ob]; omega)]
    walk_at "vl"
    simp only [lbt, Str.append_assoc]
  | some s =>
    have h1 : s.length ≤ 70 := hl.1
    simp only [lb]
    walk_at "vl"
    rw [y_ok2 (by rw [s_6]; omega)]
    walk_at "vl"
    simp only [b_loop_head_3]
    walk_at "vl"
    simp only [b_loop_head_1]
    walk_at "vl"
    rw [y_ok2 (by rw [strLen_append, s_6, l_wh]; omega)]
    walk_at "vl"
    rw [hv]
    walk_at "vl"
    rw [y_ok2 (by rw [strLen_append, strLen_append, s_6, l_wh]; omega)]
    walk_at "vl"
    rw [y_ok2 (by rw [strLen_append, strLen_append, strLen_append, s_6, l_wh, l_ob]; omega)]
    walk_at "vl"
    simp only [lbt, Str.append_assoc]
theorem v_headf {n : Nat} {l : Option Str} {X : D} (hn : 1 ≤ n) (hl : lbOk l) : callV defs glob n "loop_head" [.tup [.str sFor, lb l, X]] = .ok (.str (lbt l ++ "for (;;) {")) := by
  obtain ⟨n, rfl⟩ : ∃ k, n = k + 1 := ⟨n - 1, by omega⟩
  refine y_call (d := d_loop_head) rfl (by decide +kernel) rfl ?_
  show (vSs _ b_loop_head [some _, none]).bind retV = _
  simp only [b_loop_head]
  cases l with
  | none =>
    simp only [lb]
    walk_at "vl"
    simp only [b_loop_head_3]
    walk_at "vl"
    simp only [b_loop_head_2]
    walk_at "vl"
    rw [y_ok2 (by rw [l_e, l_fr]; omega)]
    walk_at "vl"
    rfl
  | some s =>
    have h1 : s.length ≤ 70 := hl.1
    simp only [lb]
    walk_at "vl"
    rw [y_ok2 (by rw [s_6]; omega)]
    walk_at "vl"
    simp only [b_loop_head_3]
    walk_at "vl"
    simp only [b_loop_head_2]
    walk_at "vl"
    rw [y_ok2 (by rw [strLen_append, s_6, l_fr]; omega)]
    walk_at "vl"
    rfl
/-! lines -/
abbrev L (l : List Str) : D := .lst (l.map .str)
def BlAt (m : Nat) : Prop := ∀ (vis : List Str) (b : List Pg.St) (i : Str) (n : Nat), Pg.St.dps b ≤ m → 3 * m + 1 ≤ n → Pg.St.wks vis b → Pg.St.szs b ≤ 300 → i.length + 2 * m ≤ 400 → callV defs glob n "body_lines" [.tup (Pg.St.ds b), .str i] = .ok (L (Pg.St.lns i b))
def SlAt (m : Nat) : Prop := ∀ (vis : List Str) (p : Pg.St) (i : Str) (n : Nat), p.dp ≤ m → 3 * m ≤ n → p.wk vis → p.sz ≤ 300 → i.length + 2 * m ≤ 400 → callV defs glob n "statement_lines" [p.d, .str i] = .ok (L (p.ln "" i))
def IlAt (m : Nat) : Prop := ∀ (vis : List Str) (c : Cn) (a b : List Pg.St) (st i : Str) (n : Nat), Pg.St.dp (.ife c a b) ≤ m → 3 * m ≤ n + 1 → Pg.St.wk vis (.ife c a b) → Pg.St.sz (.ife c a b) ≤ 300 → i.length + 2 * m ≤ 400 → st.length ≤ 7 → callV defs glob n "if_lines" [Pg.St.d (.ife c a b), .str i, .str st] = .ok (L (Pg.St.ln st i (.ife c a b)))
theorem bl_of {m : Nat} (h : SlAt m) : BlAt m := by
  intro vis b i n hd hn hw hs hi
  obtain ⟨n, rfl⟩ : ∃ k, n = k + 1 := ⟨n - 1, by omega⟩
  refine y_call (d := d_body_lines) rfl (by decide +kernel) rfl ?_
  show (vSs _ b_body_lines [some (.tup (Pg.St.ds b)), some (.str i), none, none]).bind retV = _
  have lz := sszs_len b
  simp only [b_body_lines]
  walk_at "vl"
  rw [sds_map]
  rw [y_len (by simp; omega)]
  walk_at "vl"
  obtain ⟨z', hz'⟩ := forV_s (asg := vP (.nm 3)) (b := vSs ⟨glob, callV defs glob n⟩ b_body_lines_1) (fun (s : List Str) (z : Option D) => [some (.tup (b.map Pg.St.d)), some (.str i), some (L s), z])
    (fun l s => (Pg.St.wks vis l ∧ Pg.St.dps l ≤ m ∧ Pg.St.szs l ≤ 300) ∧ s.length + 3 * Pg.St.szs l ≤ 1000) (ea := Pg.St.d) (g := fun s p => s ++ p.ln "" i) (items := b) (s := []) (j := none) ⟨⟨hw, hd, hs⟩, by simp; omega⟩ (by
      rintro p r s j ⟨⟨h1, h2, h3⟩, h4⟩
      rw [Pg.St.dps] at h2
      rw [Pg.St.szs] at h3 h4
      have hl := ln_len p "" i
      refine ⟨⟨some p.d, ?_⟩, ⟨h1.2, by omega, by omega⟩, by rw [List.length_append]; omega⟩
      simp only [b_body_lines_1]
      walk_at "vl"
      rw [h vis p i n (by omega) (by omega) h1.1 (by omega) hi]
      walk_at "vl"
      rw [y_ok2 (by rw [List.length_map, List.length_map]; omega)]
      walk_at "vl"
      rw [← List.map_append])
  have : ∀ (l : List Pg.St) (s : List Str), l.foldl (fun s p => s ++ p.ln "" i) s = s ++ Pg.St.lns i l := by
    intro l
    induction l with
    | nil => intro s; simp [Pg.St.lns]
    | cons p l ih => intro s; rw [List.foldl_cons, ih, Pg.St.lns, List.append_assoc]
  rw [this] at hz'
  rw [show (D.lst []) = L [] from rfl, hz']
  walk_at "vl"
  simp only [b_body_lines_2]
  walk_at "vl"
  rfl
open Pg PySem.StrLaws
theorem y_addLL {a b : List Str} (h : a.length + b.length ≤ 16777216) : binV .add (L a) (L b) = .ok (L (a ++ b)) := by
  show binV .add (.lst (a.map .str)) (.lst (b.map .str)) = _
  rw [y_addL, y_ok2 (by rw [List.length_append, List.length_map, List.length_map]; exact h), rv_ok]
  simp [L]
theorem isIf_d (p : Pg.St) : ∃ r, p.d = .tup r ∧ ∃ k : Str, r.head? = some (.str k) ∧ (k == sIf) = p.isIf := by
  cases p <;> refine ⟨_, rfl, _, rfl, ?_⟩ <;> simp only [Pg.St.isIf] <;> decide +kernel
theorem il_of {m : Nat} (hB : ∀ j, j < m → BlAt j) (hI : ∀ j, j < m → IlAt j) : IlAt m := by
  intro vis c a b st i n hd hn hw hs hi hst
  rw [Pg.St.dp] at hd
  rw [Pg.St.sz] at hs
  obtain ⟨n, rfl⟩ : ∃ k, n = k + 1 := ⟨n - 1, by omega⟩
  refine y_call (d := d_if_lines) rfl (by decide +kernel) rfl ?_
  show (vSs _ b_if_lines [some (Pg.St.d (.ife c a b)), some (.str i), some (.str st), none, none]).bind retV = _
  have ht := (tx_len c hw.1).1
  have la := lns_len a (i ++ "  ")
  have lbl := sszs_len b
  simp only [b_if_lines, Pg.St.d]
  walk_at "vl"
  rw [y_ok2 (by omega)]
  walk_at "vl"
  rw [y_ok2 (by rw [strLen_append, l_if]; omega)]
  walk_at "vl"
  rw [v_show c.dp c n (Nat.le_refl _) (by omega) hw.1 (by omega)]
  walk_at "vl"
  rw [y_ok2 (by rw [strLen_append, strLen_append, l_if]; omega)]
  walk_at "vl"
  rw [y_ok2 (by rw [strLen_append, strLen_append, strLen_append, l_if, l_ob]; omega)]
  walk_at "vl"
  rw [y_ok2 (by rw [l_in]; omega)]
  walk_at "vl"
  rw [hB (m - 1) (by omega) vis a (i ++ "  ") n (by omega) (by omega) hw.2.1 (by omega) (by rw [strLen_append, l_in]; omega)]
  walk_at "vl"
  rw [y_ok2 (by simp only [List.length_map]; omega)]
  walk_at "vl"
  rw [show i ++ st ++ Str.ofString "if (" ++ c.tx ++ Str.ofString ") {" = i ++ (st ++ ("if (" ++ (c.tx ++ ") {"))) by simp only [Str.append_assoc]]
  generalize hfst : i ++ (st ++ ("if (" ++ (c.tx ++ ") {"))) = fst
  have hrest : Pg.St.ln st i (.ife c a b) = fst :: (Pg.St.lns (i ++ "  ") a ++ Pg.St.els i b) := by rw [Pg.St.ln, hfst]
  rw [hrest]
  rw [show D.lst ([D.str fst] ++ (Pg.St.lns (i ++ "  ") a).map .str) = L (fst :: Pg.St.lns (i ++ "  ") a) by simp [L]]
  cases b with
  | nil =>
    simp only [Pg.St.ds]
    walk_at "vl"
    rw [show (((0 : Nat) : Int) == 0) = true from rfl]
    walk_at "vl"
    rw [y_ok2 (by rw [l_cb]; omega)]
    walk_at "vl"
    rw [y_ok2 (by simp only [List.length_append, List.length_map, List.length_cons, List.length_nil]; omega)]
    walk_at "vl"
    rw [Pg.St.els]
    simp [L]
  | cons p ps =>
    rw [Pg.St.dps] at hd
    rw [Pg.St.szs] at hs
    have e0 : ((((Pg.St.ds (p :: ps)).length : Nat) : Int) == 0) = false := by rw [sds_map]; simp; omega
    rw [e0]
    walk_at "vl"
    simp only [b_if_lines_3]
    walk_at "vl"
    -- the other lines
    have other : (ps.isEmpty && p.isIf) = false → (vSs ⟨glob, callV defs glob n⟩ b_if_lines_2 [some (.tup [.str sIf, c.d, .tup (Pg.St.ds a), .tup (Pg.St.ds (p :: ps))]), some (.str i), some (.str st), some (L (fst :: Pg.St.lns (i ++ "  ") a)), some (.tup (Pg.St.ds (p :: ps)))]).bind retV = .ok (L (fst :: (Pg.St.lns (i ++ "  ") a ++ Pg.St.els i (p :: ps)))) := by
      intro he
      have lb := lns_len (p :: ps) (i ++ "  ")
      rw [Pg.St.szs] at lb
      simp only [b_if_lines_2]
      walk_at "vl"
      rw [y_ok2 (by rw [l_el]; omega)]
      walk_at "vl"
      rw [y_lt16 (by simp; omega)]
      walk_at "vl"
      rw [y_ok2 (by rw [l_in]; omega)]
      walk_at "vl"
      rw [hB (m - 1) (by omega) vis (p :: ps) (i ++ "  ") n (by rw [Pg.St.dps]; omega) (by omega) hw.2.2 (by rw [Pg.St.szs]; omega) (by rw [strLen_append, l_in]; omega)]
      walk_at "vl"
      rw [y_ok2 (by simp only [List.length_append, List.length_map, List.length_cons, List.length_nil]; omega)]
      walk_at "vl"
      rw [y_ok2 (by rw [l_cb]; omega)]
      walk_at "vl"
      rw [y_ok2 (by simp only [List.length_append, List.length_map, List.length_cons, List.length_nil]; omega)]
      walk_at "vl"
      rw [Pg.St.els, he]
      simp [L, Pg.St.lns]
    cases ps with
    | cons q ps =>
      have e1 : ((((Pg.St.ds (p :: q :: ps)).length : Nat) : Int) == 1) = false := by rw [sds_map]; simp; omega
      rw [e1]
      walk_at "vl"
      exact other (by simp)
    | nil =>
      obtain ⟨r, hr, k, hk, hi'⟩ := isIf_d p
      cases r with
      | nil => cases hk
      | cons d0 r =>
        cases hk
        have e1 : ((((Pg.St.ds [p]).length : Nat) : Int) == 1) = true := by rw [sds_map]; rfl
        rw [e1]
        have hds : Pg.St.ds [p] = [.tup (.str k :: r)] := by rw [Pg.St.ds, Pg.St.ds, hr]
        simp only [hds] at other ⊢
        walk_at "vl"
        rw [hi']
        cases hif : p.isIf with
        | false =>
          walk_at "vl"
          exact other (by simp [hif])
        | true =>
          walk_at "vl"
          cases p with
          | ife c2 a2 b2 =>
            have hI2 := hI (m - 1) (by omega) vis c2 a2 b2 "} else " i n (by omega) (by omega) hw.2.2.1 (by omega) (by omega) (by rw [l_ei]; exact Nat.le_refl _)
            rw [hr] at hI2
            simp only [b_if_lines_1]
            walk_at "vl"
            rw [hI2]
            walk_at "vl"
            have l2 := ln_len (.ife c2 a2 b2) "} else " i
            rw [y_ok2 (by simp only [List.length_append, List.length_map, List.length_cons, List.length_nil]; omega)]
            walk_at "vl"
            rw [Pg.St.els]
            simp [L, Pg.St.isIf]
          | _ => cases hif
open Pg PySem.StrLaws
theorem sl_of {m : Nat} (hB : ∀ j, j < m → BlAt j) (hI : IlAt m) : SlAt m := by
  intro vis p i n hd hn hw hs hi
  have pz : 1 ≤ p.dp := by cases p <;> simp only [Pg.St.dp] <;> omega
  obtain ⟨n, rfl⟩ : ∃ k, n = k + 1 := ⟨n - 1, by omega⟩
  refine y_call (d := d_statement_lines) rfl (by decide +kernel) rfl ?_
  show (vSs _ b_statement_lines [some p.d, some (.str i), none, none]).bind retV = _
  have B := fun (b : List Pg.St) (h1 : Pg.St.dps b ≤ m - 1) (h2 : Pg.St.wks vis b) (h3 : Pg.St.szs b ≤ 300) => hB (m - 1) (by omega) vis b (i ++ "  ") n h1 (by omega) h2 h3 (by rw [strLen_append, l_in]; omega)
  have lbn := fun (b : List Pg.St) => lns_len b (i ++ "  ")
  -- a flat statement
  have flt : ∀ (q : Pg.St) (z2 z3 : Option D), q.wk vis → flat q = true → (vSs ⟨glob, callV defs glob n⟩ b_statement_lines_2 [some q.d, some (.str i), z2, z3]).bind retV = .ok (L [i ++ q.smp]) := by
    intro q z2 z3 h1 h2
    have h3 := (smp_len q h1).1
    simp only [b_statement_lines_2]
    walk_at "vl"
    rw [v_simple q (by omega) h1 h2]
    walk_at "vl"
    rw [y_ok2 (by omega)]
    walk_at "vl"
    rfl
  simp only [b_statement_lines]
  cases p with
  | ife c a b =>
    have h := hI vis c a b "" i n hd (by omega) hw hs hi (by rw [l_e]; omega)
    simp only [Pg.St.d] at h ⊢
    walk_at "vl"
    simp only [b_statement_lines_7]
    walk_at "vl"
    rw [h]
    walk_at "vl"
  | whl l c b =>
    rw [Pg.St.dp] at hd
    rw [Pg.St.sz] at hs
    have h0 := (lbt_len hw.1).1
    have h1 := (tx_len c hw.2.1).1
    simp only [Pg.St.d]
    walk_at "vl"
    simp only [b_statement_lines_8]
    walk_at "vl"
    simp only [b_statement_lines_5]
    walk_at "vl"
    rw [v_head (by omega) hw.1 hw.2.1 (by omega)]
    walk_at "vl"
    rw [y_ok2 (by rw [strLen_append, strLen_append, strLen_append, l_wh, l_ob]; omega)]
    walk_at "vl"
    rw [show atI [D.str sWhile, lb l, c.d, D.tup (Pg.St.ds b)] (-1) = some (.tup (Pg.St.ds b)) from rfl]
    walk_at "vl"
    rw [y_ok2 (by rw [l_in]; omega)]
    walk_at "vl"
    rw [B b (by omega) hw.2.2 (by omega)]
    walk_at "vl"
    have := lbn b
    rw [y_ok2 (by simp only [List.length_append, List.length_map, List.length_cons, List.length_nil]; omega)]
    walk_at "vl"
    rw [y_ok2 (by rw [l_cb]; omega)]
    walk_at "vl"
    rw [y_ok2 (by simp only [List.length_append, List.length_map, List.length_cons, List.length_nil]; omega)]
    walk_at "vl"
    rw [Pg.St.ln]
    simp [L]
  | fr l b =>
    rw [Pg.St.dp] at hd
    rw [Pg.St.sz] at hs
    have h0 := (lbt_len hw.1).1
    simp only [Pg.St.d]
    walk_at "vl"
    simp only [b_statement_lines_8]
    walk_at "vl"
    simp only [b_statement_lines_5]
    walk_at "vl"
    rw [v_headf (by omega) hw.1]
    walk_at "vl"
    rw [y_ok2 (by rw [strLen_append, l_fr]; omega)]
    walk_at "vl"
    rw [show atI [D.str sFor, lb l, D.tup (Pg.St.ds b)] (-1) = some (.tup (Pg.St.ds b)) from rfl]
    walk_at "vl"
    rw [y_ok2 (by rw [l_in]; omega)]
    walk_at "vl"
    rw [B b (by omega) hw.2 (by omega)]
    walk_at "vl"
    have := lbn b
    rw [y_ok2 (by simp only [List.length_append, List.length_map, List.length_cons, List.length_nil]; omega)]
    walk_at "vl"
    rw [y_ok2 (by rw [l_cb]; omega)]
    walk_at "vl"
    rw [y_ok2 (by simp only [List.length_append, List.length_map, List.length_cons, List.length_nil]; omega)]
    walk_at "vl"
    rw [Pg.St.ln]
    simp [L]
  | blk b =>
    rw [Pg.St.dp] at hd
    rw [Pg.St.sz] at hs
    simp only [Pg.St.d]
    walk_at "vl"
    simp only [b_statement_lines_8]
    walk_at "vl"
    simp only [b_statement_lines_6]
    walk_at "vl"
    simp only [b_statement_lines_3]
    walk_at "vl"
    rw [y_ok2 (by rw [l_br]; omega)]
    walk_at "vl"
    rw [y_ok2 (by rw [l_in]; omega)]
    walk_at "vl"
    rw [B b (by omega) hw (by omega)]
    walk_at "vl"
    have := lbn b
    rw [y_ok2 (by simp only [List.length_append, List.length_map, List.length_cons, List.length_nil]; omega)]
    walk_at "vl"
    rw [y_ok2 (by rw [l_cb]; omega)]
    walk_at "vl"
    rw [y_ok2 (by simp only [List.length_append, List.length_map, List.length_cons, List.length_nil]; omega)]
    walk_at "vl"
    rw [Pg.St.ln]
    simp [L]
  | tr a b =>
    rw [Pg.St.dp] at hd
    rw [Pg.St.sz] at hs
    simp only [Pg.St.d]
    walk_at "vl"
    simp only [b_statement_lines_8]
    walk_at "vl"
    simp only [b_statement_lines_6]
    walk_at "vl"
    simp only [b_statement_lines_4]
    walk_at "vl"
    simp only [b_statement_lines_1]
    walk_at "vl"
    rw [y_ok2 (by rw [l_tr]; omega)]
    walk_at "vl"
    rw [y_ok2 (by rw [l_in]; omega)]
    walk_at "vl"
    rw [B a (by omega) hw.1 (by omega)]
    walk_at "vl"
    have h1 := lbn a
    have h2 := lbn b
    rw [y_ok2 (by simp only [List.length_append, List.length_map, List.length_cons, List.length_nil]; omega)]
    walk_at "vl"
    rw [y_ok2 (by rw [l_fi]; omega)]
    walk_at "vl"
    rw [y_ok2 (by simp only [List.length_append, List.length_map, List.length_cons, List.length_nil]; omega)]
    walk_at "vl"
    rw [y_ok2 (by rw [l_in]; omega)]
    walk_at "vl"
    rw [B b (by omega) hw.2 (by omega)]
    walk_at "vl"
    rw [y_ok2 (by simp only [List.length_append, List.length_map, List.length_cons, List.length_nil]; omega)]
    walk_at "vl"
    rw [y_ok2 (by rw [l_cb]; omega)]
    walk_at "vl"
    rw [y_ok2 (by simp only [List.length_append, List.length_map, List.length_cons, List.length_nil]; omega)]
    walk_at "vl"
    rw [Pg.St.ln]
    simp [L]
  | call s =>
    have f := flt (.call s) (some (.str sCall)) none hw rfl
    simp only [Pg.St.d] at f ⊢
    walk_at "vl"
    simp only [b_statement_lines_8]
    walk_at "vl"
    simp only [b_statement_lines_6]
    walk_at "vl"
    simp only [b_statement_lines_4]
    walk_at "vl"
    exact f
  | lt x v =>
    have f := flt (.lt x v) (some (.str sLet)) none hw rfl
    simp only [Pg.St.d] at f ⊢
    walk_at "vl"
    simp only [b_statement_lines_8]
    walk_at "vl"
    simp only [b_statement_lines_6]
    walk_at "vl"
    simp only [b_statement_lines_4]
    walk_at "vl"
    exact f
  | st x v =>
    have f := flt (.st x v) (some (.str sSet)) none hw rfl
    simp only [Pg.St.d] at f ⊢
    walk_at "vl"
    simp only [b_statement_lines_8]
    walk_at "vl"
    simp only [b_statement_lines_6]
    walk_at "vl"
    simp only [b_statement_lines_4]
    walk_at "vl"
    exact f
  | brk l =>
    have f := flt (.brk l) (some (.str sBreak)) none hw rfl
    simp only [Pg.St.d] at f ⊢
    walk_at "vl"
    simp only [b_statement_lines_8]
    walk_at "vl"
    simp only [b_statement_lines_6]
    walk_at "vl"
    simp only [b_statement_lines_4]
    walk_at "vl"
    exact f
  | cnt l =>
    have f := flt (.cnt l) (some (.str sContinue)) none hw rfl
    simp only [Pg.St.d] at f ⊢
    walk_at "vl"
    simp only [b_statement_lines_8]
    walk_at "vl"
    simp only [b_statement_lines_6]
    walk_at "vl"
    simp only [b_statement_lines_4]
    walk_at "vl"
    exact f
  | ret o =>
    have f := flt (.ret o) (some (.str sReturn)) none hw rfl
    simp only [Pg.St.d] at f ⊢
    walk_at "vl"
    simp only [b_statement_lines_8]
    walk_at "vl"
    simp only [b_statement_lines_6]
    walk_at "vl"
    simp only [b_statement_lines_4]
    walk_at "vl"
    exact f
theorem lines_all : ∀ m, BlAt m ∧ SlAt m ∧ IlAt m := by
  intro m
  induction m using Nat.strongRecOn with
  | ind m ih =>
    have hI : IlAt m := il_of (fun j h => (ih j h).1) (fun j h => (ih j h).2.2)
    have hS : SlAt m := sl_of (fun j h => (ih j h).1) hI
    exact ⟨bl_of hS, hS, hI⟩
/-- the whole text -/
def ptext (b : List Pg.St) : Str := Txt.join "" ((Pg.St.lns "" b).map (· ++ "\n"))
theorem v_program {vis : List Str} {b : List Pg.St} {n m : Nat} (hd : Pg.St.dps b ≤ m) (hn : 3 * m + 2 ≤ n) (hw : Pg.St.wks vis b) (hs : Pg.St.szs b ≤ 300) (hm : m ≤ 150) : callV defs glob n "show_program" [.tup (Pg.St.ds b)] = .ok (.str (ptext b)) := by
  obtain ⟨n, rfl⟩ : ∃ k, n = k + 1 := ⟨n - 1, by omega⟩
  refine y_call (d := d_show_program) rfl (by decide +kernel) rfl ?_
  show (vSs _ b_show_program [some _, none]).bind retV = _
  have hl := lns_len b ""
  have ht := lns_tot b "" 300 hw (by rw [l_e]; omega) (by decide +kernel)
  simp only [b_show_program]
  walk_at "vl"
  rw [(lines_all m).1 vis b "" n hd (by omega) hw hs (by rw [l_e]; omega)]
  walk_at "vl"
  rw [y_len (by simp; omega)]
  walk_at "vl"
  have each : ∀ x ∈ Pg.St.lns "" b, x.length ≤ tot (Pg.St.lns "" b) := by
    generalize Pg.St.lns "" b = l
    intro x hx
    induction l with
    | nil => cases hx
    | cons y l ih =>
      rw [tot_cons]
      rcases List.mem_cons.mp hx with rfl | hx
      · omega
      · have := ih hx; omega
  rw [compV_enc (ea := D.str) (F := fun x : Str => .str (x ++ "\n")) (Pg.St.lns "" b) [] (fun a _ => rfl) ?_ (by simp; omega)]
  rotate_left
  · intro x hx
    have := each x hx
    simp only [e_show_program_1]
    walk_at "vl"
    rw [y_ok2 (by rw [show (Str.ofString "\n").length = 1 by decide +kernel]; omega)]
    walk_at "vl"
  walk_at "vl"
  rw [List.nil_append, strs_enc]
  walk_at "vl"
  have : lenJ "" ((Pg.St.lns "" b).map fun x => x ++ "\n") ≤ 16777216 := by
    unfold lenJ
    rw [l_e, Nat.mul_zero, Nat.add_zero]
    have e : ∀ l : List Str, ((l.map fun x => x ++ Str.ofString "\n").map (·.length)).sum = tot l + l.length := by
      intro l
      induction l with
      | nil => rfl
      | cons x l ih => rw [List.map_cons, List.map_cons, List.sum_cons, ih, tot_cons, strLen_append, show (Str.ofString "\n").length = 1 by decide +kernel, List.length_cons]; omega
    rw [e]
    omega
  rw [decide_eq_true this]
  walk_at "vl"
  rfl
open Pg PySem.StrLaws
theorem l_nl : (Str.ofString "!(").length = 2 := by decide +kernel
theorem no_lp : Str.ofString "!(" = Str.ofString "!" ++ Str.ofString "(" := by decide +kernel
theorem v_lshown {vis : List Str} : ∀ (m : Nat) (c : Cn) (n : Nat), c.dp ≤ m → m ≤ n → c.ok vis → c.sz ≤ 400 → callV defs glob n "_law_shown" [c.d] = .ok (.str c.tx) := by
  intro m
  induction m with
  | zero => intro c n h; cases c <;> simp [Cn.dp] at h
  | succ m ih =>
    intro c n hm hn hc hs
    obtain ⟨n, rfl⟩ : ∃ k, n = k + 1 := ⟨n - 1, by omega⟩
    refine y_call (d := d__law_shown) rfl (by decide +kernel) rfl ?_
    show (vSs _ b__law_shown [some c.d, none, none, none]).bind retV = _
    have hl := (tx_len c hc).1
    simp only [b__law_shown]
    cases c with
    | call s =>
      have h1 : s.length ≤ 70 := hc.1
      simp only [Cn.d]
      walk_at "vl"
      rw [y_ok2 (by rw [l_call]; omega)]
      walk_at "vl"
      rfl
    | flag s =>
      simp only [Cn.d]
      walk_at "vl"
      simp only [b__law_shown_9]
      walk_at "vl"
      rfl
    | no c =>
      rw [Cn.dp] at hm
      rw [Cn.sz] at hs
      have h1 := (tx_len c hc).1
      have hv := ih c n (by omega) (by omega) hc (by omega)
      have e2 : (hdw c == Str.ofString "and") = isOp false c := hdw_eq c false
      have e3 : (hdw c == Str.ofString "or") = isOp true c := hdw_eq c true
      simp only [Cn.d]
      rw [cd_eq c] at hv ⊢
      walk_at "vl"
      simp only [b__law_shown_9]
      walk_at "vl"
      simp only [b__law_shown_8]
      walk_at "vl"
      simp only [b__law_shown_6]
      walk_at "vl"
      rw [hv]
      walk_at "vl"
      rw [e2]
      have yes : par true c.tx = "(" ++ (c.tx ++ ")") := rfl
      have no : par false c.tx = c.tx := rfl
      cases h2 : isOp false c with
      | true =>
        walk_at "vl"
        rw [y_ok2 (by rw [l_nl]; omega)]
        walk_at "vl"
        rw [y_ok2 (by rw [strLen_append, l_nl, l_rp]; omega)]
        walk_at "vl"
        rw [Cn.tx, h2, Bool.true_or, yes, no_lp]
        simp only [Str.append_assoc]
      | false =>
        walk_at "vl"
        rw [e3]
        cases h3 : isOp true c with
        | true =>
          walk_at "vl"
          rw [y_ok2 (by rw [l_nl]; omega)]
          walk_at "vl"
          rw [y_ok2 (by rw [strLen_append, l_nl, l_rp]; omega)]
          walk_at "vl"
          rw [Cn.tx, h2, h3, Bool.false_or, yes, no_lp]
          simp only [Str.append_assoc]
        | false =>
          walk_at "vl"
          simp only [b__law_shown_5]
          walk_at "vl"
          rw [y_ok2 (by rw [l_no]; omega)]
          walk_at "vl"
          rw [Cn.tx, h2, h3, Bool.false_or, no]
    | op o ps =>
      rw [Cn.dp] at hm
      rw [Cn.sz] at hs
      have lz := cszs_len ps
      have hb := txs_len o ps hc.2
      have e0 : (wd o == Str.ofString "call") = false := by cases o <;> decide +kernel
      have e1 : (wd o == Str.ofString "flag") = false := by cases o <;> decide +kernel
      have e2 : (wd o == Str.ofString "not") = false := by cases o <;> decide +kernel
      have e3 : (wd o == Str.ofString "and") = !o := by cases o <;> decide +kernel
      have ht : Cn.txs o ps = ps.map fun p => par (!o && isOp true p) p.tx := txs_map ps
      simp only [Cn.d, cds_map]
      walk_at "vl"
      rw [e0]
      walk_at "vl"
      simp only [b__law_shown_9]
      walk_at "vl"
      rw [e1]
      walk_at "vl"
      simp only [b__law_shown_8]
      walk_at "vl"
      rw [e2]
      walk_at "vl"
      simp only [b__law_shown_7]
      walk_at "vl"
      rw [y_len (by simp; omega)]
      walk_at "vl"
      generalize hX : D.tup [.str (wd o), .tup (ps.map Cn.d)] = X
      obtain ⟨z', hz'⟩ := forV_s (asg := vP (.nm 2)) (b := vSs ⟨glob, callV defs glob n⟩ b__law_shown_3) (fun (s : List Str) (z : Option D × Option D) => [some X, some (L s), z.1, z.2])
        (fun l s => (Cn.oks vis l ∧ Cn.dps l ≤ m ∧ Cn.szs l ≤ 400) ∧ s.length + l.length ≤ 1000) (ea := Cn.d) (g := fun s p => s ++ [par (!o && isOp true p) p.tx]) (items := ps) (s := []) (j := (none, none)) ⟨⟨hc.2, by omega, by omega⟩, by simp; omega⟩ (by
          rintro p r s j ⟨⟨h1, h2, h3⟩, h4⟩
          rw [Cn.dps] at h2
          rw [Cn.szs] at h3
          rw [List.length_cons] at h4
          have hp := tx_len p h1.1
          have hv := ih p n (by omega) (by omega) h1.1 (by omega)
          have e4 : (hdw p == Str.ofString "or") = isOp true p := hdw_eq p true
          refine ⟨?_, ⟨h1.2, by omega, by omega⟩, by rw [List.length_append, List.length_singleton]; omega⟩
          subst hX
          simp only [b__law_shown_3]
          rw [cd_eq p] at hv ⊢
          walk_at "vl"
          rw [hv]
          walk_at "vl"
          rw [e3]
          have fin : ∀ x : Str, ∃ j' : Option D × Option D, vSs ⟨glob, callV defs glob n⟩ b__law_shown_2 [some (D.tup [D.str (wd o), D.tup (ps.map Cn.d)]), some (L s), some (D.tup [.str (hdw p), sndw p]), some (D.str x)] = .ok (.nx, [some (D.tup [D.str (wd o), D.tup (ps.map Cn.d)]), some (L (s ++ [x])), j'.1, j'.2]) := by
            intro x
            simp only [b__law_shown_2]
            walk_at "vl"
            rw [y_lt16 (by simp; omega)]
            walk_at "vl"
            exact ⟨(_, _), by simp [L]; exact ⟨rfl, rfl⟩⟩
          cases o with
          | true =>
            walk_at "vl"
            simpa [par] using fin p.tx
          | false =>
            walk_at "vl"
            rw [e4]
            cases h5 : isOp true p with
            | false =>
              walk_at "vl"
              simpa [par] using fin p.tx
            | true =>
              walk_at "vl"
              rw [y_ok2 (by rw [l_lp]; omega)]
              walk_at "vl"
              rw [y_ok2 (by rw [strLen_append, l_lp, l_rp]; omega)]
              walk_at "vl"
              simpa [par, Str.append_assoc] using fin (Str.ofString "(" ++ p.tx ++ Str.ofString ")"))
      have hf : ∀ (l : List Cn) (s : List Str), l.foldl (fun s p => s ++ [par (!o && isOp true p) p.tx]) s = s ++ l.map fun p => par (!o && isOp true p) p.tx := by
        intro l
        induction l with
        | nil => intro s; simp
        | cons p l ih => intro s; rw [List.foldl_cons, ih]; simp
      rw [hf] at hz'
      rw [show (D.lst []) = L [] from rfl, hz']
      walk_at "vl"
      rw [List.nil_append, ← ht]
      subst hX
      have hlj : ∀ a : Str, a.length = 4 → guardV (decide (lenJ a (Cn.txs o ps) ≤ 16777216)) = .ok () := by
        intro a ha
        have : lenJ a (Cn.txs o ps) ≤ 16777216 := by
          unfold lenJ
          rw [ha, show (Cn.txs o ps).length = ps.length by rw [ht, List.length_map]]
          have := hb.1
          omega
        rw [decide_eq_true this]
        rfl
      have hst : strsD ((Cn.txs o ps).map D.str) = some (Cn.txs o ps) := by
        have := strs_enc (f := id) (l := Cn.txs o ps)
        simpa using this
      simp only [b__law_shown_4]
      walk_at "vl"
      rw [e3]
      cases o with
      | false =>
        walk_at "vl"
        rw [hst]
        walk_at "vl"
        rw [hlj " && " g_len.1]
        walk_at "vl"
        simp only [Cn.tx, Bool.false_eq_true, if_false]
      | true =>
        walk_at "vl"
        simp only [b__law_shown_1]
        walk_at "vl"
        rw [hst]
        walk_at "vl"
        rw [hlj " || " g_len.2]
        walk_at "vl"
        simp only [Cn.tx, if_true]
open Pg PySem.StrLaws
set_option maxHeartbeats 1000000 in
theorem v_lsimple {vis : List Str} {n : Nat} (p : Pg.St) (hn : 1 ≤ n) (h : p.wk vis) (hf : flat p = true) : callV defs glob n "_law_simple" [p.d] = .ok (.str p.smp) := by
  obtain ⟨n, rfl⟩ : ∃ k, n = k + 1 := ⟨n - 1, by omega⟩
  refine y_call (d := d__law_simple) rfl (by decide +kernel) rfl ?_
  show (vSs _ b__law_simple [some p.d]).bind retV = _
  simp only [b__law_simple]
  cases p with
  | call s =>
    have h1 : s.length ≤ 70 := h.1
    simp only [Pg.St.d]
    walk_at "vl"
    rw [y_ok2 (by rw [s_1]; omega)]
    walk_at "vl"
    rfl
  | lt x v =>
    have h1 : x.length ≤ 70 := h.1
    simp only [Pg.St.d]
    walk_at "vl"
    simp only [b__law_simple_4]
    walk_at "vl"
    rw [y_ok2 (by rw [s_2]; omega)]
    walk_at "vl"
    rw [y_ok2 (by rw [strLen_append, s_2, s_3]; omega)]
    walk_at "vl"
    have hv := trt_len v
    rw [show optV (atI [D.str "false", D.str "true"] (if v = true then 1 else 0)) = .ok (.str (trt v)) by cases v <;> rfl]
    walk_at "vl"
    rw [y_ok2 (by rw [strLen_append, strLen_append, s_2, s_3]; omega)]
    walk_at "vl"
    rw [y_ok2 (by rw [strLen_append, strLen_append, strLen_append, s_2, s_3, s_4]; omega)]
    walk_at "vl"
    simp only [Pg.St.smp, Str.append_assoc]
  | st x v =>
    have h1 : x.length ≤ 70 := h.1
    have hv := trt_len v
    simp only [Pg.St.d]
    walk_at "vl"
    simp only [b__law_simple_4]
    walk_at "vl"
    simp only [b__law_simple_3]
    walk_at "vl"
    rw [y_ok2 (by rw [s_3]; omega)]
    walk_at "vl"
    rw [show optV (atI [D.str "false", D.str "true"] (if v = true then 1 else 0)) = .ok (.str (trt v)) by cases v <;> rfl]
    walk_at "vl"
    rw [y_ok2 (by rw [strLen_append, s_3]; omega)]
    walk_at "vl"
    rw [y_ok2 (by rw [strLen_append, strLen_append, s_3, s_4]; omega)]
    walk_at "vl"
    simp only [Pg.St.smp, Str.append_assoc]
  | brk l =>
    simp only [Pg.St.d]
    walk_at "vl"
    simp only [b__law_simple_4]
    walk_at "vl"
    simp only [b__law_simple_3]
    walk_at "vl"
    simp only [b__law_simple_2]
    walk_at "vl"
    cases l with
    | none =>
      simp only [lb]
      walk_at "vl"
      rw [y_ok2 (by rw [s_7, s_4]; omega)]
      walk_at "vl"
      rfl
    | some s =>
      have h1 : s.length ≤ 70 := h.1
      simp only [lb]
      walk_at "vl"
      simp only [b__law_simple_1]
      walk_at "vl"
      rw [y_ok2 (by rw [s_7, s_5]; omega)]
      walk_at "vl"
      rw [y_strS]
      walk_at "vl"
      rw [y_ok2 (by rw [strLen_append, s_7, s_5]; omega)]
      walk_at "vl"
      rw [y_ok2 (by rw [strLen_append, strLen_append, s_7, s_5, s_4]; omega)]
      walk_at "vl"
      simp only [Pg.St.smp, Str.append_assoc]
  | cnt l =>
    simp only [Pg.St.d]
    walk_at "vl"
    simp only [b__law_simple_4]
    walk_at "vl"
    simp only [b__law_simple_3]
    walk_at "vl"
    simp only [b__law_simple_2]
    walk_at "vl"
    cases l with
    | none =>
      simp only [lb]
      walk_at "vl"
      rw [y_ok2 (by rw [s_8, s_4]; omega)]
      walk_at "vl"
      rfl
    | some s =>
      have h1 : s.length ≤ 70 := h.1
      simp only [lb]
      walk_at "vl"
      simp only [b__law_simple_1]
      walk_at "vl"
      rw [y_ok2 (by rw [s_8, s_5]; omega)]
      walk_at "vl"
      rw [y_strS]
      walk_at "vl"
      rw [y_ok2 (by rw [strLen_append, s_8, s_5]; omega)]
      walk_at "vl"
      rw [y_ok2 (by rw [strLen_append, strLen_append, s_8, s_5, s_4]; omega)]
      walk_at "vl"
      simp only [Pg.St.smp, Str.append_assoc]
  | ret o =>
    simp only [Pg.St.d]
    walk_at "vl"
    simp only [b__law_simple_4]
    walk_at "vl"
    simp only [b__law_simple_3]
    walk_at "vl"
    simp only [b__law_simple_2]
    walk_at "vl"
    cases o with
    | none =>
      simp only [nb]
      walk_at "vl"
      rw [y_ok2 (by rw [s_9, s_4]; omega)]
      walk_at "vl"
      rfl
    | some i =>
      have hi := num_str (show 0 ≤ i ∧ i < 100 from h)
      simp only [nb]
      walk_at "vl"
      simp only [b__law_simple_1]
      walk_at "vl"
      rw [y_ok2 (by rw [s_9, s_5]; omega)]
      walk_at "vl"
      rw [hi.1]
      walk_at "vl"
      rw [y_ok2 (by have := hi.2; rw [strLen_append, s_9, s_5]; omega)]
      walk_at "vl"
      rw [y_ok2 (by have := hi.2; rw [strLen_append, strLen_append, s_9, s_5, s_4]; omega)]
      walk_at "vl"
      simp only [Pg.St.smp, Str.append_assoc]
  | _ => cases hf
theorem cut_pre (x y : Str) : cutS (x ++ y) (some (x.length : Nat)) none = y := by
  have e : (x ++ y).cps.toList = x.cps.toList ++ y.cps.toList := by
    show (x.cps ++ y.cps).toList = _
    simp
  have h1 : HT.sIx (x ++ y).length 0 (some ((x.length : Nat) : Int)) = x.length := by
    rw [HT.sIx_nat, strLen_append]; omega
  have h2 : HT.sIx (x ++ y).length (x ++ y).length none = (x ++ y).length := rfl
  show (⟨(List.take (HT.sIx (x ++ y).length (x ++ y).length none - HT.sIx (x ++ y).length 0 (some ((x.length : Nat) : Int))) (List.drop (HT.sIx (x ++ y).length 0 (some ((x.length : Nat) : Int))) (x ++ y).cps.toList)).toArray⟩ : Str) = y
  rw [h1, h2, e, ← len_cps x, List.drop_left, ← len_cps, e, List.length_append, List.take_of_length_le (by omega)]
theorem cut_one (x : D) (xs : List D) : cutD (x :: xs) (some 1) none = xs := by
  have h1 : HT.sIx (x :: xs).length 0 (some (1 : Int)) = 1 := by
    rw [show (1 : Int) = ((1 : Nat) : Int) from rfl, HT.sIx_nat]; simp
  have h2 : HT.sIx (x :: xs).length (x :: xs).length none = (x :: xs).length := rfl
  unfold cutD
  rw [h1, h2]
  simp
open Pg PySem.StrLaws
def LlAt (m : Nat) : Prop := ∀ (vis : List Str) (b : List Pg.St) (i : Str) (n : Nat), Pg.St.dps b ≤ m → m + 2 ≤ n → Pg.St.wks vis b → Pg.St.szs b ≤ 300 → i.length + 2 * m ≤ 400 → callV defs glob n "_law_lines" [.tup (Pg.St.ds b), .str i] = .ok (L (Pg.St.lns i b))
abbrev lenv (X : D) (i : Str) (s : List Str) (st z4 z5 z6 : Option D) : Nv := [some X, some (.str i), some (L s), st, z4, z5, z6]
set_option maxHeartbeats 2000000 in
theorem ll_of {m : Nat} (hB : ∀ j, j < m → LlAt j) : LlAt m := by
  intro vis b i n hd hn hw hs hi
  obtain ⟨n, rfl⟩ : ∃ k, n = k + 1 := ⟨n - 1, by omega⟩
  refine y_call (d := d__law_lines) rfl (by decide +kernel) rfl ?_
  show (vSs _ b__law_lines [some (.tup (Pg.St.ds b)), some (.str i), none, none, none, none, none]).bind retV = _
  have lz := sszs_len b
  have B := fun (hm : 1 ≤ m) (b : List Pg.St) (h1 : Pg.St.dps b ≤ m - 1) (h2 : Pg.St.wks vis b) (h3 : Pg.St.szs b ≤ 300) => hB (m - 1) (by omega) vis b (i ++ "  ") n h1 (by omega) h2 h3 (by rw [strLen_append, l_in]; omega)
  have lbn := fun (b : List Pg.St) => lns_len b (i ++ "  ")
  simp only [b__law_lines]
  walk_at "vl"
  rw [sds_map]
  rw [y_len (by simp; omega)]
  walk_at "vl"
  generalize D.tup (b.map Pg.St.d) = X
  -- the last row
  have last : ∀ (s : List Str) (st z4 z5 z6 : Option D), s.length ≤ 5000 → vSs ⟨glob, callV defs glob n⟩ b__law_lines_15 (lenv X i s st z4 z5 z6) = .ok (.nx, lenv X i (s ++ [i ++ "}"]) st z4 z5 z6) := by
    intro s st z4 z5 z6 h
    simp only [b__law_lines_15, lenv]
    walk_at "vl"
    rw [y_ok2 (by rw [l_cb]; omega)]
    walk_at "vl"
    rw [y_lt16 (by simp; omega)]
    walk_at "vl"
    simp [L]
  -- flat rows
  have flt : ∀ (q : Pg.St) (s : List Str) (z4 z5 z6 : Option D), s.length ≤ 5000 → q.wk vis → flat q = true → vSs ⟨glob, callV defs glob n⟩ b__law_lines_11 (lenv X i s (some q.d) z4 z5 z6) = .ok (.ct, lenv X i (s ++ [i ++ q.smp]) (some q.d) z4 z5 z6) := by
    intro q s z4 z5 z6 h h1 h2
    have h3 := (smp_len q h1).1
    simp only [b__law_lines_11, lenv]
    walk_at "vl"
    rw [v_lsimple q (by omega) h1 h2]
    walk_at "vl"
    rw [y_ok2 (by omega)]
    walk_at "vl"
    rw [y_lt16 (by simp; omega)]
    walk_at "vl"
    simp [L]
  -- loops
  have loop : ∀ (b : List Pg.St) (l : Option Str) (Y hd : Str) (r : List D) (s : List Str) (z4 z5 : Option D), 1 ≤ m → Pg.St.dps b ≤ m - 1 → Pg.St.wks vis b → Pg.St.szs b ≤ 300 → lbOk l → hd.length ≤ 40000 → s.length ≤ 1000 →
      vSs ⟨glob, callV defs glob n⟩ b__law_lines_7 (lenv X i s (some (.tup (D.str Y :: lb l :: (r ++ [D.tup (Pg.St.ds b)])))) z4 z5 (some (.str hd))) = .ok (.nx, lenv X i (s ++ ((i ++ (lbt l ++ hd)) :: Pg.St.lns (i ++ "  ") b)) (some (.tup (D.str Y :: lb l :: (r ++ [D.tup (Pg.St.ds b)])))) z4 z5 (some (.str (lbt l ++ hd)))) := by
    intro b l Y hd r s z4 z5 hm h1 h2 h3 h4 h5 h6
    have fin : ∀ hd : Str, hd.length ≤ 41000 → vSs ⟨glob, callV defs glob n⟩ b__law_lines_5 (lenv X i s (some (.tup (D.str Y :: lb l :: (r ++ [D.tup (Pg.St.ds b)])))) z4 z5 (some (.str hd))) = .ok (.nx, lenv X i (s ++ ((i ++ hd) :: Pg.St.lns (i ++ "  ") b)) (some (.tup (D.str Y :: lb l :: (r ++ [D.tup (Pg.St.ds b)])))) z4 z5 (some (.str hd))) := by
      intro hd hh
      simp only [b__law_lines_5, lenv]
      walk_at "vl"
      rw [y_ok2 (by omega)]
      walk_at "vl"
      rw [y_ok2 (by simp only [List.length_append, List.length_map, List.length_cons, List.length_nil]; omega)]
      walk_at "vl"
      have hat : atI (D.str Y :: lb l :: (r ++ [D.tup (Pg.St.ds b)])) ((((r ++ [D.tup (Pg.St.ds b)]).length + 1 + 1 : Nat) : Int) - 1) = some (D.tup (Pg.St.ds b)) := by
        refine atI_lt (by omega) ?_
        rw [show ((((r ++ [D.tup (Pg.St.ds b)]).length + 1 + 1 : Nat) : Int) - 1).toNat = r.length + 2 by rw [List.length_append]; simp; omega]
        simp
      rw [hat]
      walk_at "vl"
      rw [y_ok2 (by rw [l_in]; omega)]
      walk_at "vl"
      rw [B hm b h1 h2 h3]
      walk_at "vl"
      have := lbn b
      rw [y_ok2 (by simp only [List.length_append, List.length_map, List.length_cons, List.length_nil]; omega)]
      walk_at "vl"
      simp [L]
    simp only [b__law_lines_7, lenv]
    walk_at "vl"
    cases l with
    | none =>
      simp only [lb] at fin ⊢
      walk_at "vl"
      have f := fin hd (by omega)
      simp only [lenv] at f
      rw [f, lbt, str_e]
    | some t =>
      have ht : t.length ≤ 70 := h4.1
      simp only [lb] at fin ⊢
      walk_at "vl"
      rw [y_ok2 (by rw [s_6]; omega)]
      walk_at "vl"
      rw [y_ok2 (by rw [strLen_append, s_6]; omega)]
      walk_at "vl"
      have f := fin (t ++ ": " ++ hd) (by rw [strLen_append, strLen_append, s_6]; omega)
      simp only [lenv] at f
      rw [f, lbt]
  obtain ⟨z', hz'⟩ := forV_c (asg := vP (.nm 3)) (b := vSs ⟨glob, callV defs glob n⟩ b__law_lines_16) (fun (s : List Str) (z : Option D × Option D × Option D × Option D) => lenv X i s z.1 z.2.1 z.2.2.1 z.2.2.2)
    (fun l s => (Pg.St.wks vis l ∧ Pg.St.dps l ≤ m ∧ Pg.St.szs l ≤ 300) ∧ s.length + 3 * Pg.St.szs l ≤ 900) (ea := Pg.St.d) (g := fun s p => s ++ p.ln "" i) (items := b) (s := []) (j := (none, none, none, none)) ⟨⟨hw, hd, hs⟩, by simp; omega⟩ (by
      rintro p r s ⟨j3, z4, z5, z6⟩ ⟨⟨h1, h2, h3⟩, h4⟩
      rw [Pg.St.dps] at h2
      rw [Pg.St.szs] at h3 h4
      have hl := ln_len p "" i
      have pz := p.sz_pos
      refine ⟨?_, ⟨h1.2, by omega, by omega⟩, by rw [List.length_append]; omega⟩
      have hwp := h1.1
      have hdp : p.dp ≤ m := by omega
      have hsp : p.sz ≤ 300 := by omega
      have hs0 : s.length ≤ 900 := by omega
      clear h1 h2 h3 h4
      simp only [b__law_lines_16, lenv]
      cases p with
      | ife c a b2 =>
        rw [Pg.St.dp] at hdp
        rw [Pg.St.sz] at hsp
        have ht := (tx_len c hwp.1).1
        have l1 := lbn a
        have l2 := lbn b2
        simp only [Pg.St.d]
        walk_at "vl"
        simp only [b__law_lines_4]
        walk_at "vl"
        rw [y_ok2 (by rw [l_if]; omega)]
        walk_at "vl"
        rw [v_lshown c.dp c n (Nat.le_refl _) (by omega) hwp.1 (by omega)]
        walk_at "vl"
        rw [y_ok2 (by rw [strLen_append, l_if]; omega)]
        walk_at "vl"
        rw [y_ok2 (by rw [strLen_append, strLen_append, l_if, l_ob]; omega)]
        walk_at "vl"
        rw [y_ok2 (by simp only [List.length_append, List.length_map, List.length_cons, List.length_nil]; omega)]
        walk_at "vl"
        rw [y_ok2 (by rw [l_in]; omega)]
        walk_at "vl"
        rw [B (by omega) a (by omega) hwp.2.1 (by omega)]
        walk_at "vl"
        rw [y_ok2 (by simp only [List.length_append, List.length_map, List.length_cons, List.length_nil]; omega)]
        walk_at "vl"
        rw [show i ++ Str.ofString "if (" ++ c.tx ++ Str.ofString ") {" = i ++ ("if (" ++ (c.tx ++ ") {")) by simp only [Str.append_assoc]]
        have hln : Pg.St.ln (Str.ofString "") i (.ife c a b2) = (i ++ ("if (" ++ (c.tx ++ ") {"))) :: (Pg.St.lns (i ++ "  ") a ++ Pg.St.els i b2) := by rw [Pg.St.ln, str_e]
        rw [hln]
        generalize i ++ ("if (" ++ (c.tx ++ ") {")) = fst
        rw [show D.lst (s.map .str ++ [D.str fst] ++ (Pg.St.lns (i ++ Str.ofString "  ") a).map .str) = L (s ++ fst :: Pg.St.lns (i ++ "  ") a) by simp [L]]
        generalize hs1 : s ++ fst :: Pg.St.lns (i ++ "  ") a = s1
        have hs1l : s1.length ≤ 1900 := by rw [← hs1]; simp only [List.length_append, List.length_cons]; omega
        have hgo : ∀ e : List Str, s ++ fst :: (Pg.St.lns (i ++ "  ") a ++ e) = s1 ++ e := by intro e; rw [← hs1]; simp
        rw [hgo]
        cases b2 with
        | nil =>
          simp only [Pg.St.ds]
          walk_at "vl"
          rw [show (((0 : Nat) : Int) == 1) = false from rfl]
          walk_at "vl"
          simp only [b__law_lines_3]
          walk_at "vl"
          simp only [List.isEmpty_nil, Bool.not_true]
          walk_at "vl"
          have g := last s1 (some (.tup [.str sIf, c.d, .tup (Pg.St.ds a), .tup []])) (some (.tup [])) z5 z6 (by omega)
          simp only [lenv] at g
          rw [g]
          exact ⟨(_, _, _, _), .nx, .inl rfl, rfl⟩
        | cons p ps =>
          rw [Pg.St.dps] at hdp
          rw [Pg.St.szs] at hsp l2
          -- the other lines
          have other : (ps.isEmpty && p.isIf) = false → ∃ j', vSs ⟨glob, callV defs glob n⟩ b__law_lines_3 (lenv X i s1 (some (.tup [.str sIf, c.d, .tup (Pg.St.ds a), .tup (Pg.St.ds (p :: ps))])) (some (.tup (Pg.St.ds (p :: ps)))) z5 z6) = .ok (.nx, j') ∧ j' = lenv X i (s1 ++ (i ++ "} else {") :: Pg.St.lns (i ++ "  ") (p :: ps)) (some (.tup [.str sIf, c.d, .tup (Pg.St.ds a), .tup (Pg.St.ds (p :: ps))])) (some (.tup (Pg.St.ds (p :: ps)))) z5 z6 := by
            intro he
            refine ⟨_, ?_, rfl⟩
            simp only [b__law_lines_3, lenv]
            walk_at "vl"
            rw [show (Pg.St.ds (p :: ps)).isEmpty = false by rw [Pg.St.ds]; rfl]
            walk_at "vl"
            simp only [b__law_lines_1]
            walk_at "vl"
            rw [y_ok2 (by rw [l_el]; omega)]
            walk_at "vl"
            rw [y_ok2 (by simp only [List.length_append, List.length_map, List.length_cons, List.length_nil]; omega)]
            walk_at "vl"
            rw [y_ok2 (by rw [l_in]; omega)]
            walk_at "vl"
            rw [B (by omega) (p :: ps) (by rw [Pg.St.dps]; omega) hwp.2.2 (by rw [Pg.St.szs]; omega)]
            walk_at "vl"
            rw [y_ok2 (by simp only [List.length_append, List.length_map, List.length_cons, List.length_nil]; omega)]
            walk_at "vl"
            simp [L]
          have fin2 : (ps.isEmpty && p.isIf) = false → ∃ (j' : Option D × Option D × Option D × Option D) (f : Mn.Flow), (f = .nx ∨ f = .ct) ∧ thenV ⟨glob, callV defs glob n⟩ b__law_lines_15 (vSs ⟨glob, callV defs glob n⟩ b__law_lines_3 (lenv X i s1 (some (.tup [.str sIf, c.d, .tup (Pg.St.ds a), .tup (Pg.St.ds (p :: ps))])) (some (.tup (Pg.St.ds (p :: ps)))) z5 z6)) = .ok (f, [some X, some (.str i), some (L (s1 ++ Pg.St.els i (p :: ps))), j'.1, j'.2.1, j'.2.2.1, j'.2.2.2]) := by
            intro he
            obtain ⟨j', h1, h2⟩ := other he
            rw [h1, h2, tv_nx]
            have g := last (s1 ++ (i ++ "} else {") :: Pg.St.lns (i ++ "  ") (p :: ps)) (some (.tup [.str sIf, c.d, .tup (Pg.St.ds a), .tup (Pg.St.ds (p :: ps))])) (some (.tup (Pg.St.ds (p :: ps)))) z5 z6 (by simp only [List.length_append, List.length_cons]; omega)
            rw [g]
            rw [show s1 ++ (i ++ "} else {") :: Pg.St.lns (i ++ "  ") (p :: ps) ++ [i ++ "}"] = s1 ++ Pg.St.els i (p :: ps) by rw [Pg.St.els, he]; simp [Pg.St.lns]]
            exact ⟨(_, _, _, _), .nx, .inl rfl, rfl⟩
          cases ps with
          | cons q ps =>
            have e1 : ((((Pg.St.ds (p :: q :: ps)).length : Nat) : Int) == 1) = false := by rw [sds_map]; simp; omega
            rw [e1]
            walk_at "vl"
            exact fin2 (by simp)
          | nil =>
            obtain ⟨r0, hr, k, hk, hi'⟩ := isIf_d p
            cases r0 with
            | nil => cases hk
            | cons d0 r0 =>
              cases hk
              have e1 : ((((Pg.St.ds [p]).length : Nat) : Int) == 1) = true := by rw [sds_map]; rfl
              rw [e1]
              have hds : Pg.St.ds [p] = [.tup (.str k :: r0)] := by rw [Pg.St.ds, Pg.St.ds, hr]
              have hB2 := hB (m - 1) (by omega) vis [p] i n (by rw [Pg.St.dps, Pg.St.dps]; omega) (by omega) hwp.2.2 (by rw [Pg.St.szs, Pg.St.szs]; omega) (by omega)
              simp only [hds] at fin2 hB2 ⊢
              walk_at "vl"
              rw [hi']
              cases hif : p.isIf with
              | false =>
                walk_at "vl"
                exact fin2 (by simp [hif])
              | true =>
                walk_at "vl"
                cases p with
                | ife c2 a2 b3 =>
                  have ht2 := (tx_len c2 hwp.2.2.1.1).1
                  have lr := ln_len (.ife c2 a2 b3) "" i
                  rw [Pg.St.sz] at hsp lr
                  have e2 : Pg.St.lns i [.ife c2 a2 b3] = (i ++ ("if (" ++ (c2.tx ++ ") {"))) :: (Pg.St.lns (i ++ "  ") a2 ++ Pg.St.els i b3) := by
                    rw [Pg.St.lns, Pg.St.lns, List.append_nil, Pg.St.ln, str_e]
                  have e3 : Pg.St.els i [.ife c2 a2 b3] = (i ++ ("} else " ++ ("if (" ++ (c2.tx ++ ") {")))) :: (Pg.St.lns (i ++ "  ") a2 ++ Pg.St.els i b3) := by
                    rw [Pg.St.els]; simp [Pg.St.isIf, Pg.St.ln]
                  rw [Pg.St.ln, List.length_cons] at lr
                  rw [e2] at hB2
                  simp only [b__law_lines_2]
                  walk_at "vl"
                  rw [hB2]
                  simp only [L, List.map_cons]
                  walk_at "vl"
                  rw [y_ok2 (by rw [l_ei]; omega)]
                  walk_at "vl"
                  rw [y_ok2 (by omega)]
                  walk_at "vl"
                  rw [y_ok2 (by rw [strLen_append, strLen_append, strLen_append, l_if, l_ob]; omega)]
                  walk_at "vl"
                  rw [cut_pre]
                  walk_at "vl"
                  rw [y_ok2 (by rw [strLen_append, strLen_append, strLen_append, l_ei, l_if, l_ob]; omega)]
                  walk_at "vl"
                  rw [y_lt16 (by rw [List.length_map]; omega)]
                  walk_at "vl"
                  rw [cut_one]
                  walk_at "vl"
                  rw [y_ok2 (by simp only [List.length_append, List.length_map, List.length_cons, List.length_nil] at lr ⊢; omega)]
                  walk_at "vl"
                  exact ⟨(_, _, _, _), .ct, .inr rfl, by rw [e3]; simp [Str.append_assoc]; exact ⟨rfl, rfl, rfl, rfl⟩⟩
                | _ => cases hif
      | whl l c b2 =>
        rw [Pg.St.dp] at hdp
        rw [Pg.St.sz] at hsp
        have ht := (tx_len c hwp.2.1).1
        have f := loop b2 l sWhile ("while (" ++ c.tx ++ ") {") [c.d] s z4 z5 (by omega) (by omega) hwp.2.2 (by omega) hwp.1 (by rw [strLen_append, strLen_append, l_wh, l_ob]; omega) (by omega)
        simp only [lenv, List.cons_append, List.nil_append] at f
        simp only [Pg.St.d]
        walk_at "vl"
        simp only [b__law_lines_14]
        walk_at "vl"
        simp only [b__law_lines_8]
        walk_at "vl"
        simp only [b__law_lines_6]
        walk_at "vl"
        rw [v_lshown c.dp c n (Nat.le_refl _) (by omega) hwp.2.1 (by omega)]
        walk_at "vl"
        rw [y_ok2 (by rw [l_wh]; omega)]
        walk_at "vl"
        rw [y_ok2 (by rw [strLen_append, l_wh, l_ob]; omega)]
        walk_at "vl"
        rw [f]
        walk_at "vl"
        have l2 := lbn b2
        have g := last (s ++ (i ++ (lbt l ++ ("while (" ++ c.tx ++ ") {"))) :: Pg.St.lns (i ++ "  ") b2) (some (.tup [.str sWhile, lb l, c.d, .tup (Pg.St.ds b2)])) z4 z5 (some (.str (lbt l ++ ("while (" ++ c.tx ++ ") {")))) (by simp only [List.length_append, List.length_cons]; omega)
        simp only [lenv] at g
        rw [g]
        exact ⟨(_, _, _, _), .nx, .inl rfl, by rw [Pg.St.ln]; simp [L, Str.append_assoc]; exact ⟨rfl, rfl, rfl, rfl⟩⟩
      | fr l b2 =>
        rw [Pg.St.dp] at hdp
        rw [Pg.St.sz] at hsp
        have f := loop b2 l sFor "for (;;) {" [] s z4 z5 (by omega) (by omega) hwp.2 (by omega) hwp.1 (by rw [l_fr]; omega) (by omega)
        simp only [lenv, List.cons_append, List.nil_append] at f
        simp only [Pg.St.d]
        walk_at "vl"
        simp only [b__law_lines_14]
        walk_at "vl"
        simp only [b__law_lines_8]
        walk_at "vl"
        rw [f]
        walk_at "vl"
        have l2 := lbn b2
        have g := last (s ++ (i ++ (lbt l ++ "for (;;) {")) :: Pg.St.lns (i ++ "  ") b2) (some (.tup [.str sFor, lb l, .tup (Pg.St.ds b2)])) z4 z5 (some (.str (lbt l ++ "for (;;) {"))) (by simp only [List.length_append, List.length_cons]; omega)
        simp only [lenv] at g
        rw [g]
        exact ⟨(_, _, _, _), .nx, .inl rfl, by rw [Pg.St.ln]; simp [L]; exact ⟨rfl, rfl, rfl, rfl⟩⟩
      | blk b2 =>
        rw [Pg.St.dp] at hdp
        rw [Pg.St.sz] at hsp
        simp only [Pg.St.d]
        walk_at "vl"
        simp only [b__law_lines_14]
        walk_at "vl"
        simp only [b__law_lines_13]
        walk_at "vl"
        simp only [b__law_lines_12]
        walk_at "vl"
        simp only [b__law_lines_10]
        walk_at "vl"
        rw [y_ok2 (by rw [l_br]; omega)]
        walk_at "vl"
        rw [y_ok2 (by simp only [List.length_append, List.length_map, List.length_cons, List.length_nil]; omega)]
        walk_at "vl"
        rw [y_ok2 (by rw [l_in]; omega)]
        walk_at "vl"
        rw [B (by omega) b2 (by omega) hwp (by omega)]
        walk_at "vl"
        have l2 := lbn b2
        rw [y_ok2 (by simp only [List.length_append, List.length_map, List.length_cons, List.length_nil]; omega)]
        walk_at "vl"
        have g := last (s ++ (i ++ "{") :: Pg.St.lns (i ++ "  ") b2) (some (.tup [.str sBlock, .tup (Pg.St.ds b2)])) z4 z5 z6 (by simp only [List.length_append, List.length_cons]; omega)
        simp only [lenv] at g
        rw [show D.lst (s.map .str ++ [D.str (i ++ Str.ofString "{")] ++ (Pg.St.lns (i ++ Str.ofString "  ") b2).map .str) = L (s ++ (i ++ "{") :: Pg.St.lns (i ++ "  ") b2) by simp [L]]
        rw [g]
        exact ⟨(_, _, _, _), .nx, .inl rfl, by rw [Pg.St.ln]; simp [L]; exact ⟨rfl, rfl, rfl, rfl⟩⟩
      | tr a b2 =>
        rw [Pg.St.dp] at hdp
        rw [Pg.St.sz] at hsp
        simp only [Pg.St.d]
        walk_at "vl"
        simp only [b__law_lines_14]
        walk_at "vl"
        simp only [b__law_lines_13]
        walk_at "vl"
        simp only [b__law_lines_9]
        walk_at "vl"
        rw [y_ok2 (by rw [l_tr]; omega)]
        walk_at "vl"
        rw [y_ok2 (by simp only [List.length_append, List.length_map, List.length_cons, List.length_nil]; omega)]
        walk_at "vl"
        rw [y_ok2 (by rw [l_in]; omega)]
        walk_at "vl"
        rw [B (by omega) a (by omega) hwp.1 (by omega)]
        walk_at "vl"
        have l1 := lbn a
        have l2 := lbn b2
        rw [y_ok2 (by simp only [List.length_append, List.length_map, List.length_cons, List.length_nil]; omega)]
        walk_at "vl"
        rw [y_ok2 (by rw [l_fi]; omega)]
        walk_at "vl"
        rw [y_ok2 (by simp only [List.length_append, List.length_map, List.length_cons, List.length_nil]; omega)]
        walk_at "vl"
        rw [y_ok2 (by rw [l_in]; omega)]
        walk_at "vl"
        rw [B (by omega) b2 (by omega) hwp.2 (by omega)]
        walk_at "vl"
        rw [y_ok2 (by simp only [List.length_append, List.length_map, List.length_cons, List.length_nil]; omega)]
        walk_at "vl"
        have g := last (s ++ (i ++ "try {") :: (Pg.St.lns (i ++ "  ") a ++ (i ++ "} finally {") :: Pg.St.lns (i ++ "  ") b2)) (some (.tup [.str sTry, .tup (Pg.St.ds a), .tup (Pg.St.ds b2)])) z4 z5 z6 (by simp only [List.length_append, List.length_cons]; omega)
        simp only [lenv] at g
        rw [show D.lst (s.map .str ++ [D.str (i ++ Str.ofString "try {")] ++ (Pg.St.lns (i ++ Str.ofString "  ") a).map .str ++ [D.str (i ++ Str.ofString "} finally {")] ++ (Pg.St.lns (i ++ Str.ofString "  ") b2).map .str) = L (s ++ (i ++ "try {") :: (Pg.St.lns (i ++ "  ") a ++ (i ++ "} finally {") :: Pg.St.lns (i ++ "  ") b2)) by simp [L]]
        rw [g]
        exact ⟨(_, _, _, _), .nx, .inl rfl, by rw [Pg.St.ln]; simp [L]; exact ⟨rfl, rfl, rfl, rfl⟩⟩
      | call t =>
        have f := flt (.call t) s z4 z5 z6 (by omega) hwp rfl
        simp only [lenv, Pg.St.d] at f ⊢
        walk_at "vl"
        simp only [b__law_lines_14]
        walk_at "vl"
        simp only [b__law_lines_13]
        walk_at "vl"
        simp only [b__law_lines_12]
        walk_at "vl"
        rw [f]
        walk_at "vl"
        exact ⟨(_, _, _, _), .ct, .inr rfl, by rw [Pg.St.ln] <;> rfl⟩
      | lt x v =>
        have f := flt (.lt x v) s z4 z5 z6 (by omega) hwp rfl
        simp only [lenv, Pg.St.d] at f ⊢
        walk_at "vl"
        simp only [b__law_lines_14]
        walk_at "vl"
        simp only [b__law_lines_13]
        walk_at "vl"
        simp only [b__law_lines_12]
        walk_at "vl"
        rw [f]
        walk_at "vl"
        exact ⟨(_, _, _, _), .ct, .inr rfl, by rw [Pg.St.ln] <;> rfl⟩
      | st x v =>
        have f := flt (.st x v) s z4 z5 z6 (by omega) hwp rfl
        simp only [lenv, Pg.St.d] at f ⊢
        walk_at "vl"
        simp only [b__law_lines_14]
        walk_at "vl"
        simp only [b__law_lines_13]
        walk_at "vl"
        simp only [b__law_lines_12]
        walk_at "vl"
        rw [f]
        walk_at "vl"
        exact ⟨(_, _, _, _), .ct, .inr rfl, by rw [Pg.St.ln] <;> rfl⟩
      | brk l =>
        have f := flt (.brk l) s z4 z5 z6 (by omega) hwp rfl
        simp only [lenv, Pg.St.d] at f ⊢
        walk_at "vl"
        simp only [b__law_lines_14]
        walk_at "vl"
        simp only [b__law_lines_13]
        walk_at "vl"
        simp only [b__law_lines_12]
        walk_at "vl"
        rw [f]
        walk_at "vl"
        exact ⟨(_, _, _, _), .ct, .inr rfl, by rw [Pg.St.ln] <;> rfl⟩
      | cnt l =>
        have f := flt (.cnt l) s z4 z5 z6 (by omega) hwp rfl
        simp only [lenv, Pg.St.d] at f ⊢
        walk_at "vl"
        simp only [b__law_lines_14]
        walk_at "vl"
        simp only [b__law_lines_13]
        walk_at "vl"
        simp only [b__law_lines_12]
        walk_at "vl"
        rw [f]
        walk_at "vl"
        exact ⟨(_, _, _, _), .ct, .inr rfl, by rw [Pg.St.ln] <;> rfl⟩
      | ret o =>
        have f := flt (.ret o) s z4 z5 z6 (by omega) hwp rfl
        simp only [lenv, Pg.St.d] at f ⊢
        walk_at "vl"
        simp only [b__law_lines_14]
        walk_at "vl"
        simp only [b__law_lines_13]
        walk_at "vl"
        simp only [b__law_lines_12]
        walk_at "vl"
        rw [f]
        walk_at "vl"
        exact ⟨(_, _, _, _), .ct, .inr rfl, by rw [Pg.St.ln] <;> rfl⟩)
  have : ∀ (l : List Pg.St) (s : List Str), l.foldl (fun s p => s ++ p.ln "" i) s = s ++ Pg.St.lns i l := by
    intro l
    induction l with
    | nil => intro s; simp [Pg.St.lns]
    | cons p l ih => intro s; rw [List.foldl_cons, ih, Pg.St.lns, List.append_assoc]
  rw [this] at hz'
  simp only [lenv] at hz'
  rw [show (D.lst []) = L [] from rfl, hz']
  walk_at "vl"
  simp only [b__law_lines_17]
  walk_at "vl"
  rfl
open Pg PySem.StrLaws
theorem ll_all : ∀ m, LlAt m := by
  intro m
  induction m using Nat.strongRecOn with
  | ind m ih => exact ll_of ih
theorem text_len {vis : List Str} {b : List Pg.St} (hw : Pg.St.wks vis b) (hs : Pg.St.szs b ≤ 300) (hd : Pg.St.dps b ≤ 150) : (ptext b).length ≤ 500000 ∧ Pl (ptext b) := by
  have ht := lns_tot b "" 300 hw (by rw [l_e]; omega) (by decide +kernel)
  have hl := lns_len b ""
  unfold ptext
  constructor
  · rw [len_join, l_e, Nat.mul_zero, Nat.add_zero]
    have e : ∀ l : List Str, ((l.map fun x => x ++ Str.ofString "\n").map (·.length)).sum = tot l + l.length := by
      intro l
      induction l with
      | nil => rfl
      | cons x l ih => rw [List.map_cons, List.map_cons, List.sum_cons, ih, tot_cons, strLen_append, show (Str.ofString "\n").length = 1 by decide +kernel, List.length_cons]; omega
    rw [e]
    have := ht.1
    have : 3 * Pg.St.szs b * (300 + 200) ≤ 450000 := by omega
    omega
  · refine Pl.join (by decide +kernel) fun x hx => ?_
    obtain ⟨y, hy, rfl⟩ := List.mem_map.mp hx
    exact (ht.2 y hy).add (by decide +kernel)
theorem v_printed {vis : List Str} {b : List Pg.St} {n m : Nat} (hd : Pg.St.dps b ≤ m) (hn : m + 4 ≤ n) (hw : Pg.St.wks vis b) (hs : Pg.St.szs b ≤ 300) (hm : m ≤ 150) : callV defs glob n "_law_printed" [.tup (Pg.St.ds b)] = .ok (.str (ptext b)) := by
  obtain ⟨n, rfl⟩ : ∃ k, n = k + 1 := ⟨n - 1, by omega⟩
  refine y_call (d := d__law_printed) rfl (by decide +kernel) rfl ?_
  show (vSs _ b__law_printed [some _, none]).bind retV = _
  have hl := lns_len b ""
  have ht := lns_tot b "" 300 hw (by rw [l_e]; omega) (by decide +kernel)
  simp only [b__law_printed]
  walk_at "vl"
  rw [ll_all m vis b "" n hd (by omega) hw hs (by rw [l_e]; omega)]
  walk_at "vl"
  rw [y_len (by simp; omega)]
  walk_at "vl"
  have each : ∀ x ∈ Pg.St.lns "" b, x.length ≤ tot (Pg.St.lns "" b) := by
    generalize Pg.St.lns "" b = l
    intro x hx
    induction l with
    | nil => cases hx
    | cons y l ih =>
      rw [tot_cons]
      rcases List.mem_cons.mp hx with rfl | hx
      · omega
      · have := ih hx; omega
  rw [compV_enc (ea := D.str) (F := fun x : Str => .str (x ++ "\n")) (Pg.St.lns "" b) [] (fun a _ => rfl) ?_ (by simp; omega)]
  rotate_left
  · intro x hx
    have := each x hx
    simp only [e__law_printed_1]
    walk_at "vl"
    rw [y_ok2 (by rw [show (Str.ofString "\n").length = 1 by decide +kernel]; omega)]
    walk_at "vl"
  walk_at "vl"
  rw [List.nil_append, strs_enc]
  walk_at "vl"
  have : lenJ "" ((Pg.St.lns "" b).map fun x => x ++ "\n") ≤ 16777216 := by
    unfold lenJ
    rw [l_e, Nat.mul_zero, Nat.add_zero]
    have e : ∀ l : List Str, ((l.map fun x => x ++ Str.ofString "\n").map (·.length)).sum = tot l + l.length := by
      intro l
      induction l with
      | nil => rfl
      | cons x l ih => rw [List.map_cons, List.map_cons, List.sum_cons, ih, tot_cons, strLen_append, show (Str.ofString "\n").length = 1 by decide +kernel, List.length_cons]; omega
    rw [e]
    omega
  rw [decide_eq_true this]
  walk_at "vl"
  rfl
mutual
theorem sd_plain : ∀ p : Pg.St, Mn.plain p.d = true
  | .call _ => rfl
  | .lt _ _ => rfl
  | .st _ _ => rfl
  | .brk l => by cases l <;> rfl
  | .cnt l => by cases l <;> rfl
  | .ret n => by cases n <;> rfl
  | .ife c a b => by rw [Pg.St.d]; simp [Mn.plain, Mn.plains, cn_plain c, sds_plain a, sds_plain b]
  | .whl l c b => by rw [Pg.St.d]; cases l <;> simp [Mn.plain, Mn.plains, lb, cn_plain c, sds_plain b]
  | .fr l b => by rw [Pg.St.d]; cases l <;> simp [Mn.plain, Mn.plains, lb, sds_plain b]
  | .tr a b => by rw [Pg.St.d]; simp [Mn.plain, Mn.plains, sds_plain a, sds_plain b]
  | .blk b => by rw [Pg.St.d]; simp [Mn.plain, Mn.plains, sds_plain b]
theorem sds_plain : ∀ ps : List Pg.St, Mn.plains (Pg.St.ds ps) = true
  | [] => rfl
  | p :: ps => by rw [Pg.St.ds]; simp [Mn.plains, sd_plain p, sds_plain ps]
end
theorem x_reprS {x : Str} {R : D → Store → Prop} {E : Exn → Store → Prop} {S : Store} (h : x.length ≤ 1000000) (hp : Pl x) : wpx (builtin .repr [.str x]) R E S ↔ R (.str (shD (.str x))) S :=
  x_repr (Ws.fine (k := 1000000) ⟨h, hp⟩) (by simp [dep]) (by simp only [wt]; omega)
set_option maxHeartbeats 4000000 in
theorem law_2 {n : Nat} {vis : List Str} {S : Store} {b : List Pg.St} {e0 e1 e2 e3 z5 z6 z7 z8 z9 : Option D} (hn : 205 ≤ n) (hb : Pg.St.wks vis b) (hz : Pg.St.szs b ≤ 300) (hd : Pg.St.dps b ≤ 65) :
    wpx (evSs ⟨glob, callN defs glob n⟩ b_law_2 [e0, e1, e2, e3, some (.tup (b.map Pg.St.d)), z5, z6, z7, z8, z9]) (RP (fun d _ => d = .bl true)) E0x S := by
  have hp := sds_plain b
  have hl := text_len hb hz (by omega)
  simp only [b_law_2]
  walk_at "mn"
  rw [← sds_map]
  refine wpx_of_wp (by_val (v_printed hd (by omega) hb hz (by omega)) (by simp [Mn.plain, Mn.plains, hp]) rfl) ?_
  rintro _ S1 ⟨rfl, k1⟩
  walk_at "mn"
  have vp := v_program (n := n) hd (by omega) hb hz (by omega)
  refine wpx_of_wp (by_val vp (by simp [Mn.plain, Mn.plains, hp]) rfl) ?_
  rintro _ S2 ⟨rfl, k2⟩
  walk_at "mn"
  refine (x_reprS (by omega) hl.2).mpr ?_
  walk_at "mn"
  refine (x_reprS (by omega) hl.2).mpr ?_
  walk_at "mn"
  simp only [beq_self_eq_true]
  walk_at "mn"
  refine wpx_of_wp (by_val vp (by simp [Mn.plain, Mn.plains, hp]) rfl) ?_
  rintro _ S3 ⟨rfl, k3⟩
  walk_at "mn"
  refine (x_reprS (by omega) hl.2).mpr ?_
  walk_at "mn"
  refine (x_reprS (by omega) hl.2).mpr ?_
  walk_at "mn"
  simp only [beq_self_eq_true]
  try walk_at "mn"
open Pg PySem.StrLaws
theorem cut_2 {xs : List D} : cutD xs none (some 2) = xs.take 2 := by rw [cut_to (show (0 : Int) ≤ 2 by decide)]; rfl
theorem cut_23 {xs : List D} : ∃ k, cutD xs (some 2) (some 3) = (xs.drop 2).take k ∨ cutD xs (some 2) (some 3) = [] := by
  unfold cutD
  by_cases h : 2 ≤ xs.length
  · refine ⟨HT.sIx xs.length xs.length (some 3) - HT.sIx xs.length 0 (some 2), .inl ?_⟩
    have : HT.sIx xs.length 0 (some (2 : Int)) = 2 := by
      rw [show (2 : Int) = ((2 : Nat) : Int) from rfl, HT.sIx_nat]; omega
    rw [this]
  · refine ⟨0, .inr ?_⟩
    have : HT.sIx xs.length 0 (some (2 : Int)) = xs.length := by
      rw [show (2 : Int) = ((2 : Nat) : Int) from rfl, HT.sIx_nat]; omega
    rw [this, List.drop_length, List.take_nil]
theorem wks_sub {vis : List Str} : ∀ {a b : List Pg.St}, Pg.St.wks vis b → a.Sublist b → Pg.St.wks vis a ∧ Pg.St.szs a ≤ Pg.St.szs b ∧ Pg.St.dps a ≤ Pg.St.dps b
  | a, [], h, s => by rw [List.sublist_nil.mp s]; exact ⟨trivial, Nat.le_refl _, Nat.le_refl _⟩
  | a, p :: b, h, s => by
    cases s with
    | cons _ s =>
      have := wks_sub h.2 s
      rw [Pg.St.szs, Pg.St.dps]
      exact ⟨this.1, by omega, by omega⟩
    | cons_cons _ s =>
      have := wks_sub h.2 s
      rw [Pg.St.szs, Pg.St.dps, Pg.St.szs, Pg.St.dps]
      exact ⟨⟨h.1, this.1⟩, by omega, by omega⟩
set_option maxHeartbeats 4000000 in
theorem law_6 {n t N : Nat} {vis : List Str} {S : Store} {b : List Pg.St} {sh : Int} {e0 z5 z6 z7 z8 z9 : Option D} (hn : 205 ≤ n) (tp : Tp S t) (hN : S[N]? = some (.lst (vis.map .str))) (tn : t < N) (nm : ∀ s ∈ vis, Ws 70 s) (l1 : 1 ≤ vis.length) (l2 : vis.length ≤ 1000) (hb : Pg.St.wks vis b) (hz : Pg.St.szs b ≤ 250) (hd : Pg.St.dps b ≤ 64) :
    wpx (evSs ⟨glob, callN defs glob n⟩ b_law_6 [e0, some (.loc t), some (.loc N), some (.int sh), some (.tup (b.map Pg.St.d)), z5, z6, z7, z8, z9]) (RP (fun d _ => d = .bl true)) E0x S := by
  simp only [b_law_6]
  walk_at "mn"
  cases e1 : sh == 1 with
  | false =>
    walk_at "mn"
    exact law_2 hn hb (by omega) (by omega)
  | true =>
    obtain ⟨s0, vis', rfl⟩ : ∃ s0 vis', vis = s0 :: vis' := by cases vis with | nil => simp at l1 | cons a l => exact ⟨a, l, rfl⟩
    have bl := sszs_len b
    have hw0 := nm s0 (List.mem_cons_self ..)
    walk_at "mn"
    simp only [b_law_1]
    walk_at "mn"
    simp only [hN, List.map_cons]
    walk_at "mn"
    have f1 := (Fr.refl tp).push (.lst [D.non, D.str s0])
    refine wpx_of_wp (r_draw (by omega) f1.tp (by decide)) ?_
    rintro _ S2 ⟨v2, rfl, v20, v21, q2⟩
    have e2 := q2.keep _ _ (by have := tp_lt tp; omega) ap_self
    have f2 := f1.trans q2
    walk_at "mn"
    simp only [e2]
    walk_at "mn"
    refine w_pick (P := fun d => ∃ o : Option Str, d = lb o ∧ lbOk o) v20 v21 ?_ ?_
    · intro d hd
      simp only [List.mem_cons, List.mem_nil_iff, or_false] at hd
      rcases hd with rfl | rfl
      · exact ⟨none, rfl, trivial⟩
      · exact ⟨some s0, rfl, hw0⟩
    rintro _ ⟨o, rfl, ho⟩
    walk_at "mn"
    refine wpx_of_wp (r_great (by omega) f2.tp (f2.keep _ _ (by omega) hN) tn nm l1 l2) ?_
    rintro _ S3 ⟨c, rfl, c1, c2, f3⟩
    have cd := cdp_sz c
    walk_at "mn"
    refine ⟨decide_eq_true (by rw [List.length_append, List.length_map]; show _ ≤ 16777216; simp; omega), ?_⟩
    have eb : b.map Pg.St.d ++ [D.tup [D.str (Str.ofString "while"), lb o, c.d, D.tup []]] = (b ++ [Pg.St.whl o c []]).map Pg.St.d := by
      simp [Pg.St.d, sds_map]
    rw [eb]
    refine law_2 hn (wks_app hb ⟨⟨ho, c1, trivial⟩, trivial⟩) ?_ ?_
    · rw [sszs_app]; simp only [Pg.St.szs, Pg.St.sz]; omega
    · rw [sdps_app]; simp only [Pg.St.dps, Pg.St.dp]; omega
set_option maxHeartbeats 8000000 in
theorem law_true (ns : List Int) (hl : ns.length ≤ 63) : Mn.wp (Mn.callN Lw.defs Lw.glob 210 "law" [.loc 0]) (fun d _ => d = .bl true) [.ro (ns.map Mn.D.int)] := by
  refine x_call (n := 209) (d := d_law) rfl rfl ?_
  show wp (evSs _ b_law [some (.loc 0), none, none, none, none, none, none, none, none, none]) _ _
  simp only [b_law]
  walk_at "mn"
  refine wpx_of_wp (r_tape (by decide) hl) ?_
  rintro _ S1 ⟨t, rfl, tp⟩
  walk_at "mn"
  refine wpx_of_wp (r_draw (by decide) tp (by decide)) ?_
  rintro _ S2 ⟨w, rfl, w0, w1, f2⟩
  walk_at "mn"
  refine wpx_of_wp (r_names (by decide) f2.tp (by omega) (by omega)) ?_
  rintro _ S3 ⟨N, xs, rfl, hNl, hN, hns, wns, f3⟩
  obtain ⟨vis, rfl, nm⟩ := nmL_str wns
  rw [List.length_map] at hns
  have t2 := tp_lt f2.tp
  walk_at "mn"
  refine wpx_of_wp (r_draw (by decide) f3.tp (by decide)) ?_
  rintro _ S3' ⟨sh, rfl, sh0, sh1, f3'⟩
  have hN3 := f3'.keep _ _ (by omega) hN
  walk_at "mn"
  refine wpx_of_wp (r_any (by decide) f3'.tp hN3 (by omega) nm (by omega) (by omega)) ?_
  rintro _ S4 ⟨b, rfl, b1, b2, b3, f4⟩
  have hN4 := f4.keep _ _ (by omega) hN3
  walk_at "mn"
  cases e5 : sh == 0 with
  | false =>
    walk_at "mn"
    exact law_6 (by decide) f4.tp hN4 (by omega) nm (by omega) (by omega) b1 (by omega) (by omega)
  | true =>
    walk_at "mn"
    obtain ⟨s0, vis', rfl⟩ : ∃ s0 vis', vis = s0 :: vis' := by cases vis with | nil => simp at hns; omega | cons a l => exact ⟨a, l, rfl⟩
    have hw0 := nm s0 (List.mem_cons_self ..)
    have hm0 : s0 ∈ s0 :: vis' := List.mem_cons_self ..
    simp only [b_law_5]
    walk_at "mn"
    simp only [hN4, List.map_cons]
    walk_at "mn"
    try simp only [hN4, List.map_cons]
    walk_at "mn"
    try simp only [hN4, List.map_cons]
    walk_at "mn"
    -- the innermost second branch
    have g5 := (Fr.refl f4.tp).push (.lst [D.tup [], D.tup [D.tup [D.str (Str.ofString "if"), D.tup [D.str (Str.ofString "flag"), D.str s0], D.tup [D.tup [D.str (Str.ofString "call"), D.str s0]], D.tup []], D.tup [D.str (Str.ofString "return"), D.non]], D.tup [D.tup [D.str (Str.ofString "block"), D.tup [D.tup [D.str (Str.ofString "if"), D.tup [D.str (Str.ofString "flag"), D.str s0], D.tup [D.tup [D.str (Str.ofString "call"), D.str s0]], D.tup []]]]], D.tup [D.tup [D.str (Str.ofString "let"), D.str s0, D.bl true], D.tup [D.str (Str.ofString "if"), D.tup [D.str (Str.ofString "flag"), D.str s0], D.tup [D.tup [D.str (Str.ofString "call"), D.str s0]], D.tup []]]])
    refine wpx_of_wp (r_draw (by decide) g5.tp (by decide)) ?_
    rintro _ S6 ⟨v6, rfl, v60, v61, q6⟩
    have e6 := q6.keep _ _ (by have := tp_lt f4.tp; omega) ap_self
    have g6 := g5.trans q6
    walk_at "mn"
    simp only [e6]
    walk_at "mn"
    refine w_pick (P := fun d => ∃ q : List Pg.St, d = .tup (q.map Pg.St.d) ∧ Pg.St.wks (s0 :: vis') q ∧ Pg.St.szs q ≤ 5 ∧ Pg.St.dps q ≤ 3) v60 v61 ?_ ?_
    · intro d hd
      have ho : (Pg.St.ife (.flag s0) [.call s0] []).wk (s0 :: vis') := ⟨⟨hw0, hm0⟩, ⟨hw0, trivial⟩, trivial⟩
      simp only [List.mem_cons, List.mem_nil_iff, or_false] at hd
      rcases hd with rfl | rfl | rfl | rfl
      · exact ⟨[], rfl, trivial, by decide, by decide⟩
      · exact ⟨[.ife (.flag s0) [.call s0] [], .ret none], rfl, ⟨ho, trivial, trivial⟩, by simp [Pg.St.szs, Pg.St.sz, Cn.sz], by simp [Pg.St.dps, Pg.St.dp, Cn.dp]⟩
      · exact ⟨[.blk [.ife (.flag s0) [.call s0] []]], rfl, ⟨⟨ho, trivial⟩, trivial⟩, by simp [Pg.St.szs, Pg.St.sz, Cn.sz], by simp [Pg.St.dps, Pg.St.dp, Cn.dp]⟩
      · exact ⟨[.lt s0 true, .ife (.flag s0) [.call s0] []], rfl, ⟨hw0, ho, trivial⟩, by simp [Pg.St.szs, Pg.St.sz, Cn.sz], by simp [Pg.St.dps, Pg.St.dp, Cn.dp]⟩
    rintro _ ⟨q, rfl, q1, q2, q3⟩
    walk_at "mn"
    refine wpx_of_wp (r_draw (by decide) g6.tp (by decide)) ?_
    rintro _ S7 ⟨v7, rfl, v70, v71, q7⟩
    have g7 := g6.trans q7
    walk_at "mn"
    simp only [k_r1n (show 0 ≤ 1 + v7 by omega) (show 1 + v7 < 1000000000 by omega)]
    walk_at "mn"
    refine for_rng (fun i env S' => ∃ (q : List Pg.St) (z5 z6 z8 z9 : Option D), env = [some (.loc 0), some (.loc t), some (.loc N), some (.int sh), some (.tup (b.map Pg.St.d)), z5, z6, some (.tup (q.map Pg.St.d)), z8, z9] ∧ Fr t S4 S' ∧ Pg.St.wks (s0 :: vis') q ∧ Pg.St.szs q ≤ 5 + 4 * i ∧ Pg.St.dps q ≤ 3 + i) (by omega) (by omega) ⟨q, _, _, _, _, rfl, g7, q1, by omega, by omega⟩ ?_ ?_
    · rintro i env S' hi ⟨q, z5, z6, z8, z9, rfl, f, q1, q2, q3⟩
      have hNf := f.keep _ _ (by omega) hN4
      walk_at "mn"
      simp only [b_law_3]
      walk_at "mn"
      simp only [hNf, List.map_cons]
      walk_at "mn"
      try simp only [hNf, List.map_cons]
      walk_at "mn"
      have f8 := f.push (.lst [D.tup [], D.tup [D.tup [D.str (Str.ofString "break"), D.non]], D.tup [D.tup [D.str (Str.ofString "call"), D.str s0], D.tup [D.str (Str.ofString "continue"), D.str s0]]])
      refine wpx_of_wp (r_draw (by decide) f8.tp (by decide)) ?_
      rintro _ S9 ⟨v9, rfl, v90, v91, q9⟩
      have e9 := q9.keep _ _ (by have := tp_lt f.tp; omega) ap_self
      have f9 := f8.trans q9
      have hN9 := f9.keep _ _ (by omega) hN4
      walk_at "mn"
      simp only [e9]
      walk_at "mn"
      refine w_pick (P := fun d => ∃ r : List Pg.St, d = .tup (r.map Pg.St.d) ∧ Pg.St.wks (s0 :: vis') r ∧ Pg.St.szs r ≤ 2 ∧ Pg.St.dps r ≤ 1) v90 v91 ?_ ?_
      · intro d hd
        simp only [List.mem_cons, List.mem_nil_iff, or_false] at hd
        rcases hd with rfl | rfl | rfl
        · exact ⟨[], rfl, trivial, by decide, by decide⟩
        · exact ⟨[.brk none], rfl, ⟨trivial, trivial⟩, by simp [Pg.St.szs, Pg.St.sz], by simp [Pg.St.dps, Pg.St.dp]⟩
        · exact ⟨[.call s0, .cnt (some s0)], rfl, ⟨hw0, hw0, trivial⟩, by simp [Pg.St.szs, Pg.St.sz], by simp [Pg.St.dps, Pg.St.dp]⟩
      rintro _ ⟨r, rfl, r1, r2, r3⟩
      walk_at "mn"
      simp only [hN9]
      walk_at "mn"
      refine wpx_of_wp (r_draw (by decide) f9.tp (by rw [List.length_map]; omega)) ?_
      rintro _ S10 ⟨v10, rfl, v100, v101, q10⟩
      have f10 := f9.trans q10
      have hN10 := f10.keep _ _ (by omega) hN4
      walk_at "mn"
      simp only [hN10]
      walk_at "mn"
      refine pick_str v100 (by rw [List.length_map] at v101; have : 1 ≤ (s0 :: vis').length := by simp
                               omega) ?_
      intro s1 hs1
      have hw1 := nm s1 hs1
      walk_at "mn"
      have er : [D.tup [D.str (Str.ofString "if"), D.tup [D.str (Str.ofString "call"), D.str s1], D.tup (r.map Pg.St.d), D.tup (q.map Pg.St.d)]] = [Pg.St.ife (.call s1) r q].map Pg.St.d := by simp [Pg.St.d, Cn.d, sds_map]
      rw [er]
      refine ⟨[Pg.St.ife (.call s1) r q], _, _, _, _, rfl, f10, ⟨⟨hw1, r1, q1⟩, trivial⟩, ?_, ?_⟩
      · simp only [Pg.St.szs, Pg.St.sz, Cn.sz]; omega
      · simp only [Pg.St.dps, Pg.St.dp, Cn.dp]; omega
    · rintro env S' ⟨q, z5, z6, z8, z9, rfl, f, q1, q2, q3⟩
      have bl := sszs_len b
      have ql := sszs_len q
      rw [then_nx]
      simp only [b_law_4]
      walk_at "mn"
      rw [cut_2]
      have t1 := wks_sub b1 (List.take_sublist 2 b)
      obtain ⟨r, hr, t2⟩ : ∃ r : List Pg.St, cutD (b.map Pg.St.d) (some 2) (some 3) = r.map Pg.St.d ∧ (b.take 2 ++ r).Sublist b := by
        obtain ⟨k, hk | hk⟩ := cut_23 (xs := b.map Pg.St.d)
        · refine ⟨(b.drop 2).take k, by rw [hk]; simp [List.map_take, List.map_drop], ?_⟩
          have := (List.Sublist.refl (b.take 2)).append (List.take_sublist k (b.drop 2))
          rwa [List.take_append_drop] at this
        · exact ⟨[], hk, by rw [List.append_nil]; exact List.take_sublist 2 b⟩
      have t3 := wks_sub b1 t2
      rw [sszs_app, sdps_app] at t3
      have tr := wks_sub t3.1 (List.sublist_append_right (b.take 2) r)
      have rl := sszs_len r
      rw [hr, show (b.map Pg.St.d).take 2 = (b.take 2).map Pg.St.d by simp [List.map_take]]
      walk_at "mn"
      refine ⟨decide_eq_true (by rw [List.length_append, List.length_map, List.length_map, List.length_take]; show _ ≤ 16777216; omega), ?_⟩
      refine ⟨decide_eq_true (by rw [List.length_append, List.length_append, List.length_map, List.length_map, List.length_map, List.length_take]; show _ ≤ 16777216; omega), ?_⟩
      rw [← List.map_append, ← List.map_append]
      have e0 : sh = 0 := by simpa using e5
      subst e0
      simp only [b_law_6]
      walk_at "mn"
      rw [show ((0 : Int) == 1) = false from rfl]
      walk_at "mn"
      refine law_2 (by decide) (wks_app (wks_app t1.1 q1) tr.1) ?_ ?_
      · rw [sszs_app, sszs_app]; omega
      · rw [sdps_app, sdps_app]; omega
end Lw
namespace Lw
open PySem Mn L2
theorem ok_show_part : StOk st_show_part "show_part" N_show_part ["condition", "kinds"] d_show_part names glob := ⟨⟨rfl, rfl, rfl, by decide +kernel, rfl, by decide +kernel, by decide +kernel⟩, rfl, rfl, by kernel_rfl, fun _ _ _ _ _ _ us hl => match us, hl with | [_, _], _ => rfl⟩
theorem ok_show_condition : StOk st_show_condition "show_condition" N_show_condition ["condition"] d_show_condition names glob := ⟨⟨rfl, rfl, rfl, by decide +kernel, rfl, by decide +kernel, by decide +kernel⟩, rfl, rfl, by kernel_rfl, fun _ _ _ _ _ _ us hl => match us, hl with | [_], _ => rfl⟩
theorem ok_show_simple : StOk st_show_simple "show_simple" N_show_simple ["statement"] d_show_simple names glob := ⟨⟨rfl, rfl, rfl, by decide +kernel, rfl, by decide +kernel, by decide +kernel⟩, rfl, rfl, by kernel_rfl, fun _ _ _ _ _ _ us hl => match us, hl with | [_], _ => rfl⟩
theorem ok_loop_head : StOk st_loop_head "loop_head" N_loop_head ["statement"] d_loop_head names glob := ⟨⟨rfl, rfl, rfl, by decide +kernel, rfl, by decide +kernel, by decide +kernel⟩, rfl, rfl, by kernel_rfl, fun _ _ _ _ _ _ us hl => match us, hl with | [_], _ => rfl⟩
theorem ok_if_lines : StOk st_if_lines "if_lines" N_if_lines ["statement", "indent", "start"] d_if_lines names glob := ⟨⟨rfl, rfl, rfl, by decide +kernel, rfl, by decide +kernel, by decide +kernel⟩, rfl, rfl, by kernel_rfl, fun _ _ _ _ _ _ us hl => match us, hl with | [_, _, _], _ => rfl⟩
theorem ok_statement_lines : StOk st_statement_lines "statement_lines" N_statement_lines ["statement", "indent"] d_statement_lines names glob := ⟨⟨rfl, rfl, rfl, by decide +kernel, rfl, by decide +kernel, by decide +kernel⟩, rfl, rfl, by kernel_rfl, fun _ _ _ _ _ _ us hl => match us, hl with | [_, _], _ => rfl⟩
theorem ok_body_lines : StOk st_body_lines "body_lines" N_body_lines ["body", "indent"] d_body_lines names glob := ⟨⟨rfl, rfl, rfl, by decide +kernel, rfl, by decide +kernel, by decide +kernel⟩, rfl, rfl, by kernel_rfl, fun _ _ _ _ _ _ us hl => match us, hl with | [_, _], _ => rfl⟩
theorem ok_show_program : StOk st_show_program "show_program" N_show_program ["program"] d_show_program names glob := ⟨⟨rfl, rfl, rfl, by decide +kernel, rfl, by decide +kernel, by decide +kernel⟩, rfl, rfl, by kernel_rfl, fun _ _ _ _ _ _ us hl => match us, hl with | [_], _ => rfl⟩
theorem ok__law_tape : StOk st__law_tape "_law_tape" N__law_tape ["_law_script"] d__law_tape names glob := ⟨⟨rfl, rfl, rfl, by decide +kernel, rfl, by decide +kernel, by decide +kernel⟩, rfl, rfl, by kernel_rfl, fun _ _ _ _ _ _ us hl => match us, hl with | [_], _ => rfl⟩
theorem ok__law_draw : StOk st__law_draw "_law_draw" N__law_draw ["_law_tape_here", "_law_many"] d__law_draw names glob := ⟨⟨rfl, rfl, rfl, by decide +kernel, rfl, by decide +kernel, by decide +kernel⟩, rfl, rfl, by kernel_rfl, fun _ _ _ _ _ _ us hl => match us, hl with | [_, _], _ => rfl⟩
theorem ok__law_names : StOk st__law_names "_law_names" N__law_names ["_law_tape_here", "_law_many"] d__law_names names glob := ⟨⟨rfl, rfl, rfl, by decide +kernel, rfl, by decide +kernel, by decide +kernel⟩, rfl, rfl, by kernel_rfl, fun _ _ _ _ _ _ us hl => match us, hl with | [_, _], _ => rfl⟩
theorem ok__law_leaf : StOk st__law_leaf "_law_leaf" N__law_leaf ["_law_tape_here", "_law_world", "_law_flags"] d__law_leaf names glob := ⟨⟨rfl, rfl, rfl, by decide +kernel, rfl, by decide +kernel, by decide +kernel⟩, rfl, rfl, by kernel_rfl, fun _ _ _ _ _ _ us hl => match us, hl with | [_, _, _], _ => rfl⟩
theorem ok__law_joined : StOk st__law_joined "_law_joined" N__law_joined ["_law_word", "_law_left", "_law_right"] d__law_joined names glob := ⟨⟨rfl, rfl, rfl, by decide +kernel, rfl, by decide +kernel, by decide +kernel⟩, rfl, rfl, by kernel_rfl, fun _ _ _ _ _ _ us hl => match us, hl with | [_, _, _], _ => rfl⟩
theorem ok__law_condition : StOk st__law_condition "_law_condition" N__law_condition ["_law_tape_here", "_law_world", "_law_flags"] d__law_condition names glob := ⟨⟨rfl, rfl, rfl, by decide +kernel, rfl, by decide +kernel, by decide +kernel⟩, rfl, rfl, by kernel_rfl, fun _ _ _ _ _ _ us hl => match us, hl with | [_, _, _], _ => rfl⟩
theorem ok__law_parts : StOk st__law_parts "_law_parts" N__law_parts ["_law_condition_here"] d__law_parts names glob := ⟨⟨rfl, rfl, rfl, by decide +kernel, rfl, by decide +kernel, by decide +kernel⟩, rfl, rfl, by kernel_rfl, fun _ _ _ _ _ _ us hl => match us, hl with | [_], _ => rfl⟩
theorem ok__law_wild : StOk st__law_wild "_law_wild" N__law_wild ["_law_tape_here", "_law_names_here", "_law_room", "_law_depth"] d__law_wild names glob := ⟨⟨rfl, rfl, rfl, by decide +kernel, rfl, by decide +kernel, by decide +kernel⟩, rfl, rfl, by kernel_rfl, fun _ _ _ _ _ _ us hl => match us, hl with | [_, _, _, _], _ => rfl⟩
theorem ok__law_tree : StOk st__law_tree "_law_tree" N__law_tree ["_law_tape_here", "_law_names_here", "_law_room", "_law_depth"] d__law_tree names glob := ⟨⟨rfl, rfl, rfl, by decide +kernel, rfl, by decide +kernel, by decide +kernel⟩, rfl, rfl, by kernel_rfl, fun _ _ _ _ _ _ us hl => match us, hl with | [_, _, _, _], _ => rfl⟩
theorem ok__law_wrapped : StOk st__law_wrapped "_law_wrapped" N__law_wrapped ["_law_tape_here", "_law_names_here", "_law_body", "_law_many"] d__law_wrapped names glob := ⟨⟨rfl, rfl, rfl, by decide +kernel, rfl, by decide +kernel, by decide +kernel⟩, rfl, rfl, by kernel_rfl, fun _ _ _ _ _ _ us hl => match us, hl with | [_, _, _, _], _ => rfl⟩
theorem ok__law_any : StOk st__law_any "_law_any" N__law_any ["_law_tape_here", "_law_names_here"] d__law_any names glob := ⟨⟨rfl, rfl, rfl, by decide +kernel, rfl, by decide +kernel, by decide +kernel⟩, rfl, rfl, by kernel_rfl, fun _ _ _ _ _ _ us hl => match us, hl with | [_, _], _ => rfl⟩
theorem ok__law_shown : StOk st__law_shown "_law_shown" N__law_shown ["_law_condition_here"] d__law_shown names glob := ⟨⟨rfl, rfl, rfl, by decide +kernel, rfl, by decide +kernel, by decide +kernel⟩, rfl, rfl, by kernel_rfl, fun _ _ _ _ _ _ us hl => match us, hl with | [_], _ => rfl⟩
theorem ok__law_simple : StOk st__law_simple "_law_simple" N__law_simple ["_law_statement"] d__law_simple names glob := ⟨⟨rfl, rfl, rfl, by decide +kernel, rfl, by decide +kernel, by decide +kernel⟩, rfl, rfl, by kernel_rfl, fun _ _ _ _ _ _ us hl => match us, hl with | [_], _ => rfl⟩
theorem ok__law_lines : StOk st__law_lines "_law_lines" N__law_lines ["_law_body", "_law_indent"] d__law_lines names glob := ⟨⟨rfl, rfl, rfl, by decide +kernel, rfl, by decide +kernel, by decide +kernel⟩, rfl, rfl, by kernel_rfl, fun _ _ _ _ _ _ us hl => match us, hl with | [_, _], _ => rfl⟩
theorem ok__law_printed : StOk st__law_printed "_law_printed" N__law_printed ["_law_program"] d__law_printed names glob := ⟨⟨rfl, rfl, rfl, by decide +kernel, rfl, by decide +kernel, by decide +kernel⟩, rfl, rfl, by kernel_rfl, fun _ _ _ _ _ _ us hl => match us, hl with | [_], _ => rfl⟩
theorem ok__law_great : StOk st__law_great "_law_great" N__law_great ["_law_tape_here", "_law_names_here"] d__law_great names glob := ⟨⟨rfl, rfl, rfl, by decide +kernel, rfl, by decide +kernel, by decide +kernel⟩, rfl, rfl, by kernel_rfl, fun _ _ _ _ _ _ us hl => match us, hl with | [_, _], _ => rfl⟩
theorem ok_law : StOk st_law "law" N_law ["_law_script"] d_law names glob := ⟨⟨rfl, rfl, rfl, by decide +kernel, rfl, by decide +kernel, by decide +kernel⟩, rfl, rfl, by kernel_rfl, fun _ _ _ _ _ _ us hl => match us, hl with | [_], _ => rfl⟩
theorem all_mk {K : PySem.W.Frag} {h : Heap} {mg : Str → Option Value} {fa f0 f1 f2 f3 f4 f5 f6 f7 f8 f9 f10 f11 f12 f13 f14 f15 f16 f17 f18 f19 f20 f21 f22 f23 f24 : Addr} (X : K.In h) (G : h.Ns mainGlobals mg) (hfa : mg "law" = some (.ref fa)) {od0 an0 od1 an1 od2 an2 od3 an3 od4 an4 od5 an5 od6 an6 od7 an7 od8 an8 od9 an9 od10 an10 od11 an11 od12 an12 od13 an13 od14 an14 od15 an15 od16 an16 od17 an17 od18 an18 od19 an19 od20 an20 od21 an21 od22 an22 od23 an23 od24 an24 : Option Addr} {sl0 sl1 sl2 sl3 sl4 sl5 sl6 sl7 sl8 sl9 sl10 sl11 sl12 sl13 sl14 sl15 sl16 sl17 sl18 sl19 sl20 sl21 sl22 sl23 sl24 : Array (Option Value)} {oc0 kV0 dc0 pm0 cd0 ct0 oc1 kV1 dc1 pm1 cd1 ct1 oc2 kV2 dc2 pm2 cd2 ct2 oc3 kV3 dc3 pm3 cd3 ct3 oc4 kV4 dc4 pm4 cd4 ct4 oc5 kV5 dc5 pm5 cd5 ct5 oc6 kV6 dc6 pm6 cd6 ct6 oc7 kV7 dc7 pm7 cd7 ct7 oc8 kV8 dc8 pm8 cd8 ct8 oc9 kV9 dc9 pm9 cd9 ct9 oc10 kV10 dc10 pm10 cd10 ct10 oc11 kV11 dc11 pm11 cd11 ct11 oc12 kV12 dc12 pm12 cd12 ct12 oc13 kV13 dc13 pm13 cd13 ct13 oc14 kV14 dc14 pm14 cd14 ct14 oc15 kV15 dc15 pm15 cd15 ct15 oc16 kV16 dc16 pm16 cd16 ct16 oc17 kV17 dc17 pm17 cd17 ct17 oc18 kV18 dc18 pm18 cd18 ct18 oc19 kV19 dc19 pm19 cd19 ct19 oc20 kV20 dc20 pm20 cd20 ct20 oc21 kV21 dc21 pm21 cd21 ct21 oc22 kV22 dc22 pm22 cd22 ct22 oc23 kV23 dc23 pm23 cd23 ct23 oc24 kV24 dc24 pm24 cd24 ct24 : Value} {ga0 : Addr} {go0 : Option Addr} {gn0 : Nat} {gs0 : Array (Option Value)} {gt0_0 : Tok} {gt0_1 : Tok} 
    (a0 : PySem.W.nsIn K mainGlobals "show_part" = some (some (.ref f0))) (l0 : K.lookup f0 = some ⟨oc0, od0, .func (PySem.W.fnOf "show_part" "show_part" (defArgs st_show_part) (defBody st_show_part) (defScope st_show_part) .none kV0 dc0 pm0 an0 cd0 ct0), sl0⟩) (c0 : PySem.W.codeIn K cd0 "show_part" = true) (k0 : PySem.W.keepIn K (.ref f0) = true)
    (a1 : PySem.W.nsIn K mainGlobals "show_condition" = some (some (.ref f1))) (l1 : K.lookup f1 = some ⟨oc1, od1, .func (PySem.W.fnOf "show_condition" "show_condition" (defArgs st_show_condition) (defBody st_show_condition) (defScope st_show_condition) .none kV1 dc1 pm1 an1 cd1 ct1), sl1⟩) (c1 : PySem.W.codeIn K cd1 "show_condition" = true) (k1 : PySem.W.keepIn K (.ref f1) = true)
    (a2 : PySem.W.nsIn K mainGlobals "show_simple" = some (some (.ref f2))) (l2 : K.lookup f2 = some ⟨oc2, od2, .func (PySem.W.fnOf "show_simple" "show_simple" (defArgs st_show_simple) (defBody st_show_simple) (defScope st_show_simple) .none kV2 dc2 pm2 an2 cd2 ct2), sl2⟩) (c2 : PySem.W.codeIn K cd2 "show_simple" = true) (k2 : PySem.W.keepIn K (.ref f2) = true)
    (a3 : PySem.W.nsIn K mainGlobals "loop_head" = some (some (.ref f3))) (l3 : K.lookup f3 = some ⟨oc3, od3, .func (PySem.W.fnOf "loop_head" "loop_head" (defArgs st_loop_head) (defBody st_loop_head) (defScope st_loop_head) .none kV3 dc3 pm3 an3 cd3 ct3), sl3⟩) (c3 : PySem.W.codeIn K cd3 "loop_head" = true) (k3 : PySem.W.keepIn K (.ref f3) = true)
    (a4 : PySem.W.nsIn K mainGlobals "if_lines" = some (some (.ref f4))) (l4 : K.lookup f4 = some ⟨oc4, od4, .func (PySem.W.fnOf "if_lines" "if_lines" (defArgs st_if_lines) (defBody st_if_lines) (defScope st_if_lines) .none kV4 dc4 pm4 an4 cd4 ct4), sl4⟩) (c4 : PySem.W.codeIn K cd4 "if_lines" = true) (k4 : PySem.W.keepIn K (.ref f4) = true)
    (a5 : PySem.W.nsIn K mainGlobals "statement_lines" = some (some (.ref f5))) (l5 : K.lookup f5 = some ⟨oc5, od5, .func (PySem.W.fnOf "statement_lines" "statement_lines" (defArgs st_statement_lines) (defBody st_statement_lines) (defScope st_statement_lines) .none kV5 dc5 pm5 an5 cd5 ct5), sl5⟩) (c5 : PySem.W.codeIn K cd5 "statement_lines" = true) (k5 : PySem.W.keepIn K (.ref f5) = true)
    (a6 : PySem.W.nsIn K mainGlobals "body_lines" = some (some (.ref f6))) (l6 : K.lookup f6 = some ⟨oc6, od6, .func (PySem.W.fnOf "body_lines" "body_lines" (defArgs st_body_lines) (defBody st_body_lines) (defScope st_body_lines) .none kV6 dc6 pm6 an6 cd6 ct6), sl6⟩) (c6 : PySem.W.codeIn K cd6 "body_lines" = true) (k6 : PySem.W.keepIn K (.ref f6) = true)
    (a7 : PySem.W.nsIn K mainGlobals "show_program" = some (some (.ref f7))) (l7 : K.lookup f7 = some ⟨oc7, od7, .func (PySem.W.fnOf "show_program" "show_program" (defArgs st_show_program) (defBody st_show_program) (defScope st_show_program) .none kV7 dc7 pm7 an7 cd7 ct7), sl7⟩) (c7 : PySem.W.codeIn K cd7 "show_program" = true) (k7 : PySem.W.keepIn K (.ref f7) = true)
    (a8 : PySem.W.nsIn K mainGlobals "_law_tape" = some (some (.ref f8))) (l8 : K.lookup f8 = some ⟨oc8, od8, .func (PySem.W.fnOf "_law_tape" "_law_tape" (defArgs st__law_tape) (defBody st__law_tape) (defScope st__law_tape) .none kV8 dc8 pm8 an8 cd8 ct8), sl8⟩) (c8 : PySem.W.codeIn K cd8 "_law_tape" = true) (k8 : PySem.W.keepIn K (.ref f8) = true)
    (a9 : PySem.W.nsIn K mainGlobals "_law_draw" = some (some (.ref f9))) (l9 : K.lookup f9 = some ⟨oc9, od9, .func (PySem.W.fnOf "_law_draw" "_law_draw" (defArgs st__law_draw) (defBody st__law_draw) (defScope st__law_draw) .none kV9 dc9 pm9 an9 cd9 ct9), sl9⟩) (c9 : PySem.W.codeIn K cd9 "_law_draw" = true) (k9 : PySem.W.keepIn K (.ref f9) = true)
    (a10 : PySem.W.nsIn K mainGlobals "_law_names" = some (some (.ref f10))) (l10 : K.lookup f10 = some ⟨oc10, od10, .func (PySem.W.fnOf "_law_names" "_law_names" (defArgs st__law_names) (defBody st__law_names) (defScope st__law_names) .none kV10 dc10 pm10 an10 cd10 ct10), sl10⟩) (c10 : PySem.W.codeIn K cd10 "_law_names" = true) (k10 : PySem.W.keepIn K (.ref f10) = true)
    (a11 : PySem.W.nsIn K mainGlobals "_law_leaf" = some (some (.ref f11))) (l11 : K.lookup f11 = some ⟨oc11, od11, .func (PySem.W.fnOf "_law_leaf" "_law_leaf" (defArgs st__law_leaf) (defBody st__law_leaf) (defScope st__law_leaf) .none kV11 dc11 pm11 an11 cd11 ct11), sl11⟩) (c11 : PySem.W.codeIn K cd11 "_law_leaf" = true) (k11 : PySem.W.keepIn K (.ref f11) = true)
    (a12 : PySem.W.nsIn K mainGlobals "_law_joined" = some (some (.ref f12))) (l12 : K.lookup f12 = some ⟨oc12, od12, .func (PySem.W.fnOf "_law_joined" "_law_joined" (defArgs st__law_joined) (defBody st__law_joined) (defScope st__law_joined) .none kV12 dc12 pm12 an12 cd12 ct12), sl12⟩) (c12 : PySem.W.codeIn K cd12 "_law_joined" = true) (k12 : PySem.W.keepIn K (.ref f12) = true)
    (a13 : PySem.W.nsIn K mainGlobals "_law_condition" = some (some (.ref f13))) (l13 : K.lookup f13 = some ⟨oc13, od13, .func (PySem.W.fnOf "_law_condition" "_law_condition" (defArgs st__law_condition) (defBody st__law_condition) (defScope st__law_condition) .none kV13 dc13 pm13 an13 cd13 ct13), sl13⟩) (c13 : PySem.W.codeIn K cd13 "_law_condition" = true) (k13 : PySem.W.keepIn K (.ref f13) = true)
    (a14 : PySem.W.nsIn K mainGlobals "_law_parts" = some (some (.ref f14))) (l14 : K.lookup f14 = some ⟨oc14, od14, .func (PySem.W.fnOf "_law_parts" "_law_parts" (defArgs st__law_parts) (defBody st__law_parts) (defScope st__law_parts) .none kV14 dc14 pm14 an14 cd14 ct14), sl14⟩) (c14 : PySem.W.codeIn K cd14 "_law_parts" = true) (k14 : PySem.W.keepIn K (.ref f14) = true)
    (a15 : PySem.W.nsIn K mainGlobals "_law_wild" = some (some (.ref f15))) (l15 : K.lookup f15 = some ⟨oc15, od15, .func (PySem.W.fnOf "_law_wild" "_law_wild" (defArgs st__law_wild) (defBody st__law_wild) (defScope st__law_wild) .none kV15 dc15 pm15 an15 cd15 ct15), sl15⟩) (c15 : PySem.W.codeIn K cd15 "_law_wild" = true) (k15 : PySem.W.keepIn K (.ref f15) = true)
    (a16 : PySem.W.nsIn K mainGlobals "_law_tree" = some (some (.ref f16))) (l16 : K.lookup f16 = some ⟨oc16, od16, .func (PySem.W.fnOf "_law_tree" "_law_tree" (defArgs st__law_tree) (defBody st__law_tree) (defScope st__law_tree) .none kV16 dc16 pm16 an16 cd16 ct16), sl16⟩) (c16 : PySem.W.codeIn K cd16 "_law_tree" = true) (k16 : PySem.W.keepIn K (.ref f16) = true)
    (a17 : PySem.W.nsIn K mainGlobals "_law_wrapped" = some (some (.ref f17))) (l17 : K.lookup f17 = some ⟨oc17, od17, .func (PySem.W.fnOf "_law_wrapped" "_law_wrapped" (defArgs st__law_wrapped) (defBody st__law_wrapped) (defScope st__law_wrapped) .none kV17 dc17 pm17 an17 cd17 ct17), sl17⟩) (c17 : PySem.W.codeIn K cd17 "_law_wrapped" = true) (k17 : PySem.W.keepIn K (.ref f17) = true)
    (a18 : PySem.W.nsIn K mainGlobals "_law_any" = some (some (.ref f18))) (l18 : K.lookup f18 = some ⟨oc18, od18, .func (PySem.W.fnOf "_law_any" "_law_any" (defArgs st__law_any) (defBody st__law_any) (defScope st__law_any) .none kV18 dc18 pm18 an18 cd18 ct18), sl18⟩) (c18 : PySem.W.codeIn K cd18 "_law_any" = true) (k18 : PySem.W.keepIn K (.ref f18) = true)
    (a19 : PySem.W.nsIn K mainGlobals "_law_shown" = some (some (.ref f19))) (l19 : K.lookup f19 = some ⟨oc19, od19, .func (PySem.W.fnOf "_law_shown" "_law_shown" (defArgs st__law_shown) (defBody st__law_shown) (defScope st__law_shown) .none kV19 dc19 pm19 an19 cd19 ct19), sl19⟩) (c19 : PySem.W.codeIn K cd19 "_law_shown" = true) (k19 : PySem.W.keepIn K (.ref f19) = true)
    (a20 : PySem.W.nsIn K mainGlobals "_law_simple" = some (some (.ref f20))) (l20 : K.lookup f20 = some ⟨oc20, od20, .func (PySem.W.fnOf "_law_simple" "_law_simple" (defArgs st__law_simple) (defBody st__law_simple) (defScope st__law_simple) .none kV20 dc20 pm20 an20 cd20 ct20), sl20⟩) (c20 : PySem.W.codeIn K cd20 "_law_simple" = true) (k20 : PySem.W.keepIn K (.ref f20) = true)
    (a21 : PySem.W.nsIn K mainGlobals "_law_lines" = some (some (.ref f21))) (l21 : K.lookup f21 = some ⟨oc21, od21, .func (PySem.W.fnOf "_law_lines" "_law_lines" (defArgs st__law_lines) (defBody st__law_lines) (defScope st__law_lines) .none kV21 dc21 pm21 an21 cd21 ct21), sl21⟩) (c21 : PySem.W.codeIn K cd21 "_law_lines" = true) (k21 : PySem.W.keepIn K (.ref f21) = true)
    (a22 : PySem.W.nsIn K mainGlobals "_law_printed" = some (some (.ref f22))) (l22 : K.lookup f22 = some ⟨oc22, od22, .func (PySem.W.fnOf "_law_printed" "_law_printed" (defArgs st__law_printed) (defBody st__law_printed) (defScope st__law_printed) .none kV22 dc22 pm22 an22 cd22 ct22), sl22⟩) (c22 : PySem.W.codeIn K cd22 "_law_printed" = true) (k22 : PySem.W.keepIn K (.ref f22) = true)
    (a23 : PySem.W.nsIn K mainGlobals "_law_great" = some (some (.ref f23))) (l23 : K.lookup f23 = some ⟨oc23, od23, .func (PySem.W.fnOf "_law_great" "_law_great" (defArgs st__law_great) (defBody st__law_great) (defScope st__law_great) .none kV23 dc23 pm23 an23 cd23 ct23), sl23⟩) (c23 : PySem.W.codeIn K cd23 "_law_great" = true) (k23 : PySem.W.keepIn K (.ref f23) = true)
    (a24 : PySem.W.nsIn K mainGlobals "law" = some (some (.ref f24))) (l24 : K.lookup f24 = some ⟨oc24, od24, .func (PySem.W.fnOf "law" "law" (defArgs st_law) (defBody st_law) (defScope st_law) .none kV24 dc24 pm24 an24 cd24 ct24), sl24⟩) (c24 : PySem.W.codeIn K cd24 "law" = true) (k24 : PySem.W.keepIn K (.ref f24) = true)
    (z0 : PySem.W.nsIn K mainGlobals "len" = some none)
    (z1 : PySem.W.nsIn K mainGlobals "int" = some none)
    (z2 : PySem.W.nsIn K mainGlobals "abs" = some none)
    (z3 : PySem.W.nsIn K mainGlobals "max" = some none)
    (z4 : PySem.W.nsIn K mainGlobals "min" = some none)
    (z5 : PySem.W.nsIn K mainGlobals "sum" = some none)
    (z6 : PySem.W.nsIn K mainGlobals "list" = some none)
    (z7 : PySem.W.nsIn K mainGlobals "tuple" = some none)
    (z8 : PySem.W.nsIn K mainGlobals "str" = some none)
    (z9 : PySem.W.nsIn K mainGlobals "repr" = some none)
    (z10 : PySem.W.nsIn K mainGlobals "all" = some none)
    (z11 : PySem.W.nsIn K mainGlobals "any" = some none)
    (z12 : PySem.W.nsIn K mainGlobals "range" = some none)
    (z13 : PySem.W.nsIn K mainGlobals "reversed" = some none)
    (z14 : PySem.W.nsIn K mainGlobals "isinstance" = some none)
    (z15 : PySem.W.nsIn K mainGlobals "bool" = some none)
    (cg0 : PySem.W.nsIn K mainGlobals "TRUTHS" = some (some (.ref ga0))) (ch0 : K.lookup ga0 = some ⟨.type "tuple", go0, .seq #[.str "false" gt0_0, .str "true" gt0_1] gn0, gs0⟩) :
    PrOk K mg defs glob ∧ ∃ dl fd, defs.lookup ("law" : Str) = some dl ∧ DefOk K mg (defs.map (·.1)) glob "law" dl fa fd ["_law_script"] ∧ ∀ (s : Shared) (u : Value), BindsTo s fd ⟨[u], []⟩ [("_law_script", u)] := by
  have e := hfa.symm.trans (PySem.W.mg_of X G a24)
  cases e
  refine ⟨⟨(dfs_cons ok_show_part (hd_mk X G a0 l0 c0 k0) (dfs_cons ok_show_condition (hd_mk X G a1 l1 c1 k1) (dfs_cons ok_show_simple (hd_mk X G a2 l2 c2 k2) (dfs_cons ok_loop_head (hd_mk X G a3 l3 c3 k3) (dfs_cons ok_if_lines (hd_mk X G a4 l4 c4 k4) (dfs_cons ok_statement_lines (hd_mk X G a5 l5 c5 k5) (dfs_cons ok_body_lines (hd_mk X G a6 l6 c6 k6) (dfs_cons ok_show_program (hd_mk X G a7 l7 c7 k7) (dfs_cons ok__law_tape (hd_mk X G a8 l8 c8 k8) (dfs_cons ok__law_draw (hd_mk X G a9 l9 c9 k9) (dfs_cons ok__law_names (hd_mk X G a10 l10 c10 k10) (dfs_cons ok__law_leaf (hd_mk X G a11 l11 c11 k11) (dfs_cons ok__law_joined (hd_mk X G a12 l12 c12 k12) (dfs_cons ok__law_condition (hd_mk X G a13 l13 c13 k13) (dfs_cons ok__law_parts (hd_mk X G a14 l14 c14 k14) (dfs_cons ok__law_wild (hd_mk X G a15 l15 c15 k15) (dfs_cons ok__law_tree (hd_mk X G a16 l16 c16 k16) (dfs_cons ok__law_wrapped (hd_mk X G a17 l17 c17 k17) (dfs_cons ok__law_any (hd_mk X G a18 l18 c18 k18) (dfs_cons ok__law_shown (hd_mk X G a19 l19 c19 k19) (dfs_cons ok__law_simple (hd_mk X G a20 l20 c20 k20) (dfs_cons ok__law_lines (hd_mk X G a21 l21 c21 k21) (dfs_cons ok__law_printed (hd_mk X G a22 l22 c22 k22) (dfs_cons ok__law_great (hd_mk X G a23 l23 c23 k23) (dfs_cons ok_law (hd_mk X G a24 l24 c24 k24) dfs_nil))))))))))))))))))))))))), bts_all X G (l := btNames) ⟨z0, z1, z2, z3, z4, z5, z6, z7, z8, z9, z10, z11, z12, z13, z14, z15, trivial⟩, (gbs_cons (gb_tupS (xs := ["false", "true"]) X G cg0 ch0 (show 2 ≤ sizeLine by decide) (.cons ⟨_, rfl⟩ (.cons ⟨_, rfl⟩ .nil))) gbs_nil)⟩, d_law, _, by kernel_rfl, defOk_mk ok_law (hd_mk X G a24 l24 c24 k24), fun s v => .of_eq rfl⟩
end Lw
open PySem PySem.W PyProof.Rows
set_option maxRecDepth 100000 in
set_option maxHeartbeats 0 in
theorem PySem.Challenge.cw_flowform_k13_printed_programs_holds : PySem.Challenge.rw_flowform_k13_printed_programs.Holds := by
  w_on; o_law; k_head; (case hw => w_witness2)
  k_fill
  refine Mn.row_walk (l := PySem.Challenge.rw_flowform_k13_printed_programs) (defs := Lw.defs) (glob := Lw.glob) (n := 210) (x := "_law_script") rfl rfl (by decide) (fun w h Y => PySem.W.kIn_of Y) ?F (fun ns hl => Lw.law_true ns hl)
  case F =>
    intro w mg fa h KX G hmg
    refine' Lw.all_mk KX G hmg ?a0 ?l0 ?c0 ?k0 ?a1 ?l1 ?c1 ?k1 ?a2 ?l2 ?c2 ?k2 ?a3 ?l3 ?c3 ?k3 ?a4 ?l4 ?c4 ?k4 ?a5 ?l5 ?c5 ?k5 ?a6 ?l6 ?c6 ?k6 ?a7 ?l7 ?c7 ?k7 ?a8 ?l8 ?c8 ?k8 ?a9 ?l9 ?c9 ?k9 ?a10 ?l10 ?c10 ?k10 ?a11 ?l11 ?c11 ?k11 ?a12 ?l12 ?c12 ?k12 ?a13 ?l13 ?c13 ?k13 ?a14 ?l14 ?c14 ?k14 ?a15 ?l15 ?c15 ?k15 ?a16 ?l16 ?c16 ?k16 ?a17 ?l17 ?c17 ?k17 ?a18 ?l18 ?c18 ?k18 ?a19 ?l19 ?c19 ?k19 ?a20 ?l20 ?c20 ?k20 ?a21 ?l21 ?c21 ?k21 ?a22 ?l22 ?c22 ?k22 ?a23 ?l23 ?c23 ?k23 ?a24 ?l24 ?c24 ?k24 ?z0 ?z1 ?z2 ?z3 ?z4 ?z5 ?z6 ?z7 ?z8 ?z9 ?z10 ?z11 ?z12 ?z13 ?z14 ?z15 ?cg0 ?ch0
    (case a0 => k_is)
    (case l0 => k_is)
    (case c0 => k_is)
    (case k0 => k_is)
    (case a1 => k_is)
    (case l1 => k_is)
    (case c1 => k_is)
    (case k1 => k_is)
    (case a2 => k_is)
    (case l2 => k_is)
    (case c2 => k_is)
    (case k2 => k_is)
    (case a3 => k_is)
    (case l3 => k_is)
    (case c3 => k_is)
    (case k3 => k_is)
    (case a4 => k_is)
    (case l4 => k_is)
    (case c4 => k_is)
    (case k4 => k_is)
    (case a5 => k_is)
    (case l5 => k_is)
    (case c5 => k_is)
    (case k5 => k_is)
    (case a6 => k_is)
    (case l6 => k_is)
    (case c6 => k_is)
    (case k6 => k_is)
    (case a7 => k_is)
    (case l7 => k_is)
    (case c7 => k_is)
    (case k7 => k_is)
    (case a8 => k_is)
    (case l8 => k_is)
    (case c8 => k_is)
    (case k8 => k_is)
    (case a9 => k_is)
    (case l9 => k_is)
    (case c9 => k_is)
    (case k9 => k_is)
    (case a10 => k_is)
    (case l10 => k_is)
    (case c10 => k_is)
    (case k10 => k_is)
    (case a11 => k_is)
    (case l11 => k_is)
    (case c11 => k_is)
    (case k11 => k_is)
    (case a12 => k_is)
    (case l12 => k_is)
    (case c12 => k_is)
    (case k12 => k_is)
    (case a13 => k_is)
    (case l13 => k_is)
    (case c13 => k_is)
    (case k13 => k_is)
    (case a14 => k_is)
    (case l14 => k_is)
    (case c14 => k_is)
    (case k14 => k_is)
    (case a15 => k_is)
    (case l15 => k_is)
    (case c15 => k_is)
    (case k15 => k_is)
    (case a16 => k_is)
    (case l16 => k_is)
    (case c16 => k_is)
    (case k16 => k_is)
    (case a17 => k_is)
    (case l17 => k_is)
    (case c17 => k_is)
    (case k17 => k_is)
    (case a18 => k_is)
    (case l18 => k_is)
    (case c18 => k_is)
    (case k18 => k_is)
    (case a19 => k_is)
    (case l19 => k_is)
    (case c19 => k_is)
    (case k19 => k_is)
    (case a20 => k_is)
    (case l20 => k_is)
    (case c20 => k_is)
    (case k20 => k_is)
    (case a21 => k_is)
    (case l21 => k_is)
    (case c21 => k_is)
    (case k21 => k_is)
    (case a22 => k_is)
    (case l22 => k_is)
    (case c22 => k_is)
    (case k22 => k_is)
    (case a23 => k_is)
    (case l23 => k_is)
    (case c23 => k_is)
    (case k23 => k_is)
    (case a24 => k_is)
    (case l24 => k_is)
    (case c24 => k_is)
    (case k24 => k_is)
    (case z0 => k_is)
    (case z1 => k_is)
    (case z2 => k_is)
    (case z3 => k_is)
    (case z4 => k_is)
    (case z5 => k_is)
    (case z6 => k_is)
    (case z7 => k_is)
    (case z8 => k_is)
    (case z9 => k_is)
    (case z10 => k_is)
    (case z11 => k_is)
    (case z12 => k_is)
    (case z13 => k_is)
    (case z14 => k_is)
    (case z15 => k_is)
    (case cg0 => k_is)
    (case ch0 => k_is)
