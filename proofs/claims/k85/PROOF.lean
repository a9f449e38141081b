import PyProof.Rows.All
import Wide.All
import OpenK.AllK
import Wide.FinOn
import HandS.ForMost
import HandS.TupAny
import HandS.WideBits
import HandS.IsInst
import HandS.Deep
import HandS.Style
import HandS.WordsExc
import HandS.Codes
import HandS.RaiseMore
import HandS.Strs
import KE.GoesEnum
import HandS.Property
import HandS.Star
import HandS.Defaults
import HandS.HeadNt
import HandS.Head2
import HandS.HeadEnd
import PySem.Challenge.RW_sparebridges_k85_whole_texts_in_claims
set_option Elab.async false
set_option linter.all false
set_option maxRecDepth 100000
/-! Ev1: the data D, the store Mem, the small language E / S and its evaluator (plain Lean, no machine). -/
namespace Ev
open PySem L2

inductive D where
  | non | bl (b : Bool) | int (i : Int) | str (x : Str)
  | tup (l : List D) | lst (l : List D) | dct (l : List (D × D))
  /-- a frozen instance of the class of number c, its fields in order -/
  | obj (c : Nat) (l : List D)
  /-- a thing of the store -/
  | ref (k : Nat)
  /-- a list that is read alone (the script) -/
  | scr (l : List D)
  deriving Inhabited

mutual
def D.beq : D → D → Bool
  | .non, .non => true
  | .bl a, .bl b => a == b
  | .int a, .int b => a == b
  | .str a, .str b => a == b
  | .tup a, .tup b => D.beqL a b
  | .lst a, .lst b => D.beqL a b
  | .dct a, .dct b => D.beqP a b
  | .obj c a, .obj e b => c == e && D.beqL a b
  | .ref a, .ref b => a == b
  | .scr a, .scr b => D.beqL a b
  | _, _ => false
def D.beqL : List D → List D → Bool
  | [], [] => true
  | a :: r, b :: s => D.beq a b && D.beqL r s
  | _, _ => false
def D.beqP : List (D × D) → List (D × D) → Bool
  | [], [] => true
  | (a, x) :: r, (b, y) :: s => D.beq a b && D.beq x y && D.beqP r s
  | _, _ => false
end
mutual
theorem D.eq_of_beq : ∀ {a b : D}, D.beq a b = true → a = b
  | .non, b, h => by cases b <;> simp_all [D.beq]
  | .bl _, b, h => by cases b <;> simp_all [D.beq]
  | .int _, b, h => by cases b <;> simp_all [D.beq]
  | .str _, b, h => by cases b <;> simp_all [D.beq]
  | .tup l, b, h => by
    cases b <;> simp only [D.beq, Bool.false_eq_true] at h
    rw [D.eq_of_beqL h]
  | .lst l, b, h => by
    cases b <;> simp only [D.beq, Bool.false_eq_true] at h
    rw [D.eq_of_beqL h]
  | .dct l, b, h => by
    cases b <;> simp only [D.beq, Bool.false_eq_true] at h
    rw [D.eq_of_beqP h]
  | .obj c l, b, h => by
    cases b <;> simp only [D.beq, Bool.false_eq_true, Bool.and_eq_true, beq_iff_eq] at h
    rw [h.1, D.eq_of_beqL h.2]
  | .ref _, b, h => by cases b <;> simp_all [D.beq]
  | .scr l, b, h => by
    cases b <;> simp only [D.beq, Bool.false_eq_true] at h
    rw [D.eq_of_beqL h]
theorem D.eq_of_beqL : ∀ {a b : List D}, D.beqL a b = true → a = b
  | [], b, h => by cases b <;> simp_all [D.beqL]
  | x :: r, b, h => by
    cases b <;> simp only [D.beqL, Bool.false_eq_true, Bool.and_eq_true] at h
    rw [D.eq_of_beq h.1, D.eq_of_beqL h.2]
theorem D.eq_of_beqP : ∀ {a b : List (D × D)}, D.beqP a b = true → a = b
  | [], b, h => by cases b <;> simp_all [D.beqP]
  | (x, y) :: r, b, h => by
    cases b with
    | nil => simp [D.beqP] at h
    | cons p s =>
      obtain ⟨p1, p2⟩ := p
      simp only [D.beqP, Bool.and_eq_true] at h
      rw [D.eq_of_beq h.1.1, D.eq_of_beq h.1.2, D.eq_of_beqP h.2]
end
mutual
theorem D.beq_self : ∀ a : D, D.beq a a = true
  | .non => rfl
  | .bl _ => by simp [D.beq]
  | .int _ => by simp [D.beq]
  | .str _ => by simp [D.beq]
  | .tup l => by simp only [D.beq]; exact D.beqL_self l
  | .lst l => by simp only [D.beq]; exact D.beqL_self l
  | .dct l => by simp only [D.beq]; exact D.beqP_self l
  | .obj c l => by simp only [D.beq, beq_self_eq_true, Bool.true_and]; exact D.beqL_self l
  | .ref _ => by simp [D.beq]
  | .scr l => by simp only [D.beq]; exact D.beqL_self l
theorem D.beqL_self : ∀ a : List D, D.beqL a a = true
  | [] => rfl
  | x :: r => by simp only [D.beqL, Bool.and_eq_true]; exact ⟨D.beq_self x, D.beqL_self r⟩
theorem D.beqP_self : ∀ a : List (D × D), D.beqP a a = true
  | [] => rfl
  | (x, y) :: r => by simp only [D.beqP, Bool.and_eq_true]; exact ⟨⟨D.beq_self x, D.beq_self y⟩, D.beqP_self r⟩
end
instance : DecidableEq D := fun a b =>
  match h : D.beq a b with
  | true => .isTrue (D.eq_of_beq h)
  | false => .isFalse fun e => by rw [e, D.beq_self] at h; cases h

/-- a thing of the store -/
inductive MO where
  | lst (l : List D) | dct (l : List (D × D)) | ins (c : Nat) (l : List (Nat × D)) | dead
  deriving Inhabited, DecidableEq
abbrev Mem := List MO

inductive R (α : Type) where
  | ok (a : α) (m : Mem)
  | exc (c : Nat) (x : Option D) (m : Mem)
  | bad
  deriving Inhabited
def R.bind {α β : Type} (r : R α) (f : α → Mem → R β) : R β := match r with
  | .ok a m => f a m
  | .exc c x m => .exc c x m
  | .bad => .bad
@[simp] theorem R.bind_ok {α β : Type} (a : α) (m : Mem) (f : α → Mem → R β) : R.bind (.ok a m) f = f a m := rfl
@[simp] theorem R.bind_exc {α β : Type} (c x m) (f : α → Mem → R β) : R.bind (.exc c x m) f = .exc c x m := rfl
@[simp] theorem R.bind_bad {α β : Type} (f : α → Mem → R β) : R.bind .bad f = .bad := rfl
theorem R.bind_assoc {α β γ : Type} (r : R α) (f : α → Mem → R β) (g : β → Mem → R γ) : (r.bind f).bind g = r.bind fun a m => (f a m).bind g := by
  cases r <;> rfl
/-- no answer where there was none -/
def ofO {α : Type} (o : Option α) (m : Mem) : R α := match o with
  | some a => .ok a m
  | none => .bad
@[simp] theorem ofO_some {α : Type} (a : α) (m : Mem) : ofO (some a) m = .ok a m := rfl
@[simp] theorem ofO_none {α : Type} (m : Mem) : ofO (none : Option α) m = .bad := rfl
/-- the two ways of a test -/
def onB {α : Type} (o : Option Bool) (t f : R α) : R α := match o with
  | some true => t
  | some false => f
  | none => .bad
@[simp] theorem onB_true {α : Type} (t f : R α) : onB (some true) t f = t := rfl
@[simp] theorem onB_false {α : Type} (t f : R α) : onB (some false) t f = f := rfl
@[simp] theorem onB_none {α : Type} (t f : R α) : onB none t f = .bad := rfl
theorem onB_some {α : Type} (b : Bool) (t f : R α) : onB (some b) t f = if b then t else f := by cases b <;> rfl
/-- exceptions that may not be -/
def R.noexc {α : Type} (r : R α) : R α := match r with
  | .exc .. => .bad
  | r => r
@[simp] theorem R.noexc_ok {α : Type} (a : α) (m : Mem) : R.noexc (.ok a m) = .ok a m := rfl

/-- a list or dict of the store, as it stands -/
def deref (m : Mem) : D → D
  | .ref k => match m[k]? with
    | some (.lst l) => .lst l
    | some (.dct l) => .dct l
    | _ => .ref k
  | d => d

/-- plain data -/
def toP : D → Option PyData
  | .non => some .none
  | .bl b => some (.bool b)
  | .int i => some (.int i)
  | .str x => some (.str x)
  | .tup l => (go l).map .tuple
  | .lst l => (go l).map .list
  | _ => none
where go : List D → Option (List PyData)
  | [] => some []
  | d :: r => (toP d).bind fun p => (go r).map (p :: ·)

/-! ### the language -/
inductive Ty where
  | int | bool | str | tuple | list | dict | cls (c : Nat)
  deriving DecidableEq
inductive Bi where
  | len | int | bool | str | abs | min | max | sum | all | any | tuple | list | divmod | repr | sorted | dict
  deriving DecidableEq
inductive Sm where
  | split | join | index | count | get | keys
  deriving DecidableEq
inductive Sq where
  | len | str
  deriving DecidableEq
mutual
inductive E where
  | v (i : Nat)
  | non | bl (b : Bool) | int (i : Int) | str (x : Str)
  | g (i : Nat)
  | bin (o : Operator) (a b : E)
  | neg (a : E) | not (a : E) | and (a b : E) | or (a b : E)
  | cmp (o : CmpOp) (a b : E)
  | chain (o p : CmpOp) (a b c : E)
  | ife (c a b : E)
  | tup (l : EL) | lst (l : EL) | mlst (l : EL)
  /-- a def called; its promise is the k-th of the table -/
  | call (k : Nat) (l : EL)
  /-- a property of an instance of class c, by its k-th promise -/
  | prop (k c : Nat) (a : E)
  /-- len, str of an instance of class c, by the k-th promise -/
  | spec (q : Sq) (k c : Nat) (a : E)
  /-- a field of an instance -/
  | fld (c f : Nat) (a : E)
  /-- a new instance of class c, by the k-th promise (its __init__); z: frozen then -/
  | mk (z : Bool) (k c : Nat) (l : EL)
  /-- a method of an instance of class c -/
  | mcall (k c : Nat) (a : E) (l : EL)
  | bi (b : Bi) (l : EL)
  | isi (t : Ty) (a : E)
  | sm (s : Sm) (a : E) (l : EL)
  | ix (a b : E)
  | sl (a : E) (lo hi : Op)
  | lc (own : List Nat) (e : E) (t : T) (i : I) (c : Op)
  | mlc (own : List Nat) (e : E) (t : T) (i : I) (c : Op)
  /-- two clauses; z: a thing of the store then -/
  | lc2 (z : Bool) (own own1 : List Nat) (e : E) (t : T) (i : I) (c : Op) (t1 : T) (i1 : I) (c1 : Op)
  /-- an operator whose new list is a thing of the store -/
  | mbin (o : Operator) (a b : E)
  /-- a method whose new list is a thing of the store -/
  | msm (s : Sm) (a : E) (l : EL)
  /-- how many different texts there are -/
  | lenset (a : E)
  /-- a def called by keywords alone -/
  | callK (k : Nat) (perm : List Nat) (l : EL)
  | never
inductive EL where
  | nil | cons (e : E) (l : EL)
  /-- *e, the last -/
  | star (e : E)
inductive Op where
  | no | yes (e : E)
inductive T where
  | nm (i : Nat) | tup (l : TL) | ix (a b : E)
inductive TL where
  | nil | cons (t : T) (l : TL)
inductive I where
  | seq (e : E) | rng (l : EL) | zip (l : EL) | enum (e : E)
end
mutual
inductive S where
  | set (t : T) (e : E)
  | par2 (i j : Nat) (l : EL)
  | par3 (i j k : Nat) (l : EL)
  | aug (i : Nat) (o : Operator) (e : E)
  | ex (e : E)
  | app (a e : E)
  | setA (c f : Nat) (a e : E)
  | ife (c : E) (a b : SL)
  | for (t : T) (i : I) (b : SL)
  | ret (e : E) | retN | brk | cnt | pass
  | raise (c : Nat) (l : EL)
  | never
inductive SL where
  | nil | cons (s : S) (l : SL)
end

/-! ### operators -/
def lim : Nat := 16777216
def mulOk (i j : Int) : Bool := decide ((-(2 ^ 64) < i ∧ i < 2 ^ 64) ∨ (-(2 ^ 64) < j ∧ j < 2 ^ 64)) || decide (i.natAbs.log2 + j.natAbs.log2 < 1000000)
def divOk (j : Int) : Bool := decide (0 < j ∧ j.natAbs.log2 < 9000)
def sizeOk (n : Nat) : Bool := decide (n ≤ lim)
def opBin (o : Operator) (x y : D) (m : Mem) : R D :=
  match o, deref m x, deref m y with
  | .Add, .int i, .int j => .ok (.int (i + j)) m
  | .Sub, .int i, .int j => .ok (.int (i - j)) m
  | .Mult, .int i, .int j => if mulOk i j then .ok (.int (i * j)) m else .bad
  | .FloorDiv, .int i, .int j => if divOk j then .ok (.int (i / j)) m else .bad
  | .Mod, .int i, .int j => if 0 < j then .ok (.int (i % j)) m else .bad
  | .Pow, .int i, .int j => if 0 ≤ j ∧ j ≤ 1000000 ∧ i.natAbs < 2 ^ 64 then .ok (.int (i ^ j.toNat)) m else .bad
  | .Add, .str a, .str b => if sizeOk (a.length + b.length) then .ok (.str (a ++ b)) m else .bad
  | .Add, .lst a, .lst b => if sizeOk (a.length + b.length) then .ok (.lst (a ++ b)) m else .bad
  | .Add, .tup a, .tup b => if sizeOk (a.length + b.length) then .ok (.tup (a ++ b)) m else .bad
  | .Mult, .lst a, .int j => if -(2 ^ 63) ≤ j ∧ j < 2 ^ 63 ∧ a.length * j.toNat ≤ lim then .ok (.lst (List.replicate j.toNat a).flatten) m else .bad
  | _, _, _ => .bad
/-- == of data -/
def eqD (x y : D) (m : Mem) : Option Bool :=
  match toP (deref m x), toP (deref m y) with
  | some p, some q => if SeqAt.shaped p && SeqAt.shaped q then some (PyData.eqv p q) else none
  | _, _ => none
def inD (x y : D) (m : Mem) : Option Bool :=
  match deref m y with
  | .tup l | .lst l => match toP (deref m x), toP.go l with
    | some p, some qs => if SeqAt.shaped p && SeqAt.shaped (.list qs) then some (qs.any fun q => PyData.eqv q p) else none
    | _, _ => none
  | .str b => match x with
    | .str a => some (!(Builtin.Str.occurrences b a 0 b.length 1).isEmpty)
    | _ => none
  | _ => none
def opCmp (o : CmpOp) (x y : D) (m : Mem) : Option Bool :=
  match o with
  | .Eq => eqD x y m
  | .NotEq => (eqD x y m).map (!·)
  | .In => inD x y m
  | .NotIn => (inD x y m).map (!·)
  | .Lt => match x, y with | .int i, .int j => some (decide (i < j)) | _, _ => none
  | .LtE => match x, y with | .int i, .int j => some (decide (i ≤ j)) | _, _ => none
  | .Gt => match x, y with | .int i, .int j => some (decide (j < i)) | _, _ => none
  | .GtE => match x, y with | .int i, .int j => some (decide (j ≤ i)) | _, _ => none
  | .Is => match x, y with
    | x, .non => some (decide (x = .non))
    | .bl a, .bl b => some (a == b)
    | _, _ => none
  | .IsNot => match x, y with
    | x, .non => some (!decide (x = .non))
    | .bl a, .bl b => some (!(a == b))
    | _, _ => none

def intL : List D → Option (List Int)
  | [] => some []
  | .int i :: r => (intL r).map (i :: ·)
  | _ => none
def blL : List D → Option (List Bool)
  | [] => some []
  | .bl i :: r => (blL r).map (i :: ·)
  | _ => none
def strL : List D → Option (List Str)
  | [] => some []
  | .str i :: r => (strL r).map (i :: ·)
  | _ => none
def maxI : List Int → Option Int
  | [] => none
  | i :: r => some (r.foldl max i)
def minI : List Int → Option Int
  | [] => none
  | i :: r => some (r.foldl min i)
/-- a list or a tuple, its items -/
def items (m : Mem) (d : D) : Option (List D) := match deref m d with
  | .lst l => some l
  | .tup l => some l
  | _ => none
/-- a list, its items -/
def litems (m : Mem) (d : D) : Option (List D) := match deref m d with
  | .lst l => some l
  | _ => none
def biD (b : Bi) (l : List D) (m : Mem) : Option D :=
  match b, l with
  | .len, [x] => match deref m x with
    | .lst l | .tup l | .scr l => some (.int l.length)
    | .str s => if sizeOk s.length then some (.int s.length) else none
    | _ => none
  | .int, [.int i] => some (.int i)
  | .int, [.bl b] => some (.int (if b then 1 else 0))
  | .bool, [.int i] => some (.bl (i != 0))
  | .bool, [.bl b] => some (.bl b)
  | .str, [.int i] => if i.natAbs.log2 < 1920 then some (.str (toString i)) else none
  | .abs, [.int i] => some (.int (if i < 0 then -i else i))
  | .min, [.int i, .int j] => some (.int (if j < i then j else i))
  | .max, [.int i, .int j] => some (.int (if j > i then j else i))
  | .min, [x] => (litems m x).bind fun l => (intL l).bind fun l => (minI l).map .int
  | .max, [x] => (litems m x).bind fun l => (intL l).bind fun l => (maxI l).map .int
  | .sum, [x] => (items m x).bind fun l => (intL l).map fun l => .int l.sum
  | .all, [x] => (litems m x).bind fun l => (blL l).map fun l => .bl (l.all id)
  | .any, [x] => (litems m x).bind fun l => (blL l).map fun l => .bl (l.any id)
  | .tuple, [x] => (items m x).map .tup
  | .list, [x] => (items m x).map .lst
  | .divmod, [.int i, .int j] => if divOk j then some (.tup [.int (i / j), .int (i % j)]) else none
  | .repr, [x] => (toP (deref m x)).bind fun p => if p.showable && decide (p.shown.length ≤ lim) && decide (p.depth ≤ 64) then some (.str p.shown) else none
  | _, _ => none

/-- the different ones among the first i -/
def seenD (ys : List Str) : Nat → List Str
  | 0 => []
  | i + 1 => if ys.getD i Str.empty ∈ seenD ys i then seenD ys i else seenD ys i ++ [ys.getD i Str.empty]
def lensetD (x : D) (m : Mem) : Option D := match deref m x with
  | .tup l => (strL l).bind fun xs => if xs.length < 60 then some (.int (seenD xs xs.length).length) else none
  | _ => none
def isiD (t : Ty) (x : D) (m : Mem) : Option Bool :=
  match t, deref m x with
  | .int, .int _ | .int, .bl _ | .bool, .bl _ | .str, .str _ | .tuple, .tup _ | .list, .lst _ | .dict, .dct _ => some true
  | .cls c, .obj e _ => some (c == e)
  | .cls _, .ref _ => none
  | _, .ref _ => none
  | .list, .scr _ => some true
  | _, _ => some false

def ixD (x y : D) (m : Mem) : Option D :=
  match deref m x, y with
  | .lst l, .int i => L2.atI l i
  | .tup l, .int i => L2.atI l i
  | .scr l, .int i => L2.atI l i
  | .str s, .int i => if sizeOk s.length then (L2.atI s.cps.toList i).map fun c => .str ⟨#[c]⟩ else none
  | _, _ => none
def cutD (l : List D) (lo hi : Option Int) : List D := (l.drop (HT.sIx l.length 0 lo)).take (HT.sIx l.length l.length hi - HT.sIx l.length 0 lo)
def slD (x : D) (lo hi : Option Int) (m : Mem) : Option D :=
  match deref m x with
  | .lst l => some (.lst (cutD l lo hi))
  | .scr l => some (.lst (cutD l lo hi))
  | .tup l => some (.tup (cutD l lo hi))
  | .str z => if sizeOk z.length then some (.str (Txt.slice z lo hi)) else none
  | _ => none
/-- the first place of an equal item -/
def placeD (p : PyData) : List PyData → Nat → Option Nat
  | [], _ => none
  | q :: r, n => if PyData.eqv q p then some n else placeD p r (n + 1)
/-- what the receiver of a method must be: 0 a text, 1 a list, 2 a tuple -/
def smK (s : Sm) (x : D) : Option Nat := match s, x with
  | .split, .str _ | .join, .str _ => some 0
  | .index, .lst _ | .count, .lst _ => some 1
  | .index, .tup _ => some 2
  | _, _ => none
def findD (l : List D) (y : D) : Option D := match toP y, toP.go l with
  | some p, some qs => if SeqAt.shaped p && SeqAt.shaped (.list qs) then (placeD p qs 0).map fun j => .int (j : Nat) else none
  | _, _ => none
def smD (s : Sm) (k : Nat) (x : D) (l : List D) (m : Mem) : Option D :=
  match s, k, deref m x, l with
  | .split, 0, .str a, [.str b] => if 0 < b.length ∧ a.length + 2 ≤ lim then some (.lst ((Txt.split a b).map .str)) else none
  | .join, 0, .str a, [y] => (items m y).bind fun l => (strL l).bind fun ys => if (ys.map (·.length)).sum + ys.length * a.length ≤ lim then some (.str (Txt.join a ys)) else none
  | .index, 1, .lst l, [y] => findD l (deref m y)
  | .index, 2, .tup l, [y] => findD l (deref m y)
  | _, _, _, _ => none
/-- the items that a for goes through -/
def rngI (l : List D) : Option (List D) := match l with
  | [.int j] => if -(2 ^ 62) ≤ j ∧ j < 2 ^ 62 then some ((List.range j.toNat).map fun k => .int (k : Nat)) else none
  | [.int i, .int j] => if -(2 ^ 62) ≤ i ∧ i < 2 ^ 62 ∧ -(2 ^ 62) ≤ j ∧ j < 2 ^ 62 then some ((List.range (j - i).toNat).map fun k => .int (i + (k : Nat))) else none
  | _ => none
def zip2 : List D → List D → List D
  | a :: r, b :: s => .tup [a, b] :: zip2 r s
  | _, _ => []
def zip3 : List D → List D → List D → List D
  | a :: r, b :: s, c :: t => .tup [a, b, c] :: zip3 r s t
  | _, _, _ => []
def enumI : List D → Nat → List D
  | [], _ => []
  | a :: r, n => .tup [.int (n : Nat), a] :: enumI r (n + 1)

/-! ### the evaluator -/
abbrev Env := List (Option D)
inductive Fl where
  | nx | bk | ct | rt (d : D)
  deriving Inhabited
structure Gam where
  fns : List (List D → Mem → R D) := []
  glb : List D := []
  /-- how many fields the classes have -/
  cls : List Nat := []
abbrev Src := List (Nat × List D)
def srcOk (s : Src) (m : Mem) : Bool := s.all fun p => decide (m[p.1]? = some (.lst p.2))
/-- the items of what a for goes through, with its own place in the store if it has one -/
def walkD (m : Mem) (d : D) : Option (List D × Src) := match d with
  | .lst l => some (l, [])
  | .tup l => some (l, [])
  | .ref k => match m[k]? with
    | some (.lst l) => some (l, [(k, l)])
    | _ => none
  | _ => none
/-- .. or the signs of a text -/
def walkS (m : Mem) (d : D) : Option (List D × Src) := match d with
  | .str s => some (s.cps.toList.map fun c => .str ⟨#[c]⟩, [])
  | d => walkD m d
def wipeD (ρ : Env) : List Nat → Env
  | [] => ρ
  | v :: vs => (wipeD ρ vs).set v none
def lcL (g : D → Mem → R (Option D)) (src : Src) : List D → Mem → R (List D)
  | [], m => if srcOk src m then .ok [] m else .bad
  | d :: r, m => if srcOk src m then (g d m).noexc.bind fun o m1 => (lcL g src r m1).bind fun l m2 => .ok (o.toList ++ l) m2 else .bad
/-- .. of lists -/
def lcM (g : D → Mem → R (List D)) (src : Src) : List D → Mem → R (List D)
  | [], m => if srcOk src m then .ok [] m else .bad
  | d :: r, m => if srcOk src m then (g d m).noexc.bind fun o m1 => (lcM g src r m1).bind fun l m2 => .ok (o ++ l) m2 else .bad
def forL (g : D → Env → Mem → R (Fl × Env)) (src : Src) : List D → Env → Mem → R (Fl × Env)
  | [], ρ, m => if srcOk src m then .ok (.nx, ρ) m else .bad
  | d :: r, ρ, m => if srcOk src m then (g d ρ m).bind fun p m1 => match p.1 with
      | .nx | .ct => forL g src r p.2 m1
      | .bk => .ok (.nx, p.2) m1
      | .rt x => .ok (.rt x, p.2) m1
    else .bad
/-- a[b] = x -/
def setD (a b x : D) (m : Mem) : Option Mem := match a with
  | .ref k => match m[k]?, b with
    | some (.lst l), .int i => (ixN l.length i).map fun j => m.set k (.lst (l.set j x))
    | _, _ => none
  | _ => none
def isLst (m : Mem) : D → Bool
  | .ref k => match m[k]? with
    | some (.lst _) => true
    | _ => false
  | _ => false
/-- a.append(x) -/
def appD (a x : D) (m : Mem) : Option Mem := match a with
  | .ref k => match m[k]? with
    | some (.lst l) => if l.length < lim then some (m.set k (.lst (l ++ [x]))) else none
    | _ => none
  | _ => none
def toB : D → Option Bool
  | .bl b => some b
  | _ => none
def partI : D → Option Int
  | .int i => some i
  | _ => none
mutual
/-- no thing of the store from n on -/
def D.ltb (n : Nat) : D → Bool
  | .tup l => D.ltbL n l
  | .lst l => D.ltbL n l
  | .dct l => D.ltbP n l
  | .obj _ l => D.ltbL n l
  | .ref k => decide (k < n)
  | .scr l => D.ltbL n l
  | _ => true
def D.ltbL (n : Nat) : List D → Bool
  | [] => true
  | d :: r => D.ltb n d && D.ltbL n r
def D.ltbP (n : Nat) : List (D × D) → Bool
  | [] => true
  | (a, b) :: r => D.ltb n a && D.ltb n b && D.ltbP n r
end
def MO.ltb (n : Nat) : MO → Bool
  | .lst l => D.ltbL n l
  | .dct l => D.ltbP n l
  | .ins _ l => l.all fun p => D.ltb n p.2
  | .dead => true
def memLt (n : Nat) (m : Mem) : Bool := m.all (MO.ltb n)
def ltbO (n : Nat) : Option D → Bool
  | some d => D.ltb n d
  | none => true
/-- the class of an instance -/
def clsOf (m : Mem) : D → Option Nat
  | .obj c _ => some c
  | .ref k => match m[k]? with
    | some (.ins c _) => some c
    | _ => none
  | _ => none
def fldD (c f : Nat) (x : D) (m : Mem) : Option D := match x with
  | .obj e l => if c = e then l[f]? else none
  | .ref k => match m[k]? with
    | some (.ins e l) => if c = e then l.lookup f else none
    | _ => none
  | _ => none
/-- the fields 0, 1, .. of an instance, each set -/
def fieldsD (l : List (Nat × D)) : Nat → Option (List D)
  | 0 => some []
  | n + 1 => (fieldsD l n).bind fun ds => (l.lookup n).map fun d => ds ++ [d]
/-- behind __init__ of the new instance at n -/
def mkD (z : Bool) (nf c n : Nat) (r : R D) : R D := match r with
  | .ok .non m => if z then (match m[n]? with
      | some (.ins e l) => (match fieldsD l nf with
        | some ds => if c = e ∧ m.length = n + 1 ∧ D.ltbL n ds = true ∧ memLt n (m.take n) = true then .ok (.obj c ds) (m.take n) else .bad
        | none => .bad)
      | _ => .bad)
    else .ok (.ref n) m
  | .ok _ _ => .bad
  | .exc e x m => if z then (if ltbO n x && memLt n (m.take n) && decide (n ≤ m.length) then .exc e x (m.take n) else .bad) else .bad
  | .bad => .bad
/-- a.f = x -/
def setA (c f : Nat) (a x : D) (m : Mem) : Option Mem := match a with
  | .ref k => match m[k]? with
    | some (.ins e l) => if c = e ∧ l.length < 900 then some (m.set k (.ins e ((f, x) :: l))) else none
    | _ => none
  | _ => none
def toM : R D → R D
  | .ok (.lst l) m => .ok (.ref m.length) (m ++ [.lst l])
  | _ => .bad
def pick {α : Type} (perm : List Nat) (l : List α) : List α := perm.filterMap fun i => l[i]?
def Sq.ok : Sq → D → Bool
  | .len, .int n => decide (0 ≤ n ∧ n < 2 ^ 62)
  | .str, .str _ => true
  | _, _ => false
def TL.len : TL → Nat
  | .nil => 0
  | .cons _ l => l.len + 1
def EL.len : EL → Nat
  | .nil => 0
  | .cons _ l => l.len + 1
  | .star _ => 0
def EL.plain : EL → Bool
  | .nil => true
  | .cons _ l => l.plain
  | .star _ => false
mutual
def evE (Γ : Gam) : E → Env → Mem → R D
  | .v i, ρ, m => match ρ[i]? with
    | some (some d) => .ok d m
    | _ => .bad
  | .non, _, m => .ok .non m
  | .bl b, _, m => .ok (.bl b) m
  | .int i, _, m => .ok (.int i) m
  | .str x, _, m => .ok (.str x) m
  | .g i, _, m => ofO Γ.glb[i]? m
  | .bin o a b, ρ, m => (evE Γ a ρ m).bind fun x m1 => (evE Γ b ρ m1).bind fun y m2 => opBin o x y m2
  | .neg a, ρ, m => (evE Γ a ρ m).bind fun x m1 => ofO ((partI x).map fun i => .int (-i)) m1
  | .not a, ρ, m => (evE Γ a ρ m).bind fun x m1 => ofO ((toB x).map fun b => .bl (!b)) m1
  | .and a b, ρ, m => (evE Γ a ρ m).bind fun x m1 => onB (toB x) (evE Γ b ρ m1) (.ok (.bl false) m1)
  | .or a b, ρ, m => (evE Γ a ρ m).bind fun x m1 => onB (toB x) (.ok (.bl true) m1) (evE Γ b ρ m1)
  | .cmp o a b, ρ, m => (evE Γ a ρ m).bind fun x m1 => (evE Γ b ρ m1).bind fun y m2 => ofO ((opCmp o x y m2).map .bl) m2
  | .chain o p a b c, ρ, m => (evE Γ a ρ m).bind fun x m1 => (evE Γ b ρ m1).bind fun y m2 => onB (opCmp o x y m2) ((evE Γ c ρ m2).bind fun z m3 => ofO ((opCmp p y z m3).map .bl) m3) (.ok (.bl false) m2)
  | .ife c a b, ρ, m => (evE Γ c ρ m).bind fun x m1 => onB (toB x) (evE Γ a ρ m1) (evE Γ b ρ m1)
  | .tup l, ρ, m => (evL Γ l ρ m).bind fun ds m1 => if sizeOk ds.length then .ok (.tup ds) m1 else .bad
  | .lst l, ρ, m => (evL Γ l ρ m).bind fun ds m1 => if sizeOk ds.length then .ok (.lst ds) m1 else .bad
  | .mlst l, ρ, m => (evL Γ l ρ m).bind fun ds m1 => if sizeOk ds.length then .ok (.ref m1.length) (m1 ++ [.lst ds]) else .bad
  | .call k l, ρ, m => (evL Γ l ρ m).bind fun ds m1 => match Γ.fns[k]? with
    | some f => f ds m1
    | none => .bad
  | .prop k c a, ρ, m => (evE Γ a ρ m).bind fun x m1 => if clsOf m1 x = some c then (match Γ.fns[k]? with
    | some f => (f [x] m1).noexc
    | none => .bad) else .bad
  | .spec q k c a, ρ, m => (evE Γ a ρ m).bind fun x m1 => if clsOf m1 x = some c then (match Γ.fns[k]? with
    | some f => (f [x] m1).noexc.bind fun d m2 => if q.ok d then .ok d m2 else .bad
    | none => .bad) else .bad
  | .fld c f a, ρ, m => (evE Γ a ρ m).bind fun x m1 => ofO (fldD c f x m1) m1
  | .mk z k c l, ρ, m => (evL Γ l ρ m).bind fun ds m1 => match Γ.fns[k]?, Γ.cls[c]? with
    | some f, some nf => mkD z nf c m1.length (f (.ref m1.length :: ds) (m1 ++ [.ins c []]))
    | _, _ => .bad
  | .mcall k c a l, ρ, m => (evE Γ a ρ m).bind fun x m1 => if clsOf m1 x = some c then (evL Γ l ρ m1).bind fun ds m2 => (match Γ.fns[k]? with
    | some f => f (x :: ds) m2
    | none => .bad) else .bad
  | .bi b l, ρ, m => (evL Γ l ρ m).bind fun ds m1 => ofO (biD b ds m1) m1
  | .isi t a, ρ, m => (evE Γ a ρ m).bind fun x m1 => ofO ((isiD t x m1).map .bl) m1
  | .sm s a l, ρ, m => (evE Γ a ρ m).bind fun x m1 => match smK s (deref m1 x) with
    | some k => (evL Γ l ρ m1).bind fun ds m2 => ofO (smD s k x ds m2) m2
    | none => .bad
  | .ix a b, ρ, m => (evE Γ a ρ m).bind fun x m1 => (evE Γ b ρ m1).bind fun y m2 => ofO (ixD x y m2) m2
  | .sl a lo hi, ρ, m => (evE Γ a ρ m).bind fun x m1 => (evO Γ lo ρ m1).bind fun l m2 => (evO Γ hi ρ m2).bind fun h m3 => ofO (slD x l h m3) m3
  | .lc own e t i c, ρ, m => (evI Γ i ρ m).bind fun w m1 =>
    (lcL (fun d m2 => (asT Γ t d (wipeD ρ own) m2).bind fun ρ1 m3 => (evC Γ c ρ1 m3).bind fun b m4 => if b then (evE Γ e ρ1 m4).bind fun x m5 => .ok (some x) m5 else .ok none m4) w.2 w.1 m1).bind fun l m6 =>
      if sizeOk l.length then .ok (.lst l) m6 else .bad
  | .mlc own e t i c, ρ, m => (evI Γ i ρ m).bind fun w m1 =>
    (lcL (fun d m2 => (asT Γ t d (wipeD ρ own) m2).bind fun ρ1 m3 => (evC Γ c ρ1 m3).bind fun b m4 => if b then (evE Γ e ρ1 m4).bind fun x m5 => .ok (some x) m5 else .ok none m4) w.2 w.1 m1).bind fun l m6 =>
      if sizeOk l.length then .ok (.ref m6.length) (m6 ++ [.lst l]) else .bad
  | .lc2 z own own1 e t i c t1 i1 c1, ρ, m => (evI Γ i ρ m).bind fun w m1 =>
    (lcM (fun d m2 => (asT Γ t d (wipeD ρ own) m2).bind fun ρ1 m3 => (evC Γ c ρ1 m3).bind fun b m4 => if b then (evI Γ i1 ρ1 m4).bind fun w1 m5 =>
      lcL (fun d1 m6 => (asT Γ t1 d1 (wipeD ρ1 own1) m6).bind fun ρ2 m7 => (evC Γ c1 ρ2 m7).bind fun b1 m8 => if b1 then (evE Γ e ρ2 m8).bind fun x m9 => .ok (some x) m9 else .ok none m8) w1.2 w1.1 m5 else .ok [] m4) w.2 w.1 m1).bind fun l m6 =>
      if sizeOk l.length then (if z then .ok (.ref m6.length) (m6 ++ [.lst l]) else .ok (.lst l) m6) else .bad
  | .mbin o a b, ρ, m => (evE Γ a ρ m).bind fun x m1 => (evE Γ b ρ m1).bind fun y m2 => toM (opBin o x y m2)
  | .msm s a l, ρ, m => (evE Γ a ρ m).bind fun x m1 => match smK s (deref m1 x) with
    | some k => (evL Γ l ρ m1).bind fun ds m2 => toM (ofO (smD s k x ds m2) m2)
    | none => .bad
  | .lenset a, ρ, m => (evE Γ a ρ m).bind fun x m1 => ofO (lensetD x m1) m1
  | .callK k perm l, ρ, m => (evL Γ l ρ m).bind fun ds m1 => match Γ.fns[k]? with
    | some f => f (pick perm ds) m1
    | none => .bad
  | .never, _, _ => .bad
def evL (Γ : Gam) : EL → Env → Mem → R (List D)
  | .nil, _, m => .ok [] m
  | .cons e l, ρ, m => (evE Γ e ρ m).bind fun d m1 => (evL Γ l ρ m1).bind fun ds m2 => .ok (d :: ds) m2
  | .star e, ρ, m => (evE Γ e ρ m).bind fun x m1 => ofO (items m1 x) m1
def evO (Γ : Gam) : Op → Env → Mem → R (Option Int)
  | .no, _, m => .ok none m
  | .yes e, ρ, m => (evE Γ e ρ m).bind fun d m1 => ofO ((partI d).map some) m1
/-- a comprehension's test -/
def evC (Γ : Gam) : Op → Env → Mem → R Bool
  | .no, _, m => .ok true m
  | .yes e, ρ, m => (evE Γ e ρ m).bind fun d m1 => ofO (toB d) m1
def asT (Γ : Gam) : T → D → Env → Mem → R Env
  | .nm i, d, ρ, m => .ok (ρ.set i (some d)) m
  | .tup l, d, ρ, m => match d with
    | .tup ds => if l.len = ds.length then asL Γ l ds ρ m else .bad
    | _ => .bad
  | .ix a b, d, ρ, m => (evE Γ a ρ m).bind fun x m1 => (evE Γ b ρ m1).bind fun y m2 => match setD x y d m2 with
    | some m3 => .ok ρ m3
    | none => .bad
def asL (Γ : Gam) : TL → List D → Env → Mem → R Env
  | .nil, [], ρ, m => .ok ρ m
  | .cons t l, d :: ds, ρ, m => (asT Γ t d ρ m).bind fun ρ1 m1 => asL Γ l ds ρ1 m1
  | _, _, _, _ => .bad
def evI (Γ : Gam) : I → Env → Mem → R (List D × Src)
  | .seq e, ρ, m => (evE Γ e ρ m).bind fun d m1 => ofO (walkS m1 d) m1
  | .rng l, ρ, m => (evL Γ l ρ m).bind fun ds m1 => ofO ((rngI ds).map fun l => (l, [])) m1
  | .zip l, ρ, m => (evL Γ l ρ m).bind fun ds m1 => match ds with
    | [a, b] => match walkD m1 a, walkD m1 b with
      | some x, some y => .ok (zip2 x.1 y.1, x.2 ++ y.2) m1
      | _, _ => .bad
    | [a, b, c] => match walkD m1 a, walkD m1 b, walkD m1 c with
      | some x, some y, some z => .ok (zip3 x.1 y.1 z.1, x.2 ++ y.2 ++ z.2) m1
      | _, _, _ => .bad
    | _ => .bad
  | .enum e, ρ, m => (evE Γ e ρ m).bind fun d m1 => match walkD m1 d with
    | some x => .ok (enumI x.1 0, x.2) m1
    | none => .bad
end
def getI (ρ : Env) (i : Nat) : Option Int := match ρ[i]? with
  | some (some (.int x)) => some x
  | _ => none
def augD (o : Operator) (x : Int) (y : D) : Option D := match o, y with
  | .Add, .int j => some (.int (x + j))
  | .Sub, .int j => some (.int (x - j))
  | _, _ => none
def setAll : List Nat → List D → Env → Option Env
  | [], [], ρ => some ρ
  | i :: is, d :: ds, ρ => setAll is ds (ρ.set i (some d))
  | _, _, _ => none
mutual
def evS (Γ : Gam) : S → Env → Mem → R (Fl × Env)
  | .set t e, ρ, m => (evE Γ e ρ m).bind fun d m1 => (asT Γ t d ρ m1).bind fun ρ1 m2 => .ok (.nx, ρ1) m2
  | .par2 i j l, ρ, m => (evL Γ l ρ m).bind fun ds m1 => match setAll [i, j] ds ρ with
    | some ρ1 => .ok (.nx, ρ1) m1
    | none => .bad
  | .par3 i j k l, ρ, m => (evL Γ l ρ m).bind fun ds m1 => match setAll [i, j, k] ds ρ with
    | some ρ1 => .ok (.nx, ρ1) m1
    | none => .bad
  | .aug i o e, ρ, m => match getI ρ i with
    | some x => (evE Γ e ρ m).bind fun y m1 => (match augD o x y with
      | some d => .ok (.nx, ρ.set i (some d)) m1
      | none => .bad)
    | none => .bad
  | .ex e, ρ, m => (evE Γ e ρ m).bind fun _ m1 => .ok (.nx, ρ) m1
  | .app a e, ρ, m => (evE Γ a ρ m).bind fun x m1 => if isLst m1 x then (evE Γ e ρ m1).bind fun y m2 => match appD x y m2 with
    | some m3 => .ok (.nx, ρ) m3
    | none => .bad else .bad
  | .setA c f a e, ρ, m => (evE Γ e ρ m).bind fun y m1 => (evE Γ a ρ m1).bind fun x m2 => match setA c f x y m2 with
    | some m3 => .ok (.nx, ρ) m3
    | none => .bad
  | .ife c a b, ρ, m => (evE Γ c ρ m).bind fun x m1 => onB (toB x) (evB Γ a ρ m1) (evB Γ b ρ m1)
  | .for t i b, ρ, m => (evI Γ i ρ m).bind fun w m1 => forL (fun d ρ1 m2 => (asT Γ t d ρ1 m2).bind fun ρ2 m3 => evB Γ b ρ2 m3) w.2 w.1 ρ m1
  | .ret e, ρ, m => (evE Γ e ρ m).bind fun d m1 => .ok (.rt d, ρ) m1
  | .retN, ρ, m => .ok (.rt .non, ρ) m
  | .brk, ρ, m => .ok (.bk, ρ) m
  | .cnt, ρ, m => .ok (.ct, ρ) m
  | .pass, ρ, m => .ok (.nx, ρ) m
  | .raise c l, ρ, m => (evL Γ l ρ m).bind fun ds m1 => match ds with
    | [] => .exc c none m1
    | [d] => .exc c (some d) m1
    | _ => .bad
  | .never, _, _ => .bad
def evB (Γ : Gam) : SL → Env → Mem → R (Fl × Env)
  | .nil, ρ, m => .ok (.nx, ρ) m
  | .cons s l, ρ, m => (evS Γ s ρ m).bind fun p m1 => match p.1 with
    | .nx => evB Γ l p.2 m1
    | f => .ok (f, p.2) m1
end
/-- what leaves a def: its own things of the store are given up -/
def finV (n : Nat) (m : Mem) : D → D
  | .ref k => if n ≤ k then deref m (.ref k) else .ref k
  | d => d
def fin (keep : Bool) (n : Nat) (d : D) (m : Mem) : R D :=
  if keep then .ok d m else if D.ltb n (finV n m d) && memLt n (m.take n) && decide (n ≤ m.length) then .ok (finV n m d) (m.take n) else .bad
def run (Γ : Gam) (keep : Bool) (k : Nat) (b : SL) (args : List D) (m : Mem) : R D :=
  match evB Γ b (args.map some ++ List.replicate (k - args.length) none) m with
  | .ok (.rt d, _) m1 => fin keep m.length d m1
  | .ok (.nx, _) m1 => fin keep m.length .non m1
  | .ok _ _ => .bad
  | .exc c x m1 => if ltbO m.length x && memLt m.length (m1.take m.length) && decide (m.length ≤ m1.length) then .exc c x (m1.take m.length) else .bad
  | .bad => .bad
/-- .. with n parameters -/
def runN (Γ : Gam) (keep : Bool) (k n : Nat) (b : SL) (args : List D) (m : Mem) : R D := if args.length = n then run Γ keep k b args m else .bad
end Ev

set_option Elab.async false
set_option linter.all false
set_option maxRecDepth 100000
/-! Ev2: worlds, what a value of the machine's heap is as data (Rep), how worlds grow. -/
namespace Ev
open PySem PySem.Spec PyProof.Rows L2

/-- a class of the text: where it stands, its instances' fields -/
structure ClsI where
  C : Addr
  fs : List Str
/-- F: what stands frozen; P: what must stay, unread; μ: where the things of the store stand -/
structure Wd where
  F : Addr → Prop
  P : Addr → Prop
  μ : List Addr

/-- a list of the module's own, whatever the heap -/
def Known (K : PySem.W.Frag) (a : Addr) (xs : List V) : Prop :=
  ∃ (o : Obj) (its : Array Value) (n : Nat), K.lookup a = some o ∧ o.cls = .type "list" ∧ o.dict = none ∧ o.data = .seq its n ∧ its.size ≤ sizeLine ∧ Vals xs its.toList

mutual
inductive Rep (K : PySem.W.Frag) (CT : List ClsI) (W : Wd) (H : Hp) : V → D → Prop where
  | non : Rep K CT W H .non .non
  | bl (b : Bool) : Rep K CT W H (.bl b) (.bl b)
  | int (i : Int) : Rep K CT W H (.int i) (.int i)
  | str (x : Str) : Rep K CT W H (.str x) (.str x)
  | tup {a : Addr} {ob : Obj} {xs : List V} {ds : List D} : W.F a → H a = some (.frz ob (.tup xs)) → ob.dict = none → RepL K CT W H xs ds → Rep K CT W H (.ref a) (.tup ds)
  | lst {a : Addr} {xs : List V} {ds : List D} : W.F a → H a = some (.lst xs) → RepL K CT W H xs ds → Rep K CT W H (.ref a) (.lst ds)
  | scr {a : Addr} {xs : List V} {ds : List D} : (W.F a ∧ Rd H a (.lst xs)) ∨ Known K a xs → RepL K CT W H xs ds → Rep K CT W H (.ref a) (.scr ds)
  | obj {a dx : Addr} {c : Nat} {ci : ClsI} {fs : List (Str × V)} {xs : List V} {ds : List D} : CT[c]? = some ci → W.F a → H a = some (.ins ci.C dx fs) → (∀ f, f ∉ ci.fs → fs.lookup f = none) →
      xs = ci.fs.map (fun f => (fs.lookup f).getD .non) → (∀ f ∈ ci.fs, (fs.lookup f).isSome = true) → RepL K CT W H xs ds → Rep K CT W H (.ref a) (.obj c ds)
  | ref {a : Addr} {k : Nat} : W.μ[k]? = some a → Rep K CT W H (.ref a) (.ref k)
inductive RepL (K : PySem.W.Frag) (CT : List ClsI) (W : Wd) (H : Hp) : List V → List D → Prop where
  | nil : RepL K CT W H [] []
  | cons {v : V} {vs : List V} {d : D} {ds : List D} : Rep K CT W H v d → RepL K CT W H vs ds → RepL K CT W H (v :: vs) (d :: ds)
end

structure Le (W : Wd) (H : Hp) (W' : Wd) (H' : Hp) : Prop where
  F : ∀ a, W.F a → W'.F a
  P : W'.P = W.P
  at_ : ∀ a, W.F a ∨ W.P a → H' a = H a
  μ : ∃ t, W'.μ = W.μ ++ t

/-- how worlds grow, what must stay left aside -/
structure Lf (W : Wd) (H : Hp) (W' : Wd) (H' : Hp) : Prop where
  F : ∀ a, W.F a → W'.F a
  at_ : ∀ a, W.F a → H' a = H a
  μ : ∃ t, W'.μ = W.μ ++ t
theorem Le.lf {W W' : Wd} {H H' : Hp} (l : Le W H W' H') : Lf W H W' H' := ⟨l.F, fun a h => l.at_ a (.inl h), l.μ⟩
theorem Lf.trans {W W' W2 : Wd} {H H' H2 : Hp} (a : Lf W H W' H') (b : Lf W' H' W2 H2) : Lf W H W2 H2 := by
  refine ⟨fun x h => b.F x (a.F x h), fun x h => (b.at_ x (a.F x h)).trans (a.at_ x h), ?_⟩
  obtain ⟨t, e⟩ := a.μ
  obtain ⟨u, e'⟩ := b.μ
  exact ⟨t ++ u, by rw [e', e, List.append_assoc]⟩
section
variable {K : PySem.W.Frag} {CT : List ClsI} {W W' W2 : Wd} {H H' H2 : Hp} {v : V} {vs : List V} {d : D} {ds : List D}
theorem Le.refl : Le W H W H := ⟨fun _ h => h, rfl, fun _ _ => rfl, [], by simp⟩
theorem Lf.refl : Lf W H W H := Le.refl.lf
theorem Le.trans (a : Le W H W' H') (b : Le W' H' W2 H2) : Le W H W2 H2 := by
  refine ⟨fun x h => b.F x (a.F x h), b.P.trans a.P, fun x h => (b.at_ x ?_).trans (a.at_ x h), ?_⟩
  · rcases h with h | h
    · exact .inl (a.F x h)
    · exact .inr (by rw [a.P]; exact h)
  · obtain ⟨t, e⟩ := a.μ
    obtain ⟨u, e'⟩ := b.μ
    exact ⟨t ++ u, by rw [e', e, List.append_assoc]⟩
mutual
theorem Rep.monoF (l : Lf W H W' H') : ∀ {v : V} {d : D}, Rep K CT W H v d → Rep K CT W' H' v d
  | _, _, .non => .non
  | _, _, .bl b => .bl b
  | _, _, .int b => .int b
  | _, _, .str b => .str b
  | _, _, .tup f h d r => .tup (l.F _ f) ((l.at_ _ f).trans h) d (RepL.monoF l r)
  | _, _, .lst f h r => .lst (l.F _ f) ((l.at_ _ f).trans h) (RepL.monoF l r)
  | _, _, .scr h r => .scr (h.imp (fun ⟨f, q⟩ => ⟨l.F _ f, by
      have e := l.at_ _ f
      rcases q with q | ⟨o, q⟩
      · exact .inl (e.trans q)
      · exact .inr ⟨o, e.trans q⟩⟩) id) (RepL.monoF l r)
  | _, _, .obj hc f h hn hx hs r => .obj hc (l.F _ f) ((l.at_ _ f).trans h) hn hx hs (RepL.monoF l r)
  | _, _, .ref h => .ref (by
      obtain ⟨t, e⟩ := l.μ
      rw [e]
      exact List.getElem?_append_left (List.getElem?_eq_some_iff.mp h).1 |>.trans h)
theorem RepL.monoF (l : Lf W H W' H') : ∀ {vs : List V} {ds : List D}, RepL K CT W H vs ds → RepL K CT W' H' vs ds
  | _, _, .nil => .nil
  | _, _, .cons r s => .cons (Rep.monoF l r) (RepL.monoF l s)
end
theorem Rep.mono (l : Le W H W' H') {v : V} {d : D} (r : Rep K CT W H v d) : Rep K CT W' H' v d := r.monoF l.lf
theorem RepL.mono (l : Le W H W' H') {vs : List V} {ds : List D} (r : RepL K CT W H vs ds) : RepL K CT W' H' vs ds := r.monoF l.lf
theorem RepL.length : ∀ {vs : List V} {ds : List D}, RepL K CT W H vs ds → vs.length = ds.length
  | _, _, .nil => rfl
  | _, _, .cons _ s => by simp [RepL.length s]
theorem RepL.append : ∀ {vs ws : List V} {ds es : List D}, RepL K CT W H vs ds → RepL K CT W H ws es → RepL K CT W H (vs ++ ws) (ds ++ es)
  | _, _, _, _, .nil, s => s
  | _, _, _, _, .cons r s, t => .cons r (RepL.append s t)
theorem RepL.get : ∀ {vs : List V} {ds : List D} {i : Nat} {d : D}, RepL K CT W H vs ds → ds[i]? = some d → ∃ v, vs[i]? = some v ∧ Rep K CT W H v d
  | _, _, _, _, .nil, e => by simp at e
  | _, _, 0, _, .cons r _, e => by simp at e; subst e; exact ⟨_, rfl, r⟩
  | _, _, i + 1, _, .cons _ s, e => by simpa using RepL.get s (by simpa using e)
theorem RepL.get' : ∀ {vs : List V} {ds : List D} {i : Nat} {v : V}, RepL K CT W H vs ds → vs[i]? = some v → ∃ d, ds[i]? = some d ∧ Rep K CT W H v d
  | _, _, _, _, .nil, e => by simp at e
  | _, _, 0, _, .cons r _, e => by simp at e; subst e; exact ⟨_, rfl, r⟩
  | _, _, i + 1, _, .cons _ s, e => by simpa using RepL.get' s (by simpa using e)
theorem RepL.set {v : V} {d : D} (q : Rep K CT W H v d) : ∀ {vs : List V} {ds : List D} (i : Nat), RepL K CT W H vs ds → RepL K CT W H (vs.set i v) (ds.set i d)
  | _, _, _, .nil => .nil
  | _, _, 0, .cons _ s => .cons q s
  | _, _, i + 1, .cons r s => .cons r (RepL.set q i s)
theorem RepL.take : ∀ {vs : List V} {ds : List D} (n : Nat), RepL K CT W H vs ds → RepL K CT W H (vs.take n) (ds.take n)
  | _, _, 0, _ => .nil
  | _, _, _ + 1, .nil => .nil
  | _, _, n + 1, .cons r s => .cons r (RepL.take n s)
theorem RepL.drop : ∀ {vs : List V} {ds : List D} (n : Nat), RepL K CT W H vs ds → RepL K CT W H (vs.drop n) (ds.drop n)
  | _, _, 0, r => r
  | _, _, _ + 1, .nil => .nil
  | _, _, n + 1, .cons _ s => RepL.drop n s
theorem RepL.cut (lo hi : Option Int) (r : RepL K CT W H vs ds) : RepL K CT W H (cutV vs lo hi) (cutD ds lo hi) := by
  unfold cutV cutD
  rw [r.length]
  exact (r.drop _).take _
theorem RepL.at_ {i : Int} {d : D} (r : RepL K CT W H vs ds) (h : atI ds i = some d) : ∃ v, atI vs i = some v ∧ Rep K CT W H v d := by
  unfold atI at h ⊢
  rw [r.length]
  cases e : ixN ds.length i with
  | none => rw [e] at h; cases h
  | some j =>
    rw [e] at h
    exact r.get h
theorem RepL.rep : ∀ (k : Nat), RepL K CT W H vs ds → RepL K CT W H (List.replicate k vs).flatten (List.replicate k ds).flatten
  | 0, _ => by simp; exact .nil
  | k + 1, r => by
    rw [List.replicate_succ, List.replicate_succ, List.flatten_cons, List.flatten_cons]
    exact r.append (RepL.rep k r)
theorem RepL.ints : ∀ {vs : List V} {ds : List D} {ns : List Int}, RepL K CT W H vs ds → intL ds = some ns → vs = ns.map V.int
  | _, _, _, .nil, e => by simp [intL] at e; subst e; rfl
  | _, _, _, .cons (d := d) (ds := ds) r s, e => by
    cases d <;> simp only [intL] at e <;> try cases e
    cases q : intL ds with
    | none => rw [q] at e; cases e
    | some ms =>
      rw [q] at e
      cases e
      cases r
      rw [RepL.ints s q]
      rfl
theorem RepL.bls : ∀ {vs : List V} {ds : List D} {ns : List Bool}, RepL K CT W H vs ds → blL ds = some ns → vs = ns.map V.bl
  | _, _, _, .nil, e => by simp [blL] at e; subst e; rfl
  | _, _, _, .cons (d := d) (ds := ds) r s, e => by
    cases d <;> simp only [blL] at e <;> try cases e
    cases q : blL ds with
    | none => rw [q] at e; cases e
    | some ms =>
      rw [q] at e
      cases e
      cases r
      rw [RepL.bls s q]
      rfl
theorem RepL.strs : ∀ {vs : List V} {ds : List D} {ns : List Str}, RepL K CT W H vs ds → strL ds = some ns → vs = ns.map V.str
  | _, _, _, .nil, e => by simp [strL] at e; subst e; rfl
  | _, _, _, .cons (d := d) (ds := ds) r s, e => by
    cases d <;> simp only [strL] at e <;> try cases e
    cases q : strL ds with
    | none => rw [q] at e; cases e
    | some ms =>
      rw [q] at e
      cases e
      cases r
      rw [RepL.strs s q]
      rfl
theorem RepL.of_strs : ∀ (l : List Str), RepL K CT W H (l.map V.str) (l.map D.str)
  | [] => .nil
  | x :: r => .cons (.str x) (RepL.of_strs r)
theorem RepL.of_ints : ∀ (l : List Int), RepL K CT W H (l.map V.int) (l.map D.int)
  | [] => .nil
  | x :: r => .cons (.int x) (RepL.of_ints r)
mutual
theorem Rep.dp : ∀ {v : V} {d : D} {p : PyData}, Rep K CT W H v d → toP d = some p → Dp K H v p
  | _, _, _, .non, e => by simp [toP] at e; subst e; exact .non
  | _, _, _, .bl b, e => by simp [toP] at e; subst e; exact .bl b
  | _, _, _, .int b, e => by simp [toP] at e; subst e; exact .int b
  | _, _, _, .str b, e => by simp [toP] at e; subst e; exact .str b
  | _, _, _, .tup (ds := ds) f h nd r, e => by
    simp only [toP] at e
    cases q : toP.go ds with
    | none => rw [q] at e; cases e
    | some ps => rw [q] at e; cases e; exact .tup (.inl (.inr ⟨_, h⟩)) (RepL.dp r q)
  | _, _, _, .lst (ds := ds) f h r, e => by
    simp only [toP] at e
    cases q : toP.go ds with
    | none => rw [q] at e; cases e
    | some ps => rw [q] at e; cases e; exact .lst (SqL.of h) (RepL.dp r q)
  | _, _, _, .scr h r, e => by simp [toP] at e
  | _, _, _, .obj .., e => by simp [toP] at e
  | _, _, _, .ref h, e => by simp [toP] at e
theorem RepL.dp : ∀ {vs : List V} {ds : List D} {ps : List PyData}, RepL K CT W H vs ds → toP.go ds = some ps → DpAll K H vs ps
  | _, _, _, .nil, e => by simp [toP.go] at e; subst e; exact .nil
  | _, _, _, .cons (d := d) (ds := ds) r s, e => by
    simp only [toP.go] at e
    cases q : toP d with
    | none => rw [q] at e; cases e
    | some p =>
      rw [q] at e
      cases q2 : toP.go ds with
      | none => rw [q2] at e; cases e
      | some ps => rw [q2] at e; cases e; exact .cons (Rep.dp r q) (RepL.dp s q2)
end
end

/-! ### the store -/
theorem nodup_at {l : List Addr} (hN : l.Nodup) {i j : Nat} {x : Addr} (a : l[i]? = some x) (b : l[j]? = some x) : i = j := by
  obtain ⟨h1, e1⟩ := List.getElem?_eq_some_iff.mp a
  obtain ⟨h2, e2⟩ := List.getElem?_eq_some_iff.mp b
  exact (List.getElem_inj hN).mp (e1.trans e2.symm)
structure WOk (W : Wd) (H : Hp) : Prop where
  F : ∀ a, W.F a → H a ≠ none
  P : ∀ a, W.P a → H a ≠ none
  FP : ∀ a, W.F a → ¬ W.P a
  μ : ∀ a ∈ W.μ, H a ≠ none
  nd : W.μ.Nodup
  μP : ∀ a ∈ W.μ, ¬ W.P a
/-- an instance of the store: its fields by number -/
def FsOk (K : PySem.W.Frag) (CT : List ClsI) (W : Wd) (H : Hp) (ci : ClsI) (fs : List (Str × V)) (l : List (Nat × D)) : Prop :=
  (∀ f, f ∉ ci.fs → fs.lookup f = none) ∧ fs.length ≤ l.length ∧ ∀ (i : Nat) (f : Str), ci.fs[i]? = some f → match l.lookup i with
    | some d => ∃ v, fs.lookup f = some v ∧ Rep K CT W H v d
    | none => fs.lookup f = none
def MoIs (K : PySem.W.Frag) (CT : List ClsI) (W : Wd) (H : Hp) (a : Addr) : MO → Prop
  | .lst l => ∃ xs, H a = some (.lst xs) ∧ RepL K CT W H xs l
  | .dct _ => False
  | .ins c l => ∃ ci dx fs, CT[c]? = some ci ∧ H a = some (.ins ci.C dx fs) ∧ FsOk K CT W H ci fs l
  | .dead => True
structure MemOk (K : PySem.W.Frag) (CT : List ClsI) (W : Wd) (H : Hp) (m : Mem) : Prop where
  len : m.length = W.μ.length
  is : ∀ (k : Nat) (mo : MO) (a : Addr), m[k]? = some mo → mo ≠ .dead → W.μ[k]? = some a → ¬ W.F a ∧ ¬ W.P a ∧ MoIs K CT W H a mo
structure Sit (K : PySem.W.Frag) (CT : List ClsI) (W : Wd) (H : Hp) (m : Mem) : Prop where
  w : WOk W H
  m : MemOk K CT W H m

section
variable {K : PySem.W.Frag} {CT : List ClsI} {W W' : Wd} {H H' : Hp} {m : Mem} {p : Addr} {o : HO}
theorem FsOk.mono {ci : ClsI} {fs : List (Str × V)} {l : List (Nat × D)} (le : Le W H W' H') (h : FsOk K CT W H ci fs l) : FsOk K CT W' H' ci fs l := by
  refine ⟨h.1, h.2.1, fun i f e => ?_⟩
  have q := h.2.2 i f e
  cases z : l.lookup i with
  | none => rw [z] at q; exact q
  | some d =>
    rw [z] at q
    obtain ⟨v, e1, r⟩ := q
    exact ⟨v, e1, r.mono le⟩
theorem MoIs.mono {a : Addr} {mo : MO} (le : Le W H W' H') (ha : H' a = H a) (h : MoIs K CT W H a mo) : MoIs K CT W' H' a mo := by
  cases mo with
  | lst l => obtain ⟨xs, e, r⟩ := h; exact ⟨xs, ha.trans e, r.mono le⟩
  | dct l => exact h
  | ins c l => obtain ⟨ci, dx, fs, e1, e2, r⟩ := h; exact ⟨ci, dx, fs, e1, ha.trans e2, r.mono le⟩
  | dead => trivial
/-- a new frozen thing -/
def Wd.frz (W : Wd) (p : Addr) : Wd := { W with F := fun a => W.F a ∨ a = p }
theorem le_frz (w : WOk W H) (hp : H p = none) : Le W H (W.frz p) (upd H p o) :=
  ⟨fun _ h => .inl h, rfl, fun a h => upd_ne (by rintro rfl; rcases h with h | h; exact w.F _ h hp; exact w.P _ h hp), [], by simp [Wd.frz]⟩
theorem Sit.frz (s : Sit K CT W H m) (hp : H p = none) : Sit K CT (W.frz p) (upd H p o) m := by
  have le := le_frz (o := o) s.w hp
  refine ⟨⟨fun a h => ?_, fun a h => ?_, fun a h q => ?_, fun a h => ?_, s.w.nd, s.w.μP⟩, s.m.len, fun k mo a e1 e2 e3 => ?_⟩
  · by_cases e : a = p
    · rw [e, upd_same]; simp
    · rw [upd_ne e]; exact s.w.F a (h.resolve_right e)
  · have e : a ≠ p := by rintro rfl; exact s.w.P _ h hp
    rw [upd_ne e]; exact s.w.P a h
  · rcases h with h | h
    · exact s.w.FP a h q
    · subst h; exact s.w.P _ q hp
  · have e : a ≠ p := by rintro rfl; exact s.w.μ _ h hp
    rw [upd_ne e]; exact s.w.μ a h
  · obtain ⟨f, q, r⟩ := s.m.is k mo a e1 e2 e3
    have ne : a ≠ p := by rintro rfl; exact s.w.μ _ (List.mem_of_getElem? e3) hp
    exact ⟨fun h => f (h.resolve_right ne), q, r.mono le (upd_ne ne)⟩
/-- a new thing of the store -/
def Wd.put (W : Wd) (p : Addr) : Wd := { W with μ := W.μ ++ [p] }
theorem le_put (w : WOk W H) (hp : H p = none) : Le W H (W.put p) (upd H p o) :=
  ⟨fun _ h => h, rfl, fun a h => upd_ne (by rintro rfl; rcases h with h | h; exact w.F _ h hp; exact w.P _ h hp), [p], rfl⟩
theorem Sit.put {mo : MO} (s : Sit K CT W H m) (hp : H p = none) (hm : MoIs K CT (W.put p) (upd H p o) p mo) : Sit K CT (W.put p) (upd H p o) (m ++ [mo]) := by
  have le := le_put (o := o) s.w hp
  refine ⟨⟨fun a h => ?_, fun a h => ?_, s.w.FP, fun a h => ?_, ?_, fun a h q => ?_⟩, by simp [Wd.put, s.m.len], fun k mo' a e1 e2 e3 => ?_⟩
  · have e : a ≠ p := by rintro rfl; exact s.w.F _ h hp
    rw [upd_ne e]; exact s.w.F a h
  · have e : a ≠ p := by rintro rfl; exact s.w.P _ h hp
    rw [upd_ne e]; exact s.w.P a h
  · by_cases e : a = p
    · rw [e, upd_same]; simp
    · rw [upd_ne e]
      have h' : a ∈ W.μ ++ [p] := h
      rcases List.mem_append.mp h' with q | q
      · exact s.w.μ a q
      · simp at q; exact absurd q e
  · show (W.μ ++ [p]).Nodup
    rw [List.nodup_append]
    refine ⟨s.w.nd, by simp, fun a ha b hb => ?_⟩
    simp at hb
    subst hb
    rintro rfl
    exact s.w.μ _ ha hp
  · have h' : a ∈ W.μ ++ [p] := h
    rcases List.mem_append.mp h' with z | z
    · exact s.w.μP a z q
    · simp at z
      subst z
      exact s.w.P _ q hp
  · have e3' : (W.μ ++ [p])[k]? = some a := e3
    by_cases hk : k < W.μ.length
    · rw [List.getElem?_append_left hk] at e3'
      rw [List.getElem?_append_left (by rw [s.m.len]; exact hk)] at e1
      obtain ⟨f, q, r⟩ := s.m.is k mo' a e1 e2 e3'
      have ne : a ≠ p := by rintro rfl; exact s.w.μ _ (List.mem_of_getElem? e3') hp
      exact ⟨f, q, r.mono le (upd_ne ne)⟩
    · rw [List.getElem?_append_right (by omega)] at e3'
      rw [List.getElem?_append_right (by rw [s.m.len]; omega)] at e1
      have z : k - W.μ.length = 0 := by
        have := (List.getElem?_eq_some_iff.mp e3').1
        simp at this
        omega
      rw [s.m.len, z] at e1
      rw [z] at e3'
      simp at e1 e3'
      subst e1 e3'
      exact ⟨fun h => s.w.F _ h hp, fun h => s.w.P _ h hp, hm⟩
/-- a thing of the store changes -/
theorem le_upd {k : Nat} {mo : MO} (s : Sit K CT W H m) (hk : m[k]? = some mo) (hd : mo ≠ .dead) (hp : W.μ[k]? = some p) : Le W H W (upd H p o) := by
  obtain ⟨f, q, _⟩ := s.m.is k mo p hk hd hp
  exact ⟨fun _ h => h, rfl, fun a h => upd_ne (by rintro rfl; rcases h with h | h; exact f h; exact q h), [], by simp⟩
theorem Sit.upd {k : Nat} {mo mo' : MO} (s : Sit K CT W H m) (hk : m[k]? = some mo) (hd : mo ≠ .dead) (hp : W.μ[k]? = some p) (hm : MoIs K CT W (upd H p o) p mo') :
    Sit K CT W (L2.upd H p o) (m.set k mo') := by
  have le := le_upd (o := o) s hk hd hp
  obtain ⟨f, q, _⟩ := s.m.is k mo p hk hd hp
  refine ⟨⟨fun a h => ?_, fun a h => ?_, s.w.FP, fun a h => ?_, s.w.nd, s.w.μP⟩, by simp [s.m.len], fun j mo2 a e1 e2 e3 => ?_⟩
  · rw [le.at_ a (.inl h)]; exact s.w.F a h
  · rw [le.at_ a (.inr h)]; exact s.w.P a h
  · by_cases e : a = p
    · rw [e, upd_same]; simp
    · rw [upd_ne e]; exact s.w.μ a h
  · by_cases hj : j = k
    · subst hj
      rw [e3] at hp
      cases hp
      rw [List.getElem?_set_self (List.getElem?_eq_some_iff.mp hk).1] at e1
      cases e1
      exact ⟨f, q, hm⟩
    · rw [List.getElem?_set_ne (Ne.symm hj)] at e1
      obtain ⟨f', q', r⟩ := s.m.is j mo2 a e1 e2 e3
      have ne : a ≠ p := by
        rintro rfl
        exact hj (nodup_at s.w.nd e3 hp)
      exact ⟨f', q', r.mono le (upd_ne ne)⟩
end
end Ev

set_option Elab.async false
set_option linter.all false
set_option maxRecDepth 100000
/-! Ev3: what an answer of the evaluator is worth at a heap (Out), operators. -/
namespace Ev
open PySem PySem.Spec PyProof.Rows L2

/-- K, the classes, the exceptions' classes (address, field), what is wanted of an exception -/
structure Yx where
  K : PySem.W.Frag
  CT : List ClsI
  XT : List (Addr × Str)
  E : XK
abbrev Yx.rep (Y : Yx) (W : Wd) (H : Hp) (v : V) (d : D) : Prop := Rep Y.K Y.CT W H v d
abbrev Yx.repL (Y : Yx) (W : Wd) (H : Hp) (v : List V) (d : List D) : Prop := RepL Y.K Y.CT W H v d
abbrev Yx.sit (Y : Yx) (W : Wd) (H : Hp) (m : Mem) : Prop := Sit Y.K Y.CT W H m
def EnvOk (Y : Yx) (W : Wd) (H : Hp) (σ : L2.St) (ρ : Env) : Prop := σ.length = ρ.length ∧ ∀ (i : Nat) (d : D), ρ[i]? = some (some d) → ∃ v, σ[i]? = some (some v) ∧ Y.rep W H v d
theorem EnvOk.mono {Y : Yx} {W W' : Wd} {H H' : Hp} {σ : L2.St} {ρ : Env} (e : EnvOk Y W H σ ρ) (le : Le W H W' H') : EnvOk Y W' H' σ ρ :=
  ⟨e.1, fun i d h => let ⟨v, a, r⟩ := e.2 i d h; ⟨v, a, r.mono le⟩⟩
/-- how an exception of the class of number c with x lies -/
def ExcIs (Y : Yx) (W : Wd) (H : Hp) (c : Nat) (x : Option D) (cls : Value) (dx : Option Addr) : Prop :=
  ∃ (C : Addr) (f : Str), Y.XT[c]? = some (C, f) ∧ cls = .ref C ∧ match x with
    | none => dx = none
    | some d => ∃ a v, dx = some a ∧ H a = some (.xd [(f, v)]) ∧ Y.rep W H v d
def Out {α β : Type} (Y : Yx) (W : Wd) (H : Hp) (r : R α) (Rel : Wd → Hp → β → α → Prop) (Q : β → Hp → Prop) : Prop := match r with
  | .ok a m => ∀ (b : β) (W' : Wd) (H' : Hp), Y.sit W' H' m → Le W H W' H' → Rel W' H' b a → Q b H'
  | .exc c x m => ∀ (cls : Value) (dx : Option Addr) (W' : Wd) (H' : Hp), Y.sit W' H' m → Le W H W' H' → ExcIs Y W' H' c x cls dx → Y.E cls dx H'
  | .bad => False
theorem Out.mono {α β : Type} {Y : Yx} {W W' : Wd} {H H' : Hp} {r : R α} {Rel : Wd → Hp → β → α → Prop} {Q : β → Hp → Prop} (h : Out Y W H r Rel Q) (le : Le W H W' H') : Out Y W' H' r Rel Q := by
  cases r with
  | ok a m => exact fun b W2 H2 s l rel => h b W2 H2 s (le.trans l) rel
  | exc c x m => exact fun cls dx W2 H2 s l e => h cls dx W2 H2 s (le.trans l) e
  | bad => exact h
/-- one after the other -/
theorem Out.bind {α β γ δ : Type} {Y : Yx} {W : Wd} {H : Hp} {r : R α} {f : α → Mem → R γ} {Rel : Wd → Hp → β → α → Prop} {Rel2 : Wd → Hp → δ → γ → Prop} {Q : β → Hp → Prop} {Q2 : δ → Hp → Prop}
    (h : Out Y W H (r.bind f) Rel2 Q2) (k : ∀ (a : α) (m : Mem) (b : β) (W' : Wd) (H' : Hp), r = .ok a m → Y.sit W' H' m → Le W H W' H' → Rel W' H' b a → Out Y W' H' (f a m) Rel2 Q2 → Q b H') : Out Y W H r Rel Q := by
  cases r with
  | ok a m => exact fun b W' H' s l rel => k a m b W' H' rfl s l rel (Out.mono h l)
  | exc c x m => exact h
  | bad => exact h
theorem Out.imp {α β : Type} {Y : Yx} {W : Wd} {H : Hp} {r : R α} {Rel : Wd → Hp → β → α → Prop} {Q Q' : β → Hp → Prop} (h : Out Y W H r Rel Q) (k : ∀ b H', Q b H' → Q' b H') : Out Y W H r Rel Q' := by
  cases r with
  | ok a m => exact fun b W' H' s l rel => k _ _ (h b W' H' s l rel)
  | exc c x m => exact h
  | bad => exact h
/-- an answer at hand -/
theorem Out.here {α β : Type} {Y : Yx} {W : Wd} {H : Hp} {a : α} {m : Mem} {Rel : Wd → Hp → β → α → Prop} {Q : β → Hp → Prop} (h : Out Y W H (.ok a m) Rel Q) (s : Y.sit W H m) {b : β} (rel : Rel W H b a) : Q b H :=
  h b W H s Le.refl rel
theorem Out.ofO {α β : Type} {Y : Yx} {W : Wd} {H : Hp} {o : Option α} {m : Mem} {Rel : Wd → Hp → β → α → Prop} {Q : β → Hp → Prop} (h : Out Y W H (ofO o m) Rel Q) : ∃ a, o = some a ∧ Out Y W H (.ok a m) Rel Q := by
  cases o with
  | none => exact False.elim h
  | some a => exact ⟨a, rfl, h⟩
/-- a new frozen thing is an answer -/
theorem Out.frz {Y : Yx} {W : Wd} {H : Hp} {d : D} {m : Mem} {Q : VK} {o : HO} (h : Out Y W H (.ok d m) Y.rep Q) (s : Y.sit W H m)
    (r : ∀ p, H p = none → Le W H (W.frz p) (upd H p o) → Y.rep (W.frz p) (upd H p o) (.ref p) d) : ∀ p, H p = none → Q (.ref p) (upd H p o) := fun p hp =>
  h (.ref p) (W.frz p) (upd H p o) (s.frz hp) (le_frz s.w hp) (r p hp (le_frz s.w hp))
theorem Out.frzT {Y : Yx} {W : Wd} {H : Hp} {xs : List V} {ds : List D} {m : Mem} {Q : VK} (h : Out Y W H (.ok (.tup ds) m) Y.rep Q) (s : Y.sit W H m) (r : Y.repL W H xs ds) :
    ∀ p ob, H p = none → ob.dict = none → Q (.ref p) (upd H p (.frz ob (.tup xs))) := fun p ob hp hd =>
  h (.ref p) (W.frz p) (upd H p (.frz ob (.tup xs))) (s.frz hp) (le_frz s.w hp) (.tup (.inr rfl) upd_same hd (r.mono (le_frz s.w hp)))
theorem Rep.newL {Y : Yx} {W : Wd} {H : Hp} {xs : List V} {ds : List D} (r : Y.repL W H xs ds) {p : Addr} (le : Le W H (W.frz p) (upd H p (.lst xs))) : Y.rep (W.frz p) (upd H p (.lst xs)) (.ref p) (.lst ds) :=
  .lst (.inr rfl) upd_same (r.mono le)

theorem lim_eq : lim = sizeLine := by rw [sizeLine_eq]; rfl
theorem sizeOk_le {n : Nat} (h : sizeOk n = true) : n ≤ sizeLine := by rw [← lim_eq]; exact of_decide_eq_true h

/-! ### what a value is, by its data -/
section
variable {K : PySem.W.Frag} {CT : List ClsI} {W : Wd} {H : Hp} {m : Mem} {v : V} {d : D}
theorem Rep.int_ {i : Int} (h : Rep K CT W H v (.int i)) : v = .int i := by cases h; rfl
theorem Rep.bl_ {i : Bool} (h : Rep K CT W H v (.bl i)) : v = .bl i := by cases h; rfl
theorem Rep.str_ {i : Str} (h : Rep K CT W H v (.str i)) : v = .str i := by cases h; rfl
theorem Rep.non_ (h : Rep K CT W H v .non) : v = .non := by cases h; rfl
theorem deref_int {i : Int} (h : deref m d = .int i) : d = .int i := by
  cases d <;> simp only [deref] at h <;> try exact h
  split at h <;> cases h
theorem deref_str {i : Str} (h : deref m d = .str i) : d = .str i := by
  cases d <;> simp only [deref] at h <;> try exact h
  split at h <;> cases h
theorem deref_tup {l : List D} (h : deref m d = .tup l) : d = .tup l := by
  cases d <;> simp only [deref] at h <;> try exact h
  split at h <;> cases h
theorem deref_scr {l : List D} (h : deref m d = .scr l) : d = .scr l := by
  cases d <;> simp only [deref] at h <;> try exact h
  split at h <;> cases h
theorem deref_obj {c : Nat} {l : List D} (h : deref m d = .obj c l) : d = .obj c l := by
  cases d <;> simp only [deref] at h <;> try exact h
  split at h <;> cases h
theorem Rep.tup_ {l : List D} (r : Rep K CT W H v (.tup l)) : ∃ a xs, v = .ref a ∧ SqT K H a xs ∧ RepL K CT W H xs l := by
  cases r with | tup f h nd q => exact ⟨_, _, rfl, .inl (.inr ⟨_, h⟩), q⟩
theorem Rep.tupO {l : List D} (r : Rep K CT W H v (.tup l)) : ∃ a xs ob, v = .ref a ∧ H a = some (.frz ob (.tup xs)) ∧ ob.dict = none ∧ RepL K CT W H xs l := by
  cases r with | tup f h nd q => exact ⟨_, _, _, rfl, h, nd, q⟩
theorem Rep.lst_ {l : List D} (s : Sit K CT W H m) (r : Rep K CT W H v d) (h : deref m d = .lst l) : ∃ a xs, v = .ref a ∧ H a = some (.lst xs) ∧ RepL K CT W H xs l := by
  cases r with
  | lst f h2 q => simp only [deref] at h; cases h; exact ⟨_, _, rfl, h2, q⟩
  | ref e =>
    simp only [deref] at h
    split at h
    · rename_i l' e2
      cases h
      obtain ⟨_, _, xs, e3, q⟩ := s.m.is _ _ _ e2 (by intro z; cases z) e
      exact ⟨_, xs, rfl, e3, q⟩
    · cases h
    · cases h
  | _ => simp only [deref] at h; cases h
theorem Rep.scr_ {l : List D} (r : Rep K CT W H v (.scr l)) : ∃ a xs, v = .ref a ∧ SqL K H a xs ∧ RepL K CT W H xs l := by
  cases r with
  | scr h q =>
    refine ⟨_, _, rfl, ?_, q⟩
    rcases h with ⟨_, h⟩ | h
    · exact .inl h
    · exact .inr h
/-- a list or tuple, read -/
theorem Rep.items_ {l : List D} (s : Sit K CT W H m) (r : Rep K CT W H v d) (h : items m d = some l) : ∃ a xs, v = .ref a ∧ (H a = some (.lst xs) ∨ SqT K H a xs) ∧ RepL K CT W H xs l := by
  unfold items at h
  split at h
  · rename_i e; cases h
    obtain ⟨a, xs, e1, e2, q⟩ := r.lst_ s e
    exact ⟨a, xs, e1, .inl e2, q⟩
  · rename_i e; cases h
    obtain rfl := deref_tup e
    obtain ⟨a, xs, e1, e2, q⟩ := r.tup_
    exact ⟨a, xs, e1, .inr e2, q⟩
  · cases h
theorem Rep.litems_ {l : List D} (s : Sit K CT W H m) (r : Rep K CT W H v d) (h : litems m d = some l) : ∃ a xs, v = .ref a ∧ H a = some (.lst xs) ∧ RepL K CT W H xs l := by
  unfold litems at h
  split at h
  · rename_i e; cases h
    exact r.lst_ s e
  · cases h
theorem Rep.dpd {p : PyData} (s : Sit K CT W H m) (r : Rep K CT W H v d) (h : toP (deref m d) = some p) : Dp K H v p := by
  cases r with
  | ref e =>
    simp only [deref] at h
    split at h
    · rename_i l e2
      obtain ⟨_, _, xs, e3, q⟩ := s.m.is _ _ _ e2 (by intro z; cases z) e
      simp only [toP] at h
      cases z : toP.go l with
      | none => rw [z] at h; cases h
      | some ps => rw [z] at h; cases h; exact .lst (SqL.of e3) (q.dp z)
    · simp [toP] at h
    · simp [toP] at h
  | non => exact Rep.dp (K := K) (CT := CT) (W := W) (H := H) (d := .non) .non h
  | bl b => exact Rep.dp (K := K) (CT := CT) (W := W) (H := H) (.bl b) h
  | int b => exact Rep.dp (K := K) (CT := CT) (W := W) (H := H) (.int b) h
  | str b => exact Rep.dp (K := K) (CT := CT) (W := W) (H := H) (.str b) h
  | tup a b c d => exact Rep.dp (.tup a b c d) h
  | lst a b c => exact Rep.dp (.lst a b c) h
  | scr a b => exact Rep.dp (.scr a b) h
  | obj a b c d e f g => exact Rep.dp (.obj a b c d e f g) h
end

/-! ### new tuples, known to the object -/
section
variable {X : Cx}
theorem laidT {pins : List (Addr × Obj)} {σ : L2.St} {H : Hp} {s : Shared} {xs : List V} {its : List Value} {t' : Nat} {Q : VK} (I : Inv X pins σ H s) (r : Vals xs its) (z : xs.length ≤ sizeLine)
    (q : ∀ p ob, H p = none → ob.dict = none → Q (.ref p) (upd H p (.frz ob (.tup xs)))) :
    EP X pins σ Q (.ref s.heap.objs.size) { s with heap := s.heap.push { cls := .type "tuple", data := .seq its.toArray }, toks := t' } := by
  have hf : H s.heap.objs.size = none := I.hok.fresh (Nat.le_refl _)
  refine ⟨.ref s.heap.objs.size, upd H s.heap.objs.size (.frz { cls := .type "tuple", data := .seq its.toArray } (.tup xs)), I.laid (t' := t') (fun b u e => Heap.get?_push_of_some _ e) (Nat.le_refl _) ?_, rfl, q _ _ hf rfl⟩
  exact ⟨Heap.get?_push_size _ rfl, z, its, r, ⟨_, Heap.get?_push_size _ rfl, rfl, _, rfl⟩⟩
def tTupF (t : TA) : TE := fun σ H Q => t σ H fun xs H1 => xs.length ≤ sizeLine ∧ ∀ p ob, H1 p = none → ob.dict = none → Q (.ref p) (upd H1 p (.frz ob (.tup xs)))
theorem pe_tupF {es : List Expr} {t : TA} {pos : Pos} {x1} (h : PA X es t) : PE X (.Tuple es x1 pos) (tTupF t) := by
  refine ⟨fun pins s σ H Q I hq => ?_⟩
  exact wpAny_Tuple_spliced (thn (h.run pos pins s σ H _ I hq) fun us s1 ⟨xs, H1, I1, r, z, q⟩ => ⟨by rw [← r.length]; exact z, laidT (t' := s1.toks) I1 r z q⟩)
theorem op_catF : OpR X (binaryOp .Add) (fun x y H Q => ∃ a b xs ys, x = .ref a ∧ y = .ref b ∧ SqT X.K H a xs ∧ SqT X.K H b ys ∧ xs.length + ys.length ≤ sizeLine ∧
    (xs = [] → Q (.ref b) H) ∧ (ys = [] → Q (.ref a) H) ∧ ∀ p ob, H p = none → ob.dict = none → Q (.ref p) (upd H p (.frz ob (.tup (xs ++ ys))))) := by
  intro pins s σ H x y v u Q I rx ry h
  obtain ⟨a, b, xs, ys, rfl, rfl, ha, hb, hz, q0, q1, q2⟩ := h
  obtain rfl : v = Value.ref a := rx
  obtain rfl : u = Value.ref b := ry
  obtain ⟨its, r1, p1, _⟩ := I.tuple ha
  obtain ⟨its2, r2, p2, _⟩ := I.tuple hb
  by_cases hx : xs = []
  · have e : its = [] := by have := r1.length; rw [hx] at this; exact List.length_eq_zero_iff.mp this.symm
    subst e
    exact L2.cat_tup0 p1 p2 ⟨.ref b, H, I, rfl, q0 hx⟩
  · refine HT.cat_tup p1 p2 (fun z => hx (r1.nil_iff.mp z)) (fun z => ⟨.ref a, H, I, rfl, q1 (r2.nil_iff.mp z)⟩) (fun _ => ?_) (by rw [← r1.length, ← r2.length]; exact hz)
    exact laidT (t' := s.toks) I (r1.append r2) (by rw [List.length_append]; exact hz) q2
theorem sl_tupF : SlR X (fun x lo hi H Q => ∃ a xs, x = .ref a ∧ SqT X.K H a xs ∧ (HT.sIx xs.length 0 lo = 0 ∧ HT.sIx xs.length xs.length hi = xs.length → Q (.ref a) H) ∧
    ∀ p ob, H p = none → ob.dict = none → Q (.ref p) (upd H p (.frz ob (.tup (cutV xs lo hi))))) := by
  intro pins s σ H x v vl vu lo hi sl Q I rx hs pl pu h
  obtain ⟨a, xs, rfl, hx, q1, q2⟩ := h
  obtain rfl : v = Value.ref a := rx
  obtain ⟨its, r, ht, hz⟩ := I.tuple hx
  have hlen : its.toArray.size = xs.length := by rw [List.size_toArray]; exact r.length.symm
  refine ⟨"tuple", _, PyProof.Rows.slot_tuple_getitem.lookup, ht.typeIs, ?_⟩
  by_cases hw : HT.sIx xs.length 0 lo = 0 ∧ HT.sIx xs.length xs.length hi = xs.length
  · exact L2.getItem_tuple_whole ht hs pl pu (by rw [hlen]; exact hw) ⟨.ref a, H, I, rfl, q1 hw⟩
  · refine HT.getItem_tuple_cut ht hs pl pu (by rw [hlen]; exact hw) ?_ (by rw [hlen]; exact hz)
    rw [hlen]
    exact laidT (t' := s.toks) I ((r.drop (HT.sIx xs.length 0 lo)).take (HT.sIx xs.length xs.length hi - HT.sIx xs.length 0 lo)) (Nat.le_trans (cutV_length xs lo hi) hz) q2
theorem call_tupleF : CallR X (.type "tuple") (fun xs H Q => ∃ p ys, xs = [.ref p] ∧ SqL X.K H p ys ∧ ∀ l ob, H l = none → ob.dict = none → Q (.ref l) (upd H l (.frz ob (.tup ys)))) := by
  intro pins s σ H xs us Q I r h
  obtain ⟨p, ys, rfl, hq, q⟩ := h
  obtain ⟨u, rfl, rx⟩ := vals1 r
  obtain rfl : u = Value.ref p := rx
  obtain ⟨its, r', pl, hz⟩ := I.list hq
  have hlen := r'.length
  refine call_tuple_list pl.isList (fun h' kp => ?_) (by simp only [List.size_toArray] <;> omega)
  have I1 : Inv X pins σ H { s with heap := h' } := I.kept (t' := s.toks) kp
  exact laidT (t' := s.toks) I1 r' hz q
theorem call_divmodF : CallR X (.builtin "divmod") (fun xs H Q => ∃ i j, xs = [.int i, .int j] ∧ CDivP i j ∧ ∀ p ob, H p = none → ob.dict = none → Q (.ref p) (upd H p (.frz ob (.tup [.int (i / j), .int (i % j)])))) := by
  intro pins s σ H xs us Q I r h
  obtain ⟨i, j, rfl, ⟨h1, h2⟩, q⟩ := h
  obtain ⟨u, w', rfl, ⟨t, rfl⟩, ⟨t', rfl⟩⟩ := vals2 r
  refine divmod_int (by omega) ?_ (.inl h2)
  rw [Int.fdiv_eq_ediv_of_nonneg i (by omega), Int.fmod_eq_emod_of_nonneg i (by omega)]
  exact laidT (xs := [.int (i / j), .int (i % j)]) (its := [.int (i / j) s.toks, .int (i % j) (s.toks + 1)]) I (.cons ⟨_, rfl⟩ (.cons ⟨_, rfl⟩ .nil)) (by rw [sizeLine_eq]; show 2 ≤ 16777216; decide) q
end

/-! ### operators -/
section
variable {X : Cx} {Y : Yx}
def rD2 (Y : Yx) (f : D → D → Mem → R D) : R2 := fun x y H Q => ∃ W m dx dy, Y.sit W H m ∧ Y.rep W H x dx ∧ Y.rep W H y dy ∧ Out Y W H (f dx dy m) Y.rep Q
theorem CMulX_of {i j : Int} (h : mulOk i j = true) : CMul i j ∨ CMulW i j := by
  unfold mulOk at h
  simp only [Bool.or_eq_true, decide_eq_true_eq] at h
  exact h
theorem divOk_of {i j : Int} (h : divOk j = true) : CDivW i j := by
  simp only [divOk, decide_eq_true_eq] at h
  exact h
theorem op_mulD : OpR X (binaryOp .Mult) (rI (fun i j => CMul i j ∨ CMulW i j) fun i j => .int (i * j)) := opI fun _ _ _ _ _ _ _ hc q => mul_int q (hc.elim CMul.ok CMulW.ok)
theorem bin_sound (hK : X.K = Y.K) (o : Operator) : OpR X (binaryOp o) (rD2 Y (opBin o)) := by
  intro pins s σ H x y v u Q I rx ry h
  obtain ⟨W, m, dx, dy, si, r1, r2, h⟩ := h
  unfold opBin at h
  split at h
  · rename_i e1 e2
    obtain rfl := deref_int e1
    obtain rfl := deref_int e2
    exact op_add pins s σ H x y v u Q I rx ry ⟨_, _, r1.int_, r2.int_, h.here si (.int _)⟩
  · rename_i e1 e2
    obtain rfl := deref_int e1
    obtain rfl := deref_int e2
    exact op_sub pins s σ H x y v u Q I rx ry ⟨_, _, r1.int_, r2.int_, h.here si (.int _)⟩
  · rename_i e1 e2
    obtain rfl := deref_int e1
    obtain rfl := deref_int e2
    split at h
    · rename_i c
      exact op_mulD pins s σ H x y v u Q I rx ry ⟨_, _, r1.int_, r2.int_, CMulX_of c, h.here si (.int _)⟩
    · exact h.elim
  · rename_i e1 e2
    obtain rfl := deref_int e1
    obtain rfl := deref_int e2
    split at h
    · rename_i c
      exact op_fdivW pins s σ H x y v u Q I rx ry ⟨_, _, r1.int_, r2.int_, divOk_of c, h.here si (.int _)⟩
    · exact h.elim
  · rename_i e1 e2
    obtain rfl := deref_int e1
    obtain rfl := deref_int e2
    split at h
    · rename_i c
      exact op_mod pins s σ H x y v u Q I rx ry ⟨_, _, r1.int_, r2.int_, c, h.here si (.int _)⟩
    · exact h.elim
  · rename_i e1 e2
    obtain rfl := deref_int e1
    obtain rfl := deref_int e2
    split at h
    · rename_i c
      exact op_pow pins s σ H x y v u Q I rx ry ⟨_, _, r1.int_, r2.int_, c, h.here si (.int _)⟩
    · exact h.elim
  · rename_i e1 e2
    obtain rfl := deref_str e1
    obtain rfl := deref_str e2
    split at h
    · rename_i c
      exact op_add_str pins s σ H x y v u Q I rx ry ⟨_, _, r1.str_, r2.str_, sizeOk_le c, h.here si (.str _)⟩
    · exact h.elim
  · rename_i e1 e2
    split at h
    · rename_i c
      obtain ⟨a, xs, z1, h1, q1⟩ := r1.lst_ si e1
      obtain ⟨b, ys, z2, h2, q2⟩ := r2.lst_ si e2
      exact op_cat pins s σ H x y v u Q I rx ry ⟨a, b, xs, ys, z1, z2, h1, h2, by rw [q1.length, q2.length]; exact sizeOk_le c, h.frz si fun p hp le => Rep.newL (q1.append q2) le⟩
    · exact h.elim
  · rename_i e1 e2
    obtain rfl := deref_tup e1
    obtain rfl := deref_tup e2
    split at h
    · rename_i c
      obtain ⟨a, xs, z1, h1, q1⟩ := r1.tup_
      obtain ⟨b, ys, z2, h2, q2⟩ := r2.tup_
      refine op_catF pins s σ H x y v u Q I rx ry ⟨a, b, xs, ys, z1, z2, hK ▸ h1, hK ▸ h2, by rw [q1.length, q2.length]; exact sizeOk_le c, fun e => ?_, fun e => ?_, h.frzT si (q1.append q2)⟩
      · subst e
        cases q1
        exact h.here si (z2 ▸ r2)
      · subst e
        cases q2
        exact h.here si (by rw [List.append_nil]; exact z1 ▸ r1)
    · exact h.elim
  · rename_i e1 e2
    obtain rfl := deref_int e2
    split at h
    · rename_i c
      obtain ⟨a, xs, z1, h1, q1⟩ := r1.lst_ si e1
      exact op_rep pins s σ H x y v u Q I rx ry ⟨a, _, xs, z1, r2.int_, h1, c.1, c.2.1, by rw [q1.length, ← lim_eq]; exact c.2.2, h.frz si fun p hp le => Rep.newL (q1.rep _) le⟩
    · exact h.elim
  · exact h.elim

/-! ### comparisons -/
def rB2 (Y : Yx) (f : D → D → Mem → Option Bool) : R2 := fun x y H Q => ∃ W m dx dy b, Y.sit W H m ∧ Y.rep W H x dx ∧ Y.rep W H y dy ∧ f dx dy m = some b ∧ Q (.bl b) H
theorem eq_sound (hK : X.K = Y.K) (hu : X.A.units + 64 < cLine) : OpR X (compareOp .Eq) (rB2 Y eqD) := by
  intro pins s σ H x y v u Q I rx ry h
  obtain ⟨W, m, dx, dy, b, si, r1, r2, e, q⟩ := h
  unfold eqD at e
  split at e
  · rename_i p p' e1 e2
    split at e
    · rename_i c
      cases e
      simp only [Bool.and_eq_true] at c
      exact op_eqD hu pins s σ H x y v u Q I rx ry ⟨p, p', hK ▸ r1.dpd si e1, hK ▸ r2.dpd si e2, c.1, c.2, q⟩
    · cases e
  · cases e
theorem ne_sound (hK : X.K = Y.K) (hu : X.A.units + 64 < cLine) : OpR X (compareOp .NotEq) (rB2 Y fun x y m => (eqD x y m).map (!·)) := by
  intro pins s σ H x y v u Q I rx ry h
  obtain ⟨W, m, dx, dy, b, si, r1, r2, e, q⟩ := h
  obtain ⟨b, e0, rfl⟩ := Option.map_eq_some_iff.mp e
  unfold eqD at e0
  split at e0
  · rename_i p p' e1 e2
    split at e0
    · rename_i c
      simp only [Bool.and_eq_true] at c
      cases e0
      exact op_neD hu pins s σ H x y v u Q I rx ry ⟨p, p', hK ▸ r1.dpd si e1, hK ▸ r2.dpd si e2, c.1, c.2, q⟩
    · cases e0
  · cases e0
/-- x in a tuple of data -/
theorem op_inT (hu : X.A.units + 65 < cLine) : OpR X (compareOp .In) (fun x y H Q => ∃ d ds, Dp X.K H x d ∧ Dp X.K H y (.tuple ds) ∧ SeqAt.shaped d = true ∧ SeqAt.shaped (.list ds) = true ∧ Q (.bl (ds.any fun z => PyData.eqv z d)) H) := by
  intro pins s σ H x y v u Q I rx ry h
  obtain ⟨d, ds, hd, he, sd, se, q⟩ := h
  obtain ⟨as, r1⟩ := Dp.reads I d x v hd rx
  obtain ⟨bs, r2⟩ := Dp.reads I (.tuple ds) y u he ry
  exact SeqAt.in_tuple_reads r2 r1 (SeqAt.canLay_of_shaped se) (SeqAt.canLay_of_shaped sd) (room_in_shaped sd hu) ⟨.bl _, H, I, rfl, q⟩
theorem op_notInT (hu : X.A.units + 65 < cLine) : OpR X (compareOp .NotIn) (fun x y H Q => ∃ d ds, Dp X.K H x d ∧ Dp X.K H y (.tuple ds) ∧ SeqAt.shaped d = true ∧ SeqAt.shaped (.list ds) = true ∧ Q (.bl (!ds.any fun z => PyData.eqv z d)) H) := by
  intro pins s σ H x y v u Q I rx ry h
  obtain ⟨d, ds, hd, he, sd, se, q⟩ := h
  obtain ⟨as, r1⟩ := Dp.reads I d x v hd rx
  obtain ⟨bs, r2⟩ := Dp.reads I (.tuple ds) y u he ry
  exact SeqAt.notIn_tuple_reads r2 r1 (SeqAt.canLay_of_shaped se) (SeqAt.canLay_of_shaped sd) (room_in_shaped sd hu) ⟨.bl _, H, I, rfl, q⟩
theorem inD_cases {dx dy : D} {m : Mem} {b : Bool} (e : inD dx dy m = some b) :
    (∃ l p qs, (deref m dy = .tup l ∨ deref m dy = .lst l) ∧ toP (deref m dx) = some p ∧ toP.go l = some qs ∧ SeqAt.shaped p = true ∧ SeqAt.shaped (.list qs) = true ∧ b = qs.any fun q => PyData.eqv q p) ∨
      ∃ i j, dx = .str i ∧ dy = .str j ∧ b = !(Builtin.Str.occurrences j i 0 j.length 1).isEmpty := by
  unfold inD at e
  split at e
  · rename_i l z
    split at e
    · rename_i p qs e1 e2
      split at e
      · rename_i c
        simp only [Bool.and_eq_true] at c
        cases e
        exact .inl ⟨l, p, qs, .inl z, e1, e2, c.1, c.2, rfl⟩
      · cases e
    · cases e
  · rename_i l z
    split at e
    · rename_i p qs e1 e2
      split at e
      · rename_i c
        simp only [Bool.and_eq_true] at c
        cases e
        exact .inl ⟨l, p, qs, .inr z, e1, e2, c.1, c.2, rfl⟩
      · cases e
    · cases e
  · rename_i j z
    obtain rfl := deref_str z
    split at e
    · rename_i i
      cases e
      exact .inr ⟨i, j, rfl, rfl, rfl⟩
    · cases e
  · cases e
theorem in_sound (hK : X.K = Y.K) (hu : X.A.units + 65 < cLine) : OpR X (compareOp .In) (rB2 Y inD) := by
  intro pins s σ H x y v u Q I rx ry h
  obtain ⟨W, m, dx, dy, b, si, r1, r2, e, q⟩ := h
  rcases inD_cases e with ⟨l, p, qs, z, e1, e2, c1, c2, rfl⟩ | ⟨i, j, rfl, rfl, rfl⟩
  · have dp1 : Dp X.K H x p := hK ▸ r1.dpd si e1
    rcases z with z | z
    · have dp2 : Dp X.K H y (.tuple qs) := hK ▸ r2.dpd si (by rw [z]; simp only [toP, e2]; rfl)
      exact op_inT hu pins s σ H x y v u Q I rx ry ⟨p, qs, dp1, dp2, c1, c2, q⟩
    · have dp2 : Dp X.K H y (.list qs) := hK ▸ r2.dpd si (by rw [z]; simp only [toP, e2]; rfl)
      exact op_inD hu pins s σ H x y v u Q I rx ry ⟨p, qs, dp1, dp2, c1, c2, q⟩
  · exact op_in_str pins s σ H x y v u Q I rx ry ⟨_, _, r1.str_, r2.str_, q⟩
theorem notin_sound (hK : X.K = Y.K) (hu : X.A.units + 65 < cLine) : OpR X (compareOp .NotIn) (rB2 Y fun x y m => (inD x y m).map (!·)) := by
  intro pins s σ H x y v u Q I rx ry h
  obtain ⟨W, m, dx, dy, b, si, r1, r2, e, q⟩ := h
  obtain ⟨b0, z0, rfl⟩ := Option.map_eq_some_iff.mp e
  · rcases inD_cases z0 with ⟨l, p, qs, z, e1, e2, c1, c2, rfl⟩ | ⟨i, j, rfl, rfl, rfl⟩
    · have dp1 : Dp X.K H x p := hK ▸ r1.dpd si e1
      rcases z with z | z
      · have dp2 : Dp X.K H y (.tuple qs) := hK ▸ r2.dpd si (by rw [z]; simp only [toP, e2]; rfl)
        exact op_notInT hu pins s σ H x y v u Q I rx ry ⟨p, qs, dp1, dp2, c1, c2, q⟩
      · have dp2 : Dp X.K H y (.list qs) := hK ▸ r2.dpd si (by rw [z]; simp only [toP, e2]; rfl)
        exact op_notInD hu pins s σ H x y v u Q I rx ry ⟨p, qs, dp1, dp2, c1, c2, q⟩
    · exact op_notin_str pins s σ H x y v u Q I rx ry ⟨_, _, r1.str_, r2.str_, q⟩
theorem nonV {W : Wd} {H : Hp} {x : V} {d : D} (r : Y.rep W H x d) : decide (x = .non) = decide (d = .non) := by
  cases r <;> simp
theorem cmp_sound (hK : X.K = Y.K) (hu : X.A.units + 65 < cLine) (o : CmpOp) : OpR X (compareOp o) (rB2 Y (opCmp o)) := by
  cases o with
  | Eq => exact eq_sound hK (by omega)
  | NotEq => exact ne_sound hK (by omega)
  | In => exact in_sound hK hu
  | NotIn => exact notin_sound hK hu
  | Lt =>
    intro pins s σ H x y v u Q I rx ry h
    obtain ⟨W, m, dx, dy, b, si, r1, r2, e, q⟩ := h
    simp only [opCmp] at e
    split at e
    · cases e; exact op_lt pins s σ H x y v u Q I rx ry ⟨_, _, r1.int_, r2.int_, q⟩
    · cases e
  | LtE =>
    intro pins s σ H x y v u Q I rx ry h
    obtain ⟨W, m, dx, dy, b, si, r1, r2, e, q⟩ := h
    simp only [opCmp] at e
    split at e
    · cases e; exact op_le pins s σ H x y v u Q I rx ry ⟨_, _, r1.int_, r2.int_, q⟩
    · cases e
  | Gt =>
    intro pins s σ H x y v u Q I rx ry h
    obtain ⟨W, m, dx, dy, b, si, r1, r2, e, q⟩ := h
    simp only [opCmp] at e
    split at e
    · cases e; exact op_gt pins s σ H x y v u Q I rx ry ⟨_, _, r1.int_, r2.int_, q⟩
    · cases e
  | GtE =>
    intro pins s σ H x y v u Q I rx ry h
    obtain ⟨W, m, dx, dy, b, si, r1, r2, e, q⟩ := h
    simp only [opCmp] at e
    split at e
    · cases e; exact op_ge pins s σ H x y v u Q I rx ry ⟨_, _, r1.int_, r2.int_, q⟩
    · cases e
  | Is =>
    intro pins s σ H x y v u Q I rx ry h
    obtain ⟨W, m, dx, dy, b, si, r1, r2, e, q⟩ := h
    simp only [opCmp] at e
    split at e
    · cases e; exact op_isN pins s σ H x y v u Q I rx ry ⟨r2.non_, by rw [nonV r1]; exact q⟩
    · cases e; exact op_isBl pins s σ H x y v u Q I rx ry ⟨_, _, r1.bl_, r2.bl_, by rw [← Bool.beq_eq_decide_eq]; exact q⟩
    · cases e
  | IsNot =>
    intro pins s σ H x y v u Q I rx ry h
    obtain ⟨W, m, dx, dy, b, si, r1, r2, e, q⟩ := h
    simp only [opCmp] at e
    split at e
    · cases e; exact op_notN pins s σ H x y v u Q I rx ry ⟨r2.non_, by rw [nonV r1]; exact q⟩
    · cases e; exact op_notBl pins s σ H x y v u Q I rx ry ⟨_, _, r1.bl_, r2.bl_, by rw [← Bool.beq_eq_decide_eq]; exact q⟩
    · cases e

/-! ### items and slices -/
def rO2 (Y : Yx) (f : D → D → Mem → Option D) : R2 := fun x y H Q => ∃ W m dx dy d, Y.sit W H m ∧ Y.rep W H x dx ∧ Y.rep W H y dy ∧ f dx dy m = some d ∧ Out Y W H (.ok d m) Y.rep Q
theorem ix_sound (hK : X.K = Y.K) : IxR X (rO2 Y ixD) := by
  intro va sl pins s σ H x y v u Q I rx ry h
  obtain ⟨W, m, dx, dy, d, si, r1, r2, e, h⟩ := h
  unfold ixD at e
  split at e
  · rename_i l i z
    obtain ⟨a, xs, z1, h1, q1⟩ := r1.lst_ si z
    obtain ⟨w, e1, rw_⟩ := q1.at_ e
    exact ix_list va sl pins s σ H x y v u Q I rx ry ⟨a, xs, i, w, z1, r2.int_, SqL.of h1, e1, h.here si rw_⟩
  · rename_i l i z
    obtain rfl := deref_tup z
    obtain ⟨a, xs, z1, h1, q1⟩ := r1.tup_
    obtain ⟨w, e1, rw_⟩ := q1.at_ e
    exact ix_tup va sl pins s σ H x y v u Q I rx ry ⟨a, xs, i, w, z1, r2.int_, hK ▸ h1, e1, h.here si rw_⟩
  · rename_i l i z
    obtain rfl := deref_scr z
    obtain ⟨a, xs, z1, h1, q1⟩ := r1.scr_
    obtain ⟨w, e1, rw_⟩ := q1.at_ e
    exact ix_list va sl pins s σ H x y v u Q I rx ry ⟨a, xs, i, w, z1, r2.int_, hK ▸ h1, e1, h.here si rw_⟩
  · rename_i z i e'
    obtain rfl := deref_str e'
    split at e
    · rename_i c
      cases e2 : atI z.cps.toList i with
      | none => rw [e2] at e; cases e
      | some k =>
        rw [e2] at e
        cases e
        exact ix_str va sl pins s σ H x y v u Q I rx ry ⟨z, i, k, r1.str_, r2.int_, sizeOk_le c, e2, h.here si (.str _)⟩
    · cases e
  · cases e
def rS2 (Y : Yx) : V → Option Int → Option Int → Hp → VK → Prop := fun x lo hi H Q => ∃ W m dx d, Y.sit W H m ∧ Y.rep W H x dx ∧ slD dx lo hi m = some d ∧ Out Y W H (.ok d m) Y.rep Q
theorem cutD_all {l : List D} {lo hi : Option Int} (h : HT.sIx l.length 0 lo = 0 ∧ HT.sIx l.length l.length hi = l.length) : cutD l lo hi = l := by
  unfold cutD
  rw [h.1, h.2]
  simp
theorem sl_sound (hK : X.K = Y.K) : SlR X (rS2 Y) := by
  intro pins s σ H x v vl vu lo hi sl Q I rx hs pl pu h
  obtain ⟨W, m, dx, d, si, r1, e, h⟩ := h
  unfold slD at e
  split at e
  · rename_i l z
    cases e
    obtain ⟨a, xs, z1, h1, q1⟩ := r1.lst_ si z
    exact sl_list pins s σ H x v vl vu lo hi sl Q I rx hs pl pu ⟨a, xs, z1, SqL.of h1, h.frz si fun p hp le => Rep.newL (q1.cut lo hi) le⟩
  · rename_i l z
    cases e
    obtain rfl := deref_scr z
    obtain ⟨a, xs, z1, h1, q1⟩ := r1.scr_
    exact sl_list pins s σ H x v vl vu lo hi sl Q I rx hs pl pu ⟨a, xs, z1, hK ▸ h1, h.frz si fun p hp le => Rep.newL (q1.cut lo hi) le⟩
  · rename_i l z
    cases e
    obtain rfl := deref_tup z
    obtain ⟨a, xs, z1, h1, q1⟩ := r1.tup_
    refine sl_tupF pins s σ H x v vl vu lo hi sl Q I rx hs pl pu ⟨a, xs, z1, hK ▸ h1, fun c => ?_, h.frzT si (q1.cut lo hi)⟩
    rw [q1.length] at c
    exact h.here si (by rw [cutD_all c]; exact z1 ▸ r1)
  · rename_i z e1
    obtain rfl := deref_str e1
    split at e
    · rename_i c
      cases e
      exact C8.sl_txt pins s σ H x v vl vu lo hi sl Q I rx hs pl pu ⟨z, r1.str_, sizeOk_le c, h.here si (.str _)⟩
    · cases e
  · cases e
end
end Ev

set_option Elab.async false
set_option linter.all false
set_option maxRecDepth 100000
/-! Ev4: built-in functions, isinstance, methods of texts. -/
namespace Ev
open PySem PySem.Spec PyProof.Rows L2

theorem foldl_max_le : ∀ (l : List Int) (a : Int), a ≤ l.foldl max a ∧ (∀ y ∈ l, y ≤ l.foldl max a) ∧ (l.foldl max a = a ∨ l.foldl max a ∈ l)
  | [], a => ⟨Int.le_refl _, fun _ h => (nomatch h), .inl rfl⟩
  | x :: r, a => by
    obtain ⟨h1, h2, h3⟩ := foldl_max_le r (max a x)
    rw [List.foldl_cons]
    refine ⟨by omega, fun y hy => ?_, ?_⟩
    · rcases List.mem_cons.mp hy with rfl | hy
      · omega
      · exact h2 y hy
    · rcases h3 with h3 | h3
      · rw [h3]
        by_cases c : a ≤ x
        · right; rw [Int.max_eq_right c]; exact List.mem_cons_self
        · left; exact Int.max_eq_left (by omega)
      · exact .inr (List.mem_cons_of_mem _ h3)
theorem foldl_min_le : ∀ (l : List Int) (a : Int), l.foldl min a ≤ a ∧ (∀ y ∈ l, l.foldl min a ≤ y) ∧ (l.foldl min a = a ∨ l.foldl min a ∈ l)
  | [], a => ⟨Int.le_refl _, fun _ h => (nomatch h), .inl rfl⟩
  | x :: r, a => by
    obtain ⟨h1, h2, h3⟩ := foldl_min_le r (min a x)
    rw [List.foldl_cons]
    refine ⟨by omega, fun y hy => ?_, ?_⟩
    · rcases List.mem_cons.mp hy with rfl | hy
      · omega
      · exact h2 y hy
    · rcases h3 with h3 | h3
      · rw [h3]
        by_cases c : x ≤ a
        · right; rw [Int.min_eq_right c]; exact List.mem_cons_self
        · left; exact Int.min_eq_left (by omega)
      · exact .inr (List.mem_cons_of_mem _ h3)
theorem maxI_of {ns : List Int} {a m : Int} (h : maxI ns = some a) (hm : m ∈ ns) (hl : ∀ y ∈ ns, y ≤ m) : m = a := by
  cases ns with
  | nil => cases h
  | cons x r =>
    cases h
    obtain ⟨h1, h2, h3⟩ := foldl_max_le r x
    have h4 : r.foldl max x ≤ m := by
      rcases h3 with h3 | h3
      · rw [h3]; exact hl x List.mem_cons_self
      · exact hl _ (List.mem_cons_of_mem _ h3)
    have h5 : m ≤ r.foldl max x := by
      rcases List.mem_cons.mp hm with rfl | hm
      · exact h1
      · exact h2 m hm
    omega
theorem minI_of {ns : List Int} {a m : Int} (h : minI ns = some a) (hm : m ∈ ns) (hl : ∀ y ∈ ns, m ≤ y) : m = a := by
  cases ns with
  | nil => cases h
  | cons x r =>
    cases h
    obtain ⟨h1, h2, h3⟩ := foldl_min_le r x
    have h4 : m ≤ r.foldl min x := by
      rcases h3 with h3 | h3
      · rw [h3]; exact hl x List.mem_cons_self
      · exact hl _ (List.mem_cons_of_mem _ h3)
    have h5 : r.foldl min x ≤ m := by
      rcases List.mem_cons.mp hm with rfl | hm
      · exact h1
      · exact h2 m hm
    omega
theorem maxI_ne {ns : List Int} {a : Int} (h : maxI ns = some a) : 0 < ns.length := by cases ns <;> simp_all [maxI]
theorem minI_ne {ns : List Int} {a : Int} (h : minI ns = some a) : 0 < ns.length := by cases ns <;> simp_all [minI]

def rC (Y : Yx) (f : List D → Mem → Option D) : List V → Hp → VK → Prop := fun vs H Q => ∃ W m ds d, Y.sit W H m ∧ Y.repL W H vs ds ∧ f ds m = some d ∧ Out Y W H (.ok d m) Y.rep Q
def Bi.name : Bi → Str
  | .len => "len" | .int => "int" | .bool => "bool" | .str => "str" | .abs => "abs" | .min => "min" | .max => "max" | .sum => "sum" | .all => "all" | .any => "any" | .tuple => "tuple" | .list => "list" | .divmod => "divmod"
  | .repr => "repr" | .sorted => "sorted" | .dict => "dict"
def Bi.isTy : Bi → Bool
  | .int | .bool | .str | .tuple | .list | .dict => true
  | _ => false
def Bi.id : Bi → String
  | .len => "len" | .int => "int" | .bool => "bool" | .str => "str" | .abs => "abs" | .min => "min" | .max => "max" | .sum => "sum" | .all => "all" | .any => "any" | .tuple => "tuple" | .list => "list" | .divmod => "divmod"
  | .repr => "repr" | .sorted => "sorted" | .dict => "dict"
def Bi.val (b : Bi) : Value := if b.isTy then .type b.id else .builtin b.id
theorem Bi.boot (b : Bi) : bootBuiltins b.name = some b.val := by cases b <;> decide +kernel

section
variable {X : Cx} {Y : Yx}
theorem RepL.one {W : Wd} {H : Hp} {vs : List V} {d : D} (h : Y.repL W H vs [d]) : ∃ v, vs = [v] ∧ Y.rep W H v d := by
  cases h with
  | cons r s => cases s; exact ⟨_, rfl, r⟩
theorem RepL.two {W : Wd} {H : Hp} {vs : List V} {d e : D} (h : Y.repL W H vs [d, e]) : ∃ v w, vs = [v, w] ∧ Y.rep W H v d ∧ Y.rep W H w e := by
  cases h with
  | cons r s => cases s with
    | cons r' s' => cases s'; exact ⟨_, _, rfl, r, r'⟩
theorem sum_tup (hc : X.calm = true) : CallR X (.builtin "sum") (fun vs H Q => ∃ (a : Addr) (ns : List Int), vs = [V.ref a] ∧ SqT X.K H a (ns.map V.int) ∧ Q (.int ns.sum) H) := by
  intro pins s σ H vs us Q I r h
  obtain ⟨a, ns, rfl, hs, q⟩ := h
  obtain ⟨its, rv, hl, _⟩ := I.tuple hs
  rw [Vals.ref1 r]
  have hi : IntsAre its ns := rv.ints
  obtain ⟨xs, hx⟩ := hi.allInts.items
  have hn : numsOf (intItems xs).toList = ns := by rw [← hx]; exact hi.numsOf
  rw [nums_intItems] at hn
  rw [hx] at hl
  refine PySem.W.ktm_sumG (I.ok.hd hc) hl fun h' tk t' hk => ?_
  have e : preSum (numAt xs) xs.size = ns.sum := by rw [preSum_eq, List.take_of_length_le (by simp), hn]
  rw [e]
  exact ⟨.int _, H, I.kept hk, ⟨_, rfl⟩, q⟩
mutual
theorem Dp.nodict {K : PySem.W.Frag} {H : Hp} : ∀ {v : V} {p : PyData}, Dp K H v p → p.hasDict = false
  | _, _, .non => rfl
  | _, _, .bl _ => rfl
  | _, _, .int _ => rfl
  | _, _, .str _ => rfl
  | _, _, .lst _ h => by simp only [PyData.hasDict]; exact DpAll.nodict h
  | _, _, .tup _ h => by simp only [PyData.hasDict]; exact DpAll.nodict h
theorem DpAll.nodict {K : PySem.W.Frag} {H : Hp} : ∀ {vs : List V} {ps : List PyData}, DpAll K H vs ps → PyData.hasDictAll ps = false
  | _, _, .nil => rfl
  | _, _, .cons h r => by simp only [PyData.hasDictAll, Dp.nodict h, DpAll.nodict r]; rfl
end
theorem repr_data (hG : X.A.guards = some []) (hu : X.A.units + 66 < cLine) : CallR X (.builtin "repr") (fun vs H Q => ∃ x p, vs = [x] ∧ Dp X.K H x p ∧ p.showable = true ∧ p.shown.length ≤ sizeLine ∧ p.depth ≤ 64 ∧ Q (.str p.shown) H) := by
  intro pins s σ H vs us Q I r h
  obtain ⟨x, p, rfl, hd, hs, hz, hdp, q⟩ := h
  obtain ⟨u, rfl, rx⟩ := vals1 r
  obtain ⟨as, rd⟩ := Dp.reads I p x u hd rx
  cases hd with
  | non => cases rx; exact PySem.P.repr_of_none ⟨.str _, H, I.tok _, ⟨_, rfl⟩, q⟩
  | bl b => cases rx; exact PySem.P.repr_of_bool ⟨.str _, H, I.tok _, ⟨_, rfl⟩, q⟩
  | int i =>
    obtain ⟨t, rfl⟩ := rx
    exact PySem.P.repr_of_int (by simpa [PyData.showable] using hs) ⟨.str _, H, I.tok _, ⟨_, rfl⟩, q⟩
  | str i =>
    obtain ⟨t, rfl⟩ := rx
    exact PySem.P.repr_of_str ⟨.str _, H, I.tok _, ⟨_, rfl⟩, q⟩ (by simpa [PyData.shown] using hz)
  | lst h1 h2 =>
    cases rx
    exact repr_of_reads' rd hs (PyData.noDict_hsm (Dp.nodict (.lst h1 h2))) hG (by omega) (fun _ _ e => e) (fun h' u tk k => ⟨.str _, H, I.kept k, ⟨_, rfl⟩, q⟩) hz
  | tup h1 h2 =>
    cases rx
    exact repr_of_reads' rd hs (PyData.noDict_hsm (Dp.nodict (.tup h1 h2))) hG (by omega) (fun _ _ e => e) (fun h' u tk k => ⟨.str _, H, I.kept k, ⟨_, rfl⟩, q⟩) hz

theorem bi_sound (hK : X.K = Y.K) (hc : X.calm = true) (b : Bi) (hG : b = .repr → X.A.guards = some []) (hu : X.A.units + 66 < cLine) : CallR X b.val (rC Y (biD b)) := by
  cases b with
  | len =>
    intro pins s σ H vs us Q I r h
    obtain ⟨W, m, ds, d, si, rs, e, h⟩ := h
    unfold biD at e
    split at e <;> first | (simp_all; done) | skip
    · rename_i x
      obtain ⟨v, rfl, rv⟩ := RepL.one rs
      split at e
      · rename_i l z
        cases e
        obtain ⟨a, xs, rfl, h1, q1⟩ := rv.lst_ si z
        refine call_len pins s σ H _ us Q I r ⟨_, xs.length, rfl, .inl ⟨xs, SqL.of h1, rfl⟩, ?_⟩
        rw [q1.length]
        exact h.here si (.int _)
      · rename_i l z
        cases e
        obtain rfl := deref_tup z
        obtain ⟨a, xs, rfl, h1, q1⟩ := rv.tup_
        refine call_len pins s σ H _ us Q I r ⟨_, xs.length, rfl, .inr ⟨xs, hK ▸ h1, rfl⟩, ?_⟩
        rw [q1.length]
        exact h.here si (.int _)
      · rename_i l z
        cases e
        obtain rfl := deref_scr z
        obtain ⟨a, xs, rfl, h1, q1⟩ := rv.scr_
        refine call_len pins s σ H _ us Q I r ⟨_, xs.length, rfl, .inl ⟨xs, hK ▸ h1, rfl⟩, ?_⟩
        rw [q1.length]
        exact h.here si (.int _)
      · rename_i x z
        obtain rfl := deref_str z
        split at e
        · rename_i c
          cases e
          obtain rfl := rv.str_
          exact call_len pins s σ H _ us Q I r ⟨_, _, rfl, ⟨sizeOk_le c, rfl⟩, h.here si (.int _)⟩
        · cases e
      · cases e
  | int =>
    intro pins s σ H vs us Q I r h
    obtain ⟨W, m, ds, d, si, rs, e, h⟩ := h
    unfold biD at e
    split at e <;> first | (simp_all; done) | skip
    · cases e
      obtain ⟨v, rfl, rv⟩ := RepL.one rs
      obtain rfl := rv.int_
      exact call_int1 pins s σ H _ us Q I r (.inl ⟨_, rfl, h.here si (.int _)⟩)
    · cases e
      obtain ⟨v, rfl, rv⟩ := RepL.one rs
      obtain rfl := rv.bl_
      exact call_int1 pins s σ H _ us Q I r (.inr ⟨_, rfl, h.here si (.int _)⟩)
  | bool =>
    intro pins s σ H vs us Q I r h
    obtain ⟨W, m, ds, d, si, rs, e, h⟩ := h
    unfold biD at e
    split at e <;> first | (simp_all; done) | skip
    · cases e
      obtain ⟨v, rfl, rv⟩ := RepL.one rs
      obtain rfl := rv.int_
      exact call_bool1 pins s σ H _ us Q I r (.inl ⟨_, rfl, h.here si (.bl _)⟩)
    · cases e
      obtain ⟨v, rfl, rv⟩ := RepL.one rs
      obtain rfl := rv.bl_
      exact call_bool1 pins s σ H _ us Q I r (.inr ⟨_, rfl, h.here si (.bl _)⟩)
  | str =>
    intro pins s σ H vs us Q I r h
    obtain ⟨W, m, ds, d, si, rs, e, h⟩ := h
    unfold biD at e
    split at e <;> first | (simp_all; done) | skip
    · split at e
      · rename_i c
        cases e
        obtain ⟨v, rfl, rv⟩ := RepL.one rs
        obtain rfl := rv.int_
        exact call_str_int pins s σ H _ us Q I r ⟨_, rfl, c, h.here si (.str _)⟩
      · cases e
  | abs =>
    intro pins s σ H vs us Q I r h
    obtain ⟨W, m, ds, d, si, rs, e, h⟩ := h
    unfold biD at e
    split at e <;> first | (simp_all; done) | skip
    · cases e
      obtain ⟨v, rfl, rv⟩ := RepL.one rs
      obtain rfl := rv.int_
      exact call_abs pins s σ H _ us Q I r ⟨_, rfl, h.here si (.int _)⟩
  | min =>
    intro pins s σ H vs us Q I r h
    obtain ⟨W, m, ds, d, si, rs, e, h⟩ := h
    unfold biD at e
    split at e <;> first | (simp_all; done) | skip
    · cases e
      obtain ⟨v, w, rfl, rv, rw_⟩ := RepL.two rs
      obtain rfl := rv.int_
      obtain rfl := rw_.int_
      exact call_min2 hc pins s σ H _ us Q I r ⟨_, _, rfl, h.here si (.int _)⟩
    · obtain ⟨v, rfl, rv⟩ := RepL.one rs
      obtain ⟨l, e1, e⟩ := Option.bind_eq_some_iff.mp e
      obtain ⟨ns, e2, e⟩ := Option.bind_eq_some_iff.mp e
      obtain ⟨a, e3, rfl⟩ := Option.map_eq_some_iff.mp e
      obtain ⟨p, xs, rfl, h1, q1⟩ := rv.litems_ si e1
      obtain rfl := q1.ints e2
      exact cr_min hc pins s σ H _ us Q I r ⟨p, ns, rfl, SqL.of h1, minI_ne e3, fun k hk hl => h.here si (by rw [minI_of e3 hk hl]; exact .int _)⟩
  | max =>
    intro pins s σ H vs us Q I r h
    obtain ⟨W, m, ds, d, si, rs, e, h⟩ := h
    unfold biD at e
    split at e <;> first | (simp_all; done) | skip
    · cases e
      obtain ⟨v, w, rfl, rv, rw_⟩ := RepL.two rs
      obtain rfl := rv.int_
      obtain rfl := rw_.int_
      exact call_max2 hc pins s σ H _ us Q I r ⟨_, _, rfl, h.here si (.int _)⟩
    · obtain ⟨v, rfl, rv⟩ := RepL.one rs
      obtain ⟨l, e1, e⟩ := Option.bind_eq_some_iff.mp e
      obtain ⟨ns, e2, e⟩ := Option.bind_eq_some_iff.mp e
      obtain ⟨a, e3, rfl⟩ := Option.map_eq_some_iff.mp e
      obtain ⟨p, xs, rfl, h1, q1⟩ := rv.litems_ si e1
      obtain rfl := q1.ints e2
      exact cr_max hc pins s σ H _ us Q I r ⟨p, ns, rfl, SqL.of h1, maxI_ne e3, fun k hk hl => h.here si (by rw [maxI_of e3 hk hl]; exact .int _)⟩
  | sum =>
    intro pins s σ H vs us Q I r h
    obtain ⟨W, m, ds, d, si, rs, e, h⟩ := h
    unfold biD at e
    split at e <;> first | (simp_all; done) | skip
    · obtain ⟨v, rfl, rv⟩ := RepL.one rs
      obtain ⟨l, e1, e⟩ := Option.bind_eq_some_iff.mp e
      obtain ⟨ns, e2, rfl⟩ := Option.map_eq_some_iff.mp e
      obtain ⟨p, xs, rfl, h1, q1⟩ := rv.items_ si e1
      obtain rfl := q1.ints e2
      rcases h1 with h1 | h1
      · exact cr_sum hc pins s σ H _ us Q I r ⟨p, ns, rfl, SqL.of h1, h.here si (.int _)⟩
      · exact sum_tup hc pins s σ H _ us Q I r ⟨p, ns, rfl, hK ▸ h1, h.here si (.int _)⟩
  | all =>
    intro pins s σ H vs us Q I r h
    obtain ⟨W, m, ds, d, si, rs, e, h⟩ := h
    unfold biD at e
    split at e <;> first | (simp_all; done) | skip
    · obtain ⟨v, rfl, rv⟩ := RepL.one rs
      obtain ⟨l, e1, e⟩ := Option.bind_eq_some_iff.mp e
      obtain ⟨ns, e2, rfl⟩ := Option.map_eq_some_iff.mp e
      obtain ⟨p, xs, rfl, h1, q1⟩ := rv.litems_ si e1
      obtain rfl := q1.bls e2
      exact cr_all hc pins s σ H _ us Q I r ⟨p, ns, rfl, SqL.of h1, h.here si (.bl _)⟩
  | any =>
    intro pins s σ H vs us Q I r h
    obtain ⟨W, m, ds, d, si, rs, e, h⟩ := h
    unfold biD at e
    split at e <;> first | (simp_all; done) | skip
    · obtain ⟨v, rfl, rv⟩ := RepL.one rs
      obtain ⟨l, e1, e⟩ := Option.bind_eq_some_iff.mp e
      obtain ⟨ns, e2, rfl⟩ := Option.map_eq_some_iff.mp e
      obtain ⟨p, xs, rfl, h1, q1⟩ := rv.litems_ si e1
      obtain rfl := q1.bls e2
      exact cr_any hc pins s σ H _ us Q I r ⟨p, ns, rfl, SqL.of h1, h.here si (.bl _)⟩
  | tuple =>
    intro pins s σ H vs us Q I r h
    obtain ⟨W, m, ds, d, si, rs, e, h⟩ := h
    unfold biD at e
    split at e <;> first | (simp_all; done) | skip
    · obtain ⟨v, rfl, rv⟩ := RepL.one rs
      obtain ⟨l, e1, rfl⟩ := Option.map_eq_some_iff.mp e
      unfold items at e1
      split at e1
      · rename_i z
        cases e1
        obtain ⟨p, xs, rfl, h1, q1⟩ := rv.lst_ si z
        exact call_tupleF pins s σ H _ us Q I r ⟨p, xs, rfl, SqL.of h1, h.frzT si q1⟩
      · rename_i z
        cases e1
        obtain rfl := deref_tup z
        obtain ⟨p, xs, rfl, h1, q1⟩ := id rv.tup_
        exact call_tuple_of pins s σ H _ us Q I r ⟨p, xs, rfl, .inr ⟨hK ▸ h1, h.here si rv⟩⟩
      · cases e1
  | list =>
    intro pins s σ H vs us Q I r h
    obtain ⟨W, m, ds, d, si, rs, e, h⟩ := h
    unfold biD at e
    split at e <;> first | (simp_all; done) | skip
    · obtain ⟨v, rfl, rv⟩ := RepL.one rs
      obtain ⟨l, e1, rfl⟩ := Option.map_eq_some_iff.mp e
      obtain ⟨p, xs, rfl, h1, q1⟩ := rv.items_ si e1
      exact call_list_of pins s σ H _ us Q I r ⟨p, xs, rfl, h1.imp SqL.of (fun z => hK ▸ z), h.frz si fun p hp le => Rep.newL q1 le⟩
  | divmod =>
    intro pins s σ H vs us Q I r h
    obtain ⟨W, m, ds, d, si, rs, e, h⟩ := h
    unfold biD at e
    split at e <;> first | (simp_all; done) | skip
    · split at e
      · rename_i c
        cases e
        obtain ⟨v, w, rfl, rv, rw_⟩ := RepL.two rs
        obtain rfl := rv.int_
        obtain rfl := rw_.int_
        have c' := divOk_of (i := 0) c
        exact call_divmodF pins s σ H _ us Q I r ⟨_, _, rfl, ⟨c'.1, PyProof.noPylong_of_log2 c'.2⟩, h.frzT si (.cons (.int _) (.cons (.int _) .nil))⟩
      · cases e
  | repr =>
    intro pins s σ H vs us Q I r h
    obtain ⟨W, m, ds, d, si, rs, e, h⟩ := h
    unfold biD at e
    split at e <;> first | (simp_all; done) | skip
    · obtain ⟨v, rfl, rv⟩ := RepL.one rs
      obtain ⟨p, e1, e⟩ := Option.bind_eq_some_iff.mp e
      split at e
      · rename_i c
        simp only [Bool.and_eq_true, decide_eq_true_eq] at c
        cases e
        exact repr_data (hG rfl) hu pins s σ H _ us Q I r ⟨_, p, rfl, hK ▸ rv.dpd si e1, c.1.1, by rw [← lim_eq]; exact c.1.2, c.2, h.here si (.str _)⟩
      · cases e
  | sorted =>
    intro pins s σ H vs us Q I r h
    obtain ⟨W, m, ds, d, si, rs, e, h⟩ := h
    unfold biD at e
    split at e <;> (simp_all; done)
  | dict =>
    intro pins s σ H vs us Q I r h
    obtain ⟨W, m, ds, d, si, rs, e, h⟩ := h
    unfold biD at e
    split at e <;> (simp_all; done)
end
end Ev

set_option Elab.async false
set_option linter.all false
set_option maxRecDepth 100000
/-! EvS: set(t) of a tuple of texts, and how many there are. -/
namespace EvS
open PySem PySem.Spec PyProof.Rows
/-- the different ones among the first i -/
def seen (ys : List Str) : Nat → List Str
  | 0 => []
  | i + 1 => if ys.getD i Str.empty ∈ seen ys i then seen ys i else seen ys i ++ [ys.getD i Str.empty]
theorem seen_le (ys : List Str) : ∀ i, (seen ys i).length ≤ i
  | 0 => Nat.le_refl _
  | i + 1 => by
    have ih := seen_le ys i
    rw [seen]
    split
    · omega
    · rw [List.length_append, List.length_singleton]
      omega
section
variable {pr : Program} {wd : World} {Ar : Around} {Rs : Result → Shared → Prop} {it : Addr} {fps wrs : List Addr} {Gn : Array GenState → Array GenState → Prop} {len : Nat} {Pv : Nat → Value → Prop} {Sts : Nat → Shared → Prop}
theorem loop_strs (Wk : WalksS pr wd Ar.in1 it fps wrs Gn len Pv Sts) (sa : Addr) (hsa : sa ∉ fps) (ys : List Str) (h60 : len ≤ 60)
    (hv : ∀ i v, Pv i v → ∃ t, v = .str (ys.getD i Str.empty) t) :
    ∀ (d i : Nat) (s : Shared), len - i = d → i ≤ len → Sts i s → s.heap.SetOf (PySem.strKind pr wd) sa (fun z => decide (z ∈ seen ys i)) (seen ys i).length →
      (∀ s', Moved (sa :: wrs) Gn s s' → s'.heap.SetOf (PySem.strKind pr wd) sa (fun z => decide (z ∈ seen ys len)) (seen ys len).length → Rs (.ok (.ret .none)) s') →
      codeAny (model pr wd) Ar (.builtin "set.update.loop" ⟨[.ref sa, .ref it], []⟩) Rs s := by
  have hsw : sa ∉ wrs := fun q => hsa (Wk.sub _ q)
  have hin : ∀ b ∈ wrs, b ∈ sa :: wrs := fun b q => List.mem_cons_of_mem _ q
  intro d
  induction d with
  | zero =>
    intro i s hd hil hst hset hR
    have e : i = len := by omega
    subst e
    refine codeAny_builtin PyProof.Rows.F.entry_set_update_loop ?_
    rw [Around.under_plainId PyProof.Rows.F.plain_set_update_loop _]; show wpAny _ Ar.in1 (pyNext (.ref it) >>= _) _ _ s
    refine wpAny_bind (Wk.done s _ _ hst fun s' mv => ?_)
    show wpAny _ Ar.in1 (ret Value.none) _ _ s'
    refine wpAny_pure (hR s' (mv.mono hin) ?_)
    obtain ⟨ob, es, ep, tb, ho, more⟩ := hset
    exact ⟨ob, es, ep, tb, mv.heap sa _ hsw ho, more⟩
  | succ d ih =>
    intro i s hd hil hst hset hR
    have hlt : i < len := by omega
    have hle := seen_le ys i
    refine codeAny_builtin PyProof.Rows.F.entry_set_update_loop ?_
    rw [Around.under_plainId PyProof.Rows.F.plain_set_update_loop _]; show wpAny _ Ar.in1 (pyNext (.ref it) >>= _) _ _ s
    refine wpAny_bind (Wk.item i s _ _ hlt hst fun v s' hP hst' mv => ?_)
    obtain ⟨t, rfl⟩ := hv i v hP
    have hset' : s'.heap.SetOf (PySem.strKind pr wd) sa (fun z => decide (z ∈ seen ys i)) (seen ys i).length := by
      obtain ⟨ob, es, ep, tb, ho, more⟩ := hset
      exact ⟨ob, es, ep, tb, mv.heap sa _ hsw ho, more⟩
    generalize hy : ys.getD i Str.empty = y
    show wpAny _ Ar.in1 (holding [Value.str y t] (setAdd sa (.str y t)) >>= _) _ _ s'
    refine wpAny_bind (wpAny_holding ?_)
    unfold setAdd
    refine wpAny_holding (wpAny_bind ((PySem.strKind pr wd).pyHash (k := y) (strKind_is _ _ _ _) ?_))
    refine wpAny_setAddHashed_of (knd := PySem.strKind pr wd) (s := { s' with toks := s'.toks + 1 }) (strKind_is _ _ _ _) rfl hset' (by unfold scanBound; omega) fun h' sb hset2 => ?_
    have hseti : h'.SetOf (PySem.strKind pr wd) sa (fun z => decide (z ∈ seen ys (i + 1))) (seen ys (i + 1)).length := by
      refine SetOf_congr hset2 (fun z => ?_) ?_
      · rw [seen, hy]
        by_cases c : y ∈ seen ys i
        · rw [if_pos c]
          by_cases e : z = y
          · subst e; simp [c]
          · simp [e]
        · rw [if_neg c]
          simp
      · rw [seen, hy]
        by_cases c : y ∈ seen ys i
        · simp [c]
        · simp [c]
    refine wpAny_pure ⟨plainId_quiet PyProof.Rows.F.plain_set_update_loop _, ih (i + 1) _ (by omega) hlt (Wk.frame _ s' _ _ hst' (Nat.le_succ _) fun b hb o e => ?_) hseti fun s2 mv2 hset3 => ?_⟩
    · rw [sb.2 b fun q : b = sa => hsa (by rw [← q]; exact hb)]; exact e
    · refine hR s2 (Moved.trans Wk.gtrans ((mv.mono hin).then_heap (Nat.le_succ _) fun b o hb e => ?_) mv2) hset3
      rw [sb.2 b fun q : b = sa => hb (by rw [q]; exact List.mem_cons_self)]; exact e
end
section
variable {pr : Program} {wd : World} {Ar : Around} {Er : Value → Shared → Prop} {s : Shared}
set_option maxHeartbeats 3200000 in
theorem set_tuple {tp : Addr} {its : Array Value} {ys : List Str} {Q : Value → Shared → Prop} (hh : Ar.handled = none) (ht : s.heap.IsTuple tp its) (hi : PyProof.Rows.StrsAre its.toList ys) (h60 : ys.length ≤ 60)
    (k : ∀ (h' : Heap) (tk : Nat), h'.SetOf (PySem.strKind pr wd) s.heap.objs.size (fun z => decide (z ∈ seen ys its.size)) (seen ys its.size).length → (∀ b o, b < s.heap.objs.size → s.heap.get? b = some o → h'.get? b = some o) → Q (.ref s.heap.objs.size) { s with heap := h', toks := tk }) :
    wpAny (model pr wd) Ar (call (.type "set") [.ref tp]) Q Er s := by
  obtain ⟨c, tl, hm⟩ := PySem.F.called_set.mro
  have a1 := PySem.F.called_set.made
  have a2 := PySem.F.called_set.sub
  refine wpAny_call (codeAny_of_tree ?_)
  show wpAny _ _ (callAny (.type "set") _) _ _ _
  refine wpAny_pure ⟨Code.quiet_builtin _ (by decide +kernel), codeAny_builtin PySem.F.entry_type_call ?_⟩
  rw [Around.under_plain (weight_type_call_type "set" [.ref tp] []) rfl]
  have a3 := PySem.F.called_set.notType; have a4 := PySem.F.called_set.canCreate; have a5 := PySem.F.typeCall_set_1 (.ref tp)
  repeat (any_goals (first | assumption | wp_step))
  refine codeAny_mono (code_set_new_1 (.ref tp) (E := Er) (Q₁ := fun ob s1 => ∃ led : Bool, ob = .ref s.heap.objs.size ∧ s1 = { s with heap := s.heap.push { cls := .type "set", dict := none, data := .set #[] 0 (.fresh 0 0 led) } }) fun led => ⟨led, rfl, rfl⟩) fun r s1 hr => ?_
  cases r with
  | error e => exact hr
  | ok fl =>
    cases fl with
    | ret ob =>
      obtain ⟨led, rfl, rfl⟩ := hr
      have hob : (s.heap.push { cls := .type "set", dict := none, data := .set #[] 0 (.fresh 0 0 led) }).get? s.heap.objs.size = some { cls := .type "set", dict := none, data := .set #[] 0 (.fresh 0 0 led) } := Heap.get?_push_size _ rfl
      have hty : Shared.TypeIs { s with heap := s.heap.push { cls := .type "set", dict := none, data := .set #[] 0 (.fresh 0 0 led) } } (.ref s.heap.objs.size) "set" := ⟨_, hob, rfl⟩
      have b1 := PySem.F.called_set.init.lookup; have b2 := PySem.F.called_set.init.bind (.ref s.heap.objs.size)
      repeat (any_goals (first | assumption | wp_step))
      refine codeAny_mono (codeAny_call_builtin (R := wants (fun r s2 => r = .none ∧ ∃ h' tk, s2 = { s with heap := h', toks := tk } ∧ h'.SetOf (PySem.strKind pr wd) s.heap.objs.size (fun z => decide (z ∈ seen ys its.size)) (seen ys its.size).length ∧
          (∀ b o, b < s.heap.objs.size → s.heap.get? b = some o → h'.get? b = some o)) Er) PySem.F.called_set.init.plain PySem.F.entry_set_init (check_set_init_1 hty ?_)) fun r2 s2 hr2 => ?_
      · obtain ⟨⟨oc, od, odt, osl⟩, ho, hc, nl, hd⟩ := ht
        simp only at hc hd
        subst hc; subst hd
        have ho' : (s.heap.push { cls := .type "set", dict := none, data := .set #[] 0 (.fresh 0 0 led) }).get? tp = some { cls := .type "tuple", dict := od, data := .seq its nl, slots := osl } := Heap.get?_push_of_some _ ho
        have c1 := PySem.F.sub_tuple_set; have c2 := PySem.F.sub_tuple_frozenset
        have c3 : (Value.type "tuple" == Value.type "dict") = false := by decide
        have ht1 : (s.heap.push { cls := .type "set", dict := none, data := .set #[] 0 (.fresh 0 0 led) }).IsTuple tp its := ⟨_, ho', rfl, nl, rfl⟩
        unfold Builtin.«set.__init__» noKeywords Builtin.Frozenset.updateFrom
        generalize hPI : pyIter = PI
        wp_walk
        subst hPI
        refine wpAny_pyIter_tuple ht1 (wpAny_bind (wpAny_runValue ?_))
        have hlt : tp < s.heap.objs.size := Heap.lt_size ho
        have hh3 : Ar.in1.in1.in1.handled = none := by simp [hh]
        have hne : tp ≠ (s.heap.push { cls := .type "set", dict := none, data := .set #[] 0 (.fresh 0 0 led) }).objs.size := by rw [Heap.size_push]; exact Nat.ne_of_lt (Nat.lt_succ_of_lt hlt)
        have hnf : s.heap.objs.size ∉ [(s.heap.push { cls := .type "set", dict := none, data := .set #[] 0 (.fresh 0 0 led) }).objs.size, tp] := by
          rw [Heap.size_push]; simp only [List.mem_cons, List.not_mem_nil, or_false, not_or]
          exact ⟨Nat.ne_of_lt (Nat.lt_succ_self _), Nat.ne_of_gt hlt⟩
        have hsz : ys.length = its.size := by rw [← StrsAre.len_eq hi, Array.length_toList]
        have hv : ∀ (i : Nat) (v : Value), its[i]? = some v → ∃ t, v = .str (ys.getD i Str.empty) t := fun i v e => SS.strs_at hi i v (by rw [Array.getElem?_toList]; exact e)
        refine loop_strs ((Walks.tuple hh3 _ tp hne its).toS) s.heap.objs.size hnf ys (by rw [← hsz]; exact h60) hv (its.size - 0) 0 _ (by omega) (Nat.zero_le _) ⟨⟨_, Heap.get?_push_size _ rfl, rfl, rfl⟩, (ht1.push _)⟩ ?z0 ?zR
        case z0 =>
          have hg : ((s.heap.push { cls := .type "set", dict := none, data := .set #[] 0 (.fresh 0 0 led) }).push { cls := .type "tuple_iterator", data := .fields #[.ref tp, .int 0 0] }).get? s.heap.objs.size = some { cls := .type "set", dict := none, data := .set #[] 0 (.fresh 0 0 led) } := Heap.get?_push_of_some _ hob
          exact SetOf_congr ((PyProof.Rows.setObjOf_fresh (knd := PySem.strKind pr wd) led).setOf hg (by unfold scanBound; omega)) (fun _ => rfl) rfl
        case zR =>
          intro s3 mv hset
          obtain ⟨h3, g3, d3, t3, o3⟩ := s3
          obtain rfl : g3 = s.gens := mv.gens
          obtain rfl : d3 = s.drawn := mv.drawn
          obtain rfl : o3 = s.os := mv.os
          show wpAny _ _ _ _ _ _
          refine wpAny_pure ?_
          show wpAny _ _ (ret Value.none) _ _ _
          refine wpAny_pure ⟨rfl, h3, t3, rfl, hset, fun b o hb e => ?_⟩
          have n1 : b ≠ s.heap.objs.size := Nat.ne_of_lt hb
          have n2 : b ≠ (s.heap.push { cls := .type "set", dict := none, data := .set #[] 0 (.fresh 0 0 led) }).objs.size := by rw [Heap.size_push]; exact Nat.ne_of_lt (Nat.lt_succ_of_lt hb)
          exact mv.heap b o (by simp only [List.mem_cons, List.not_mem_nil, or_false, not_or]; exact ⟨n1, n2⟩) (Heap.get?_push_of_some _ (Heap.get?_push_of_some _ e))
      · cases r2 with
        | error e => exact hr2
        | ok fl2 =>
          cases fl2 with
          | ret r =>
            obtain ⟨rfl, h', tk, rfl, hset, keep⟩ := hr2
            repeat (any_goals (first | assumption | wp_step))
            exact k _ _ hset keep
          | _ => exact hr2.elim
    | _ => exact hr.elim
end
end EvS
namespace EvS
open PySem PySem.Spec PyProof.Rows L2
variable {X : Cx}
/-- len(set(t)), t a tuple of texts -/
def tLenS (K : PySem.W.Frag) (ta : TE) : TE := fun σ H Q => ta σ H fun x H1 => ∃ l, ∃ ys : List Str, x = .ref l ∧ SqT K H1 l (ys.map V.str) ∧ ys.length ≤ 60 ∧ Q (.int (seen ys ys.length).length) H1
theorem pe_lenS {a : Expr} {ta : TE} {p p2 q pos : Pos} (hc : X.calm = true) (g1 : Gl X "len") (m1 : X.mg "len" = none) (g2 : Gl X "set") (m2 : X.mg "set" = none) (ha : PE X a ta)
    (na : starEach [a] X.env = (false, eval a X.env) :: starEach [] X.env) : PE X (.Call (.Name "len" p) [.Call (.Name "set" p2) [a] [] q] [] pos) (tLenS X.K ta) := by
  refine ⟨fun pins s σ H Q I h => Call_ (ld_blt I g1 m1 boot_len ?_)⟩
  refine PyProof.Rows.callWith_builtin1 (PyProof.Rows.args_cons (Call_ (ld_blt I g2 m2 boot_set ?_)) rfl) rfl rfl
  refine PyProof.Rows.callWith_type1 (PyProof.Rows.args_cons (thn (ha.run pins s σ H _ I h) fun v s1 ⟨x, H1, I1, r1, q1⟩ => PyProof.Rows.args_nil ?_) na) na rfl
  obtain ⟨l, ys, rfl, hq, h60, q1⟩ := q1
  cases r1
  obtain ⟨its, r, pl, hz⟩ := I1.tuple hq
  have hl : its.toArray.size = ys.length := by rw [List.size_toArray, ← r.length, List.length_map]
  refine set_tuple (I1.ok.hd hc) pl (by simpa using L2.strsAre_of r) h60 fun h' tk hset keep => PyProof.Rows.args_nil ?_
  rw [hl] at hset
  obtain ⟨o, es, ep, t, ho, hex, hd, _, _, _, hf, hn⟩ := hset
  have I2 : Inv X pins σ H1 { s1 with heap := h', toks := tk } := I1.kept fun b o e => keep b o (Heap.lt_size e) e
  have hle := seen_le ys ys.length
  refine call_len_set ho hex hd hf (by rw [hn]; omega) ⟨.int (seen ys ys.length).length, H1, I2.tok _, ⟨_, by rw [hn]⟩, q1⟩
end EvS

set_option Elab.async false
set_option linter.all false
set_option maxRecDepth 100000
/-! Ev5: isinstance, methods of texts, lists, tuples. -/
namespace Ev
open PySem PySem.Spec PyProof.Rows L2

/-! ### isinstance -/
def tyNames : List String := ["NoneType", "bool", "int", "str", "list", "tuple", "dict"]
/-- what is known of the classes of the text -/
structure ClsOk (K : PySem.W.Frag) (CT : List ClsI) (c : Nat) (ci : ClsI) : Prop where
  cl : Cls K ci.C
  na : ∀ f ∈ ci.fs, NoAttr K ci.C f
  ha : PySem.W.findIn K (.ref ci.C) "__class__" = some (some (.builtin "object.__class__"))
  hn : PySem.W.specialIn K (.builtin "object.__class__") "__get__" = some (some (.builtin "getset_descriptor.__get__"))
  htk : PySem.W.takesIn K (.builtin "object.__class__") = some true
  hm : PySem.W.mroIn K ci.C (.type "object") = some true
  no : ∀ T ∈ tyNames, PySem.W.kitOne K (.type T) (.ref ci.C) = some false
  to : ∀ T ∈ tyNames, PySem.W.kitOne K (.ref ci.C) (.type T) = some false
  ot : ∀ e ei, CT[e]? = some ei → PySem.W.kitOne K (.ref ei.C) (.ref ci.C) = some (c == e)
def Ty.id : Ty → String
  | .int => "int" | .bool => "bool" | .str => "str" | .tuple => "tuple" | .list => "list" | .dict => "dict" | .cls _ => ""
/-- the class as a value -/
def TyV (CT : List ClsI) : Ty → V → Prop
  | .cls c, v => ∃ ci, CT[c]? = some ci ∧ v = .ref ci.C
  | t, v => v = .ty t.id
section
variable {X : Cx} {Y : Yx}
theorem kitB_ok : ∀ a ∈ tyNames, ∀ b ∈ tyNames, b ≠ "NoneType" → kitB a b = some (decide (a = b) || decide (a = "bool" ∧ b = "int")) := by decide +kernel
/-- the name of a value's type -/
def tyN : D → Option String
  | .non => some "NoneType"
  | .bl _ => some "bool"
  | .int _ => some "int"
  | .str _ => some "str"
  | .tup _ => some "tuple"
  | .lst _ | .scr _ => some "list"
  | .dct _ => some "dict"
  | _ => none
theorem tyN_mem {d : D} {T : String} (h : tyN d = some T) : T ∈ tyNames := by
  cases d <;> simp [tyN] at h <;> subst h <;> decide
theorem tyN_ok {W : Wd} {H : Hp} {m : Mem} {v : V} {d : D} {T : String} (si : Y.sit W H m) (r : Y.rep W H v d) (h : tyN (deref m d) = some T) : TyX Y.K H v (.type T) := by
  cases z : deref m d with
  | non => rw [z] at h; cases h; cases r <;> simp only [deref] at z <;> try cases z
           · exact .base .non
           · split at z <;> cases z
  | bl b => rw [z] at h; cases h; cases r <;> simp only [deref] at z <;> try cases z
            · exact .base (.bl _)
            · split at z <;> cases z
  | int b => rw [z] at h; cases h; obtain rfl := deref_int z; rw [r.int_]; exact .base (.int _)
  | str b => rw [z] at h; cases h; obtain rfl := deref_str z; rw [r.str_]; exact .base (.str _)
  | tup l =>
    rw [z] at h; cases h
    obtain rfl := deref_tup z
    obtain ⟨a, xs, ob, rfl, h1, _, _⟩ := r.tupO
    exact .fTuple h1
  | lst l =>
    rw [z] at h; cases h
    obtain ⟨a, xs, rfl, h1, _⟩ := r.lst_ si z
    exact .base (.lst h1)
  | scr l =>
    rw [z] at h; cases h
    obtain rfl := deref_scr z
    cases r with
    | scr h q =>
      rcases h with ⟨_, h | ⟨o, h⟩⟩ | ⟨o, its, n, h1, h2, _⟩
      · exact .base (.lst h)
      · exact .base (.frz h)
      · exact .kList h1 h2
  | dct l => rw [z] at h; cases h; cases r <;> simp only [deref] at z <;> try cases z
             split at z <;> try cases z
             rename_i q
             obtain ⟨_, _, f⟩ := si.m.is _ _ _ q (by intro z; cases z) (by assumption)
             exact f.elim
  | obj c l => rw [z] at h; cases h
  | ref k => rw [z] at h; cases h
theorem isi_plain (hK : X.K = Y.K) (hC : ∀ c ci, Y.CT[c]? = some ci → ClsOk X.K Y.CT c ci) {pins : List (Addr × Obj)} {s : Shared} {σ : L2.St} {H : Hp} {x c : V} {us : List Value} {Q : VK} {W : Wd} {m : Mem} {t : Ty} {d : D} {b : Bool}
    (I : Inv X pins σ H s) (r : Vals [x, c] us) (si : Y.sit W H m) (ht : TyV Y.CT t c) (rx : Y.rep W H x d) (q : Q (.bl b) H) (T : String) (hT : tyN (deref m d) = some T)
    (hb : match t with | .cls _ => b = false | _ => b = (decide (T = t.id) || decide (T = "bool" ∧ t.id = "int"))) : wpAny (model X.prog X.w) X.A (call (.builtin "isinstance") us) (EP X pins σ Q) X.xe s := by
  have ty : TyX X.K H x (.type T) := hK ▸ tyN_ok si rx hT
  have hm := tyN_mem hT
  cases t with
  | cls k =>
    obtain ⟨ci, hc, rfl⟩ := ht
    subst hb
    exact call_isi pins s σ H _ us Q I r ⟨x, _, _, _, false, rfl, .own _, ty, (hC k ci hc).no T hm, q⟩
  | int => cases ht; subst hb; exact call_isi pins s σ H _ us Q I r ⟨x, _, _, _, _, rfl, .ty _, ty, kit_ty (kitB_ok T hm "int" (by decide) (by decide)), q⟩
  | bool => cases ht; subst hb; exact call_isi pins s σ H _ us Q I r ⟨x, _, _, _, _, rfl, .ty _, ty, kit_ty (kitB_ok T hm "bool" (by decide) (by decide)), q⟩
  | str => cases ht; subst hb; exact call_isi pins s σ H _ us Q I r ⟨x, _, _, _, _, rfl, .ty _, ty, kit_ty (kitB_ok T hm "str" (by decide) (by decide)), q⟩
  | tuple => cases ht; subst hb; exact call_isi pins s σ H _ us Q I r ⟨x, _, _, _, _, rfl, .ty _, ty, kit_ty (kitB_ok T hm "tuple" (by decide) (by decide)), q⟩
  | list => cases ht; subst hb; exact call_isi pins s σ H _ us Q I r ⟨x, _, _, _, _, rfl, .ty _, ty, kit_ty (kitB_ok T hm "list" (by decide) (by decide)), q⟩
  | dict => cases ht; subst hb; exact call_isi pins s σ H _ us Q I r ⟨x, _, _, _, _, rfl, .ty _, ty, kit_ty (kitB_ok T hm "dict" (by decide) (by decide)), q⟩
theorem isi_sound (hK : X.K = Y.K) (hC : ∀ c ci, Y.CT[c]? = some ci → ClsOk X.K Y.CT c ci) : CallR X (.builtin "isinstance")
    (fun vs H Q => ∃ W m x c t d b, vs = [x, c] ∧ Y.sit W H m ∧ TyV Y.CT t c ∧ Y.rep W H x d ∧ isiD t d m = some b ∧ Q (.bl b) H) := by
  intro pins s σ H vs us Q I r h
  obtain ⟨W, m, x, c, t, d, b, rfl, si, ht, rx, e, q⟩ := h
  have plain := fun T hT hb => isi_plain (b := b) (t := t) hK hC I r si ht rx q T hT hb
  cases z : deref m d with
  | obj e' l =>
    obtain rfl := deref_obj z
    cases rx with
    | obj hc f h1 h2 h3 h4 h5 =>
      rename_i a dx ci fs xs
      have ko := hC _ _ hc
      have ty : TyX X.K H (.ref a) (.ref ci.C) := .base (.ins h1 ko.cl ko.ha ko.hn ko.htk ko.hm)
      simp only [isiD, z] at e
      cases t with
      | cls k =>
        simp only [Option.some.injEq] at e
        subst e
        obtain ⟨cj, hj, rfl⟩ := ht
        exact call_isi pins s σ H _ us Q I r ⟨_, _, _, _, _, rfl, .own _, ty, (hC k cj hj).ot _ _ hc, q⟩
      | int => cases ht; cases e; exact call_isi pins s σ H _ us Q I r ⟨_, _, _, _, _, rfl, .ty _, ty, ko.to "int" (by decide), q⟩
      | bool => cases ht; cases e; exact call_isi pins s σ H _ us Q I r ⟨_, _, _, _, _, rfl, .ty _, ty, ko.to "bool" (by decide), q⟩
      | str => cases ht; cases e; exact call_isi pins s σ H _ us Q I r ⟨_, _, _, _, _, rfl, .ty _, ty, ko.to "str" (by decide), q⟩
      | tuple => cases ht; cases e; exact call_isi pins s σ H _ us Q I r ⟨_, _, _, _, _, rfl, .ty _, ty, ko.to "tuple" (by decide), q⟩
      | list => cases ht; cases e; exact call_isi pins s σ H _ us Q I r ⟨_, _, _, _, _, rfl, .ty _, ty, ko.to "list" (by decide), q⟩
      | dict => cases ht; cases e; exact call_isi pins s σ H _ us Q I r ⟨_, _, _, _, _, rfl, .ty _, ty, ko.to "dict" (by decide), q⟩
  | ref k => cases t <;> simp [isiD, z] at e
  | non => exact plain "NoneType" (by rw [z]; rfl) (by cases t <;> simp [isiD, z] at e <;> subst e <;> simp [Ty.id])
  | bl b => exact plain "bool" (by rw [z]; rfl) (by cases t <;> simp [isiD, z] at e <;> subst e <;> simp [Ty.id])
  | int b => exact plain "int" (by rw [z]; rfl) (by cases t <;> simp [isiD, z] at e <;> subst e <;> simp [Ty.id])
  | str b => exact plain "str" (by rw [z]; rfl) (by cases t <;> simp [isiD, z] at e <;> subst e <;> simp [Ty.id])
  | tup b => exact plain "tuple" (by rw [z]; rfl) (by cases t <;> simp [isiD, z] at e <;> subst e <;> simp [Ty.id])
  | lst b => exact plain "list" (by rw [z]; rfl) (by cases t <;> simp [isiD, z] at e <;> subst e <;> simp [Ty.id])
  | scr b => exact plain "list" (by rw [z]; rfl) (by cases t <;> simp [isiD, z] at e <;> subst e <;> simp [Ty.id])
  | dct b => exact plain "dict" (by rw [z]; rfl) (by cases t <;> simp [isiD, z] at e <;> subst e <;> simp [Ty.id])

/-! ### methods of built-in types -/
def Sm.name : Sm → Str
  | .split => "split" | .join => "join" | .index => "index" | .count => "count" | .get => "get" | .keys => "keys"
def smT : Nat → String
  | 0 => "str" | 1 => "list" | _ => "tuple"
def Sm.idOf : Sm → Nat → String
  | .split, _ => "str.split" | .join, _ => "str.join" | .index, 1 => "list.index" | .index, _ => "tuple.index" | .count, _ => "list.count" | _, _ => ""
/-- what the receiver's value is -/
def rRecv (Y : Yx) (s : Sm) (k : Nat) (x : V) (H : Hp) : Prop := ∃ W m d, Y.sit W H m ∧ Y.rep W H x d ∧ smK s (deref m d) = some k
theorem recv_ok {pins : List (Addr × Obj)} {σ : L2.St} {H : Hp} {s : Shared} {x : V} {v : Value} {sm : Sm} {k : Nat} (hK : X.K = Y.K) (I : Inv X pins σ H s) (r : RelV x v) (h : rRecv Y sm k x H) :
    s.TypeIs v (smT k) ∧ ∀ a, v = .ref a → ∃ ob, s.heap.get? a = some ob ∧ ob.dict = none := by
  obtain ⟨W, m, d, si, rx, e⟩ := h
  unfold smK at e
  split at e <;> first | (cases e; done) | skip
  · rename_i z; cases e; obtain rfl := deref_str z; exact tyV_is (T := "str") I r (by rw [rx.str_]; rfl)
  · rename_i z; cases e; obtain rfl := deref_str z; exact tyV_is (T := "str") I r (by rw [rx.str_]; rfl)
  · rename_i z; cases e; obtain ⟨a, xs, rfl, h1, _⟩ := rx.lst_ si z; exact tyV_is (T := "list") I r (.inl ⟨rfl, xs, SqL.of h1⟩)
  · rename_i z; cases e; obtain ⟨a, xs, rfl, h1, _⟩ := rx.lst_ si z; exact tyV_is (T := "list") I r (.inl ⟨rfl, xs, SqL.of h1⟩)
  · rename_i z
    cases e
    obtain rfl := deref_tup z
    obtain ⟨a, xs, ob, rfl, h1, nd, _⟩ := rx.tupO
    obtain ⟨g, _, its, _, ⟨o, g2, hc, _⟩⟩ := I.hok a _ h1
    obtain rfl : v = Value.ref a := r
    rw [g] at g2
    cases g2
    exact ⟨⟨ob, g, hc⟩, fun b e => by cases e; exact ⟨ob, g, nd⟩⟩
def rSm (Y : Yx) (s : Sm) (k : Nat) : V → List V → Hp → VK → Prop := fun x vs H Q => ∃ W m dx ds d, Y.sit W H m ∧ Y.rep W H x dx ∧ Y.repL W H vs ds ∧ smD s k dx ds m = some d ∧ Out Y W H (.ok d m) Y.rep Q
theorem placeD_at : ∀ {qs : List PyData} {p : PyData} {n j : Nat}, placeD p qs n = some j → n ≤ j ∧ ∃ z, qs[j - n]? = some z ∧ PyData.eqv z p = true ∧ ∀ (m : Nat) (z' : PyData), m < j - n → qs[m]? = some z' → PyData.eqv z' p = false
  | [], _, _, _, h => by cases h
  | q :: r, p, n, j, h => by
    unfold placeD at h
    split at h
    · rename_i c
      cases h
      refine ⟨Nat.le_refl _, q, by simp, c, fun m z' hm => by omega⟩
    · rename_i c
      obtain ⟨h1, z, h2, h3, h4⟩ := placeD_at h
      have e : j - n = (j - (n + 1)) + 1 := by omega
      refine ⟨by omega, z, by rw [e]; simpa using h2, h3, fun m z' hm hz => ?_⟩
      cases m with
      | zero => simp at hz; subst hz; simpa using c
      | succ m => exact h4 m z' (by omega) (by simpa using hz)
theorem findD_at {l : List D} {y d : D} (h : findD l y = some d) : ∃ p qs j z, toP y = some p ∧ toP.go l = some qs ∧ SeqAt.shaped p = true ∧ SeqAt.shaped (.list qs) = true ∧ d = .int (j : Nat) ∧
    qs[j]? = some z ∧ PyData.eqv z p = true ∧ ∀ (m : Nat) (z' : PyData), m < j → qs[m]? = some z' → PyData.eqv z' p = false := by
  unfold findD at h
  split at h
  · rename_i p qs e1 e2
    split at h
    · rename_i c
      simp only [Bool.and_eq_true] at c
      obtain ⟨j, hj, rfl⟩ := Option.map_eq_some_iff.mp h
      obtain ⟨_, z, h2, h3, h4⟩ := placeD_at hj
      exact ⟨p, qs, j, z, e1, e2, c.1, c.2, rfl, h2, h3, h4⟩
    · cases h
  · cases h
/-- t.index(x) of data -/
theorem mt_tupI (hu : X.A.units + 65 < cLine) : MtR X "tuple.index" (fun x xs H Q => ∃ (a : Addr) (y : V) (ys : List V) (p : PyData) (qs : List PyData) (j : Nat) (z : PyData), x = V.ref a ∧ xs = [y] ∧ SqT X.K H a ys ∧ DpAll X.K H ys qs ∧ Dp X.K H y p ∧
    SeqAt.shaped (.list qs) = true ∧ SeqAt.shaped p = true ∧ qs[j]? = some z ∧ PyData.eqv z p = true ∧ (∀ (m : Nat) (z' : PyData), m < j → qs[m]? = some z' → PyData.eqv z' p = false) ∧ Q (.int (j : Nat)) H) := by
  intro pins s σ H x xs v us Q I rx rs h
  obtain ⟨a, y, ys, p, qs, j, z, rfl, rfl, hq, hqs, hy, sl, sp, hz, hzp, hno, q⟩ := h
  obtain rfl : v = Value.ref a := rx
  obtain ⟨uy, rfl, ry⟩ := vals1 rs
  obtain ⟨bs, r1⟩ := Dp.reads I p y uy hy ry
  obtain ⟨its, rv, pl, hlen⟩ := I.tuple hq
  obtain ⟨⟨cls, dd, dt, sls⟩, ho, hc, n, hd⟩ := pl
  simp only at hc hd
  subst hc hd
  obtain ⟨as, h4⟩ := Dp.readsAll I qs ys its hqs rv
  have hxs : PyData.canLayAll0 qs = true := SeqAt.canLay_of_shaped sl
  have lq : its.length = qs.length := SeqAt.ReadsAll.length qs its as h4
  have hmap : its.map (SeqAt.readOf s.heap) = qs := SeqAt.readsAll_map qs its as hxs h4
  have rd : ∀ (m : Nat) (hm : m < its.toArray.size) (z' : PyData), qs[m]? = some z' → SeqAt.readOf s.heap its.toArray[m] = z' := fun m hm z' hz' => by
    have hm' : m < its.length := by simpa using hm
    rw [← hmap, List.getElem?_map, List.getElem?_eq_getElem hm'] at hz'
    simpa using hz'
  have hj : j < its.toArray.size := by
    have := (List.getElem?_eq_some_iff.mp hz).1
    simp
    omega
  refine call_meets PySem.F.slot_tuple_index ⟨_, ho, rfl⟩ PySem.F.entry_tuple_index (PySem.F.args_tuple_index_2 _ _) (TI.tuple_indexAt a its.toArray n dd sls uy (fun u => PyData.eqv (SeqAt.readOf s.heap u) p) j hj ?_ fun m hm hmj => ?_)
    ⟨ho, SeqAt.items_eqAt (vs := its.toArray) (by rw [List.toList_toArray]; exact h4) r1 hxs (SeqAt.canLay_of_shaped sp) (room_in_shaped sp hu), ⟨.int (j : Nat), H, I.tok _, ⟨_, rfl⟩, q⟩⟩
  · rw [rd j hj z hz]; exact hzp
  · have hm' : m < qs.length := by simp at hm; omega
    have e : qs[m]? = some qs[m] := List.getElem?_eq_getElem hm'
    rw [rd m hm _ e]
    exact hno m _ hmj e
theorem sm_sound (hK : X.K = Y.K) (hu : X.A.units + 65 < cLine) (s : Sm) (k : Nat) : MtR X (s.idOf k) (rSm Y s k) := by
  intro pins st σ H x xs v us Q I rx rs h
  obtain ⟨W, m, dx, ds, d, si, r1, r2, e, h⟩ := h
  unfold smD at e
  split at e <;> first | (cases e; done) | skip
  · rename_i z
    obtain rfl := deref_str z
    split at e
    · rename_i c
      cases e
      obtain ⟨y, rfl, ry⟩ := RepL.one r2
      obtain rfl := ry.str_
      refine mt_split pins st σ H x _ v us Q I rx rs ⟨_, _, r1.str_, rfl, ?_, by rw [← lim_eq]; exact c.2, h.frz si fun p hp le => Rep.newL (RepL.of_strs _) le⟩
      simp
      omega
    · cases e
  · rename_i z
    obtain rfl := deref_str z
    obtain ⟨l, e1, e⟩ := Option.bind_eq_some_iff.mp e
    obtain ⟨ys, e2, e⟩ := Option.bind_eq_some_iff.mp e
    split at e
    · rename_i c
      cases e
      obtain ⟨y, rfl, ry⟩ := RepL.one r2
      obtain ⟨p, zs, rfl, h1, q1⟩ := ry.items_ si e1
      obtain rfl := q1.strs e2
      exact mt_join pins st σ H x _ v us Q I rx rs ⟨_, p, ys, r1.str_, rfl, h1.imp SqL.of (fun z => hK ▸ z), c, h.here si (.str _)⟩
    · cases e
  · rename_i l y z
    obtain ⟨p, qs, j, w, e1, e2, c1, c2, rfl, h2, h3, h4⟩ := findD_at e
    obtain ⟨yv, rfl, ry⟩ := RepL.one r2
    obtain ⟨a, zs, rfl, h1, q1⟩ := r1.lst_ si z
    exact mt_indexD hu pins st σ H _ _ v us Q I rx rs ⟨a, yv, p, qs, j, w, rfl, rfl, .lst (SqL.of h1) (hK ▸ q1.dp e2), hK ▸ ry.dpd si e1, c2, c1, h2, h3, h4, h.here si (.int _)⟩
  · rename_i l y z
    obtain rfl := deref_tup z
    obtain ⟨p, qs, j, w, e1, e2, c1, c2, rfl, h2, h3, h4⟩ := findD_at e
    obtain ⟨yv, rfl, ry⟩ := RepL.one r2
    obtain ⟨a, zs, rfl, h1, q1⟩ := r1.tup_
    exact mt_tupI hu pins st σ H _ _ v us Q I rx rs ⟨a, yv, zs, p, qs, j, w, rfl, rfl, hK ▸ h1, hK ▸ q1.dp e2, hK ▸ ry.dpd si e1, c2, c1, h2, h3, h4, h.here si (.int _)⟩
/-- the method's place in the type -/
theorem sm_slot {s : Sm} {k : Nat} {x : D} (h : smK s x = some k) (hc : s ≠ .count) : PlainAttrs (smT k) ∧ Slot (smT k) s.name (s.idOf k) ∧ typeOf (.builtin (s.idOf k)) = pure (.type "method_descriptor") := by
  unfold smK at h
  split at h <;> first | (cases h; done) | skip
  · cases h; exact ⟨PySem.F.plainAttrs_str, PySem.F.slot_str_split, PySem.F.type_str_split⟩
  · cases h; exact ⟨PySem.F.plainAttrs_str, PySem.F.slot_str_join, PySem.F.type_str_join⟩
  · cases h; exact ⟨PySem.F.plainAttrs_list, PySem.F.slot_list_index, PySem.F.type_list_index⟩
  · exact absurd rfl hc
  · cases h; exact ⟨PySem.F.plainAttrs_tuple, PySem.F.slot_tuple_index, PySem.F.type_tuple_index⟩
def tSm (Y : Yx) (s : Sm) (to : TE) (t : TA) : TE := fun σ H Q => to σ H fun x H1 => ∃ k, rRecv Y s k x H1 ∧ t σ H1 fun xs H2 => rSm Y s k x xs H2 Q
theorem pe_sm {s : Sm} {o e : Expr} {es : List Expr} {to : TE} {t : TA} {apos cpos : Pos} (hK : X.K = Y.K) (hu : X.A.units + 65 < cLine) (hcnt : s ≠ .count) (ho : PE X o to) (ha : PA X (e :: es) t)
    (hbase : attributeBase o s.name X.env (eval o X.env) = eval o X.env)
    (hfew : ((backTo cpos (starEach (e :: es) X.env)).all (fun x => !x.1) && (backToKw cpos (keywordEach [] X.env)).all (fun x => x.1.isSome)
      && decide ((e :: es).length + ([] : List Keyword).length + (if ([] : List Keyword).isEmpty then 0 else 1) < 30)) = true)
    (hline : (apos.endLine == cpos.line) = true) (hs : starEach (e :: es) X.env = (false, eval e X.env) :: starEach es X.env) (hplain : (backTo cpos (starEach es X.env)).any (·.1) = false) :
    PE X (.Call (.Attribute o s.name apos) (e :: es) [] cpos) (tSm Y s to t) := by
  refine ⟨fun pins st σ H Q I h => ?_⟩
  refine wpAny_Call_method_late hbase hfew hline rfl (thn (ho.run pins st σ H _ I h) fun v s1 ⟨x, H1, I1, r1, k, rc, q1⟩ => ?_)
  obtain ⟨h1, h2⟩ := recv_ok hK I1 r1 rc
  obtain ⟨_, _, _, _, _, ek⟩ := id rc
  obtain ⟨f1, f2, f3⟩ := sm_slot ek hcnt
  refine ⟨smT k, s.idOf k, f1, f2, f3, h1, h2, ?_⟩
  have hA := ha.run cpos pins s1 σ H1 _ I1 q1
  rw [hs] at hA ⊢
  refine Calls.callWith_builtin (by show (false || (backTo cpos (starEach es X.env)).any (·.1)) = false; rw [hplain]; rfl) (Calls.evalArgs_plain ?_)
  exact thn hA fun us s2 ⟨vs, H2, I2, r2, q2⟩ => sm_sound hK hu s k pins s2 σ H2 x vs v us Q I2 r1 r2 q2
end
end Ev

set_option Elab.async false
set_option linter.all false
set_option maxRecDepth 100000
/-! Ev6: what a loop goes through: zip of two or three lists or tuples in any mix, enumerate of both. -/
namespace Ev
open PySem PySem.Spec PyProof.Rows L2

/-- a list or a tuple -/
inductive Sk where
  | l | t
def Sk.sq : Sk → PySem.W.Frag → Hp → Addr → List V → Prop
  | .l, K, H, a, xs => SqL K H a xs
  | .t, K, H, a, xs => SqT K H a xs
def Sk.it : Sk → Heap → Addr → Addr → Nat → Prop
  | .l, h, i, a, n => h.IsListIter i a n
  | .t, h, i, a, n => h.IsTupleIter i a n
def Sk.ob : Sk → Heap → Addr → Array Value → Prop
  | .l, h, a, xs => h.IsList a xs
  | .t, h, a, xs => h.IsTuple a xs
def Sk.o0 : Sk → Addr → Obj
  | .l, a => { cls := .type "list_iterator", data := .fields #[.ref a, .int 0 0] }
  | .t, a => { cls := .type "tuple_iterator", data := .fields #[.ref a, .int 0 0] }
section
variable {prog : Program} {w : World} {A : Around}
theorem Sk.begins : ∀ (k : Sk) (a : Addr) (items : Array Value), Begins (.ref a) (k.o0 a) fun h => k.ob h a items
  | .l, a, items => begins_list a items
  | .t, a, items => begins_tuple a items
theorem Sk.draws (hh : A.handled = none) : ∀ (k : Sk) (it a : Addr) (hne : a ≠ it) (items : Array Value), Draws prog w A it [it, a] items.size (fun i v => items[i]? = some v) (fun i h => k.it h it a i ∧ k.ob h a items)
  | .l, it, a, hne, items => Draws.list hh it a hne items
  | .t, it, a, hne, items => Draws.tuple hh it a hne items
theorem Sk.it0 : ∀ (k : Sk) {h : Heap} {it a : Addr}, h.get? it = some (k.o0 a) → k.it h it a 0
  | .l, _, _, _, e => ⟨_, e, rfl, rfl⟩
  | .t, _, _, _, e => ⟨_, e, rfl, rfl⟩
theorem Sk.it_at : ∀ (k : Sk) {h h' : Heap} {it a : Addr} {n : Nat}, k.it h it a n → (∀ o, h.get? it = some o → h'.get? it = some o) → k.it h' it a n
  | .l, _, _, _, _, _, x, e => x.at e
  | .t, _, _, _, _, _, x, e => x.at e
theorem Sk.it_ob : ∀ (k : Sk) {h : Heap} {it a : Addr} {n : Nat}, k.it h it a n → ∃ o, h.get? it = some o ∧ ∀ v, o.data ≠ .cell v
  | .l, _, _, _, _, ⟨o, e, _, d⟩ => ⟨o, e, fun v z => by rw [d] at z; cases z⟩
  | .t, _, _, _, _, ⟨o, e, _, d⟩ => ⟨o, e, fun v z => by rw [d] at z; cases z⟩
end
section
variable {X : Cx} {pins : List (Addr × Obj)} {σ : L2.St} {H : Hp} {s : Shared} {a : Addr} {xs ys : List V}
theorem Sk.inv : ∀ (k : Sk) (I : Inv X pins σ H s) (h : k.sq X.K H a xs), ∃ its : List Value, Vals xs its ∧ k.ob s.heap a its.toArray
  | .l, I, h => let ⟨its, r, p, _⟩ := I.list h; ⟨its, r, p.isList⟩
  | .t, I, h => let ⟨its, r, p, _⟩ := I.tuple h; ⟨its, r, p⟩
theorem Sk.inj : ∀ (k : Sk) (I : Inv X pins σ H s) (h : k.sq X.K H a xs) (h' : k.sq X.K H a ys), xs = ys
  | .l, I, h, h' => I.list_inj h h'
  | .t, I, h, h' => I.tuple_inj h h'
theorem Sk.lt : ∀ (k : Sk) {its : Array Value}, k.ob s.heap a its → a < s.heap.objs.size
  | .l, _, ⟨_, e, _⟩ => Heap.lt_size e
  | .t, _, ⟨_, e, _⟩ => Heap.lt_size e
end

/-! ### zip of two -/
def ItZ2 (K : PySem.W.Frag) (k1 k2 : Sk) (a b : Addr) : It :=
  ⟨fun i H => ∃ xs ys x y, k1.sq K H a xs ∧ k2.sq K H b ys ∧ xs[i]? = some x ∧ ys[i]? = some y,
    fun i H v H' => ∃ T ob x y, v = .ref T ∧ H T = none ∧ ob.dict = none ∧ H' = upd H T (.frz ob (.tup [x, y])) ∧ (∀ xs, k1.sq K H a xs → xs[i]? = some x) ∧ ∀ ys, k2.sq K H b ys → ys[i]? = some y,
    fun i H => ∃ xs ys, k1.sq K H a xs ∧ k2.sq K H b ys ∧ i ≤ xs.length ∧ i ≤ ys.length ∧ (i = xs.length ∨ i = ys.length)⟩
theorem turn_zip2 {P : Program} {w : World} {K : PySem.W.Frag} {elts : List Expr} {kk : Nat} {tpos : Pos} {k1 k2 : Sk} {a b z TI TO i1 i2 : Addr} (S : ZipSep2 z TI TO i1 i2 [i1, a] [i2, b]) (n1 : a ≠ i1) (n2 : b ≠ i2) :
    Turn P w K (.Tuple elts kk tpos) (ItZ2 K k1 k2 a b) [z, TI, TO, i1, i2] z (fun i h => IsZip h z TI TO .none ∧ IsTupOf2 h TI (.ref i1) (.ref i2) ∧ (∃ x y, IsTupOf2 h TO x y) ∧ k1.it h i1 a i ∧ k2.it h i2 b i) where
  mem := by simp
  obj := fun i h st c hc => by
    obtain ⟨hz, hTI, ⟨x, y, hTO⟩, h1, h2⟩ := st
    have e : c = z ∨ c = TI ∨ c = TO ∨ c = i1 ∨ c = i2 := by simpa using hc
    rcases e with rfl | rfl | rfl | rfl | rfl
    · exact ⟨_, hz, fun v q => nomatch q⟩
    · exact ⟨_, hTI, fun v q => nomatch q⟩
    · exact ⟨_, hTO, fun v q => nomatch q⟩
    · exact k1.it_ob h1
    · exact k2.it_ob h2
  keep := fun i h h' st k => by
    obtain ⟨hz, hTI, ⟨x, y, hTO⟩, h1, h2⟩ := st
    exact ⟨k z (by simp) _ hz, k TI (by simp) _ hTI, ⟨x, y, k TO (by simp) _ hTO⟩, k1.it_at h1 fun o q => k i1 (by simp) o q, k2.it_at h2 fun o q => k i2 (by simp) o q⟩
  item := by
    intro X hP hw hK hc i pins s σ H E I hf st hg
    subst hP hw hK
    obtain ⟨hz, hTI, ⟨x0, y0, hTO⟩, h1, h2⟩ := st
    obtain ⟨xs, ys, x, y, hqx, hqy, hx, hy⟩ := hg
    obtain ⟨its, rv, p⟩ := k1.inv I hqx
    obtain ⟨its2, rv2, p2⟩ := k2.inv I hqy
    obtain ⟨u, hu, ru⟩ := rv.get hx
    obtain ⟨u2, hu2, ru2⟩ := rv2.get hy
    have hh : X.A.in1.handled = none := I.ok.hd hc
    have hzl : z < s.heap.objs.size := Heap.lt_size hz
    have l1 : i < its.toArray.size := by simpa using (List.getElem?_eq_some_iff.mp hu).1
    have l2 : i < its2.toArray.size := by simpa using (List.getElem?_eq_some_iff.mp hu2).1
    refine wpAny_pyNext_zipD2_item S (k1.draws hh i1 a n1 its.toArray) (k2.draws hh i2 b n2 its2.toArray) hz hTI hTO ⟨h1, p⟩ ⟨h2, p2⟩ l1 l2 fun x1 x2 h' tk y1 y2 z' TO' st1 st2 hT hsz hk => ?_
    rw [List.getElem?_toArray] at y1 y2
    rw [hu] at y1
    rw [hu2] at y2
    cases y1
    cases y2
    refine ⟨_, rfl, wpAny_letOwnedTupleGo_zip (s := { s with heap := h', toks := tk }) z' fun h'' z'' sb => ?_⟩
    have hT2 : h''.get? s.heap.objs.size = some { cls := .type "tuple", data := .seq #[u, u2] } := (sb.2 _ (Nat.ne_of_gt hzl)).trans hT
    have new : ObjOk X.prog X.w (upd H s.heap.objs.size (.frz { cls := .type "tuple", data := .seq #[u, u2] } (.tup [x, y]))) h'' s.heap.objs.size (.frz { cls := .type "tuple", data := .seq #[u, u2] } (.tup [x, y])) :=
      ⟨hT2, by show 2 ≤ sizeLine; decide, [u, u2], .cons ru (.cons ru2 .nil), ⟨_, hT2, rfl, _, rfl⟩⟩
    have hlt : ∀ c, c ∈ [z, TI, TO, i1, i2] → c < s.heap.objs.size := fun c hcm => by
      have e : c = z ∨ c = TI ∨ c = TO ∨ c = i1 ∨ c = i2 := by simpa using hcm
      rcases e with rfl | rfl | rfl | rfl | rfl
      · exact hzl
      · exact Heap.lt_size hTI
      · exact Heap.lt_size hTO
      · obtain ⟨o, e, _⟩ := k1.it_ob h1; exact Heap.lt_size e
      · obtain ⟨o, e, _⟩ := k2.it_ob h2; exact Heap.lt_size e
    have nz : ∀ c, c ∈ [TI, TO, i1, i2] → c ≠ z := fun c hcm => by
      have e : c = TI ∨ c = TO ∨ c = i1 ∨ c = i2 := by simpa using hcm
      rcases e with rfl | rfl | rfl | rfl
      · exact S.TIz
      · exact S.TOz
      · exact fun q => S.zf1 (by simp [q])
      · exact fun q => S.zf2 (by simp [q])
    have I1 : Inv X pins σ (upd H s.heap.objs.size (.frz { cls := .type "tuple", data := .seq #[u, u2] } (.tup [x, y]))) { s with heap := h'', toks := tk } :=
      I.turnedNew (t' := tk) (ch := [z, TI, TO, i1, i2]) (fun c o hb q => (sb.2 c (fun q' => hb (by simp [q']))).trans (hk c o (fun q' => hb (by simp [q'])) (fun q' => hb (by simp [q'])) (fun q' => hb (by simp [q'])) (fun q' => hb (by simp [q'])) q)) hf (Nat.le_refl _) new
    refine ⟨.ref s.heap.objs.size, _, I1, rfl, ⟨_, _, x, y, rfl, I.hok.fresh (Nat.le_refl _), rfl, rfl, fun l hl => by rw [k1.inj I hl hqx]; exact hx, fun l hl => by rw [k2.inj I hl hqy]; exact hy⟩, ⟨z'', ?_, ⟨u, u2, ?_⟩, ?_, ?_⟩, fun c hcm => ?_⟩
    · exact (sb.2 _ S.TIz).trans (hk _ _ S.TIz S.TITO S.TIi1 S.TIi2 hTI)
    · exact (sb.2 _ S.TOz).trans TO'
    · exact k1.it_at st1.1 fun o q => (sb.2 _ (nz _ (by simp))).trans q
    · exact k2.it_at st2.1 fun o q => (sb.2 _ (nz _ (by simp))).trans q
    · rw [upd_ne (Nat.ne_of_lt (hlt c hcm))]
      exact (hf c hcm).1
  done := by
    intro X hP hw hK hc i pins s σ H E I hf st hg
    subst hP hw hK
    obtain ⟨hz, hTI, ⟨x0, y0, hTO⟩, h1, h2⟩ := st
    obtain ⟨xs, ys, hqx, hqy, le1, le2, hend⟩ := hg
    obtain ⟨its, rv, p⟩ := k1.inv I hqx
    obtain ⟨its2, rv2, p2⟩ := k2.inv I hqy
    have hh : X.A.in1.handled = none := I.ok.hd hc
    have e1 : its.toArray.size = xs.length := by simp [rv.length]
    have e2 : its2.toArray.size = ys.length := by simp [rv2.length]
    exact wpAny_pyNext_zipD2_end S (k1.draws hh i1 a n1 its.toArray) (k2.draws hh i2 b n2 its2.toArray) hz hTI hTO ⟨h1, p⟩ ⟨h2, p2⟩ (by rw [e1]; exact le1) (by rw [e2]; exact le2) (by rw [e1, e2]; exact hend)
      fun h' tk hk => ⟨rfl, I.turnedL (t' := tk) (ch := [z, TI, TO, i1, i2]) (fun c o hb q => hk c o (fun q' => hb (by simp [q'])) (fun q' => hb (by simp [q'])) (fun q' => hb (by simp [q'])) (fun q' => hb (by simp [q'])) q) hf⟩
  self := fun A i s Q E st h => wpAny_pyIter_zip st.1 h

/-! ### zip of three -/
def ItZ3 (K : PySem.W.Frag) (k1 k2 k3 : Sk) (a b c : Addr) : It :=
  ⟨fun i H => ∃ xs ys zs x y z, k1.sq K H a xs ∧ k2.sq K H b ys ∧ k3.sq K H c zs ∧ xs[i]? = some x ∧ ys[i]? = some y ∧ zs[i]? = some z,
    fun i H v H' => ∃ T ob x y z, v = .ref T ∧ H T = none ∧ ob.dict = none ∧ H' = upd H T (.frz ob (.tup [x, y, z])) ∧ (∀ xs, k1.sq K H a xs → xs[i]? = some x) ∧ (∀ ys, k2.sq K H b ys → ys[i]? = some y) ∧ ∀ zs, k3.sq K H c zs → zs[i]? = some z,
    fun i H => ∃ xs ys zs, k1.sq K H a xs ∧ k2.sq K H b ys ∧ k3.sq K H c zs ∧ i ≤ xs.length ∧ i ≤ ys.length ∧ i ≤ zs.length ∧ (i = xs.length ∨ i = ys.length ∨ i = zs.length)⟩
theorem turn_zip3 {P : Program} {w : World} {K : PySem.W.Frag} {elts : List Expr} {kk : Nat} {tpos : Pos} {k1 k2 k3 : Sk} {a b d z TI TO i1 i2 i3 : Addr} (S : ZipSep3 z TI TO i1 i2 i3 [i1, a] [i2, b] [i3, d]) (n1 : a ≠ i1) (n2 : b ≠ i2) (n3 : d ≠ i3) :
    Turn P w K (.Tuple elts kk tpos) (ItZ3 K k1 k2 k3 a b d) [z, TI, TO, i1, i2, i3] z (fun i h => IsZip h z TI TO .none ∧ IsTupOf3 h TI (.ref i1) (.ref i2) (.ref i3) ∧ (∃ x y z, IsTupOf3 h TO x y z) ∧ k1.it h i1 a i ∧ k2.it h i2 b i ∧ k3.it h i3 d i) where
  mem := by simp
  obj := fun i h st c hc => by
    obtain ⟨hz, hTI, ⟨x, y, y', hTO⟩, h1, h2, h3⟩ := st
    have e : c = z ∨ c = TI ∨ c = TO ∨ c = i1 ∨ c = i2 ∨ c = i3 := by simpa using hc
    rcases e with rfl | rfl | rfl | rfl | rfl | rfl
    · exact ⟨_, hz, fun v q => nomatch q⟩
    · exact ⟨_, hTI, fun v q => nomatch q⟩
    · exact ⟨_, hTO, fun v q => nomatch q⟩
    · exact k1.it_ob h1
    · exact k2.it_ob h2
    · exact k3.it_ob h3
  keep := fun i h h' st k => by
    obtain ⟨hz, hTI, ⟨x, y, y', hTO⟩, h1, h2, h3⟩ := st
    exact ⟨k z (by simp) _ hz, k TI (by simp) _ hTI, ⟨x, y, y', k TO (by simp) _ hTO⟩, k1.it_at h1 fun o q => k i1 (by simp) o q, k2.it_at h2 fun o q => k i2 (by simp) o q, k3.it_at h3 fun o q => k i3 (by simp) o q⟩
  item := by
    intro X hP hw hK hc i pins s σ H E I hf st hg
    subst hP hw hK
    obtain ⟨hz, hTI, ⟨x0, y0, z0, hTO⟩, h1, h2, h3⟩ := st
    obtain ⟨xs, ys, zs, x, y, y', hqx, hqy, hqz, hx, hy, hy'⟩ := hg
    obtain ⟨its, rv, p⟩ := k1.inv I hqx
    obtain ⟨its2, rv2, p2⟩ := k2.inv I hqy
    obtain ⟨its3, rv3, p3⟩ := k3.inv I hqz
    obtain ⟨u, hu, ru⟩ := rv.get hx
    obtain ⟨u2, hu2, ru2⟩ := rv2.get hy
    obtain ⟨u3, hu3, ru3⟩ := rv3.get hy'
    have hh : X.A.in1.handled = none := I.ok.hd hc
    have hzl : z < s.heap.objs.size := Heap.lt_size hz
    have l1 : i < its.toArray.size := by simpa using (List.getElem?_eq_some_iff.mp hu).1
    have l2 : i < its2.toArray.size := by simpa using (List.getElem?_eq_some_iff.mp hu2).1
    have l3 : i < its3.toArray.size := by simpa using (List.getElem?_eq_some_iff.mp hu3).1
    refine wpAny_pyNext_zipD3_item S (k1.draws hh i1 a n1 its.toArray) (k2.draws hh i2 b n2 its2.toArray) (k3.draws hh i3 d n3 its3.toArray) hz hTI hTO ⟨h1, p⟩ ⟨h2, p2⟩ ⟨h3, p3⟩ l1 l2 l3 fun x1 x2 x3 h' tk y1 y2 y3 z' TO' st1 st2 st3 hT hsz hk => ?_
    rw [List.getElem?_toArray] at y1 y2 y3
    rw [hu] at y1
    rw [hu2] at y2
    rw [hu3] at y3
    cases y1
    cases y2
    cases y3
    refine ⟨_, rfl, wpAny_letOwnedTupleGo_zip (s := { s with heap := h', toks := tk }) z' fun h'' z'' sb => ?_⟩
    have hT2 : h''.get? s.heap.objs.size = some { cls := .type "tuple", data := .seq #[u, u2, u3] } := (sb.2 _ (Nat.ne_of_gt hzl)).trans hT
    have new : ObjOk X.prog X.w (upd H s.heap.objs.size (.frz { cls := .type "tuple", data := .seq #[u, u2, u3] } (.tup [x, y, y']))) h'' s.heap.objs.size (.frz { cls := .type "tuple", data := .seq #[u, u2, u3] } (.tup [x, y, y'])) :=
      ⟨hT2, by show 3 ≤ sizeLine; decide, [u, u2, u3], .cons ru (.cons ru2 (.cons ru3 .nil)), ⟨_, hT2, rfl, _, rfl⟩⟩
    have hlt : ∀ c, c ∈ [z, TI, TO, i1, i2, i3] → c < s.heap.objs.size := fun c hcm => by
      have e : c = z ∨ c = TI ∨ c = TO ∨ c = i1 ∨ c = i2 ∨ c = i3 := by simpa using hcm
      rcases e with rfl | rfl | rfl | rfl | rfl | rfl
      · exact hzl
      · exact Heap.lt_size hTI
      · exact Heap.lt_size hTO
      · obtain ⟨o, e, _⟩ := k1.it_ob h1; exact Heap.lt_size e
      · obtain ⟨o, e, _⟩ := k2.it_ob h2; exact Heap.lt_size e
      · obtain ⟨o, e, _⟩ := k3.it_ob h3; exact Heap.lt_size e
    have nz : ∀ c, c ∈ [TI, TO, i1, i2, i3] → c ≠ z := fun c hcm => by
      have e : c = TI ∨ c = TO ∨ c = i1 ∨ c = i2 ∨ c = i3 := by simpa using hcm
      rcases e with rfl | rfl | rfl | rfl | rfl
      · exact S.TIz
      · exact S.TOz
      · exact fun q => S.zf1 (by simp [q])
      · exact fun q => S.zf2 (by simp [q])
      · exact fun q => S.zf3 (by simp [q])
    have I1 : Inv X pins σ (upd H s.heap.objs.size (.frz { cls := .type "tuple", data := .seq #[u, u2, u3] } (.tup [x, y, y']))) { s with heap := h'', toks := tk } :=
      I.turnedNew (t' := tk) (ch := [z, TI, TO, i1, i2, i3]) (fun c o hb q => (sb.2 c (fun q' => hb (by simp [q']))).trans (hk c o (fun q' => hb (by simp [q'])) (fun q' => hb (by simp [q'])) (fun q' => hb (by simp [q'])) (fun q' => hb (by simp [q'])) (fun q' => hb (by simp [q'])) q)) hf (Nat.le_refl _) new
    refine ⟨.ref s.heap.objs.size, _, I1, rfl, ⟨_, _, x, y, y', rfl, I.hok.fresh (Nat.le_refl _), rfl, rfl, fun l hl => by rw [k1.inj I hl hqx]; exact hx, fun l hl => by rw [k2.inj I hl hqy]; exact hy, fun l hl => by rw [k3.inj I hl hqz]; exact hy'⟩, ⟨z'', ?_, ⟨u, u2, u3, ?_⟩, ?_, ?_, ?_⟩, fun c hcm => ?_⟩
    · exact (sb.2 _ S.TIz).trans (hk _ _ S.TIz S.TITO S.TIi1 S.TIi2 S.TIi3 hTI)
    · exact (sb.2 _ S.TOz).trans TO'
    · exact k1.it_at st1.1 fun o q => (sb.2 _ (nz _ (by simp))).trans q
    · exact k2.it_at st2.1 fun o q => (sb.2 _ (nz _ (by simp))).trans q
    · exact k3.it_at st3.1 fun o q => (sb.2 _ (nz _ (by simp))).trans q
    · rw [upd_ne (Nat.ne_of_lt (hlt c hcm))]
      exact (hf c hcm).1
  done := by
    intro X hP hw hK hc i pins s σ H E I hf st hg
    subst hP hw hK
    obtain ⟨hz, hTI, ⟨x0, y0, z0, hTO⟩, h1, h2, h3⟩ := st
    obtain ⟨xs, ys, zs, hqx, hqy, hqz, le1, le2, le3, hend⟩ := hg
    obtain ⟨its, rv, p⟩ := k1.inv I hqx
    obtain ⟨its2, rv2, p2⟩ := k2.inv I hqy
    obtain ⟨its3, rv3, p3⟩ := k3.inv I hqz
    have hh : X.A.in1.handled = none := I.ok.hd hc
    have e1 : its.toArray.size = xs.length := by simp [rv.length]
    have e2 : its2.toArray.size = ys.length := by simp [rv2.length]
    have e3 : its3.toArray.size = zs.length := by simp [rv3.length]
    exact wpAny_pyNext_zipD3_end S (k1.draws hh i1 a n1 its.toArray) (k2.draws hh i2 b n2 its2.toArray) (k3.draws hh i3 d n3 its3.toArray) hz hTI hTO ⟨h1, p⟩ ⟨h2, p2⟩ ⟨h3, p3⟩ (by rw [e1]; exact le1) (by rw [e2]; exact le2) (by rw [e3]; exact le3) (by rw [e1, e2, e3]; exact hend)
      fun h' tk hk => ⟨rfl, I.turnedL (t' := tk) (ch := [z, TI, TO, i1, i2, i3]) (fun c o hb q => hk c o (fun q' => hb (by simp [q'])) (fun q' => hb (by simp [q'])) (fun q' => hb (by simp [q'])) (fun q' => hb (by simp [q'])) (fun q' => hb (by simp [q'])) q) hf⟩
  self := fun A i s Q E st h => wpAny_pyIter_zip st.1 h

/-! ### enumerate -/
def ItE1 (K : PySem.W.Frag) (k1 : Sk) (a : Addr) : It :=
  ⟨fun i H => ∃ xs x, k1.sq K H a xs ∧ xs[i]? = some x,
    fun i H v H' => ∃ T ob x, v = .ref T ∧ H T = none ∧ ob.dict = none ∧ H' = upd H T (.frz ob (.tup [.int (i : Nat), x])) ∧ ∀ xs, k1.sq K H a xs → xs[i]? = some x,
    fun i H => ∃ xs, k1.sq K H a xs ∧ i = xs.length⟩
theorem turn_enum {P : Program} {w : World} {K : PySem.W.Frag} {elts : List Expr} {kk : Nat} {tpos : Pos} {k1 : Sk} {a e it : Addr} (hne : e ≠ it) (hea : e ≠ a) (n1 : a ≠ it) :
    Turn P w K (.Tuple elts kk tpos) (ItE1 K k1 a) [e, it] e (fun i h => (∃ old, IsEnum h e it (i : Nat) old) ∧ k1.it h it a i) where
  mem := by simp
  obj := fun i h st c hc => by
    obtain ⟨⟨old, he⟩, h1⟩ := st
    have q : c = e ∨ c = it := by simpa using hc
    rcases q with rfl | rfl
    · exact ⟨_, he, fun v q => nomatch q⟩
    · exact k1.it_ob h1
  keep := fun i h h' st k => by
    obtain ⟨⟨old, he⟩, h1⟩ := st
    exact ⟨⟨old, k e (by simp) _ he⟩, k1.it_at h1 fun o q => k it (by simp) o q⟩
  item := by
    intro X hP hw hK hc i pins s σ H E I hf st hg
    subst hP hw hK
    obtain ⟨⟨old, he⟩, h1⟩ := st
    obtain ⟨xs, x, hqx, hx⟩ := hg
    obtain ⟨its, rv, p⟩ := k1.inv I hqx
    obtain ⟨u, hu, ru⟩ := rv.get hx
    have hh : X.A.in1.handled = none := I.ok.hd hc
    have hel : e < s.heap.objs.size := Heap.lt_size he
    have l1 : i < its.toArray.size := by simpa using (List.getElem?_eq_some_iff.mp hu).1
    refine wpAny_pyNext_enum_itemD (k1.draws hh it a n1 its.toArray) he ⟨h1, p⟩ l1 hne (by simp [hne, hea]) fun x1 h' tk y1 ho st1 hT hsz hk => ?_
    rw [List.getElem?_toArray, hu] at y1
    cases y1
    refine ⟨_, rfl, wpAny_letOwnedTupleGo_enum (s := { s with heap := h', toks := tk + 1 }) ho fun h'' he' sb => ?_⟩
    have hT2 : h''.get? s.heap.objs.size = some { cls := .type "tuple", data := .seq #[.int (i : Nat) tk, u] } := (sb.2 _ (Nat.ne_of_gt hel)).trans hT
    have new : ObjOk X.prog X.w (upd H s.heap.objs.size (.frz { cls := .type "tuple", data := .seq #[.int (i : Nat) tk, u] } (.tup [.int (i : Nat), x]))) h'' s.heap.objs.size (.frz { cls := .type "tuple", data := .seq #[.int (i : Nat) tk, u] } (.tup [.int (i : Nat), x])) :=
      ⟨hT2, by show 2 ≤ sizeLine; decide, [.int (i : Nat) tk, u], .cons ⟨_, rfl⟩ (.cons ru .nil), ⟨_, hT2, rfl, _, rfl⟩⟩
    have I1 : Inv X pins σ (upd H s.heap.objs.size (.frz { cls := .type "tuple", data := .seq #[.int (i : Nat) tk, u] } (.tup [.int (i : Nat), x]))) { s with heap := h'', toks := tk + 1 } :=
      I.turnedNew (t' := tk + 1) (ch := [e, it]) (fun c o hb q => (sb.2 c (fun q' => hb (by simp [q']))).trans (hk c o (fun q' => hb (by simp [q'])) (fun q' => hb (by simp [q'])) q)) hf (Nat.le_refl _) new
    refine ⟨.ref s.heap.objs.size, _, I1, rfl, ⟨_, _, x, rfl, I.hok.fresh (Nat.le_refl _), rfl, rfl, fun l hl => by rw [k1.inj I hl hqx]; exact hx⟩, ⟨⟨u, ?_⟩, k1.it_at st1.1 fun o q => (sb.2 _ (Ne.symm hne)).trans q⟩, fun c hcm => ?_⟩
    · have e1 : ((i + 1 : Nat) : Int) = (i : Int) + 1 := by omega
      rw [e1]; exact he'
    · have hlt : c < s.heap.objs.size := by
        have q : c = e ∨ c = it := by simpa using hcm
        rcases q with rfl | rfl
        · exact hel
        · obtain ⟨o, e, _⟩ := k1.it_ob h1; exact Heap.lt_size e
      rw [upd_ne (Nat.ne_of_lt hlt)]
      exact (hf c hcm).1
  done := by
    intro X hP hw hK hc i pins s σ H E I hf st hg
    subst hP hw hK
    obtain ⟨⟨old, he⟩, h1⟩ := st
    obtain ⟨xs, hqx, le1⟩ := hg
    obtain ⟨its, rv, p⟩ := k1.inv I hqx
    have hh : X.A.in1.handled = none := I.ok.hd hc
    have e1 : its.toArray.size = i := by simp [← rv.length, le1]
    refine wpAny_pyNext_enum_endD (k1.draws hh it a n1 its.toArray) he (by rw [e1]; exact ⟨h1, p⟩) fun h' eb => ⟨rfl, I.turnedL (t' := s.toks) (ch := [e, it]) (fun c o hb q => eb c o (fun q' => hb (by simp [q'])) q) hf⟩
  self := fun A i s Q E st h => by
    obtain ⟨⟨old, he⟩, _⟩ := st
    exact wpAny_pyIter_enum he h
end Ev

set_option Elab.async false
set_option linter.all false
set_option maxRecDepth 100000
/-! Ev7: iterables, by their data. -/
namespace Ev
open PySem PySem.Spec PyProof.Rows L2

/-- the list or tuple at a stands for the items w.1, as long as the things of the store that it is are as they were -/
def SrcIs (Y : Yx) (W : Wd) (H : Hp) (k : Sk) (a : Addr) (w : List D × Src) : Prop := ∀ (W' : Wd) (H' : Hp) (m' : Mem), Y.sit W' H' m' → Lf W H W' H' → srcOk w.2 m' = true → ∃ xs, k.sq Y.K H' a xs ∧ Y.repL W' H' xs w.1
/-- an iterator J goes through w -/
def WalkRel (Y : Yx) (W : Wd) (H : Hp) (J : It) (w : List D × Src) : Prop := ∀ (i : Nat) (m : Mem) (W' : Wd) (H' : Hp), Y.sit W' H' m → Lf W H W' H' → srcOk w.2 m = true →
  (∀ d, w.1[i]? = some d → J.go i H' ∧ ∀ x H2, J.yld i H' x H2 → ∃ W2, Y.sit W2 H2 m ∧ Le W' H' W2 H2 ∧ Y.rep W2 H2 x d) ∧ (i = w.1.length → J.stop i H')
section
variable {X : Cx} {Y : Yx} {W : Wd} {H : Hp} {m : Mem}
theorem walkD_is {v : V} {d : D} {w : List D × Src} (si : Y.sit W H m) (r : Y.rep W H v d) (e : walkD m d = some w) : ∃ k a, v = .ref a ∧ SrcIs Y W H k a w := by
  unfold walkD at e
  split at e
  · cases e
    cases r with
    | lst f h q =>
      rename_i a xs
      exact ⟨.l, a, rfl, fun W' H' m' si' le _ => ⟨xs, .inl (.inl ((le.at_ _ f).trans h)), q.monoF le⟩⟩
  · cases e
    cases r with
    | tup f h nd q =>
      rename_i a ob xs
      exact ⟨.t, a, rfl, fun W' H' m' si' le _ => ⟨xs, .inl (.inr ⟨ob, (le.at_ _ f).trans h⟩), q.monoF le⟩⟩
  · rename_i k
    split at e
    · rename_i l hl
      cases e
      cases r with
      | ref hk =>
        rename_i a
        refine ⟨.l, a, rfl, fun W' H' m' si' le so => ?_⟩
        have hm : m'[k]? = some (.lst l) := by simpa [srcOk] using so
        obtain ⟨t, ht⟩ := le.μ
        have hk' : W'.μ[k]? = some a := by rw [ht]; exact (List.getElem?_append_left (List.getElem?_eq_some_iff.mp hk).1).trans hk
        obtain ⟨_, _, xs, h1, q1⟩ := si'.m.is k _ a hm (by intro z; cases z) hk'
        exact ⟨xs, .inl (.inl h1), q1⟩
    · cases e
  · cases e
theorem SrcIs.left {k : Sk} {a : Addr} {l : List D} {s t : Src} {l' : List D} (h : SrcIs Y W H k a (l, s)) : SrcIs Y W H k a (l, s ++ t) := fun W' H' m' si le so => h W' H' m' si le (by
  simp only [srcOk, List.all_append, Bool.and_eq_true] at so ⊢
  exact so.1)
theorem SrcIs.right {k : Sk} {a : Addr} {l : List D} {s t : Src} {l' : List D} (h : SrcIs Y W H k a (l, t)) : SrcIs Y W H k a (l, s ++ t) := fun W' H' m' si le so => h W' H' m' si le (by
  simp only [srcOk, List.all_append, Bool.and_eq_true] at so ⊢
  exact so.2)
theorem walk_l {a : Addr} {w : List D × Src} (h : SrcIs Y W H .l a w) : WalkRel Y W H (Itl Y.K a) w := fun i m' W' H' si le so => by
  obtain ⟨xs, h1, q⟩ := h W' H' m' si le so
  have h1 : SqL Y.K H' a xs := h1
  refine ⟨fun d e => ?_, fun e => ⟨xs, h1, by rw [q.length]; omega⟩⟩
  obtain ⟨x, e1, r⟩ := q.get e
  refine ⟨⟨xs, x, h1, e1⟩, fun y H2 hy => ?_⟩
  obtain ⟨rfl, hy⟩ := hy
  have := hy xs h1
  rw [e1] at this
  cases this
  exact ⟨W', si, Le.refl, r⟩
theorem walk_t {a : Addr} {w : List D × Src} (h : SrcIs Y W H .t a w) : WalkRel Y W H (Itt Y.K a) w := fun i m' W' H' si le so => by
  obtain ⟨xs, h1, q⟩ := h W' H' m' si le so
  have h1 : SqT Y.K H' a xs := h1
  refine ⟨fun d e => ?_, fun e => ⟨xs, h1, by rw [q.length]; omega⟩⟩
  obtain ⟨x, e1, r⟩ := q.get e
  refine ⟨⟨xs, x, h1, e1⟩, fun y H2 hy => ?_⟩
  obtain ⟨rfl, hy⟩ := hy
  have := hy xs h1
  rw [e1] at this
  cases this
  exact ⟨W', si, Le.refl, r⟩
theorem walk_s {z : Str} : WalkRel Y W H (Its z) (z.cps.toList.map fun c => .str ⟨#[c]⟩, []) := fun i m' W' H' si le so => by
  refine ⟨fun d e => ?_, fun e => ?_⟩
  · rw [List.getElem?_map] at e
    cases e1 : z.cps.toList[i]? with
    | none => rw [e1] at e; cases e
    | some c =>
      rw [e1] at e
      cases e
      have e2 : z.cps[i]? = some c := by rw [← Array.getElem?_toList]; exact e1
      have hlt : i < z.cps.size := by
        have := (List.getElem?_eq_some_iff.mp e1).1
        simpa using this
      refine ⟨hlt, fun x H2 hy => ?_⟩
      obtain ⟨rfl, c', e3, rfl⟩ := hy
      rw [e2] at e3
      cases e3
      exact ⟨W', si, Le.refl, .str _⟩
  · have : i = z.cps.size := by simpa using e
    show z.cps.size ≤ i
    omega
theorem walk_r {lo : Int} {n : Nat} {l : List D} (hl : l = (List.range n).map fun (k : Nat) => D.int (lo + (k : Nat))) : WalkRel Y W H (Itr lo n) (l, []) := fun i m' W' H' si le so => by
  subst hl
  refine ⟨fun d e => ?_, fun e => ?_⟩
  · rw [List.getElem?_map] at e
    cases e1 : (List.range n)[i]? with
    | none => rw [e1] at e; cases e
    | some c =>
      rw [e1] at e
      cases e
      obtain ⟨h1, h2⟩ := List.getElem?_eq_some_iff.mp e1
      simp at h1 h2
      subst h2
      exact ⟨h1, fun x H2 ⟨e2, e3⟩ => ⟨W', e2 ▸ si, e2 ▸ Le.refl, e3 ▸ .int _⟩⟩
  · show n ≤ i
    simp at e
    omega
theorem newTup {W' : Wd} {H' : Hp} {m' : Mem} {T : Addr} {ob : Obj} {xs : List V} {ds : List D} (si : Y.sit W' H' m') (hT : H' T = none) (nd : ob.dict = none) (r : Y.repL W' H' xs ds) :
    ∃ W2, Y.sit W2 (upd H' T (.frz ob (.tup xs))) m' ∧ Le W' H' W2 (upd H' T (.frz ob (.tup xs))) ∧ Y.rep W2 (upd H' T (.frz ob (.tup xs))) (.ref T) (.tup ds) :=
  ⟨W'.frz T, si.frz hT, le_frz si.w hT, .tup (.inr rfl) upd_same nd (r.mono (le_frz si.w hT))⟩
theorem zip2_at : ∀ (a b : List D) (i : Nat), (zip2 a b)[i]? = match a[i]?, b[i]? with | some x, some y => some (.tup [x, y]) | _, _ => none
  | [], b, i => by cases i <;> simp [zip2]
  | x :: a, [], i => by cases i <;> simp [zip2]
  | x :: a, y :: b, 0 => by simp [zip2]
  | x :: a, y :: b, i + 1 => by simp [zip2, zip2_at a b i]
theorem zip2_len : ∀ (a b : List D), (zip2 a b).length = min a.length b.length
  | [], b => by simp [zip2]
  | x :: a, [] => by simp [zip2]
  | x :: a, y :: b => by simp [zip2, zip2_len a b]
theorem zip3_at : ∀ (a b c : List D) (i : Nat), (zip3 a b c)[i]? = match a[i]?, b[i]?, c[i]? with | some x, some y, some z => some (.tup [x, y, z]) | _, _, _ => none
  | [], b, c, i => by cases i <;> simp [zip3]
  | x :: a, [], c, i => by cases i <;> simp [zip3]
  | x :: a, y :: b, [], i => by cases i <;> simp [zip3]
  | x :: a, y :: b, z :: c, 0 => by simp [zip3]
  | x :: a, y :: b, z :: c, i + 1 => by simp [zip3, zip3_at a b c i]
theorem zip3_len : ∀ (a b c : List D), (zip3 a b c).length = min (min a.length b.length) c.length
  | [], b, c => by simp [zip3]
  | x :: a, [], c => by simp [zip3]
  | x :: a, y :: b, [] => by simp [zip3]
  | x :: a, y :: b, z :: c => by simp [zip3, zip3_len a b c]
theorem enumI_at : ∀ (a : List D) (n i : Nat), (enumI a n)[i]? = a[i]?.map fun x => .tup [.int ((n + i : Nat)), x]
  | [], n, i => by simp [enumI]
  | x :: a, n, 0 => by simp [enumI]
  | x :: a, n, i + 1 => by
    simp only [enumI, List.getElem?_cons_succ]
    rw [enumI_at a (n + 1) i]
    have e : n + 1 + i = n + (i + 1) := by omega
    rw [e]
theorem enumI_len : ∀ (a : List D) (n : Nat), (enumI a n).length = a.length
  | [], n => rfl
  | x :: a, n => by simp [enumI, enumI_len a]
theorem walk_z2 {k1 k2 : Sk} {a b : Addr} {u v : List D × Src} (h1 : SrcIs Y W H k1 a u) (h2 : SrcIs Y W H k2 b v) : WalkRel Y W H (ItZ2 Y.K k1 k2 a b) (zip2 u.1 v.1, u.2 ++ v.2) := fun i m' W' H' si le so => by
  obtain ⟨xs, s1, q1⟩ := h1 W' H' m' si le (by simp only [srcOk, List.all_append, Bool.and_eq_true] at so ⊢; exact so.1)
  obtain ⟨ys, s2, q2⟩ := h2 W' H' m' si le (by simp only [srcOk, List.all_append, Bool.and_eq_true] at so ⊢; exact so.2)
  refine ⟨fun d e => ?_, fun e => ?_⟩
  · rw [zip2_at] at e
    split at e
    · rename_i d1 d2 e1 e2
      cases e
      obtain ⟨x, f1, r1⟩ := q1.get e1
      obtain ⟨y, f2, r2⟩ := q2.get e2
      refine ⟨⟨xs, ys, x, y, s1, s2, f1, f2⟩, fun v' H2 hy => ?_⟩
      obtain ⟨T, ob, x', y', rfl, hT, nd, rfl, g1, g2⟩ := hy
      have g1 := g1 xs s1
      have g2 := g2 ys s2
      rw [f1] at g1
      rw [f2] at g2
      cases g1
      cases g2
      exact newTup si hT nd (.cons r1 (.cons r2 .nil))
    · cases e
  · rw [zip2_len] at e
    refine ⟨xs, ys, s1, s2, ?_, ?_, ?_⟩
    · rw [q1.length]; omega
    · rw [q2.length]; omega
    · rw [q1.length, q2.length]; omega
theorem walk_z3 {k1 k2 k3 : Sk} {a b c : Addr} {u v w : List D × Src} (h1 : SrcIs Y W H k1 a u) (h2 : SrcIs Y W H k2 b v) (h3 : SrcIs Y W H k3 c w) : WalkRel Y W H (ItZ3 Y.K k1 k2 k3 a b c) (zip3 u.1 v.1 w.1, u.2 ++ v.2 ++ w.2) := fun i m' W' H' si le so => by
  obtain ⟨xs, s1, q1⟩ := h1 W' H' m' si le (by simp only [srcOk, List.all_append, Bool.and_eq_true] at so ⊢; exact so.1.1)
  obtain ⟨ys, s2, q2⟩ := h2 W' H' m' si le (by simp only [srcOk, List.all_append, Bool.and_eq_true] at so ⊢; exact so.1.2)
  obtain ⟨zs, s3, q3⟩ := h3 W' H' m' si le (by simp only [srcOk, List.all_append, Bool.and_eq_true] at so ⊢; exact so.2)
  refine ⟨fun d e => ?_, fun e => ?_⟩
  · rw [zip3_at] at e
    split at e
    · rename_i d1 d2 d3 e1 e2 e3
      cases e
      obtain ⟨x, f1, r1⟩ := q1.get e1
      obtain ⟨y, f2, r2⟩ := q2.get e2
      obtain ⟨z, f3, r3⟩ := q3.get e3
      refine ⟨⟨xs, ys, zs, x, y, z, s1, s2, s3, f1, f2, f3⟩, fun v' H2 hy => ?_⟩
      obtain ⟨T, ob, x', y', z', rfl, hT, nd, rfl, g1, g2, g3⟩ := hy
      have g1 := g1 xs s1
      have g2 := g2 ys s2
      have g3 := g3 zs s3
      rw [f1] at g1
      rw [f2] at g2
      rw [f3] at g3
      cases g1
      cases g2
      cases g3
      exact newTup si hT nd (.cons r1 (.cons r2 (.cons r3 .nil)))
    · cases e
  · rw [zip3_len] at e
    refine ⟨xs, ys, zs, s1, s2, s3, ?_, ?_, ?_, ?_⟩
    · rw [q1.length]; omega
    · rw [q2.length]; omega
    · rw [q3.length]; omega
    · rw [q1.length, q2.length, q3.length]; omega
theorem walk_e {k1 : Sk} {a : Addr} {u : List D × Src} (h1 : SrcIs Y W H k1 a u) : WalkRel Y W H (ItE1 Y.K k1 a) (enumI u.1 0, u.2) := fun i m' W' H' si le so => by
  obtain ⟨xs, s1, q1⟩ := h1 W' H' m' si le so
  refine ⟨fun d e => ?_, fun e => ?_⟩
  · rw [enumI_at] at e
    obtain ⟨d1, e1, rfl⟩ := Option.map_eq_some_iff.mp e
    obtain ⟨x, f1, r1⟩ := q1.get e1
    refine ⟨⟨xs, x, s1, f1⟩, fun v' H2 hy => ?_⟩
    obtain ⟨T, ob, x', rfl, hT, nd, rfl, g1⟩ := hy
    have g1 := g1 xs s1
    rw [f1] at g1
    cases g1
    have e0 : ((0 + i : Nat) : Int) = (i : Int) := by omega
    rw [e0]
    exact newTup si hT nd (.cons (.int _) (.cons r1 .nil))
  · rw [enumI_len] at e
    exact ⟨xs, s1, by rw [q1.length]; exact e⟩
end

/-! ### iter(..) by values -/
section
variable {X : Cx} {Y : Yx} {pins : List (Addr × Obj)} {s : Shared} {σ : L2.St} {H : Hp} {tg : Expr} {R : It → Hp → Prop}
theorem iter_l {a : Addr} {xs : List V} (I : Inv X pins σ H s) (hq : SqL X.K H a xs) (q : R (Itl X.K a) H) : wpAny (model X.prog X.w) X.A (pyIter (.ref a)) (PIE X pins σ tg R) X.xe s := by
  obtain ⟨its, rv, p, hz⟩ := I.list hq
  refine wpAny_pyIter_list p.isList ?_
  refine ⟨s.heap.objs.size, [s.heap.objs.size], _, _, H, rfl, I.kept (t' := s.toks) fun b o e => Heap.get?_push_of_some _ e, turn_list a _, ⟨_, Heap.get?_push_size _ rfl, rfl, rfl⟩, fun b hb => ?_, q⟩
  obtain rfl : b = s.heap.objs.size := by simpa using hb
  exact I.fpOk (Nat.le_refl _) (I.hok.fresh (Nat.le_refl _))
theorem iter_t {a : Addr} {xs : List V} (I : Inv X pins σ H s) (hq : SqT X.K H a xs) (q : R (Itt X.K a) H) : wpAny (model X.prog X.w) X.A (pyIter (.ref a)) (PIE X pins σ tg R) X.xe s := by
  obtain ⟨its, rv, p, hz⟩ := I.tuple hq
  refine wpAny_pyIter_tuple (show s.heap.IsTuple a its.toArray from p) ?_
  refine ⟨s.heap.objs.size, [s.heap.objs.size], _, _, H, rfl, I.kept (t' := s.toks) fun b o e => Heap.get?_push_of_some _ e, turn_tuple a _, ⟨_, Heap.get?_push_size _ rfl, rfl, rfl⟩, fun b hb => ?_, q⟩
  obtain rfl : b = s.heap.objs.size := by simpa using hb
  exact I.fpOk (Nat.le_refl _) (I.hok.fresh (Nat.le_refl _))
theorem iter_s {z : Str} {t : Tok} (I : Inv X pins σ H s) (q : R (Its z) H) : wpAny (model X.prog X.w) X.A (pyIter (.str z t)) (PIE X pins σ tg R) X.xe s := by
  cases ha : z.cps.all (· < 128)
  · exact wpAny_pyIter_wide ha (pi_one (tk := s.toks) I _ (turn_str _ z t "str_iterator" (.inr rfl)) ⟨_, Heap.get?_push_size _ rfl, rfl, rfl⟩ q)
  · exact wpAny_pyIter_ascii ha (pi_one (tk := s.toks) I _ (turn_str _ z t "str_ascii_iterator" (.inl rfl)) ⟨_, Heap.get?_push_size _ rfl, rfl, rfl⟩ q)
/-- iter of a value, by its data -/
theorem iter_sound (hK : X.K = Y.K) {v : V} {u : Value} {W : Wd} {m : Mem} {d : D} {w : List D × Src} (I : Inv X pins σ H s) (ru : RelV v u) (si : Y.sit W H m) (r : Y.rep W H v d) (e : walkS m d = some w) (q : ∀ J, WalkRel Y W H J w → R J H) :
    wpAny (model X.prog X.w) X.A (pyIter u) (PIE X pins σ tg R) X.xe s := by
  unfold walkS at e
  split at e
  · cases e
    obtain rfl := r.str_
    obtain ⟨t, rfl⟩ := ru
    exact iter_s I (q _ walk_s)
  · obtain ⟨k, a, rfl, hs⟩ := walkD_is si r e
    obtain rfl : u = Value.ref a := ru
    by_cases so : srcOk w.2 m = true
    · obtain ⟨xs, h1, _⟩ := hs W H m si Lf.refl so
      cases k with
      | l => exact iter_l I (hK ▸ h1) (by rw [hK]; exact q _ (walk_l hs))
      | t => exact iter_t I (hK ▸ h1) (by rw [hK]; exact q _ (walk_t hs))
    · exfalso
      apply so
      unfold walkD at e
      split at e <;> first | (cases e; done) | skip
      · cases e; rfl
      · cases e; rfl
      · split at e
        · rename_i h2; cases e; simp [srcOk, h2]
        · cases e
theorem walkD_src {m : Mem} {d : D} {w : List D × Src} (e : walkD m d = some w) : srcOk w.2 m = true := by
  unfold walkD at e
  split at e <;> first | (cases e; done) | skip
  · cases e; rfl
  · cases e; rfl
  · split at e
    · rename_i h2; cases e; simp [srcOk, h2]
    · cases e
end

/-! ### the iterables of a for or a comprehension -/
section
variable {X : Cx} {Y : Yx} {tg : Expr}
theorem pi_seq (hK : X.K = Y.K) {e : Expr} {te : TE} (he : PE X e te) : PI X tg e (fun σ H R => te σ H fun x H1 => ∃ W m d w, Y.sit W H1 m ∧ Y.rep W H1 x d ∧ walkS m d = some w ∧ ∀ J, WalkRel Y W H1 J w → R J H1) := by
  refine ⟨fun pins s σ H R I h => ?_⟩
  refine thn (he.run pins s σ H _ I h) fun v s1 ⟨x, H1, I1, r1, W, m, d, w, si, r, e, q⟩ => ?_
  exact iter_sound hK I1 r1 si r e q
theorem pi_zip2 (hK : X.K = Y.K) {e e2 : Expr} {ta : TA} {p pos tpos : Pos} {elts : List Expr} {kk : Nat} (hg : Gl X "zip") (hm : X.mg "zip" = none) (ha : PA X [e, e2] ta)
    (hs : starEach [e, e2] X.env = (false, eval e X.env) :: starEach [e2] X.env) (hpl : (backTo pos (starEach [e2] X.env)).any (·.1) = false) :
    PI X (.Tuple elts kk tpos) (.Call (.Name "zip" p) [e, e2] [] pos) (fun σ H R => ta σ H fun vs H1 => ∃ W m d1 d2 w1 w2, Y.sit W H1 m ∧ Y.repL W H1 vs [d1, d2] ∧ walkD m d1 = some w1 ∧ walkD m d2 = some w2 ∧
      ∀ J, WalkRel Y W H1 J (zip2 w1.1 w2.1, w1.2 ++ w2.2) → R J H1) := by
  refine ⟨fun pins s σ H R I h => ?_⟩
  refine Call_ (ld_blt I hg hm PyProof.Rows.boot_zip (PyProof.Rows.callWith_type1 (thn (ha.run pos pins s σ H _ I h) fun us s1 ⟨vs, H1, I1, r1, W, m, d1, d2, w1, w2, si, rs, e1, e2, q1⟩ => ?_) hs hpl))
  obtain ⟨v1, v2, rfl, rv1, rv2⟩ := RepL.two rs
  obtain ⟨k1, a, rfl, h1⟩ := walkD_is si rv1 e1
  obtain ⟨k2, b, rfl, h2⟩ := walkD_is si rv2 e2
  obtain ⟨xs, g1, _⟩ := h1 W H1 m si Lf.refl (walkD_src e1)
  obtain ⟨ys, g2, _⟩ := h2 W H1 m si Lf.refl (walkD_src e2)
  obtain ⟨u1, u2, rfl, ru1, ru2⟩ := vals2 r1
  obtain rfl : u1 = Value.ref a := ru1
  obtain rfl : u2 = Value.ref b := ru2
  obtain ⟨its, rv, p1⟩ := k1.inv I1 (hK ▸ g1)
  obtain ⟨its2, rv', p2⟩ := k2.inv I1 (hK ▸ g2)
  have la := k1.lt p1
  have lb := k2.lt p2
  refine zip_begins2 (k1.begins a its.toArray) (k2.begins b its2.toArray) p1 p2 fun h' hz hTI hTO o1 o2 hsz hk => wpAny_pyIter_zip hz ?_
  have I2 : Inv X pins σ H1 { s1 with heap := h' } := I1.kept (t' := s1.toks) hk
  refine ⟨s1.heap.objs.size + 4, [s1.heap.objs.size + 4, s1.heap.objs.size + 2, s1.heap.objs.size + 3, s1.heap.objs.size, s1.heap.objs.size + 1], _, _, H1, rfl, I2,
    turn_zip2 (k1 := k1) (k2 := k2) (zip_sep2 (fp1 := [a]) (fp2 := [b]) (by simpa using la) (by simpa using lb)) (Nat.ne_of_lt la) (Nat.ne_of_lt (Nat.lt_of_lt_of_le lb (Nat.le_add_right _ _))), ⟨hz, hTI, ⟨_, _, hTO⟩, k1.it0 o1, k2.it0 o2⟩, fun c hcm => ?_, by rw [hK]; exact q1 _ (walk_z2 h1 h2)⟩
  have hle : s1.heap.objs.size ≤ c := by
    have e' : c = s1.heap.objs.size + 4 ∨ c = s1.heap.objs.size + 2 ∨ c = s1.heap.objs.size + 3 ∨ c = s1.heap.objs.size ∨ c = s1.heap.objs.size + 1 := by simpa using hcm
    have q : ∀ n : Nat, n ≤ n + 4 ∧ n ≤ n + 2 ∧ n ≤ n + 3 ∧ n ≤ n ∧ n ≤ n + 1 := fun n => by omega
    obtain ⟨q1, q2, q3, q4, q5⟩ := q s1.heap.objs.size
    rcases e' with z | z | z | z | z <;> rw [z] <;> assumption
  exact I1.fpOk hle (I1.hok.fresh hle)
theorem pi_zip3 (hK : X.K = Y.K) {e e2 e3 : Expr} {ta : TA} {p pos tpos : Pos} {elts : List Expr} {kk : Nat} (hg : Gl X "zip") (hm : X.mg "zip" = none) (ha : PA X [e, e2, e3] ta)
    (hs : starEach [e, e2, e3] X.env = (false, eval e X.env) :: starEach [e2, e3] X.env) (hpl : (backTo pos (starEach [e2, e3] X.env)).any (·.1) = false) :
    PI X (.Tuple elts kk tpos) (.Call (.Name "zip" p) [e, e2, e3] [] pos) (fun σ H R => ta σ H fun vs H1 => ∃ W m d1 d2 d3 w1 w2 w3, Y.sit W H1 m ∧ Y.repL W H1 vs [d1, d2, d3] ∧ walkD m d1 = some w1 ∧ walkD m d2 = some w2 ∧ walkD m d3 = some w3 ∧
      ∀ J, WalkRel Y W H1 J (zip3 w1.1 w2.1 w3.1, w1.2 ++ w2.2 ++ w3.2) → R J H1) := by
  refine ⟨fun pins s σ H R I h => ?_⟩
  refine Call_ (ld_blt I hg hm PyProof.Rows.boot_zip (PyProof.Rows.callWith_type1 (thn (ha.run pos pins s σ H _ I h) fun us s1 ⟨vs, H1, I1, r1, W, m, d1, d2, d3, w1, w2, w3, si, rs, e1, e2, e3, q1⟩ => ?_) hs hpl))
  cases rs with
  | cons rv1 rs =>
  cases rs with
  | cons rv2 rs =>
  cases rs with
  | cons rv3 rs =>
  cases rs
  obtain ⟨k1, a, rfl, h1⟩ := walkD_is si rv1 e1
  obtain ⟨k2, b, rfl, h2⟩ := walkD_is si rv2 e2
  obtain ⟨k3, c, rfl, h3⟩ := walkD_is si rv3 e3
  obtain ⟨xs, g1, _⟩ := h1 W H1 m si Lf.refl (walkD_src e1)
  obtain ⟨ys, g2, _⟩ := h2 W H1 m si Lf.refl (walkD_src e2)
  obtain ⟨zs, g3, _⟩ := h3 W H1 m si Lf.refl (walkD_src e3)
  cases r1 with
  | cons ru1 r1 =>
  cases r1 with
  | cons ru2 r1 =>
  cases r1 with
  | cons ru3 r1 =>
  cases r1
  cases ru1
  cases ru2
  cases ru3
  obtain ⟨its, rv, p1⟩ := k1.inv I1 (hK ▸ g1)
  obtain ⟨its2, rv', p2⟩ := k2.inv I1 (hK ▸ g2)
  obtain ⟨its3, rv'', p3⟩ := k3.inv I1 (hK ▸ g3)
  have la := k1.lt p1
  have lb := k2.lt p2
  have lc := k3.lt p3
  refine zip_begins3 (k1.begins a its.toArray) (k2.begins b its2.toArray) (k3.begins c its3.toArray) p1 p2 p3 fun h' hz hTI hTO o1 o2 o3 hsz hk => wpAny_pyIter_zip hz ?_
  have I2 : Inv X pins σ H1 { s1 with heap := h' } := I1.kept (t' := s1.toks) hk
  refine ⟨s1.heap.objs.size + 5, [s1.heap.objs.size + 5, s1.heap.objs.size + 3, s1.heap.objs.size + 4, s1.heap.objs.size, s1.heap.objs.size + 1, s1.heap.objs.size + 2], _, _, H1, rfl, I2,
    turn_zip3 (k1 := k1) (k2 := k2) (k3 := k3) (zip_sep3 (fp1 := [a]) (fp2 := [b]) (fp3 := [c]) (by simpa using la) (by simpa using lb) (by simpa using lc)) (Nat.ne_of_lt la) (Nat.ne_of_lt (Nat.lt_of_lt_of_le lb (Nat.le_add_right _ _))) (Nat.ne_of_lt (Nat.lt_of_lt_of_le lc (Nat.le_add_right _ _))), ⟨hz, hTI, ⟨_, _, _, hTO⟩, k1.it0 o1, k2.it0 o2, k3.it0 o3⟩, fun d hcm => ?_, by rw [hK]; exact q1 _ (walk_z3 h1 h2 h3)⟩
  have hle : s1.heap.objs.size ≤ d := by
    have e' : d = s1.heap.objs.size + 5 ∨ d = s1.heap.objs.size + 3 ∨ d = s1.heap.objs.size + 4 ∨ d = s1.heap.objs.size ∨ d = s1.heap.objs.size + 1 ∨ d = s1.heap.objs.size + 2 := by simpa using hcm
    have q : ∀ n : Nat, n ≤ n + 5 ∧ n ≤ n + 3 ∧ n ≤ n + 4 ∧ n ≤ n ∧ n ≤ n + 1 ∧ n ≤ n + 2 := fun n => by omega
    obtain ⟨q1, q2, q3, q4, q5, q6⟩ := q s1.heap.objs.size
    rcases e' with z | z | z | z | z | z <;> rw [z] <;> assumption
  exact I1.fpOk hle (I1.hok.fresh hle)
/-- enumerate(v): the new enumerate over a new iterator -/
theorem meets_enumNew {v : Value} {o : Obj} {Hb : Heap → Prop} (B : Begins v o Hb) :
    Meets (Builtin.«enumerate.__new__» ⟨[.type "enumerate", v], []⟩) (fun _ R s => Hb s.heap ∧
      R (.ok (.ret (.ref (s.heap.push o).objs.size))) { s with heap := (s.heap.push o).push { cls := .type "enumerate", data := .fields #[.none, .bool false, .ref s.heap.objs.size, rawInt 0, .none, .none] } }) :=
  .of_wp fun prog w A R s h => by
    obtain ⟨hp, g, d, tk, os⟩ := s
    obtain ⟨h1, h⟩ := h
    have hsub := sub_enumerate
    have it : ∀ {A' : Around} {E : Value → Shared → Prop} {Q : Value → Shared → Prop}, Q (.ref hp.objs.size) ⟨hp.push o, g, d, tk, os⟩ → wpAny (model prog w) A' (pyIter v) Q E ⟨hp, g, d, tk, os⟩ :=
      fun q => B.iter prog w _ _ ⟨hp, g, d, tk, os⟩ _ h1 q
    wp_walk using it
    refine wpAny_stack_any fun st => wpAny_pure ?_
    split
    · rename_i c _ _ _ _ _
      cases (c == Value.type "enumerate") <;> (wp_walk using it; exact ⟨_, rfl, h⟩)
    · wp_walk using it
      exact ⟨_, rfl, h⟩
theorem enum_new {prog : Program} {w : World} {A : Around} {E : Value → Shared → Prop} {s : Shared} {v : Value} {o : Obj} {Hb : Heap → Prop} {Q : Value → Shared → Prop} (B : Begins v o Hb) (h1 : Hb s.heap)
    (h : ∀ h', IsEnum h' (s.heap.objs.size + 1) s.heap.objs.size 0 .none → h'.get? s.heap.objs.size = some o → (∀ b o, s.heap.get? b = some o → h'.get? b = some o) → Q (.ref (s.heap.objs.size + 1)) { s with heap := h' }) :
    wpAny (model prog w) A (call (.type "enumerate") [v]) Q E s := by
  refine callType_new F.called_enumerate (by decide) (F.typeCall_enumerate_1 _) (F.newCall_enumerate_1 _) (fun obj => F.args_object_init_2 obj _) F.entry_enumerate_new (meets_enumNew B) ⟨h1, ?_⟩
  have hz : (s.heap.push o).objs.size = s.heap.objs.size + 1 := Heap.size_push ..
  show _ ∧ _
  rw [hz]
  have he : IsEnum ((s.heap.push o).push { cls := .type "enumerate", data := .fields #[.none, .bool false, .ref s.heap.objs.size, rawInt 0, .none, .none] }) (s.heap.objs.size + 1) s.heap.objs.size 0 .none := by
    have q := Heap.get?_push_size (s.heap.push o) (o := { cls := .type "enumerate", data := .fields #[.none, .bool false, .ref s.heap.objs.size, rawInt 0, .none, .none] }) rfl
    rw [hz] at q
    exact q
  exact ⟨⟨_, he, rfl⟩, h _ he (Heap.get?_push_of_some _ (Heap.get?_push_size _ B.free)) fun b o x => Heap.get?_push_of_some _ (Heap.get?_push_of_some _ x)⟩
theorem pi_enum1 (hK : X.K = Y.K) {e : Expr} {ta : TA} {p pos tpos : Pos} {elts : List Expr} {kk : Nat} (hg : Gl X "enumerate") (hm : X.mg "enumerate" = none) (ha : PA X [e] ta)
    (hs : starEach [e] X.env = (false, eval e X.env) :: starEach [] X.env) (hpl : (backTo pos (starEach [] X.env)).any (·.1) = false) :
    PI X (.Tuple elts kk tpos) (.Call (.Name "enumerate" p) [e] [] pos) (fun σ H R => ta σ H fun vs H1 => ∃ W m d1 w1, Y.sit W H1 m ∧ Y.repL W H1 vs [d1] ∧ walkD m d1 = some w1 ∧
      ∀ J, WalkRel Y W H1 J (enumI w1.1 0, w1.2) → R J H1) := by
  refine ⟨fun pins s σ H R I h => ?_⟩
  refine Call_ (ld_blt I hg hm PyProof.Rows.boot_enumerate (PyProof.Rows.callWith_type1 (thn (ha.run pos pins s σ H _ I h) fun us s1 ⟨vs, H1, I1, r1, W, m, d1, w1, si, rs, e1, q1⟩ => ?_) hs hpl))
  obtain ⟨v1, rfl, rv1⟩ := RepL.one rs
  obtain ⟨k1, a, rfl, h1⟩ := walkD_is si rv1 e1
  obtain ⟨xs, g1, _⟩ := h1 W H1 m si Lf.refl (walkD_src e1)
  obtain ⟨u1, rfl, ru1⟩ := vals1 r1
  obtain rfl : u1 = Value.ref a := ru1
  obtain ⟨its, rv, p1⟩ := k1.inv I1 (hK ▸ g1)
  have la := k1.lt p1
  refine enum_new (k1.begins a its.toArray) p1 fun h' he o1 hk => wpAny_pyIter_enum he ?_
  have I2 : Inv X pins σ H1 { s1 with heap := h' } := I1.kept (t' := s1.toks) hk
  refine ⟨s1.heap.objs.size + 1, [s1.heap.objs.size + 1, s1.heap.objs.size], _, _, H1, rfl, I2,
    turn_enum (k1 := k1) (a := a) (Nat.succ_ne_self _) (Ne.symm (Nat.ne_of_lt (Nat.lt_of_lt_of_le la (Nat.le_add_right _ _)))) (Nat.ne_of_lt la), ⟨⟨_, he⟩, k1.it0 o1⟩, fun d hcm => ?_, by rw [hK]; exact q1 _ (walk_e h1)⟩
  have hle : s1.heap.objs.size ≤ d := by
    have e' : d = s1.heap.objs.size + 1 ∨ d = s1.heap.objs.size := by simpa using hcm
    rcases e' with z | z <;> rw [z] <;> omega
  exact I1.fpOk hle (I1.hok.fresh hle)
end
end Ev

set_option Elab.async false
set_option linter.all false
set_option maxRecDepth 100000
/-! Ev8: the small language against the text (chk), what a def's promise is (spOf, FnG), calls. -/
namespace Ev
open PySem PySem.Spec PyProof.Rows L2

/-! ### the static check -/
/-- what the k-th promise of the table is for -/
inductive FK where
  | fn (x : Str) | prop (c : Nat) (x : Str) | init (c : Nat) | meth (c : Nat) (x : Str) | kw (x : Str) (ks : List Str) (perm : List Nat) | len (c : Nat) | str (c : Nat)
  deriving DecidableEq
structure Cfg where
  /-- the def's names by slot -/
  N : List Str
  /-- the defs, properties, classes that it uses, as the table has them -/
  fn : List FK := []
  /-- the module's constants -/
  gl : List Str := []
  /-- the classes' names and fields -/
  cl : List (Str × List Str) := []
def visB (sc : Scope) (x : Str) : Bool := match sc.names.lookup x with
  | some .local | some .cell | some .free => true
  | _ => false
def locB (sc : Scope) (x : Str) : Bool := match sc.names.lookup x with
  | some .local | some .cell => true
  | _ => false
def glB (sc : Scope) (x : Str) : Bool := decide (sc.names.lookup x = some .globalImplicit) && !(x == ("__debug__" : Str))
def okN (x : Str) : Bool := !(x == ("__debug__" : Str)) && !(x == ("__classdict__" : Str))
def atN (l : List Str) (i : Nat) (x : Str) : Bool := decide (l[i]? = some x)
def atF (l : List FK) (i : Nat) (x : FK) : Bool := decide (l[i]? = some x)
def Sq.fk (c : Nat) : Sq → FK
  | .len => .len c | .str => .str c
/-- a name that may be stored: of the block, or of the def -/
def locO (own : Option (Scope × List Nat)) (sc : Scope) (x : Str) : Bool := match own with
  | some p => locB p.1 x
  | none => locB sc x
def ownO (own : Option (Scope × List Nat)) (i : Nat) : Bool := match own with
  | some p => decide (i ∈ p.2)
  | none => true
/-- no call of super() -/
def plainB : Expr → Bool
  | .Call (.Name _ _) [] [] _ => false
  | _ => true
/-- truth by the value alone -/
def plainT : Expr → Bool
  | .UnaryOp .Not _ _ => false
  | .BoolOp .. => false
  | .IfExp .. => false
  | .Compare .. => false
  | _ => true
def Ty.nm (C : Cfg) : Ty → Option Str
  | .int => some "int" | .bool => some "bool" | .str => some "str" | .tuple => some "tuple" | .list => some "list" | .dict => some "dict"
  | .cls c => C.cl[c]?.map (·.1)
def Sq.nm : Sq → Str
  | .len => "len" | .str => "str"
def ownM (N : List Str) (own : List Nat) : List (Str × Nat) := own.map fun i => ((N[i]?).getD "", i)
theorem ownM_snd {N : List Str} {own : List Nat} : (ownM N own).map (·.2) = own := by
  unfold ownM
  rw [List.map_map]
  exact (List.map_congr_left fun i _ => rfl).trans (List.map_id own)
def relC (scope sc : Scope) : Scope := relS scope sc
mutual
def chkE (C : Cfg) (g : Bool) (sc : Scope) : E → Expr → Bool
  | .v i, .Name x _ => atN C.N i x && visB sc x && okN x
  | .non, .Constant .none _ _ => true
  | .bl b, .Constant (.bool c) _ _ => b == c
  | .int i, .Constant (.int j) _ _ => i == j
  | .str s, .Constant (.str t) _ _ => s == t
  | .g i, .Name x _ => atN C.gl i x && glB sc x
  | .bin o a b, .BinOp x p y _ => decide (o = p) && chkE C g sc a x && chkE C g sc b y
  | .neg a, .UnaryOp .USub x _ => chkE C g sc a x
  | .not a, .UnaryOp .Not x _ => chkE C g sc a x
  | .and a b, .BoolOp .And (x :: y :: r) p => chkE C g sc a x && (match r with
    | [] => chkE C g sc b y
    | z :: r => chkE C g sc b (.BoolOp .And (y :: z :: r) p))
  | .or a b, .BoolOp .Or (x :: y :: r) p => chkE C g sc a x && (match r with
    | [] => chkE C g sc b y
    | z :: r => chkE C g sc b (.BoolOp .Or (y :: z :: r) p))
  | .cmp o a b, .Compare x [p] [y] _ => decide (o = p) && chkE C g sc a x && chkE C g sc b y
  | .chain o p a b c, .Compare x [q, r] [y, z] _ => decide (o = q) && decide (p = r) && chkE C g sc a x && chkE C g sc b y && chkE C g sc c z
  | .ife c a b, .IfExp x y z _ => chkE C g sc c x && chkE C g sc a y && chkE C g sc b z
  | .tup l, .Tuple es _ _ => chkD C g sc l es
  | .lst l, .List es _ => chkD C g sc l es
  | .mlst l, .List es _ => chkD C g sc l es
  | .call k l, .Call (.Name x _) es [] _ => atF C.fn k (.fn x) && glB sc x && chkL C g sc l es
  | .prop k c a, .Attribute x f _ => atF C.fn k (.prop c f) && plainB x && chkE C g sc a x
  | .spec q k c a, .Call (.Name x _) [y] [] _ => x == q.nm && atF C.fn k (q.fk c) && glB sc x && chkE C g sc a y
  | .fld c f a, .Attribute x n _ => (match C.cl[c]? with
    | some p => atN p.2 f n
    | none => false) && plainB x && chkE C g sc a x
  | .mk _ k c l, .Call (.Name x _) es [] _ => atF C.fn k (.init c) && (match C.cl[c]? with
    | some p => p.1 == x
    | none => false) && glB sc x && (match es with | [] => false | _ => true) && chkL C g sc l es
  | .bi b l, .Call (.Name x _) es [] _ => x == b.name && glB sc x && (g || decide (b ≠ .repr)) && (match es with | [] => false | _ => true) && chkL C g sc l es
  | .isi t a, .Call (.Name x _) [y, .Name z _] [] _ => x == ("isinstance" : Str) && glB sc x && decide (t.nm C = some z) && glB sc z && chkE C g sc a y
  | .sm s a l, .Call (.Attribute x f p) es [] q => f == s.name && plainB x && (match es with | [] => false | _ => true) && decide (p.endLine = q.line) && decide (es.length < 20) && decide (s ≠ .count) && chkE C g sc a x && chkL C g sc l es
  | .ix a b, .Subscript x y _ => chkE C g sc a x && chkE C g sc b y
  | .sl a lo hi, .Subscript x (.Slice l h none _) _ => chkE C g sc a x && chkO C g sc lo l && chkO C g sc hi h
  | .lc own e t i c, .ListComp x [⟨tg, it, ifs, n⟩] scope _ => decide (n = 0) && chkI C g sc i tg it && chkT C g (relC scope sc) (some (scope, own)) t tg && chkC C g (relC scope sc) c ifs && chkE C g (relC scope sc) e x &&
    blkC C.N sc scope (ownM C.N own)
  | .mlc own e t i c, .ListComp x [⟨tg, it, ifs, n⟩] scope _ => decide (n = 0) && chkI C g sc i tg it && chkT C g (relC scope sc) (some (scope, own)) t tg && chkC C g (relC scope sc) c ifs && chkE C g (relC scope sc) e x &&
    blkC C.N sc scope (ownM C.N own)
  | .lc2 _ own own1 e t i c t1 i1 c1, .ListComp x [⟨tg, it, ifs, n⟩, ⟨tg1, it1, ifs1, n1⟩] scope _ => decide (n = 0) && decide (n1 = 0) && chkI C g sc i tg it && chkT C g (relC scope sc) (some (scope, own)) t tg && chkC C g (relC scope sc) c ifs && chkI C g (relC scope sc) i1 tg1 it1 &&
    chkT C g (relC scope sc) (some (scope, own1)) t1 tg1 && chkC C g (relC scope sc) c1 ifs1 && chkE C g (relC scope sc) e x && blkC C.N sc scope (ownM C.N own) && own1.all fun i => decide (i ∈ own)
  | .mbin o a b, .BinOp x p y _ => decide (o = p) && chkE C g sc a x && chkE C g sc b y
  | .msm s a l, .Call (.Attribute x f p) es [] q => f == s.name && plainB x && (match es with | [] => false | _ => true) && decide (p.endLine = q.line) && decide (es.length < 20) && decide (s ≠ .count) && chkE C g sc a x && chkL C g sc l es
  | .lenset a, .Call (.Name x _) [.Call (.Name y _) [z] [] _] [] _ => x == ("len" : Str) && y == ("set" : Str) && glB sc x && glB sc y && chkE C g sc a z
  | .callK k perm l, .Call (.Name x _) [] (kw :: kws) _ => (match C.fn[k]? with
    | some (.kw y ks p) => y == x && decide (p = perm) && chkK C g sc l ks (kw :: kws)
    | _ => false) && glB sc x
  | .never, x => (match x with | .Starred .. => false | .Slice .. => false | .Set .. => false | _ => true)
  | _, _ => false
def chkL (C : Cfg) (g : Bool) (sc : Scope) : EL → List Expr → Bool
  | .nil, [] => true
  | .cons e l, x :: r => chkE C g sc e x && chkL C g sc l r
  | _, _ => false
/-- a display: a star at its end -/
def chkD (C : Cfg) (g : Bool) (sc : Scope) : EL → List Expr → Bool
  | .nil, [] => true
  | .cons e l, x :: r => chkE C g sc e x && chkD C g sc l r
  | .star e, [.Starred x _] => chkE C g sc e x
  | _, _ => false
def chkK (C : Cfg) (g : Bool) (sc : Scope) : EL → List Str → List Keyword → Bool
  | .nil, [], [] => true
  | .cons e l, k :: ks, ⟨some n, x, _⟩ :: r => n == k && chkE C g sc e x && chkK C g sc l ks r
  | _, _, _ => false
def chkO (C : Cfg) (g : Bool) (sc : Scope) : Op → Option Expr → Bool
  | .no, none => true
  | .yes e, some x => chkE C g sc e x
  | _, _ => false
def chkC (C : Cfg) (g : Bool) (sc : Scope) : Op → List Expr → Bool
  | .no, [] => true
  | .yes e, [x] => chkE C g sc e x
  | _, _ => false
def chkT (C : Cfg) (g : Bool) (sc : Scope) (own : Option (Scope × List Nat)) : T → Expr → Bool
  | .nm i, .Name x _ => atN C.N i x && locO own sc x && ownO own i
  | .tup l, .Tuple es _ _ => chkTL C g sc own l es
  | .ix a b, .Subscript x y _ => own.isNone && chkE C g sc a x && chkE C g sc b y
  | _, _ => false
def chkTL (C : Cfg) (g : Bool) (sc : Scope) (own : Option (Scope × List Nat)) : TL → List Expr → Bool
  | .nil, [] => true
  | .cons t l, x :: r => chkT C g sc own t x && chkTL C g sc own l r
  | _, _ => false
/-- what is gone through; the target besides -/
def chkI (C : Cfg) (g : Bool) (sc : Scope) : I → Expr → Expr → Bool
  | .seq e, _, x => chkE C g sc e x
  | .rng l, _, .Call (.Name x _) es [] _ => x == ("range" : Str) && glB sc x && decide (es.length = 1 ∨ es.length = 2) && chkL C g sc l es
  | .zip l, .Tuple .., .Call (.Name x _) es [] _ => x == ("zip" : Str) && glB sc x && decide (es.length = 2 ∨ es.length = 3) && chkL C g sc l es
  | .enum e, .Tuple .., .Call (.Name x _) [y] [] _ => x == ("enumerate" : Str) && glB sc x && chkE C g sc e y
  | _, _, _ => false
end

/-! ### what is written is no star, slice, set -/
def Pl : Expr → Prop
  | .Starred .. => False
  | .Slice .. => False
  | .Set .. => False
  | _ => True
theorem chkE_form {C : Cfg} {g : Bool} {sc : Scope} : ∀ {e : E} {x : Expr}, chkE C g sc e x = true → Pl x := by
  intro e x h
  cases x <;> first | trivial | (exfalso; cases e <;> simp [chkE] at h)
theorem star_one {x : Expr} (h : Pl x) (es : List Expr) (env : PySem.Env) : starEach (x :: es) env = (false, eval x env) :: starEach es env := by
  cases x <;> first | rfl | exact False.elim h
theorem plain_back {pos : Pos} : ∀ {l : List (Bool × Sem Value)}, l.any (·.1) = false → (backTo pos l).any (·.1) = false := by
  intro l h
  unfold backTo
  rw [List.any_map]
  exact h
theorem chkL_plain {C : Cfg} {g : Bool} {sc : Scope} {env : PySem.Env} : ∀ {l : EL} {es : List Expr}, chkL C g sc l es = true → (starEach es env).any (·.1) = false
  | .nil, [], _ => rfl
  | .nil, _ :: _, h => by simp [chkL] at h
  | .cons _ _, [], _ => rfl
  | .star _, [], h => by simp [chkL] at h
  | .star _, _ :: _, h => by simp [chkL] at h
  | .cons e l, x :: r, h => by
    simp only [chkL, Bool.and_eq_true] at h
    rw [star_one (chkE_form h.1) r env]
    show (false || (starEach r env).any (·.1)) = false
    rw [chkL_plain h.2]
    rfl
theorem chkL_few {C : Cfg} {g : Bool} {sc : Scope} {env : PySem.Env} {pos : Pos} {l : EL} {es : List Expr} (h : chkL C g sc l es = true) (hl : es.length < 20) :
    ((backTo pos (starEach es env)).all (fun x => !x.1) && (backToKw pos (keywordEach [] env)).all (fun x => x.1.isSome) && decide (es.length + ([] : List Keyword).length + (if ([] : List Keyword).isEmpty then 0 else 1) < 30)) = true := by
  have h1 : (backTo pos (starEach es env)).all (fun x => !x.1) = true := by
    have q := plain_back (pos := pos) (chkL_plain (env := env) h)
    rw [List.all_eq_true]
    intro x hx
    have := List.any_eq_false.mp q x hx
    simpa using this
  rw [h1]
  have h2 : decide (es.length + ([] : List Keyword).length + (if ([] : List Keyword).isEmpty then 0 else 1) < 30) = true := by
    simp
    omega
  rw [h2]
  rfl
theorem base_plain {x : Expr} {f : Str} {env : PySem.Env} (h : plainB x = true) : attributeBase x f env (eval x env) = eval x env := by
  unfold attributeBase
  split
  · rename_i id p pos
    simp [plainB] at h
  · rfl
theorem true_plain {x : Expr} {env : PySem.Env} (h : plainT x = true) : ∀ whole, isTrue x env whole = (do let v ← whole; standAt x.pos; holding [v] (truthy v)) := by
  intro whole
  cases x with
  | UnaryOp op a p => cases op <;> first | rfl | simp [plainT] at h
  | BoolOp => simp [plainT] at h
  | IfExp => simp [plainT] at h
  | Compare => simp [plainT] at h
  | _ => rfl
theorem sub_plain {x : Expr} (h : Pl x) : PlainIx x := by
  intro o i
  cases x <;> first | rfl | exact False.elim h
theorem set_plain {x : Expr} {env : PySem.Env} (h : Pl x) : ∀ v, foldedSetIterable x env v = pure v := by
  intro v
  cases x <;> first | rfl | exact False.elim h
theorem mark_plain {x : Expr} {o : CmpOp} (h : Pl x) : behindInMarks o x = false := by
  cases x <;> first | rfl | exact False.elim h
theorem marks_plain {x y : Expr} {o p : CmpOp} (h : Pl y) : lastMarks [o, p] [x, y] = false := by
  show behindInMarks p y = false
  exact mark_plain h

/-! ### a promise -/
/-- what a def that answers as f keeps -/
def spOf (Y : Yx) (n : Nat) (f : List D → Mem → R D) : Sp := fun vs H Q E => vs.length = n ∧ ∃ W m ds, Sit Y.K Y.CT W H m ∧ RepL Y.K Y.CT W H vs ds ∧ Out { Y with E := E } W H (f ds m) Y.rep Q
/-- as FnOk, where no repr runs -/
structure FnG (P : Program) (w : World) (K : PySem.W.Frag) (mg : Str → Option Value) (base : Heap) (k : Nat) (f : Addr) (fd : FuncData) (ps : List Str) (sp : Sp) : Prop where
  len : ∀ vs H Q E, sp vs H Q E → vs.length = ps.length
  run : ∀ (A : Around) (outer : List PySem.Env) (s : Shared) (H : Hp) (args : Args) (us : List Value) (vs : List V) (Q : VK) (E : XK), Room k A → A.guards = some [] → Env0 P w K mg base A outer s H → BindsTo s fd args (ps.zip us) → Vals vs us → sp vs H Q E →
    codeAny (model P w) A (.call (.ref f) args) (CR (L2.CX P w) outer P w H s Q E) s
theorem FnG.of {P : Program} {w : World} {K : PySem.W.Frag} {mg : Str → Option Value} {base : Heap} {k : Nat} {f : Addr} {fd : FuncData} {ps : List Str} {sp : Sp} (F : FnOk P w K mg base (L2.CX P w) k f fd ps sp) : FnG P w K mg base k f fd ps sp :=
  ⟨F.len, fun A outer s H args us vs Q E hr _ he hb hv hs => F.run A outer s H args us vs Q E hr he hb hv hs⟩
theorem FnG.mono {P : Program} {w : World} {K : PySem.W.Frag} {mg : Str → Option Value} {base : Heap} {j k : Nat} {f : Addr} {fd : FuncData} {ps : List Str} {sp : Sp} (F : FnG P w K mg base j f fd ps sp) (h : j ≤ k) : FnG P w K mg base k f fd ps sp :=
  ⟨F.len, fun A outer s H args us vs Q E hr hg he hb hv hs => F.run A outer s H args us vs Q E (hr.mono h) hg he hb hv hs⟩
section
variable {X : Cx} {k : Nat} {f : Addr} {fd : FuncData} {ps : List Str} {sp : Sp} {dvs : List V} {ds : List Value} {E : XK} {x : Str} {p pos : Pos} {e : Expr} {es : List Expr} {t : TA}
theorem run_fnG {pins : List (Addr × Obj)} {σ : L2.St} {H : Hp} {s : Shared} {Q : VK} {us : List Value} {vs : List V} (F : FnG X.prog X.w X.K X.mg X.base k f fd ps sp) (hr : Room k X.A) (hg : X.A.guards = some []) (hb : Binds X.K fd ps ds) (hd : Vals dvs ds)
    (hx : Passes (L2.CX X.prog X.w) X E) (I : Inv X pins σ H s) (r : Vals vs us) (h : sp (vs ++ dvs) H Q E) : wpAny (model X.prog X.w) X.A (call (.ref f) us) (EP X pins σ Q) X.xe s := by
  have rr : Vals (vs ++ dvs) (us ++ ds) := r.append hd
  have hl : (us ++ ds).length = ps.length := rr.length ▸ F.len _ _ _ _ h
  refine wpAny_call (codeAny_mono (F.run X.A X.stack s H ⟨us, []⟩ (us ++ ds) (vs ++ dvs) Q E hr hg I.env0 (hb s us I.kIn hl) rr h) fun rs s' hq => ?_)
  match rs, hq with
  | .error e, hq => exact hx pins σ H s e s' I hq
  | .ok (.ret u), hq => exact I.after hq
theorem pe_callG (F : FnG X.prog X.w X.K X.mg X.base k f fd ps sp) (hr : Room k X.A) (hgd : X.A.guards = some []) (hg : Gl X x) (hm : X.mg x = some (.ref f)) (hk : PySem.W.keepIn X.K (.ref f) = true) (hb : Binds X.K fd ps ds) (hd : Vals dvs ds)
    (hx : Passes (L2.CX X.prog X.w) X E) (ha : PA X (e :: es) t) (hdb : (x == ("__debug__" : Str)) = false) (he : starEach (e :: es) X.env = (false, eval e X.env) :: starEach es X.env) (hpl : (backTo pos (starEach es X.env)).any (·.1) = false) :
    PE X (.Call (.Name x p) (e :: es) [] pos) (tCall sp dvs E t) :=
  ⟨fun pins s σ H Q I h => wpAny_Call_Name_kw (ld_glob I hg hm (PySem.W.callWith_K (h₀ := X.base) I.ok.mod.kin hk (thn (ha.run pos pins s σ H _ I h) fun us s1 ⟨vs, H1, I1, r, q⟩ => ⟨I1.kIn, run_fnG F hr hgd hb hd hx I1 r q⟩) he hpl) hdb)⟩
theorem pe_callG0 (F : FnG X.prog X.w X.K X.mg X.base k f fd ps sp) (hr : Room k X.A) (hgd : X.A.guards = some []) (hg : Gl X x) (hm : X.mg x = some (.ref f)) (hk : PySem.W.keepIn X.K (.ref f) = true) (hb : Binds X.K fd ps ds) (hd : Vals dvs ds)
    (hx : Passes (L2.CX X.prog X.w) X E) (hdb : (x == ("__debug__" : Str)) = false) : PE X (.Call (.Name x p) [] [] pos) (tCall sp dvs E tNil) :=
  ⟨fun pins s σ H Q I h => wpAny_Call_Name_kw (ld_glob I hg hm (PySem.W.callWith_K0 I.kIn hk (run_fnG (us := []) F hr hgd hb hd hx I .nil h)) hdb)⟩
end
end Ev

set_option Elab.async false
set_option linter.all false
set_option maxRecDepth 100000
/-! Ev9: what holds around a def's body (OkX), one step of each kind. -/
namespace Ev
open PySem PySem.Spec PyProof.Rows L2

/-! ### the environment of a def -/
/-- a promise at hand, FnOk or (where no repr runs) FnG -/
def Prom (X : Cx) (k : Nat) (fa : Addr) (fd : FuncData) (ps : List Str) (sp : Sp) : Prop :=
  FnOk X.prog X.w X.K X.mg X.base (L2.CX X.prog X.w) k fa fd ps sp ∨ (X.A.guards = some [] ∧ FnG X.prog X.w X.K X.mg X.base k fa fd ps sp)
/-- how a call by keywords alone binds -/
def KwB (K : PySem.W.Frag) (fd : FuncData) (ps ks : List Str) (perm : List Nat) : Prop := (∀ i ∈ perm, i < ks.length) ∧ perm.length = ps.length ∧ ∀ (s : Shared) (ws : List Value), K.In s.heap → ws.length = ks.length → BindsTo s fd ⟨[], ks.zip ws⟩ (ps.zip (pick perm ws))
/-- what stands behind an entry of the table -/
def FOk (X : Cx) (Y : Yx) : FK → (List D → Mem → R D) → Prop
  | .fn x, f => ∃ (k : Nat) (fa : Addr) (fd : FuncData) (ps : List Str) (n : Nat) (h : List D → Mem → R D) (dvs : List V) (ds : List Value) (dds : List D), Prom X k fa fd ps (spOf Y n h) ∧ Room k X.A ∧ X.mg x = some (.ref fa) ∧
      PySem.W.keepIn X.K (.ref fa) = true ∧ Binds X.K fd ps ds ∧ Vals dvs ds ∧ (∀ W H, Y.repL W H dvs dds) ∧ (∀ args m, f args m = h (args ++ dds) m) ∧ ∀ args m, h args m = .bad ∨ args.length = n
  | .kw x ks perm, f => ∃ (k : Nat) (fa : Addr) (fd : FuncData) (ps : List Str) (n : Nat), Prom X k fa fd ps (spOf Y n f) ∧ Room k X.A ∧ X.mg x = some (.ref fa) ∧
      PySem.W.keepIn X.K (.ref fa) = true ∧ KwB X.K fd ps ks perm ∧ ∀ args m, f args m = .bad ∨ args.length = n
  | .prop c x, f => ∃ (k : Nat) (p ga : Addr) (fd : FuncData) (ps : List Str) (ci : ClsI), Y.CT[c]? = some ci ∧ PropOf X.K ci.C x p ga ∧ FnOk X.prog X.w X.K X.mg X.base (L2.CX X.prog X.w) k ga fd ps (spOf Y 1 f) ∧ Room (k + 1) X.A ∧ Binds X.K fd ps []
  | .init c, f => ∃ (k : Nat) (fa : Addr) (fd : FuncData) (ps : List Str) (n : Nat) (ci : ClsI), Y.CT[c]? = some ci ∧ Mk X.K ci.C fa ∧ FnOk X.prog X.w X.K X.mg X.base (L2.CX X.prog X.w) k fa fd ps (spOf Y n f) ∧ Room (k + 1) X.A ∧ Binds X.K fd ps [] ∧ ∀ args m, f args m = .bad ∨ args.length = n
  | .meth c x, f => ∃ (k : Nat) (fa : Addr) (fd : FuncData) (ps : List Str) (n : Nat) (ci : ClsI), Y.CT[c]? = some ci ∧ Meth X.K ci.C x fa ∧ FnOk X.prog X.w X.K X.mg X.base (L2.CX X.prog X.w) k fa fd ps (spOf Y n f) ∧ Room k X.A ∧ Binds X.K fd ps [] ∧ ∀ args m, f args m = .bad ∨ args.length = n
  | .len c, f => ∃ (k : Nat) (fa : Addr) (fd : FuncData) (ps : List Str) (ci : ClsI), Y.CT[c]? = some ci ∧ PySem.W.findIn X.K (.ref ci.C) "__len__" = some (some (.ref fa)) ∧ PySem.W.isFn X.K (.ref fa) = true ∧ FnOk X.prog X.w X.K X.mg X.base (L2.CX X.prog X.w) k fa fd ps (spOf Y 1 f) ∧ Room (k + 1) X.A ∧ Binds X.K fd ps []
  | .str c, f => ∃ (k : Nat) (fa : Addr) (fd : FuncData) (ps : List Str) (ci : ClsI), Y.CT[c]? = some ci ∧ PySem.W.findIn X.K (.ref ci.C) "__str__" = some (some (.ref fa)) ∧ PySem.W.isFn X.K (.ref fa) = true ∧ FnOk X.prog X.w X.K X.mg X.base (L2.CX X.prog X.w) k fa fd ps (spOf Y 1 f) ∧ Room (k + 2) X.A ∧ Binds X.K fd ps []
def bltNames : List Str := ["len", "int", "bool", "str", "abs", "min", "max", "sum", "all", "any", "tuple", "list", "divmod", "repr", "sorted", "dict", "isinstance", "range", "zip", "enumerate", "set"]
structure OkX (X : Cx) (Y : Yx) (C : Cfg) (Γ : Gam) (g : Bool) : Prop where
  hK : X.K = Y.K
  calm : X.calm = true
  nd : X.N.Nodup
  hN : X.N = C.N
  hg : g = true → X.A.guards = some []
  un : X.A.units + 66 < cLine
  cls : ∀ c ci, Y.CT[c]? = some ci → ClsOk X.K Y.CT c ci
  cn : ∀ (c : Nat) (p : Str × List Str), C.cl[c]? = some p → ∃ ci, Y.CT[c]? = some ci ∧ ci.fs = p.2 ∧ X.mg p.1 = some (.ref ci.C) ∧ Γ.cls[c]? = some p.2.length
  fn : ∀ (k : Nat) (e : FK), C.fn[k]? = some e → ∃ f, Γ.fns[k]? = some f ∧ FOk X Y e f
  gl : ∀ (i : Nat) (x : Str) (d : D), C.gl[i]? = some x → Γ.glb[i]? = some d → ∃ v u, X.mg x = some u ∧ RelV v u ∧ ∀ W H, Y.rep W H v d
  bi : ∀ x ∈ bltNames, X.mg x = none
  hx : Passes (L2.CX X.prog X.w) X Y.E
/-- nothing is let out -/
abbrev Yx.nx (Y : Yx) : Yx := { Y with E := fun _ _ _ => False }
theorem OkX.blk {X : Cx} {Y : Yx} {C : Cfg} {Γ : Gam} {g : Bool} (o : OkX X Y C Γ g) (s : Shared) (H : Hp) (scope : Scope) (cenv : PySem.Env) (fp : List Addr) : OkX (X.blk s H scope cenv fp) Y.nx C Γ g where
  hK := o.hK
  calm := o.calm
  nd := o.nd
  hN := o.hN
  hg := o.hg
  un := o.un
  cls := o.cls
  cn := o.cn
  fn := fun k e h1 => by
    obtain ⟨f, h2, q⟩ := o.fn k e h1
    refine ⟨f, h2, ?_⟩
    cases e <;> exact q
  gl := o.gl
  bi := o.bi
  hx := passL

/-! ### promises of expressions -/
section
variable {Y : Yx} {α β γ δ : Type} {f : Env → Mem → R α} {k : Env → α → Mem → R γ} {Rel : Wd → Hp → β → α → Prop} {Rel2 : Wd → Hp → δ → γ → Prop} {σ : L2.St} {H : Hp} {Q : β → Hp → Prop} {Q2 : δ → Hp → Prop}
def tX (Y : Yx) (f : Env → Mem → R α) (Rel : Wd → Hp → β → α → Prop) : L2.St → Hp → (β → Hp → Prop) → Prop := fun σ H Q => ∃ W ρ m, Y.sit W H m ∧ EnvOk Y W H σ ρ ∧ Out Y W H (f ρ m) Rel Q
theorem tX.bind (h : tX Y (fun ρ m => (f ρ m).bind (k ρ)) Rel2 σ H Q2) (hk : ∀ ρ a m b W H', Y.sit W H' m → EnvOk Y W H' σ ρ → Rel W H' b a → Out Y W H' (k ρ a m) Rel2 Q2 → Q b H') : tX Y f Rel σ H Q := by
  obtain ⟨W, ρ, m, si, en, o⟩ := h
  exact ⟨W, ρ, m, si, en, o.bind fun a m1 b W' H' _ si' le rel o' => hk ρ a m1 b W' H' si' (en.mono le) rel o'⟩
end
def RelB : Wd → Hp → Bool → Bool → Prop := fun _ _ b c => b = c
def RelI : Wd → Hp → Option Int → Option Int → Prop := fun _ _ b c => b = c
abbrev tE (Y : Yx) (f : Env → Mem → R D) : TE := tX Y f Y.rep
abbrev tA (Y : Yx) (f : Env → Mem → R (List D)) : TA := tX Y f Y.repL
abbrev tBo (Y : Yx) (f : Env → Mem → R D) : TT := tX Y (fun ρ m => (f ρ m).bind fun x m1 => ofO (toB x) m1) RelB
theorem PE.imp {X : Cx} {x : Expr} {t t' : TE} (h : PE X x t) (k : ∀ σ H Q, t' σ H Q → t σ H Q) : PE X x t' := ⟨fun pins s σ H Q I q => h.run pins s σ H Q I (k _ _ _ q)⟩
theorem PT.imp {X : Cx} {x : Expr} {t t' : TT} (h : PT X x t) (k : ∀ σ H Q, t' σ H Q → t σ H Q) : PT X x t' := ⟨fun pins s σ H Q I q => h.run pins s σ H Q I (k _ _ _ q)⟩
theorem PW.imp {X : Cx} {x : Expr} {t t' : TT} (h : PW X x t) (k : ∀ σ H Q, t' σ H Q → t σ H Q) : PW X x t' := ⟨fun wh pins s σ H Q I q => h.run wh pins s σ H Q I (k _ _ _ q)⟩
theorem PA.imp {X : Cx} {x : List Expr} {t t' : TA} (h : PA X x t) (k : ∀ σ H Q, t' σ H Q → t σ H Q) : PA X x t' := ⟨fun pos pins s σ H Q I q => h.run pos pins s σ H Q I (k _ _ _ q)⟩
theorem PI.imp {X : Cx} {tg x : Expr} {t t' : TI} (h : PI X tg x t) (k : ∀ σ H Q, t' σ H Q → t σ H Q) : PI X tg x t' := ⟨fun pins s σ H Q I q => h.run pins s σ H Q I (k _ _ _ q)⟩
theorem PG.imp {X : Cx} {x : Expr} {t t' : TG} (h : PG X x t) (k : ∀ v σ H Q, t' v σ H Q → t v σ H Q) : PG X x t' := ⟨fun pins s σ H v u Q I r q => h.run pins s σ H v u Q I r (k _ _ _ _ q)⟩
theorem PS.imp {X : Cx} {x : Stmt} {t t' : TS} (h : PS X x t) (k : ∀ D σ H, t' D σ H → t D σ H) : PS X x t' := ⟨fun pins s σ H D I q => h.run pins s σ H D I (k _ _ _ q)⟩
theorem PSs.imp {X : Cx} {x : List Stmt} {t t' : TS} (h : PSs X x t) (k : ∀ D σ H, t' D σ H → t D σ H) : PSs X x t' := ⟨fun pins s σ H D I q => h.run pins s σ H D I (k _ _ _ q)⟩
theorem PO.imp {X : Cx} {x : Option Expr} {t t' : TO} (h : PO X x t) (k : ∀ σ H Q, t' σ H Q → t σ H Q) : PO X x t' := ⟨fun pins s σ H Q I q => h.run pins s σ H Q I (k _ _ _ q)⟩
/-- an expression as a value, as a test -/
structure SE (X : Cx) (x : Expr) (Y : Yx) (f : Env → Mem → R D) : Prop where
  e : PE X x (tE Y f)
  t : PT X x (tBo Y f)
  w : ∀ op l p, x = .BoolOp op l p → PW X x (tBo Y f)
section
variable {X : Cx} {Y : Yx} {x : Expr} {f : Env → Mem → R D}
theorem toB_some {d : D} {b : Bool} (h : toB d = some b) : d = .bl b := by cases d <;> simp [toB] at h; subst h; rfl
theorem SE.of (h : PE X x (tE Y f)) (hp : plainT x = true) : SE X x Y f := by
  refine ⟨h, ?_, fun op l p e => by subst e; simp [plainT] at hp⟩
  refine PT.imp (pt_val h (true_plain hp)) fun σ H Q q => ?_
  refine tX.bind q fun ρ a m b W H' si en rel o => ?_
  obtain ⟨c, e, o⟩ := o.ofO
  obtain rfl := toB_some e
  obtain rfl := rel.bl_
  exact ⟨c, rfl, o.here si rfl⟩
end

/-! ### one step of each kind -/
section
variable {X : Cx} {Y : Yx} {C : Cfg} {Γ : Gam} {g : Bool} {x y z : Expr} {p q : Pos} {fa fb fc : Env → Mem → R D}
theorem se_v {i : Nat} {n : Str} (o : OkX X Y C Γ g) (h : atN C.N i n = true) (hv : visB X.env.scope n = true) (hn : okN n = true) : SE X (.Name n p) Y (evE Γ (.v i)) := by
  simp only [okN, Bool.and_eq_true, Bool.not_eq_true'] at hn
  have vis : Vis X.env.scope n := by
    unfold visB at hv
    split at hv <;> first | exact .inl (by assumption) | exact .inr (.inl (by assumption)) | exact .inr (.inr (by assumption)) | cases hv
  refine SE.of (PE.imp (pe_var (i := i) (by rw [o.hN]; exact of_decide_eq_true h) vis hn.1 hn.2) fun σ H Q ⟨W, ρ, m, si, en, q⟩ => ?_) rfl
  simp only [evE] at q
  cases e : ρ[i]? with
  | none => rw [e] at q; exact q.elim
  | some od =>
    cases od with
    | none => rw [e] at q; exact q.elim
    | some d =>
      rw [e] at q
      obtain ⟨v, e1, r⟩ := en.2 i d e
      exact ⟨v, e1, q.here si r⟩
theorem se_c {v : V} {d : D} (h : PE X x (tC v)) (hp : plainT x = true) (r : ∀ W H, Y.rep W H v d) : SE X x Y (fun _ m => .ok d m) :=
  SE.of (PE.imp h fun σ H Q ⟨W, ρ, m, si, en, q⟩ => q.here si (r W H)) hp
theorem glB_gl {n : Str} (h : glB X.env.scope n = true) : Gl X n ∧ (n == ("__debug__" : Str)) = false := by
  simp only [glB, Bool.and_eq_true, decide_eq_true_eq, Bool.not_eq_true'] at h
  exact h
theorem se_g {i : Nat} {n : Str} (o : OkX X Y C Γ g) (h : atN C.gl i n = true) (hv : glB X.env.scope n = true) : SE X (.Name n p) Y (evE Γ (.g i)) := by
  obtain ⟨hg, hd⟩ := glB_gl hv
  have hp : PE X (.Name n p) (fun σ H Q => ∃ v u, X.mg n = some u ∧ RelV v u ∧ Q v H) := ⟨fun pins s σ H Q I ⟨v, u, hm, r, q⟩ => ld_glob I hg hm ⟨v, H, I, r, q⟩ hd⟩
  refine SE.of (PE.imp hp fun σ H Q ⟨W, ρ, m, si, en, q⟩ => ?_) rfl
  simp only [evE] at q
  obtain ⟨d, e, q⟩ := q.ofO
  obtain ⟨v, u, hm, r, hr⟩ := o.gl i n d (of_decide_eq_true h) e
  exact ⟨v, u, hm, r, q.here si (hr W H)⟩
/-- two operands -/
theorem t2 {r : R2} {h : D → D → Mem → R D} (hr : ∀ W m vx vy dx dy H Q, Y.sit W H m → Y.rep W H vx dx → Y.rep W H vy dy → Out Y W H (h dx dy m) Y.rep Q → r vx vy H Q) {σ : L2.St} {H : Hp} {Q : VK}
    (q : tE Y (fun ρ m => (fa ρ m).bind fun x m1 => (fb ρ m1).bind fun y m2 => h x y m2) σ H Q) : tOp r (tE Y fa) (tE Y fb) σ H Q := by
  refine tX.bind q fun ρ a m b W H' si en rel o => ?_
  exact ⟨W, ρ, m, si, en, o.bind fun dy m2 vy W2 H2 _ si2 le2 rel2 o2 => hr _ _ _ _ _ _ _ _ si2 (rel.mono le2) rel2 o2⟩
theorem se_bin {op : Operator} (o : OkX X Y C Γ g) (ha : SE X x Y fa) (hb : SE X y Y fb) : SE X (.BinOp x op y p) Y (fun ρ m => (fa ρ m).bind fun x m1 => (fb ρ m1).bind fun y m2 => opBin op x y m2) :=
  SE.of (PE.imp (pe_op (bin_sound o.hK op) ha.e hb.e) fun σ H Q q => t2 (fun W m vx vy dx dy H Q si r1 r2 o => ⟨W, m, dx, dy, si, r1, r2, o⟩) q) rfl
theorem se_neg (ha : SE X x Y fa) : SE X (.UnaryOp .USub x p) Y (fun ρ m => (fa ρ m).bind fun x m1 => ofO ((partI x).map fun i => .int (-i)) m1) := by
  refine SE.of (PE.imp (pe_un un_neg ha.e) fun σ H Q q => ?_) rfl
  refine tX.bind q fun ρ a m b W H' si en rel o => ?_
  obtain ⟨d, e, o⟩ := o.ofO
  cases a <;> simp [partI] at e
  subst e
  obtain rfl := rel.int_
  exact ⟨_, rfl, o.here si (.int _)⟩
theorem se_not (ha : SE X x Y fa) : SE X (.UnaryOp .Not x p) Y (fun ρ m => (fa ρ m).bind fun x m1 => ofO ((toB x).map fun b => .bl (!b)) m1) := by
  refine ⟨PE.imp (pe_not ha.e) fun σ H Q q => ?_, PT.imp (pt_not ha.t) fun σ H Q q => ?_, fun op l p e => nomatch e⟩
  · refine tX.bind q fun ρ a m b W H' si en rel o => ?_
    obtain ⟨d, e, o⟩ := o.ofO
    obtain ⟨c, e1, rfl⟩ := Option.map_eq_some_iff.mp e
    obtain rfl := toB_some e1
    obtain rfl := rel.bl_
    exact ⟨c, rfl, o.here si (.bl _)⟩
  · obtain ⟨W, ρ, m, si, en, o⟩ := q
    dsimp only at o
    rw [R.bind_assoc] at o
    refine ⟨W, ρ, m, si, en, ?_⟩
    revert o
    dsimp only
    cases fa ρ m with
    | ok d m1 =>
      intro o
      simp only [R.bind_ok] at o ⊢
      cases e : toB d with
      | none => rw [e] at o; exact o.elim
      | some c => rw [e] at o; exact fun b W' H' si' le rel => o (!b) W' H' si' le (by show (!b) = (!c); rw [show b = c from rel])
    | exc c x m1 => exact fun o => o
    | bad => exact fun o => o.elim
/-- a test, then more -/
theorem out_toB {α β : Type} {W : Wd} {H : Hp} {r : R D} {h : Bool → Mem → R α} {Rel : Wd → Hp → β → α → Prop} {Q : β → Hp → Prop} {Q1 : Bool → Hp → Prop}
    (o : Out Y W H (r.bind fun x m1 => onB (toB x) (h true m1) (h false m1)) Rel Q)
    (hk : ∀ c m W' H', Y.sit W' H' m → Le W H W' H' → Out Y W' H' (h c m) Rel Q → Q1 c H') : Out Y W H (r.bind fun x m1 => ofO (toB x) m1) RelB Q1 := by
  cases r with
  | ok d m =>
    simp only [R.bind_ok] at o ⊢
    cases e : toB d with
    | none => rw [e] at o; exact o.elim
    | some c =>
      rw [e] at o
      refine fun b W' H' si le rel => ?_
      obtain rfl : b = c := rel
      cases b <;> exact hk _ m W' H' si le (o.mono le)
  | exc c x m => exact o
  | bad => exact o.elim
theorem out_toBv {α β : Type} {W : Wd} {H : Hp} {r : R D} {h : Bool → Mem → R α} {Rel : Wd → Hp → β → α → Prop} {Q : β → Hp → Prop} {Q1 : VK}
    (o : Out Y W H (r.bind fun x m1 => onB (toB x) (h true m1) (h false m1)) Rel Q)
    (hk : ∀ c m W' H', Y.sit W' H' m → Le W H W' H' → Out Y W' H' (h c m) Rel Q → Q1 (.bl c) H') : Out Y W H r Y.rep Q1 := by
  refine o.bind fun d m v W' H' _ si le rel o' => ?_
  cases e : toB d with
  | none => rw [e] at o'; exact o'.elim
  | some c =>
    rw [e] at o'
    obtain rfl := toB_some e
    obtain rfl := rel.bl_
    cases c <;> exact hk _ m W' H' si le o'
/-- the same, by the test's two ways -/
theorem bind_toB {r : R D} {h : Bool → Mem → R D} {u : D → Mem → R Bool} : (r.bind fun x m1 => onB (toB x) (h true m1) (h false m1)).bind u =
    r.bind fun x m1 => onB (toB x) ((h true m1).bind u) ((h false m1).bind u) := by
  cases r with
  | ok d m =>
    simp only [R.bind_ok]
    cases toB d with
    | none => rfl
    | some c => cases c <;> rfl
  | exc c x m => rfl
  | bad => rfl
theorem se_and {r : List Expr} (ha : SE X x Y fa) (hb : (r = [] ∧ SE X y Y fb) ∨ (r ≠ [] ∧ SE X (.BoolOp .And (y :: r) p) Y fb)) :
    SE X (.BoolOp .And (x :: y :: r) p) Y (fun ρ m => (fa ρ m).bind fun x m1 => onB (toB x) (fb ρ m1) (.ok (.bl false) m1)) := by
  have hv : PE X (.BoolOp .And (y :: r) p) (tE Y fb) := by
    rcases hb with ⟨rfl, h⟩ | ⟨_, h⟩
    · exact pe_one h.e
    · exact h.e
  have hw : PW X (.BoolOp .And (y :: r) p) (tBo Y fb) := by
    rcases hb with ⟨rfl, h⟩ | ⟨_, h⟩
    · exact pw_and1 h.t
    · exact h.w _ _ _ rfl
  have key : PW X (.BoolOp .And (x :: y :: r) p) (tBo Y (fun ρ m => (fa ρ m).bind fun x m1 => onB (toB x) (fb ρ m1) (.ok (.bl false) m1))) := by
    refine PW.imp (pw_and ha.t hw) fun σ H Q ⟨W, ρ, m, si, en, o⟩ => ?_
    have o' := o
    dsimp only at o'
    rw [bind_toB (h := fun b m => match b with | true => fb ρ m | false => .ok (.bl false) m)] at o'
    refine ⟨W, ρ, m, si, en, out_toB (h := fun b m => R.bind (match b with | true => fb ρ m | false => .ok (.bl false) m) fun x m1 => ofO (toB x) m1) o' fun c m1 W1 H1 si1 le o1 => ?_⟩
    cases c with
    | true => exact ⟨W1, ρ, m1, si1, en.mono le, o1⟩
    | false => exact Out.here (a := false) o1 si1 rfl
  refine ⟨PE.imp (pe_and ha.e hv) fun σ H Q ⟨W, ρ, m, si, en, o⟩ => ?_, key.pt, fun op l p e => key⟩
  refine ⟨W, ρ, m, si, en, out_toBv (h := fun b m => match b with | true => fb ρ m | false => .ok (.bl false) m) o fun c m1 W1 H1 si1 le o1 => ⟨c, rfl, ?_⟩⟩
  cases c with
  | true => exact ⟨W1, ρ, m1, si1, en.mono le, o1⟩
  | false => exact o1.here si1 (.bl false)
theorem se_or {r : List Expr} (ha : SE X x Y fa) (hb : (r = [] ∧ SE X y Y fb) ∨ (r ≠ [] ∧ SE X (.BoolOp .Or (y :: r) p) Y fb)) :
    SE X (.BoolOp .Or (x :: y :: r) p) Y (fun ρ m => (fa ρ m).bind fun x m1 => onB (toB x) (.ok (.bl true) m1) (fb ρ m1)) := by
  have hv : PE X (.BoolOp .Or (y :: r) p) (tE Y fb) := by
    rcases hb with ⟨rfl, h⟩ | ⟨_, h⟩
    · exact pe_one h.e
    · exact h.e
  have hw : PW X (.BoolOp .Or (y :: r) p) (tBo Y fb) := by
    rcases hb with ⟨rfl, h⟩ | ⟨_, h⟩
    · exact pw_or1 h.t
    · exact h.w _ _ _ rfl
  have key : PW X (.BoolOp .Or (x :: y :: r) p) (tBo Y (fun ρ m => (fa ρ m).bind fun x m1 => onB (toB x) (.ok (.bl true) m1) (fb ρ m1))) := by
    refine PW.imp (pw_or ha.t hw) fun σ H Q ⟨W, ρ, m, si, en, o⟩ => ?_
    have o' := o
    dsimp only at o'
    rw [bind_toB (h := fun b m => match b with | true => .ok (.bl true) m | false => fb ρ m)] at o'
    refine ⟨W, ρ, m, si, en, out_toB (h := fun b m => R.bind (match b with | true => .ok (.bl true) m | false => fb ρ m) fun x m1 => ofO (toB x) m1) o' fun c m1 W1 H1 si1 le o1 => ?_⟩
    cases c with
    | false => exact ⟨W1, ρ, m1, si1, en.mono le, o1⟩
    | true => exact Out.here (a := true) o1 si1 rfl
  refine ⟨PE.imp (pe_or ha.e hv) fun σ H Q ⟨W, ρ, m, si, en, o⟩ => ?_, key.pt, fun op l p e => key⟩
  refine ⟨W, ρ, m, si, en, out_toBv (h := fun b m => match b with | true => .ok (.bl true) m | false => fb ρ m) o fun c m1 W1 H1 si1 le o1 => ⟨c, rfl, ?_⟩⟩
  cases c with
  | false => exact ⟨W1, ρ, m1, si1, en.mono le, o1⟩
  | true => exact o1.here si1 (.bl true)
theorem pt_ifE {tc ta tb : TT} (hc : PT X x tc) (ha : PT X y ta) (hb : PT X z tb) : PT X (.IfExp x y z p) (fun σ H Q => tc σ H fun c H1 => if c = true then ta σ H1 Q else tb σ H1 Q) := by
  refine ⟨fun pins s σ H Q I h => isTrue_IfExp (thn (hc.run pins s σ H _ I h) fun c s1 ⟨H1, I1, q1⟩ => ?_)⟩
  cases c with
  | true => exact ha.run pins s1 σ H1 Q I1 q1
  | false => exact hb.run pins s1 σ H1 Q I1 q1
theorem se_ife (hc : SE X x Y fc) (ha : SE X y Y fa) (hb : SE X z Y fb) : SE X (.IfExp x y z p) Y (fun ρ m => (fc ρ m).bind fun x m1 => onB (toB x) (fa ρ m1) (fb ρ m1)) := by
  refine ⟨PE.imp (pe_ifExp hc.t ha.e hb.e) fun σ H Q ⟨W, ρ, m, si, en, o⟩ => ?_, PT.imp (pt_ifE hc.t ha.t hb.t) fun σ H Q ⟨W, ρ, m, si, en, o⟩ => ?_, fun op l p e => nomatch e⟩
  · refine ⟨W, ρ, m, si, en, out_toB (h := fun b m => match b with | true => fa ρ m | false => fb ρ m) o fun c m1 W1 H1 si1 le o1 => ?_⟩
    cases c <;> exact ⟨W1, ρ, m1, si1, en.mono le, o1⟩
  · dsimp only at o
    rw [bind_toB (h := fun b m => match b with | true => fa ρ m | false => fb ρ m)] at o
    refine ⟨W, ρ, m, si, en, out_toB (h := fun b m => R.bind (match b with | true => fa ρ m | false => fb ρ m) fun x m1 => ofO (toB x) m1) o fun c m1 W1 H1 si1 le o1 => ?_⟩
    cases c <;> exact ⟨W1, ρ, m1, si1, en.mono le, o1⟩
/-- a value that is a bool, as a test -/
theorem test_of {t : TE} (hT : ∀ σ H Q, tE Y fa σ H Q → t σ H Q) {σ : L2.St} {H : Hp} {Q : Bool → Hp → Prop} (q : tBo Y fa σ H Q) : tTest t σ H Q := by
  refine hT σ H _ (tX.bind q fun ρ a m b W H' si en rel o => ?_)
  obtain ⟨c, e, o⟩ := o.ofO
  obtain rfl := toB_some e
  obtain rfl := rel.bl_
  exact ⟨c, rfl, o.here si rfl⟩
theorem se_cmp {op : CmpOp} (o : OkX X Y C Γ g) (ha : SE X x Y fa) (hb : SE X y Y fb) (hm : behindInMarks op y = false) : SE X (.Compare x [op] [y] p) Y (fun ρ m => (fa ρ m).bind fun x m1 => (fb ρ m1).bind fun y m2 => ofO ((opCmp op x y m2).map .bl) m2) := by
  have T : ∀ σ H Q, tE Y (fun ρ m => (fa ρ m).bind fun x m1 => (fb ρ m1).bind fun y m2 => ofO ((opCmp op x y m2).map .bl) m2) σ H Q → tOp (rB2 Y (opCmp op)) (tE Y fa) (tE Y fb) σ H Q := fun σ H Q q => by
    refine t2 (fun W m vx vy dx dy H Q si r1 r2 o => ?_) q
    obtain ⟨d, e, o⟩ := o.ofO
    obtain ⟨b, e1, rfl⟩ := Option.map_eq_some_iff.mp e
    exact ⟨W, m, dx, dy, b, si, r1, r2, e1, o.here si (.bl b)⟩
  exact ⟨PE.imp (pe_cmpR (cmp_sound o.hK (by have := o.un; omega) op) ha.e hb.e hm) T, PT.imp (pt_cmpR (cmp_sound o.hK (by have := o.un; omega) op) ha.e hb.e hm) fun σ H Q q => test_of T q, fun op l p e => nomatch e⟩
theorem se_chain {op op' : CmpOp} (o : OkX X Y C Γ g) (ha : SE X x Y fa) (hb : SE X y Y fb) (hc : SE X z Y fc) (hm : lastMarks [op, op'] [y, z] = false) :
    SE X (.Compare x [op, op'] [y, z] p) Y (fun ρ m => (fa ρ m).bind fun x m1 => (fb ρ m1).bind fun y m2 => onB (opCmp op x y m2) ((fc ρ m2).bind fun z m3 => ofO ((opCmp op' y z m3).map .bl) m3) (.ok (.bl false) m2)) := by
  have T : ∀ σ H Q, tE Y (fun ρ m => (fa ρ m).bind fun x m1 => (fb ρ m1).bind fun y m2 => onB (opCmp op x y m2) ((fc ρ m2).bind fun z m3 => ofO ((opCmp op' y z m3).map .bl) m3) (.ok (.bl false) m2)) σ H Q → tChain (rB2 Y (opCmp op)) (rB2 Y (opCmp op')) (tE Y fa) (tE Y fb) (tE Y fc) σ H Q := fun σ H Q q => by
    refine tX.bind q fun ρ dx m vx W H1 si en r1 o => ?_
    refine ⟨W, ρ, m, si, en, o.bind fun dy m2 vy W2 H2 _ si2 le2 r2 o2 => ?_⟩
    have r1' := r1.mono le2
    cases e : opCmp op dx dy m2 with
    | none => rw [e] at o2; exact o2.elim
    | some b =>
      rw [e] at o2
      refine ⟨W2, m2, dx, dy, b, si2, r1', r2, e, b, rfl, ?_⟩
      cases b with
      | false => exact o2.here si2 (.bl false)
      | true =>
        refine ⟨W2, ρ, m2, si2, en.mono le2, o2.bind fun dz m3 vz W3 H3 _ si3 le3 r3 o3 => ?_⟩
        obtain ⟨d, e', o3⟩ := o3.ofO
        obtain ⟨b', e1, rfl⟩ := Option.map_eq_some_iff.mp e'
        exact ⟨W3, m3, dy, dz, b', si3, r2.mono le3, r3, e1, o3.here si3 (.bl b')⟩
  exact ⟨PE.imp (pe_chain (cmp_sound o.hK (by have := o.un; omega) op) (cmp_sound o.hK (by have := o.un; omega) op') ha.e hb.e hc.e hm) T,
    PT.imp (pt_chain (cmp_sound o.hK (by have := o.un; omega) op) (cmp_sound o.hK (by have := o.un; omega) op') ha.e hb.e hc.e hm) fun σ H Q q => test_of T q, fun op l p e => nomatch e⟩
theorem se_ix (o : OkX X Y C Γ g) (ha : SE X x Y fa) (hb : SE X y Y fb) (hy : PlainIx y) : SE X (.Subscript x y p) Y (fun ρ m => (fa ρ m).bind fun x m1 => (fb ρ m1).bind fun y m2 => ofO (ixD x y m2) m2) :=
  SE.of (PE.imp (pe_ix (ix_sound o.hK) ha.e hb.e hy) fun σ H Q q => t2 (fun W m vx vy dx dy H Q si r1 r2 o => by
    obtain ⟨d, e, o⟩ := o.ofO
    exact ⟨W, m, dx, dy, d, si, r1, r2, e, o⟩) q) rfl
theorem se_sl {l h : Option Expr} {fl fh : Env → Mem → R (Option Int)} {p2 : Pos} (o : OkX X Y C Γ g) (ha : SE X x Y fa) (hl : PO X l (tX Y fl RelI)) (hh : PO X h (tX Y fh RelI)) :
    SE X (.Subscript x (.Slice l h none p2) p) Y (fun ρ m => (fa ρ m).bind fun x m1 => (fl ρ m1).bind fun l m2 => (fh ρ m2).bind fun h m3 => ofO (slD x l h m3) m3) := by
  refine SE.of (PE.imp (pe_slice (sl_sound o.hK) ha.e hl hh) fun σ H Q q => ?_) rfl
  refine tX.bind q fun ρ dx m vx W H1 si en r1 o => ?_
  refine ⟨W, ρ, m, si, en, o.bind fun dl m2 vl W2 H2 _ si2 le2 rl o2 => ?_⟩
  refine ⟨W2, ρ, m2, si2, en.mono le2, o2.bind fun dh m3 vh W3 H3 _ si3 le3 rh o3 => ?_⟩
  obtain rfl : vl = dl := rl
  obtain rfl : vh = dh := rh
  obtain ⟨d, e, o3⟩ := o3.ofO
  exact ⟨W3, m3, dx, d, si3, (r1.mono le2).mono le3, e, o3⟩
theorem po_no : PO X none (tX Y (fun _ m => .ok none m) RelI) := PO.imp po_none fun σ H Q ⟨W, ρ, m, si, en, o⟩ => Out.here (a := none) o si rfl
theorem po_yes (ha : SE X x Y fa) : PO X (some x) (tX Y (fun ρ m => (fa ρ m).bind fun d m1 => ofO ((partI d).map some) m1) RelI) := by
  refine PO.imp (po_some ha.e) fun σ H Q q => ?_
  refine tX.bind q fun ρ dx m vx W H1 si en r1 o => ?_
  obtain ⟨d, e, o⟩ := o.ofO
  cases dx <;> simp [partI] at e
  subst e
  obtain rfl := r1.int_
  exact ⟨_, rfl, o.here si rfl⟩
theorem pa_nilE : PA X [] (tA Y fun _ m => .ok [] m) := PA.imp pa_nil fun σ H Q ⟨W, ρ, m, si, en, o⟩ => o.here si .nil
theorem pa_consE {es : List Expr} {fl : Env → Mem → R (List D)} (ha : SE X x Y fa) (hl : PA X es (tA Y fl)) (hs : starEach (x :: es) X.env = (false, eval x X.env) :: starEach es X.env) :
    PA X (x :: es) (tA Y fun ρ m => (fa ρ m).bind fun d m1 => (fl ρ m1).bind fun ds m2 => .ok (d :: ds) m2) := by
  refine PA.imp (pa_cons ha.e hl hs) fun σ H Q q => ?_
  refine tX.bind q fun ρ dx m vx W H1 si en r1 o => ?_
  exact ⟨W, ρ, m, si, en, o.bind fun ds m2 vs W2 H2 _ si2 le2 rl o2 => o2.here si2 (.cons (r1.mono le2) rl)⟩
end
end Ev

set_option Elab.async false
set_option linter.all false
set_option maxRecDepth 100000
/-! Ev10: list comprehensions. -/
namespace Ev
open PySem PySem.Spec PyProof.Rows L2

/-- one more thing that must stay -/
def Wd.addP (W : Wd) (d : Addr) : Wd := { W with P := fun a => W.P a ∨ a = d }
section
variable {K : PySem.W.Frag} {CT : List ClsI} {W W' W1 : Wd} {H H' H1 : Hp} {m : Mem} {d : Addr} {o : HO}
theorem lf_addP : Lf W H (W.addP d) H := ⟨fun _ h => h, fun _ _ => rfl, [], by simp [Wd.addP]⟩
theorem lf_unP : Lf (W.addP d) H W H := ⟨fun _ h => h, fun _ _ => rfl, [], by simp [Wd.addP]⟩
theorem lf_updP (h : ¬ W.F d) : Lf W H W (upd H d o) := ⟨fun _ h => h, fun a ha => upd_ne (by rintro rfl; exact h ha), [], by simp⟩
theorem MoIs.monoF {a : Addr} {mo : MO} (le : Lf W H W' H') (ha : H' a = H a) (h : MoIs K CT W H a mo) : MoIs K CT W' H' a mo := by
  cases mo with
  | lst l => obtain ⟨xs, e, r⟩ := h; exact ⟨xs, ha.trans e, r.monoF le⟩
  | dct l => exact h
  | ins c l =>
    obtain ⟨ci, dx, fs, e1, e2, r1, r2, r3⟩ := h
    refine ⟨ci, dx, fs, e1, ha.trans e2, r1, r2, fun i f e => ?_⟩
    have q := r3 i f e
    cases z : l.lookup i with
    | none => rw [z] at q; exact q
    | some d =>
      rw [z] at q
      obtain ⟨v, e1, r⟩ := q
      exact ⟨v, e1, r.monoF le⟩
  | dead => trivial
/-- the new list, laid aside -/
theorem Sit.addP (s : Sit K CT W H m) (hd : H d = none) : Sit K CT (W.addP d) (L2.upd H d o) m := by
  have hF : ¬ W.F d := fun h => s.w.F _ h hd
  refine ⟨⟨fun a h => ?_, fun a h => ?_, fun a h q => ?_, fun a h => ?_, s.w.nd, fun a h q => ?_⟩, s.m.len, fun k mo a e1 e2 e3 => ?_⟩
  · by_cases e : a = d
    · rw [e, upd_same]; simp
    · rw [upd_ne e]; exact s.w.F a h
  · by_cases e : a = d
    · rw [e, upd_same]; simp
    · rw [upd_ne e]; exact s.w.P a (h.resolve_right e)
  · rcases q with q | q
    · exact s.w.FP a h q
    · subst q; exact hF h
  · by_cases e : a = d
    · rw [e, upd_same]; simp
    · rw [upd_ne e]; exact s.w.μ a h
  · rcases q with q | q
    · exact s.w.μP a h q
    · subst q; exact s.w.μ _ h hd
  · obtain ⟨f, q, r⟩ := s.m.is k mo a e1 e2 e3
    have ne : a ≠ d := by rintro rfl; exact s.w.μ _ (List.mem_of_getElem? e3) hd
    exact ⟨f, fun z => q (z.resolve_right ne), r.monoF ((lf_addP (d := d)).trans (lf_updP (W := W.addP d) hF)) (upd_ne ne)⟩
/-- what is laid aside may be written -/
theorem Sit.updP (s : Sit K CT W H m) (hd : W.P d) : Sit K CT W (L2.upd H d o) m := by
  have hF : ¬ W.F d := fun h => s.w.FP _ h hd
  have nn : ∀ a, H a ≠ none → L2.upd H d o a ≠ none := fun a h => by
    by_cases e : a = d
    · rw [e, upd_same]; simp
    · rw [upd_ne e]; exact h
  refine ⟨⟨fun a h => nn a (s.w.F a h), fun a h => nn a (s.w.P a h), s.w.FP, fun a h => nn a (s.w.μ a h), s.w.nd, s.w.μP⟩, s.m.len, fun k mo a e1 e2 e3 => ?_⟩
  obtain ⟨f, q, r⟩ := s.m.is k mo a e1 e2 e3
  have ne : a ≠ d := by rintro rfl; exact q hd
  exact ⟨f, q, r.monoF (lf_updP hF) (upd_ne ne)⟩
/-- .. becomes frozen -/
theorem Sit.toF (s : Sit K CT (W.addP d) H m) (hd : ¬ W.P d) : Sit K CT (W.frz d) H m := by
  refine ⟨⟨fun a h => ?_, fun a h => s.w.P a (.inl h), fun a h q => ?_, s.w.μ, s.w.nd, fun a h q => s.w.μP a h (.inl q)⟩, s.m.len, fun k mo a e1 e2 e3 => ?_⟩
  · rcases h with h | h
    · exact s.w.F a h
    · exact s.w.P a (.inr h)
  · rcases h with h | h
    · exact s.w.FP a h (.inl q)
    · subst h; exact hd q
  · obtain ⟨f, q, r⟩ := s.m.is k mo a e1 e2 e3
    refine ⟨fun h => ?_, fun h => q (.inl h), r.monoF ((lf_unP (d := d)).trans (W' := W) ⟨fun _ h => .inl h, fun _ _ => rfl, [], by simp [Wd.frz]⟩) rfl⟩
    rcases h with h | h
    · exact f h
    · exact q (.inr h)
/-- .. or a thing of the store -/
theorem Sit.toM {mo : MO} (s : Sit K CT (W.addP d) H m) (hd : ¬ W.P d) (hm : MoIs K CT (W.put d) H d mo) : Sit K CT (W.put d) H (m ++ [mo]) := by
  have nd : d ∉ W.μ := fun h => s.w.μP d h (.inr rfl)
  have hF : ¬ W.F d := fun h => s.w.FP d h (.inr rfl)
  refine ⟨⟨s.w.F, fun a h => s.w.P a (.inl h), fun a h q => s.w.FP a h (.inl q), fun a h => ?_, ?_, fun a h q => ?_⟩, by simp [Wd.put, s.m.len, Wd.addP], fun k mo' a e1 e2 e3 => ?_⟩
  · have h' : a ∈ W.μ ++ [d] := h
    rcases List.mem_append.mp h' with z | z
    · exact s.w.μ a z
    · simp at z; subst z; exact s.w.P _ (.inr rfl)
  · show (W.μ ++ [d]).Nodup
    rw [List.nodup_append]
    refine ⟨s.w.nd, by simp, fun a ha b hb => ?_⟩
    simp at hb
    subst hb
    rintro rfl
    exact nd ha
  · have h' : a ∈ W.μ ++ [d] := h
    rcases List.mem_append.mp h' with z | z
    · exact s.w.μP a z (.inl q)
    · simp at z; subst z; exact hd q
  · have e3' : (W.μ ++ [d])[k]? = some a := e3
    have hl : m.length = W.μ.length := s.m.len
    by_cases hk : k < W.μ.length
    · rw [List.getElem?_append_left hk] at e3'
      rw [List.getElem?_append_left (by rw [hl]; exact hk)] at e1
      obtain ⟨f, q, r⟩ := s.m.is k mo' a e1 e2 e3'
      exact ⟨f, fun z => q (.inl z), r.monoF ((lf_unP (d := d)).trans (W' := W) ⟨fun _ h => h, fun _ _ => rfl, [d], rfl⟩) rfl⟩
    · rw [List.getElem?_append_right (by omega)] at e3'
      rw [List.getElem?_append_right (by rw [hl]; omega)] at e1
      have z : k - W.μ.length = 0 := by
        have := (List.getElem?_eq_some_iff.mp e3').1
        simp at this
        omega
      rw [hl, z] at e1
      rw [z] at e3'
      simp at e1 e3'
      subst e1 e3'
      exact ⟨hF, hd, hm⟩
end
/-! ### the block's own slots -/
theorem wipe_at : ∀ (vs : List Nat) (σ : L2.St) (i : Nat), (wipe σ vs)[i]? = if i ∈ vs ∧ i < σ.length then some none else σ[i]?
  | [], σ, i => by simp [wipe]
  | v :: vs, σ, i => by
    unfold wipe
    by_cases hi : v = i
    · subst hi
      by_cases hv : v < σ.length
      · rw [List.getElem?_set_self (by rw [wipe_length]; exact hv), if_pos ⟨by simp, hv⟩]
      · rw [List.getElem?_eq_none (by rw [List.length_set, wipe_length]; omega), if_neg (fun h => hv h.2), List.getElem?_eq_none (by omega)]
    · rw [List.getElem?_set_ne hi, wipe_at vs σ i]
      have : (i ∈ v :: vs ∧ i < σ.length) ↔ (i ∈ vs ∧ i < σ.length) := by
        simp only [List.mem_cons]
        constructor
        · rintro ⟨h | h, q⟩
          · exact absurd h.symm hi
          · exact ⟨h, q⟩
        · rintro ⟨h, q⟩; exact ⟨.inr h, q⟩
      by_cases c : i ∈ vs ∧ i < σ.length
      · rw [if_pos c, if_pos (this.mpr c)]
      · rw [if_neg c, if_neg (fun h => c (this.mp h))]
theorem wipe_twice (σ : L2.St) (vs : List Nat) : wipe (wipe σ vs) vs = wipe σ vs := by
  apply List.ext_getElem?
  intro i
  rw [wipe_at, wipe_length, wipe_at]
  by_cases c : i ∈ vs ∧ i < σ.length
  · simp [c]
  · simp [c]
theorem wipe_set {σ : L2.St} {vs : List Nat} {i : Nat} {x : Option V} (h : i ∈ vs) : wipe (σ.set i x) vs = wipe σ vs := by
  apply List.ext_getElem?
  intro j
  rw [wipe_at, wipe_at, List.length_set]
  by_cases c : j ∈ vs ∧ j < σ.length
  · simp [c]
  · rw [if_neg c, if_neg c]
    by_cases e : i = j
    · subst e
      have : ¬ i < σ.length := fun z => c ⟨h, z⟩
      rw [List.getElem?_eq_none (by simpa using Nat.le_of_not_lt this), List.getElem?_eq_none (by omega)]
    · rw [List.getElem?_set_ne e]
theorem wipeD_at : ∀ (vs : List Nat) (ρ : Env) (i : Nat), (wipeD ρ vs)[i]? = if i ∈ vs ∧ i < ρ.length then some none else ρ[i]?
  | [], σ, i => by simp [wipeD]
  | v :: vs, σ, i => by
    have wl : ∀ (l : List Nat), (wipeD σ l).length = σ.length := fun l => by
      induction l with
      | nil => rfl
      | cons a r ih => unfold wipeD; rw [List.length_set, ih]
    unfold wipeD
    by_cases hi : v = i
    · subst hi
      by_cases hv : v < σ.length
      · rw [List.getElem?_set_self (by rw [wl]; exact hv), if_pos ⟨by simp, hv⟩]
      · rw [List.getElem?_eq_none (by rw [List.length_set, wl]; omega), if_neg (fun h => hv h.2), List.getElem?_eq_none (by omega)]
    · rw [List.getElem?_set_ne hi, wipeD_at vs σ i]
      have : (i ∈ v :: vs ∧ i < σ.length) ↔ (i ∈ vs ∧ i < σ.length) := by
        simp only [List.mem_cons]
        constructor
        · rintro ⟨h | h, q⟩
          · exact absurd h.symm hi
          · exact ⟨h, q⟩
        · rintro ⟨h, q⟩; exact ⟨.inr h, q⟩
      by_cases c : i ∈ vs ∧ i < σ.length
      · rw [if_pos c, if_pos (this.mpr c)]
      · rw [if_neg c, if_neg (fun h => c (this.mp h))]
theorem wipeD_length : ∀ (l : List Nat) (ρ : Env), (wipeD ρ l).length = ρ.length
  | [], _ => rfl
  | a :: r, ρ => by unfold wipeD; rw [List.length_set, wipeD_length r ρ]
theorem EnvOk.wipe {Y : Yx} {W : Wd} {H : Hp} {σ : L2.St} {ρ : Env} (e : EnvOk Y W H σ ρ) (vs : List Nat) : EnvOk Y W H (L2.wipe σ vs) (wipeD ρ vs) := by
  refine ⟨by rw [wipe_length, wipeD_length]; exact e.1, fun i d h => ?_⟩
  rw [wipeD_at] at h
  split at h
  · cases h
  · rename_i c
    obtain ⟨v, e1, r⟩ := e.2 i d h
    refine ⟨v, ?_, r⟩
    rw [wipe_at, if_neg (by rw [e.1]; exact c)]
    exact e1
theorem EnvOk.monoF {Y : Yx} {W W' : Wd} {H H' : Hp} {σ : L2.St} {ρ : Env} (e : EnvOk Y W H σ ρ) (le : Lf W H W' H') : EnvOk Y W' H' σ ρ :=
  ⟨e.1, fun i d h => let ⟨v, a, r⟩ := e.2 i d h; ⟨v, a, r.monoF le⟩⟩

/-! ### targets -/
def RelG (Y : Yx) (own : Option (List Nat)) (σ : L2.St) : Wd → Hp → L2.St → Env → Prop := fun W H σ' ρ' => EnvOk Y W H σ' ρ' ∧ ∀ l, own = some l → wipe σ' l = wipe σ l
def gX (Y : Yx) (f : D → Env → Mem → R Env) (own : Option (List Nat)) : TG := fun v σ H Q => ∃ W ρ m d, Y.sit W H m ∧ EnvOk Y W H σ ρ ∧ Y.rep W H v d ∧ Out Y W H (f d ρ m) (RelG Y own σ) Q
def gXs (Y : Yx) (f : List D → Env → Mem → R Env) (own : Option (List Nat)) : TGs := fun vs σ H Q => ∃ W ρ m ds, Y.sit W H m ∧ EnvOk Y W H σ ρ ∧ Y.repL W H vs ds ∧ Out Y W H (f ds ρ m) (RelG Y own σ) Q
abbrev RelW (Y : Yx) : Wd → Hp → It → List D × Src → Prop := fun W H J w => WalkRel Y W H J w
abbrev tI (Y : Yx) (f : Env → Mem → R (List D × Src)) : TI := tX Y f (RelW Y)

/-! ### the comprehension -/
/-- one turn -/
def lcTurn (own : List Nat) (ft : D → Env → Mem → R Env) (fc : Env → Mem → R Bool) (fe : Env → Mem → R D) (ρ : Env) (d : D) (m : Mem) : R (Option D) :=
  (ft d (wipeD ρ own) m).bind fun ρ1 m3 => (fc ρ1 m3).bind fun b m4 => if b then (fe ρ1 m4).bind fun x m5 => .ok (some x) m5 else .ok none m4
theorem lcL_cases (g : D → Mem → R (Option D)) (src : Src) : ∀ (ds : List D) (m : Mem), lcL g src ds m = .bad ∨ ∃ l m', lcL g src ds m = .ok l m'
  | [], m => by
    unfold lcL
    split
    · exact .inr ⟨_, _, rfl⟩
    · exact .inl rfl
  | d :: r, m => by
    unfold lcL
    split
    · cases g d m with
      | ok o m1 =>
        simp only [R.noexc_ok, R.bind_ok]
        rcases lcL_cases g src r m1 with h | ⟨l, m', h⟩
        · rw [h]; exact .inl rfl
        · rw [h]; exact .inr ⟨_, _, rfl⟩
      | exc c x m1 => exact .inl rfl
      | bad => exact .inl rfl
    · exact .inl rfl
theorem lcL_cons {g : D → Mem → R (Option D)} {src : Src} {d : D} {r : List D} {m m' : Mem} {l : List D} (h : lcL g src (d :: r) m = .ok l m') : srcOk src m = true ∧ ∃ o m1 l', g d m = .ok o m1 ∧ lcL g src r m1 = .ok l' m' ∧ l = o.toList ++ l' := by
  unfold lcL at h
  split at h
  · rename_i c
    refine ⟨c, ?_⟩
    cases e : g d m with
    | ok o m1 =>
      rw [e] at h
      simp only [R.noexc_ok, R.bind_ok] at h
      cases e2 : lcL g src r m1 with
      | ok l' m2 =>
        rw [e2] at h
        simp only [R.bind_ok] at h
        cases h
        exact ⟨o, m1, l', rfl, e2, rfl⟩
      | exc c x m2 => rw [e2] at h; cases h
      | bad => rw [e2] at h; cases h
    | exc c x m1 => rw [e] at h; cases h
    | bad => rw [e] at h; cases h
  · cases h
theorem lcL_nil {g : D → Mem → R (Option D)} {src : Src} {m m' : Mem} {l : List D} (h : lcL g src [] m = .ok l m') : srcOk src m = true ∧ l = [] ∧ m' = m := by
  unfold lcL at h
  split at h
  · rename_i c
    cases h
    exact ⟨c, rfl, rfl⟩
  · cases h
section
variable {X : Cx} {Y : Yx} {own : List Nat} {fi : Env → Mem → R (List D × Src)} {ft : D → Env → Mem → R Env} {fc : Env → Mem → R Bool} {fe : Env → Mem → R D} {Kf : List D → Mem → R D}
theorem addP_eq {W : Wd} {P : Addr → Prop} {d : Addr} (h : W.P = fun a => P a ∨ a = d) : W = Wd.addP { W with P := P } d := by
  cases W
  simp only at h
  subst h
  rfl
/-- the state of the comprehension at turn i -/
def LcSt (Y : Yx) (W1 : Wd) (H1 : Hp) (D : Addr) (g : Ev.D → Mem → R (Option Ev.D)) (w : List Ev.D × Src) (l : List Ev.D) (m6 : Mem) (i : Nat) (H : Hp) : Prop :=
  ∃ (W : Wd) (m2 : Mem) (acc : List Ev.D) (accv : List V) (rest : List Ev.D), lcL g w.2 (w.1.drop i) m2 = .ok rest m6 ∧ l = acc ++ rest ∧ Y.sit (W.addP D) H m2 ∧ Le W1 H1 W H ∧ H D = some (.lst accv) ∧ Y.repL W H accv acc
theorem lc_ok (hfin : ∀ (W1 W : Wd) (H1 H : Hp) (D : Addr) (l : List Ev.D) (accv : List V) (m6 : Mem) (Q : VK), Y.sit (W.addP D) H m6 → Le W1 H1 W H → ¬ W.P D → H D = some (.lst accv) → Y.repL W H accv l → Out Y W1 H1 (Kf l m6) Y.rep Q → Q (.ref D) H)
    {σ : L2.St} {H : Hp} {Q : VK} (q : tE Y (fun ρ m => (fi ρ m).bind fun w m1 => (lcL (lcTurn own ft fc fe ρ) w.2 w.1 m1).bind fun l m6 => if sizeOk l.length then Kf l m6 else .bad) σ H Q) :
    tLc (tI Y fi) (gX Y.nx ft (some own)) (tX Y.nx fc RelB) (tE Y.nx fe) own σ H Q := by
  refine tX.bind q fun ρ w m1 J W1 H1 si1 en1 rel o1 => ?_
  rcases lcL_cases (lcTurn own ft fc fe ρ) w.2 w.1 m1 with e | ⟨l, m6, e⟩
  · rw [e] at o1; exact o1.elim
  rw [e] at o1
  simp only [R.bind_ok] at o1
  split at o1
  rotate_left
  · exact o1.elim
  rename_i hz
  intro D hD
  have hPD : ¬ W1.P D := fun h => si1.w.P _ h hD
  have hFD : ¬ W1.F D := fun h => si1.w.F _ h hD
  refine ⟨fun i n H => n = w.1.length - i ∧ i ≤ w.1.length ∧ LcSt Y W1 H1 D (lcTurn own ft fc fe ρ) w l m6 i H,
    ⟨_, rfl, Nat.zero_le _, W1, m1, [], [], l, e, rfl, si1.addP hD, ⟨fun _ h => h, rfl, fun a h => upd_ne (by rintro rfl; rcases h with h | h; exact hFD h; exact hPD h), [], by simp⟩, upd_same, .nil⟩, ?_⟩
  rintro i n H ⟨rfl, hi, W, m2, acc, accv, rest, e1, e2, si2, le, hDl, ra⟩
  have hP : ¬ W.P D := by rw [le.P]; exact hPD
  have wr := rel i m2 (W.addP D) H si2 (le.lf.trans lf_addP)
  by_cases hlt : i < w.1.length
  · right
    have ed : w.1[i]? = some w.1[i] := List.getElem?_eq_getElem hlt
    rw [List.drop_eq_getElem_cons hlt] at e1
    obtain ⟨so, od, m3, l', eg, e3, er⟩ := lcL_cons e1
    obtain ⟨go, yl⟩ := (wr so).1 _ ed
    refine ⟨go, LcSt Y W1 H1 D (lcTurn own ft fc fe ρ) w l m6 (i + 1), fun H' h => ⟨w.1.length - (i + 1), by omega, rfl, hlt, h⟩, fun x H' hy => ?_⟩
    obtain ⟨W3, si3, le3, r3⟩ := yl x H' hy
    have P3 : W3.P = fun a => W1.P a ∨ a = D := by rw [le3.P]; show (fun a => W.P a ∨ a = D) = _; rw [le.P]
    -- what a turn leads to
    have B : Out Y.nx W3 H' (lcTurn own ft fc fe ρ w.1[i] m2) (fun W H (b : Option V) (a : Option Ev.D) => match b, a with | none, none => True | some v, some d => Y.rep W H v d | _, _ => False)
        (fun ov H4 => match ov with
          | none => LcSt Y W1 H1 D (lcTurn own ft fc fe ρ) w l m6 (i + 1) H4
          | some y => ∃ ac, H4 D = some (.lst ac) ∧ ac.length < sizeLine ∧ LcSt Y W1 H1 D (lcTurn own ft fc fe ρ) w l m6 (i + 1) (upd H4 D (.lst (ac ++ [y])))) := by
      rw [eg]
      intro ov W4 H4 si4 le4 rel4
      have P4 : W4.P = fun a => W1.P a ∨ a = D := le4.P.trans P3
      have lea : Le (W.addP D) H W4 H4 := le3.trans le4
      have hD4 : H4 D = some (.lst accv) := (lea.at_ D (.inr (.inr rfl))).trans hDl
      have eW := addP_eq P4
      have leW : Le W H { W4 with P := W1.P } H4 := ⟨lea.F, le.P.symm, fun a h => lea.at_ a (h.imp id .inl), lea.μ⟩
      cases od with
      | none =>
        cases ov with
        | some y => exact rel4.elim
        | none => exact ⟨{ W4 with P := W1.P }, m3, acc, accv, l', e3, by rw [e2, er]; rfl, by rw [← eW]; exact si4, le.trans leW, hD4, ra.mono leW⟩
      | some dy =>
        cases ov with
        | none => exact rel4.elim
        | some y =>
          have hF4 : ¬ W4.F D := fun h => si4.w.FP _ h (by rw [P4]; exact .inr rfl)
          have r4 : Y.rep W4 H4 y dy := rel4
          refine ⟨accv, hD4, ?_, ?_⟩
          · have hl : l.length ≤ sizeLine := sizeOk_le hz
            rw [ra.length]
            rw [e2, er] at hl
            simp at hl
            omega
          · have up : Lf { W4 with P := W1.P } H4 { W4 with P := W1.P } (upd H4 D (.lst (accv ++ [y]))) := lf_updP hF4
            refine ⟨{ W4 with P := W1.P }, m3, acc ++ [dy], accv ++ [y], l', e3, by rw [e2, er]; simp, ?_, ?_, upd_same, ?_⟩
            · rw [← eW]
              exact si4.updP (by rw [P4]; exact .inr rfl)
            · have z := le.trans leW
              exact ⟨z.F, z.P, fun a h => (upd_ne (by rintro rfl; rcases h with h | h; exact hFD h; exact hPD h)).trans (z.at_ a h), z.μ⟩
            · have r5 : Y.rep { W4 with P := W1.P } H4 y dy := Rep.monoF (W := W4) (H := H4) (W' := { W4 with P := W1.P }) (H' := H4) ⟨fun _ h => h, fun _ _ => rfl, [], by simp⟩ r4
              exact ((ra.mono leW).append (.cons r5 .nil)).monoF up
    have en3 : EnvOk Y W3 H' σ ρ := en1.monoF ((le.lf.trans lf_addP).trans le3.lf)
    refine ⟨W3, wipeD ρ own, m2, w.1[i], si3, en3.wipe own, r3, ?_⟩
    refine B.bind fun ρ1 m4 σ2 W4 H4 _ si4 le4 rg B2 => ?_
    refine ⟨(rg.2 own rfl).trans (wipe_twice σ own), W4, ρ1, m4, si4, rg.1, ?_⟩
    refine B2.bind fun b m5 bb W5 H5 _ si5 le5 rb B3 => ?_
    obtain rfl : bb = b := rb
    cases bb with
    | false => simp only [Bool.false_eq_true, if_false] at B3 ⊢; exact Out.here (b := none) B3 si5 trivial
    | true =>
      simp only [if_true] at B3 ⊢
      exact ⟨W5, ρ1, m5, si5, rg.1.mono le5, B3.bind fun dx m7 y W6 H6 _ si6 le6 ry B4 => Out.here (b := some y) B4 si6 ry⟩
  · left
    have ei : i = w.1.length := by omega
    have hnil : w.1.drop i = [] := List.drop_eq_nil_of_le (by omega)
    rw [hnil] at e1
    obtain ⟨so, er, em⟩ := lcL_nil e1
    subst er em
    refine ⟨(wr so).2 ei, ?_⟩
    refine hfin W1 W H1 H D _ accv _ Q si2 le hP hDl ?_ o1
    rw [e2, List.append_nil]
    exact ra
theorem fin_lc (W1 W : Wd) (H1 H : Hp) (D : Addr) (l : List Ev.D) (accv : List V) (m6 : Mem) (Q : VK) (si : Y.sit (W.addP D) H m6) (le : Le W1 H1 W H) (hP : ¬ W.P D) (hD : H D = some (.lst accv)) (ra : Y.repL W H accv l) (o : Out Y W1 H1 (.ok (.lst l) m6) Y.rep Q) : Q (.ref D) H := by
  have l2 : Lf W H (W.frz D) H := ⟨fun _ h => .inl h, fun _ _ => rfl, [], by simp [Wd.frz]⟩
  exact o (.ref D) (W.frz D) H (si.toF hP) ⟨fun a h => .inl (le.F a h), le.P, le.at_, le.μ⟩ (.lst (.inr rfl) hD (ra.monoF l2))
theorem fin_mlc (W1 W : Wd) (H1 H : Hp) (D : Addr) (l : List Ev.D) (accv : List V) (m6 : Mem) (Q : VK) (si : Y.sit (W.addP D) H m6) (le : Le W1 H1 W H) (hP : ¬ W.P D) (hD : H D = some (.lst accv)) (ra : Y.repL W H accv l) (o : Out Y W1 H1 (.ok (.ref m6.length) (m6 ++ [.lst l])) Y.rep Q) : Q (.ref D) H := by
  have l2 : Lf W H (W.put D) H := ⟨fun _ h => h, fun _ _ => rfl, [D], rfl⟩
  obtain ⟨t, ht⟩ := le.μ
  refine o (.ref D) (W.put D) H (si.toM hP ⟨accv, hD, ra.monoF l2⟩) ⟨le.F, le.P, le.at_, t ++ [D], by show W.μ ++ [D] = _; rw [ht]; simp⟩ (.ref ?_)
  have : m6.length = W.μ.length := si.m.len
  rw [this]
  simp [Wd.put]
end
end Ev

set_option Elab.async false
set_option linter.all false
set_option maxRecDepth 100000
/-! Ev11: displays, calls, instances; soundness of expressions, targets, iterables. -/
namespace Ev
open PySem PySem.Spec PyProof.Rows L2

/-! ### displays -/
section
variable {X : Cx} {Y : Yx} {C : Cfg} {Γ : Gam} {g : Bool} {x y z : Expr} {es : List Expr} {p q : Pos} {fa fb fc : Env → Mem → R D} {fl : Env → Mem → R (List D)}
theorem Out.putL {W : Wd} {H : Hp} {m : Mem} {ds : List D} {xs : List V} {Q : VK} (h : Out Y W H (.ok (.ref m.length) (m ++ [.lst ds])) Y.rep Q) (s : Y.sit W H m) (r : Y.repL W H xs ds) : ∀ p, H p = none → Q (.ref p) (upd H p (.lst xs)) := fun p hp =>
  h (.ref p) (W.put p) _ (s.put hp ⟨xs, upd_same, r.mono (le_put s.w hp)⟩) (le_put s.w hp) (.ref (by
    have : m.length = W.μ.length := s.m.len
    rw [this]
    simp [Wd.put]))
theorem se_tup {k} (hl : PA X es (tA Y fl)) : SE X (.Tuple es k p) Y (fun ρ m => (fl ρ m).bind fun ds m1 => if sizeOk ds.length then .ok (.tup ds) m1 else .bad) := by
  refine SE.of (PE.imp (pe_tupF hl) fun σ H Q q => ?_) rfl
  refine tX.bind q fun ρ ds m xs W H1 si en r o => ?_
  split at o
  · rename_i c
    exact ⟨by rw [r.length]; exact sizeOk_le c, o.frzT si r⟩
  · exact o.elim
theorem se_lst (hl : PA X es (tA Y fl)) : SE X (.List es p) Y (fun ρ m => (fl ρ m).bind fun ds m1 => if sizeOk ds.length then .ok (.lst ds) m1 else .bad) := by
  refine SE.of (PE.imp (pe_lst hl) fun σ H Q q => ?_) rfl
  refine tX.bind q fun ρ ds m xs W H1 si en r o => ?_
  split at o
  · rename_i c
    exact ⟨by rw [r.length]; exact sizeOk_le c, o.frz si fun p hp le => Rep.newL r le⟩
  · exact o.elim
theorem se_mlst (hl : PA X es (tA Y fl)) : SE X (.List es p) Y (fun ρ m => (fl ρ m).bind fun ds m1 => if sizeOk ds.length then .ok (.ref m1.length) (m1 ++ [.lst ds]) else .bad) := by
  refine SE.of (PE.imp (pe_lst hl) fun σ H Q q => ?_) rfl
  refine tX.bind q fun ρ ds m xs W H1 si en r o => ?_
  split at o
  · rename_i c
    exact ⟨by rw [r.length]; exact sizeOk_le c, o.putL si r⟩
  · exact o.elim

/-- .., *x -/
theorem pa_starE (hK : X.K = Y.K) (ha : SE X x Y fa) : PA X [.Starred x p] (tA Y fun ρ m => (fa ρ m).bind fun x m1 => ofO (items m1 x) m1) := by
  refine PA.imp (StX.pa_star ha.e pa_nil) fun σ H Q q => ?_
  refine tX.bind q fun ρ d m v W H1 si en r o => ?_
  obtain ⟨l, e, o⟩ := o.ofO
  obtain ⟨a, xs, rfl, h1, rr⟩ := r.items_ si e
  refine ⟨a, xs, rfl, ?_, ?_⟩
  · rcases h1 with h1 | h1
    · exact .inr (SqL.of h1)
    · exact .inl (hK ▸ h1)
  · show Q (xs ++ []) H1
    rw [List.append_nil]
    exact o.here si rr

/-! ### calls -/
theorem Out.unx {α β : Type} {E : XK} {W : Wd} {H : Hp} {r : R α} {Rel : Wd → Hp → β → α → Prop} {Q : β → Hp → Prop} (h : Out Y W H r.noexc Rel Q) : Out { Y with E := E } W H r Rel Q := by
  cases r with
  | ok a m => exact h
  | exc c x m => exact h.elim
  | bad => exact h
/-- what a promise asks -/
theorem call_in {W : Wd} {H : Hp} {m : Mem} {ds dds : List D} {vs dvs : List V} {n : Nat} {f h : List D → Mem → R D} {Q : VK} (si : Y.sit W H m) (r : Y.repL W H vs ds) (hd : ∀ W H, Y.repL W H dvs dds) (hf : ∀ args m, f args m = h (args ++ dds) m) (hn : ∀ args m, h args m = .bad ∨ args.length = n)
    (o : Out Y W H (f ds m) Y.rep Q) : spOf Y n h (vs ++ dvs) H Q Y.E := by
  have r2 : Y.repL W H (vs ++ dvs) (ds ++ dds) := r.append (hd W H)
  rw [hf] at o
  refine ⟨?_, W, m, ds ++ dds, si, r2, o⟩
  rcases hn (ds ++ dds) m with e | e
  · rw [e] at o; exact o.elim
  · rw [r2.length]; exact e
theorem se_call {n : Str} {f : List D → Mem → R D} (o : OkX X Y C Γ g) (hf : FOk X Y (.fn n) f) (hg : glB X.env.scope n = true) (hl : PA X es (tA Y fl))
    (hs : ∀ e r, es = e :: r → starEach (e :: r) X.env = (false, eval e X.env) :: starEach r X.env) (hp : ∀ e r, es = e :: r → (starEach r X.env).any (·.1) = false) (hnil : es = [] → fl = fun _ m => .ok [] m) :
    SE X (.Call (.Name n p) es [] q) Y (fun ρ m => (fl ρ m).bind fun ds m1 => f ds m1) := by
  obtain ⟨k, a, fd, ps, nn, h, dvs, ds, dds, P, hr, hm, hk, hb, hd, hdd, hfe, hn⟩ := hf
  obtain ⟨hg, hdb⟩ := glB_gl hg
  have T : ∀ σ H Q, tE Y (fun ρ m => (fl ρ m).bind fun ds m1 => f ds m1) σ H Q → tCall (spOf Y nn h) dvs Y.E (tA Y fl) σ H Q := fun σ H Q q => by
    refine tX.bind q fun ρ ds m xs W H1 si en r o => ?_
    exact call_in si r hdd hfe hn o
  refine SE.of ?_ rfl
  cases es with
  | nil =>
    have T0 : ∀ σ H Q, tE Y (fun ρ m => (fl ρ m).bind fun ds m1 => f ds m1) σ H Q → tCall (spOf Y nn h) dvs Y.E tNil σ H Q := fun σ H Q ⟨W, ρ, m, si, en, o⟩ => by
      rw [hnil rfl] at o
      exact call_in (vs := []) si .nil hdd hfe hn o
    rcases P with F | ⟨hG, F⟩
    · exact PE.imp (pe_call0 F hr hg hm hk hb hd o.hx hdb) T0
    · exact PE.imp (pe_callG0 F hr hG hg hm hk hb hd o.hx hdb) T0
  | cons e r =>
    rcases P with F | ⟨hG, F⟩
    · exact PE.imp (pe_call F hr hg hm hk hb hd o.hx hl hdb (hs e r rfl) (plain_back (hp e r rfl))) T
    · exact PE.imp (pe_callG F hr hG hg hm hk hb hd o.hx hl hdb (hs e r rfl) (plain_back (hp e r rfl))) T
/-- an instance -/
theorem clsOf_ins {W : Wd} {H : Hp} {m : Mem} {v : V} {d : D} {c : Nat} {ci : ClsI} (si : Y.sit W H m) (r : Y.rep W H v d) (h : clsOf m d = some c) (hc : Y.CT[c]? = some ci) : ∃ a dx fs, v = .ref a ∧ H a = some (.ins ci.C dx fs) ∧ ∀ f, f ∉ ci.fs → fs.lookup f = none := by
  cases r with
  | obj hc' f h1 h2 h3 h4 h5 =>
    simp only [clsOf, Option.some.injEq] at h
    subst h
    rw [hc] at hc'
    cases hc'
    exact ⟨_, _, _, rfl, h1, h2⟩
  | ref e =>
    simp only [clsOf] at h
    split at h
    · rename_i k a c' l e2
      simp only [Option.some.injEq] at h
      subst h
      obtain ⟨_, _, ci', dx, fs, e3, e4, e5, _⟩ := si.m.is _ _ _ e2 (by intro z; cases z) e
      rw [hc] at e3
      cases e3
      exact ⟨_, dx, fs, rfl, e4, e5⟩
    · cases h
  | _ => simp only [clsOf] at h; cases h
theorem se_prop {c : Nat} {n : Str} {f : List D → Mem → R D} (o : OkX X Y C Γ g) (hf : FOk X Y (.prop c n) f) (ha : SE X x Y fa) (hb : plainB x = true) :
    SE X (.Attribute x n p) Y (fun ρ m => (fa ρ m).bind fun x m1 => if clsOf m1 x = some c then (f [x] m1).noexc else .bad) := by
  obtain ⟨k, pa, ga, fd, ps, ci, hc, hp, F, hr, hbi⟩ := hf
  refine SE.of (PE.imp (pe_prop (dvs := []) (ds := []) (E := fun _ _ _ => False) ha.e (o.cls c ci hc).cl hp F hr hbi .nil passL (base_plain hb)) fun σ H Q q => ?_) rfl
  refine tX.bind q fun ρ d m v W H1 si en r o => ?_
  split at o
  · rename_i e
    obtain ⟨a, dx, fs, rfl, e1, _⟩ := clsOf_ins si r e hc
    exact ⟨a, dx, fs, rfl, e1, rfl, W, m, [d], si, .cons r .nil, o.unx⟩
  · exact o.elim
theorem lookup_of_map {fs : List (Str × V)} {ns : List Str} {xs : List V} (hx : xs = ns.map (fun f => (fs.lookup f).getD .non)) (hs : ∀ f ∈ ns, (fs.lookup f).isSome = true) {i : Nat} {f : Str} {v : V} (e : ns[i]? = some f) (ev : xs[i]? = some v) : fs.lookup f = some v := by
  subst hx
  rw [List.getElem?_map, e] at ev
  simp at ev
  have := hs f (List.mem_of_getElem? e)
  cases z : fs.lookup f with
  | none => rw [z] at this; cases this
  | some u => rw [z] at ev; simpa using ev
theorem se_fld {c i : Nat} {n : Str} {ci : ClsI} (o : OkX X Y C Γ g) (hc : Y.CT[c]? = some ci) (hn : ci.fs[i]? = some n) (ha : SE X x Y fa) (hb : plainB x = true) :
    SE X (.Attribute x n p) Y (fun ρ m => (fa ρ m).bind fun x m1 => ofO (fldD c i x m1) m1) := by
  refine SE.of (PE.imp (pe_fld ha.e (base_plain hb)) fun σ H Q q => ?_) rfl
  refine tX.bind q fun ρ d m v W H1 si en r o' => ?_
  obtain ⟨e, he, o2⟩ := o'.ofO
  have co := o.cls c ci hc
  have na := co.na n (List.mem_of_getElem? hn)
  cases r with
  | obj hc' f h1 h2 h3 h4 h5 =>
    simp only [fldD] at he
    split at he
    · rename_i q
      subst q
      rw [hc] at hc'
      cases hc'
      obtain ⟨w, ew, rw_⟩ := h5.get he
      exact ⟨_, _, _, _, w, rfl, h1, co.cl, na, lookup_of_map h3 h4 hn ew, o2.here si rw_⟩
    · cases he
  | ref e0 =>
    simp only [fldD] at he
    split at he
    · rename_i k a c' l e2
      split at he
      · rename_i q
        subst q
        obtain ⟨_, _, ci', dx, fs, e3, e4, e5, e6, e7⟩ := si.m.is _ _ _ e2 (by intro z; cases z) e0
        rw [hc] at e3
        cases e3
        have z := e7 i n hn
        rw [he] at z
        obtain ⟨w, ew, rw_⟩ := z
        exact ⟨_, _, _, _, w, rfl, e4, co.cl, na, ew, o2.here si rw_⟩
      · cases he
    · cases he
  | _ => simp only [fldD] at he; cases he

/-! ### built-ins -/
theorem se_bi {b : Bi} (o : OkX X Y C Γ g) (hG : g = true ∨ b ≠ .repr) (hg : glB X.env.scope b.name = true) (hl : PA X (x :: es) (tA Y fl)) (hs : starEach (x :: es) X.env = (false, eval x X.env) :: starEach es X.env) (hp : (starEach es X.env).any (·.1) = false) :
    SE X (.Call (.Name b.name p) (x :: es) [] q) Y (fun ρ m => (fl ρ m).bind fun ds m1 => ofO (biD b ds m1) m1) := by
  obtain ⟨hg, hdb⟩ := glB_gl hg
  have hm : X.mg b.name = none := o.bi _ (by cases b <;> decide)
  have hnn : b.name ≠ "__name__" := by cases b <;> decide
  have S := bi_sound (X := X) (Y := Y) o.hK o.calm b (fun e => o.hg (hG.resolve_right fun h => h e)) o.un
  have T : ∀ σ H Q, tE Y (fun ρ m => (fl ρ m).bind fun ds m1 => ofO (biD b ds m1) m1) σ H Q → tCB (rC Y (biD b)) (tA Y fl) σ H Q := fun σ H Q q => by
    refine tX.bind q fun ρ ds m xs W H1 si en r o => ?_
    obtain ⟨d, e, o⟩ := o.ofO
    exact ⟨W, m, ds, d, si, r, e, o⟩
  refine SE.of ?_ rfl
  have hv := b.boot
  unfold Bi.val at S hv
  split at S
  · rename_i c
    rw [if_pos c] at hv
    exact PE.imp (pe_callTy S hg hm hv hl hnn hdb hs (plain_back hp)) T
  · rename_i c
    rw [if_neg c] at hv
    exact PE.imp (pe_callB S hg hm hv hl hnn hdb hs (plain_back hp)) T
theorem se_isi {t : Ty} {zn : Str} {pz : Pos} (o : OkX X Y C Γ g) (hg : glB X.env.scope "isinstance" = true) (ht : t.nm C = some zn) (hz : glB X.env.scope zn = true) (ha : SE X x Y fa) (hs1 : starEach [x, .Name zn pz] X.env = (false, eval x X.env) :: starEach [.Name zn pz] X.env) :
    SE X (.Call (.Name "isinstance" p) [x, .Name zn pz] [] q) Y (fun ρ m => (fa ρ m).bind fun x m1 => ofO ((isiD t x m1).map .bl) m1) := by
  obtain ⟨hg, hdb⟩ := glB_gl hg
  obtain ⟨hz, hzd⟩ := glB_gl hz
  have hm : X.mg "isinstance" = none := o.bi _ (by decide)
  -- the class as a value
  have cls : ∃ c, TyV Y.CT t c ∧ PE X (.Name zn pz) (tC c) := by
    cases t with
    | cls c =>
      simp only [Ty.nm, Option.map_eq_some_iff] at ht
      obtain ⟨pr, e, rfl⟩ := ht
      obtain ⟨ci, h1, h2, h3, _⟩ := o.cn c pr e
      exact ⟨.ref ci.C, ⟨ci, h1, rfl⟩, pe_glob hz h3 rfl hzd⟩
    | int => cases ht; exact ⟨.ty "int", rfl, pe_bltn hz (o.bi _ (by decide)) (Bi.boot .int) rfl (by decide) hzd⟩
    | bool => cases ht; exact ⟨.ty "bool", rfl, pe_bltn hz (o.bi _ (by decide)) (Bi.boot .bool) rfl (by decide) hzd⟩
    | str => cases ht; exact ⟨.ty "str", rfl, pe_bltn hz (o.bi _ (by decide)) (Bi.boot .str) rfl (by decide) hzd⟩
    | tuple => cases ht; exact ⟨.ty "tuple", rfl, pe_bltn hz (o.bi _ (by decide)) (Bi.boot .tuple) rfl (by decide) hzd⟩
    | list => cases ht; exact ⟨.ty "list", rfl, pe_bltn hz (o.bi _ (by decide)) (Bi.boot .list) rfl (by decide) hzd⟩
    | dict => cases ht; exact ⟨.ty "dict", rfl, pe_bltn hz (o.bi _ (by decide)) (Bi.boot .dict) rfl (by decide) hzd⟩
  obtain ⟨c, hc, pc⟩ := cls
  have pa : PA X [x, .Name zn pz] (tCons (tE Y fa) (tCons (tC c) tNil)) := pa_cons ha.e (pa_cons pc pa_nil) hs1
  refine SE.of (PE.imp (pe_callB (isi_sound o.hK o.cls) hg hm (by decide +kernel) pa (by decide) hdb hs1 rfl) fun σ H Q q => ?_) rfl
  refine tX.bind q fun ρ d m v W H1 si en r o => ?_
  obtain ⟨e, he, o⟩ := o.ofO
  obtain ⟨b, hb, rfl⟩ := Option.map_eq_some_iff.mp he
  exact ⟨W, m, v, c, t, d, b, rfl, si, hc, r, hb, o.here si (.bl b)⟩
theorem se_sm {s : Sm} {apos : Pos} {n : Str} (o : OkX X Y C Γ g) (hn : n = s.name) (hcnt : s ≠ .count) (ha : SE X y Y fa) (hb : plainB y = true) (hl : PA X (x :: es) (tA Y fl))
    (hfew : ((backTo q (starEach (x :: es) X.env)).all (fun x => !x.1) && (backToKw q (keywordEach [] X.env)).all (fun x => x.1.isSome) && decide ((x :: es).length + ([] : List Keyword).length + (if ([] : List Keyword).isEmpty then 0 else 1) < 30)) = true)
    (hline : apos.endLine = q.line) (hs : starEach (x :: es) X.env = (false, eval x X.env) :: starEach es X.env) (hp : (starEach es X.env).any (·.1) = false) :
    SE X (.Call (.Attribute y n apos) (x :: es) [] q) Y (fun ρ m => (fa ρ m).bind fun x m1 => match smK s (deref m1 x) with
    | some k => (fl ρ m1).bind fun ds m2 => ofO (smD s k x ds m2) m2
    | none => .bad) := by
  subst hn
  refine SE.of (PE.imp (pe_sm o.hK (by have := o.un; omega) hcnt ha.e hl (base_plain hb) hfew (by rw [hline]; simp) hs (plain_back hp)) fun σ H Q q => ?_) rfl
  refine tX.bind q fun ρ d m v W H1 si en r o => ?_
  cases e : smK s (deref m d) with
  | none => rw [e] at o; exact o.elim
  | some k =>
    rw [e] at o
    refine ⟨k, ⟨W, m, d, si, r, e⟩, W, ρ, m, si, en, o.bind fun ds m2 xs W2 H2 _ si2 le2 rs o2 => ?_⟩
    obtain ⟨dd, ed, o2⟩ := o2.ofO
    exact ⟨W2, m2, d, ds, dd, si2, r.mono le2, rs, ed, o2⟩

/-! ### a method's new list as a thing of the store -/
theorem sm_soundM (hK : X.K = Y.K) (s : Sm) (k : Nat) : MtR X (s.idOf k) (fun x vs H Q => ∃ W m dx ds, Y.sit W H m ∧ Y.rep W H x dx ∧ Y.repL W H vs ds ∧ Out Y W H (toM (ofO (smD s k dx ds m) m)) Y.rep Q) := by
  intro pins st σ H x xs v us Q I rx rs h
  obtain ⟨W, m, dx, ds, si, r1, r2, h⟩ := h
  unfold smD at h
  split at h
  · rename_i z
    obtain rfl := deref_str z
    split at h
    · rename_i c
      obtain ⟨y, rfl, ry⟩ := RepL.one r2
      obtain rfl := ry.str_
      refine mt_split pins st σ H x _ v us Q I rx rs ⟨_, _, r1.str_, rfl, ?_, by rw [← lim_eq]; exact c.2, h.putL si (RepL.of_strs _)⟩
      simp
      omega
    · exact h.elim
  · rename_i z
    cases e1 : items m _ with
    | none => rw [e1] at h; exact h.elim
    | some l =>
      rw [e1, Option.bind_some] at h
      cases e2 : strL l with
      | none => rw [e2] at h; exact h.elim
      | some ys =>
        rw [e2, Option.bind_some] at h
        split at h <;> exact h.elim
  · rename_i l y z
    cases e1 : findD l (deref m y) with
    | none => rw [e1] at h; exact h.elim
    | some d => rw [e1] at h; exact absurd h (by obtain ⟨p, qs, j, w, _, _, _, _, rfl, _⟩ := findD_at e1; exact fun h => h.elim)
  · rename_i l y z
    cases e1 : findD l (deref m y) with
    | none => rw [e1] at h; exact h.elim
    | some d => rw [e1] at h; exact absurd h (by obtain ⟨p, qs, j, w, _, _, _, _, rfl, _⟩ := findD_at e1; exact fun h => h.elim)
  · exact h.elim
theorem pe_smM {s : Sm} {o e : Expr} {es : List Expr} {to : TE} {t : TA} {apos cpos : Pos} (hK : X.K = Y.K) (hcnt : s ≠ .count) (ho : PE X o to) (ha : PA X (e :: es) t) (hbase : attributeBase o s.name X.env (eval o X.env) = eval o X.env)
    (hfew : ((backTo cpos (starEach (e :: es) X.env)).all (fun x => !x.1) && (backToKw cpos (keywordEach [] X.env)).all (fun x => x.1.isSome) && decide ((e :: es).length + ([] : List Keyword).length + (if ([] : List Keyword).isEmpty then 0 else 1) < 30)) = true)
    (hline : (apos.endLine == cpos.line) = true) (hs : starEach (e :: es) X.env = (false, eval e X.env) :: starEach es X.env) (hplain : (backTo cpos (starEach es X.env)).any (·.1) = false) :
    PE X (.Call (.Attribute o s.name apos) (e :: es) [] cpos) (fun σ H Q => to σ H fun x H1 => ∃ k, rRecv Y s k x H1 ∧ t σ H1 fun xs H2 => ∃ W m dx ds, Y.sit W H2 m ∧ Y.rep W H2 x dx ∧ Y.repL W H2 xs ds ∧ Out Y W H2 (toM (ofO (smD s k dx ds m) m)) Y.rep Q) := by
  refine ⟨fun pins st σ H Q I h => wpAny_Call_method_late hbase hfew hline rfl (thn (ho.run pins st σ H _ I h) fun v s1 ⟨x, H1, I1, r1, k, rc, q1⟩ => ?_)⟩
  obtain ⟨h1, h2⟩ := recv_ok hK I1 r1 rc
  obtain ⟨_, _, _, _, _, ek⟩ := id rc
  obtain ⟨f1, f2, f3⟩ := sm_slot ek hcnt
  refine ⟨smT k, s.idOf k, f1, f2, f3, h1, h2, ?_⟩
  have hA := ha.run cpos pins s1 σ H1 _ I1 q1
  rw [hs] at hA ⊢
  refine Calls.callWith_builtin (by show (false || (backTo cpos (starEach es X.env)).any (·.1)) = false; rw [hplain]; rfl) (Calls.evalArgs_plain ?_)
  exact thn hA fun us s2 ⟨vs, H2, I2, r2, q2⟩ => sm_soundM hK s k pins s2 σ H2 x vs v us Q I2 r1 r2 q2
theorem se_msm {s : Sm} {apos : Pos} {n : Str} (o : OkX X Y C Γ g) (hn : n = s.name) (hcnt : s ≠ .count) (ha : SE X y Y fa) (hb : plainB y = true) (hl : PA X (x :: es) (tA Y fl))
    (hfew : ((backTo q (starEach (x :: es) X.env)).all (fun x => !x.1) && (backToKw q (keywordEach [] X.env)).all (fun x => x.1.isSome) && decide ((x :: es).length + ([] : List Keyword).length + (if ([] : List Keyword).isEmpty then 0 else 1) < 30)) = true)
    (hline : apos.endLine = q.line) (hs : starEach (x :: es) X.env = (false, eval x X.env) :: starEach es X.env) (hp : (starEach es X.env).any (·.1) = false) :
    SE X (.Call (.Attribute y n apos) (x :: es) [] q) Y (fun ρ m => (fa ρ m).bind fun x m1 => match smK s (deref m1 x) with
    | some k => (fl ρ m1).bind fun ds m2 => toM (ofO (smD s k x ds m2) m2)
    | none => .bad) := by
  subst hn
  refine SE.of (PE.imp (pe_smM o.hK hcnt ha.e hl (base_plain hb) hfew (by rw [hline]; simp) hs (plain_back hp)) fun σ H Q q => ?_) rfl
  refine tX.bind q fun ρ d m v W H1 si en r o => ?_
  cases e : smK s (deref m d) with
  | none => rw [e] at o; exact o.elim
  | some k =>
    rw [e] at o
    refine ⟨k, ⟨W, m, d, si, r, e⟩, W, ρ, m, si, en, o.bind fun ds m2 xs W2 H2 _ si2 le2 rs o2 => ?_⟩
    exact ⟨W2, m2, d, ds, si2, r.mono le2, rs, o2⟩
/-! ### how many different texts -/
theorem seen_eq {ys : List Str} : ∀ i, seenD ys i = EvS.seen ys i
  | 0 => rfl
  | i + 1 => by rw [seenD, EvS.seen, seen_eq i]
theorem se_lenset {p2 : Pos} (o : OkX X Y C Γ g) (h1 : glB X.env.scope "len" = true) (h2 : glB X.env.scope "set" = true) (ha : SE X x Y fa) (hs : ∀ es, starEach (x :: es) X.env = (false, eval x X.env) :: starEach es X.env) :
    SE X (.Call (.Name "len" p) [.Call (.Name "set" p2) [x] [] q] [] pp) Y (fun ρ m => (fa ρ m).bind fun x m1 => ofO (lensetD x m1) m1) := by
  obtain ⟨g1, _⟩ := glB_gl h1
  obtain ⟨g2, _⟩ := glB_gl h2
  refine SE.of (PE.imp (EvS.pe_lenS o.calm g1 (o.bi "len" (by decide)) g2 (o.bi "set" (by decide)) ha.e (hs [])) fun σ H Q q => ?_) rfl
  refine tX.bind q fun ρ d m v W H1 si en r o1 => ?_
  obtain ⟨dd, e, o2⟩ := o1.ofO
  unfold lensetD at e
  split at e
  · rename_i l z
    obtain ⟨ys, e1, e⟩ := Option.bind_eq_some_iff.mp e
    split at e
    · rename_i c
      cases e
      obtain rfl := deref_tup z
      obtain ⟨a, zs, rfl, h1, q1⟩ := r.tup_
      obtain rfl := q1.strs e1
      refine ⟨a, ys, rfl, o.hK ▸ h1, by omega, ?_⟩
      rw [← seen_eq]
      exact o2.here si (.int _)
    · cases e
  · cases e
/-! ### an operator's new list as a thing of the store -/
theorem se_mbin {op : Operator} (o : OkX X Y C Γ g) (ha : SE X x Y fa) (hb : SE X y Y fb) : SE X (.BinOp x op y p) Y (fun ρ m => (fa ρ m).bind fun x m1 => (fb ρ m1).bind fun y m2 => toM (opBin op x y m2)) := by
  have S : OpR X (binaryOp op) (rD2 Y fun x y m => toM (opBin op x y m)) := by
    intro pins st σ H x y v u Q I rx ry h
    obtain ⟨W, m, dx, dy, si, r1, r2, h⟩ := h
    unfold opBin at h
    dsimp only at h
    split at h <;> try (first | exact h.elim | (split at h <;> exact h.elim))
    · rename_i e1 e2
      split at h
      · rename_i c
        obtain ⟨a, xs, z1, h1, q1⟩ := r1.lst_ si e1
        obtain ⟨b, ys, z2, h2, q2⟩ := r2.lst_ si e2
        exact op_cat pins st σ H x y v u Q I rx ry ⟨a, b, xs, ys, z1, z2, h1, h2, by rw [q1.length, q2.length]; exact sizeOk_le c, h.putL si (q1.append q2)⟩
      · exact h.elim
    · rename_i e1 e2
      obtain rfl := deref_int e2
      split at h
      · rename_i c
        obtain ⟨a, xs, z1, h1, q1⟩ := r1.lst_ si e1
        exact op_rep pins st σ H x y v u Q I rx ry ⟨a, _, xs, z1, r2.int_, h1, c.1, c.2.1, by rw [q1.length, ← lim_eq]; exact c.2.2, h.putL si (q1.rep _)⟩
      · exact h.elim
  exact SE.of (PE.imp (pe_op S ha.e hb.e) fun σ H Q q => t2 (fun W m vx vy dx dy H Q si r1 r2 o => ⟨W, m, dx, dy, si, r1, r2, o⟩) q) rfl

/-! ### a call by keywords alone -/
theorem tX_bindE {α β γ δ : Type} {f : Env → Mem → R α} {k : Env → α → Mem → R γ} {Rel : Wd → Hp → β → α → Prop} {Rel2 : Wd → Hp → δ → γ → Prop} {σ : L2.St} {H : Hp} {Q : β → Hp → Prop} {Q2 : δ → Hp → Prop}
    (h : tX Y (fun ρ m => (f ρ m).bind (k ρ)) Rel2 σ H Q2) (hk : ∀ ρ a m0 m b W H', f ρ m0 = .ok a m → Y.sit W H' m → EnvOk Y W H' σ ρ → Rel W H' b a → Out Y W H' (k ρ a m) Rel2 Q2 → Q b H') : tX Y f Rel σ H Q := by
  obtain ⟨W, ρ, m, si, en, o⟩ := h
  exact ⟨W, ρ, m, si, en, o.bind fun a m1 b W' H' e si' le rel o' => hk ρ a m m1 b W' H' e si' (en.mono le) rel o'⟩
theorem evL_len : ∀ {l : EL} {ρ : Env} {m m' : Mem} {ds : List D}, l.plain = true → evL Γ l ρ m = .ok ds m' → ds.length = l.len
  | .nil, ρ, m, m', ds, _, h => by simp only [evL] at h; cases h; rfl
  | .star _, ρ, m, m', ds, hp, h => by simp [EL.plain] at hp
  | .cons e l, ρ, m, m', ds, hp, h => by
    simp only [evL] at h
    cases e1 : evE Γ e ρ m with
    | ok d m1 =>
      rw [e1] at h
      simp only [R.bind_ok] at h
      cases e2 : evL Γ l ρ m1 with
      | ok ds2 m2 =>
        rw [e2] at h
        simp only [R.bind_ok] at h
        cases h
        simp [EL.len, evL_len (by simpa [EL.plain] using hp) e2]
      | exc c x m2 => rw [e2] at h; cases h
      | bad => rw [e2] at h; cases h
    | exc c x m1 => rw [e1] at h; cases h
    | bad => rw [e1] at h; cases h
theorem pick_len {α : Type} {perm : List Nat} {l : List α} (h : ∀ i ∈ perm, i < l.length) : (pick perm l).length = perm.length := by
  unfold pick
  induction perm with
  | nil => rfl
  | cons i r ih =>
    have hi := h i List.mem_cons_self
    rw [List.filterMap_cons, List.getElem?_eq_getElem hi]
    simp [ih fun j hj => h j (List.mem_cons_of_mem _ hj)]
theorem pick_vals {perm : List Nat} {vs : List V} {us : List Value} (r : Vals vs us) : Vals (pick perm vs) (pick perm us) := by
  unfold pick
  induction perm with
  | nil => exact .nil
  | cons i rest ih =>
    rw [List.filterMap_cons, List.filterMap_cons]
    cases e : vs[i]? with
    | none => rw [r.none_of e]; exact ih
    | some v =>
      obtain ⟨u, e2, rv⟩ := r.get e
      rw [e2]
      exact .cons rv ih
theorem pick_rep {W : Wd} {H : Hp} {perm : List Nat} {vs : List V} {ds : List D} (r : Y.repL W H vs ds) : Y.repL W H (pick perm vs) (pick perm ds) := by
  unfold pick
  induction perm with
  | nil => exact .nil
  | cons i rest ih =>
    rw [List.filterMap_cons, List.filterMap_cons]
    cases e : ds[i]? with
    | none =>
      have : vs[i]? = none := by
        have h1 := r.length
        have h2 : ds.length ≤ i := List.getElem?_eq_none_iff.mp e
        exact List.getElem?_eq_none_iff.mpr (by omega)
      rw [this]
      exact ih
    | some d =>
      obtain ⟨v, e2, rv⟩ := r.get e
      rw [e2]
      exact .cons rv ih
theorem se_callK {n : Str} {f : List D → Mem → R D} {ks : List Str} {perm : List Nat} {kws : List Keyword} {l : EL} (o : OkX X Y C Γ g) (hf : FOk X Y (.kw n ks perm) f) (hg : glB X.env.scope n = true) (hl : PK X kws (tA Y (evL Γ l))) (hall : (backToKw q (keywordEach kws X.env)).all (·.1.isSome) = true) (hks : (backToKw q (keywordEach kws X.env)).filterMap (·.1) = ks)
    (hlen : l.len = ks.length) (hpn : l.plain = true) : SE X (.Call (.Name n p) [] kws q) Y (fun ρ m => (evL Γ l ρ m).bind fun ds m1 => f (pick perm ds) m1) := by
  obtain ⟨k, a, fd, ps, nn, P, hr, hm, hk, hb, hn⟩ := hf
  obtain ⟨hg, hdb⟩ := glB_gl hg
  obtain ⟨hb1, hb2, hb3⟩ := hb
  have hpl : ((backTo q (starEach [] X.env)).any (·.1) || (backToKw q (keywordEach kws X.env)).any (·.1.isNone)) = false := by
    have h2 : (backToKw q (keywordEach kws X.env)).any (·.1.isNone) = false := by
      rw [List.any_eq_false]
      intro x hx
      have := List.all_eq_true.mp hall x hx
      cases h : x.1 with
      | none => rw [h] at this; cases this
      | some v => simp
    rw [h2]
    rfl
  have T : PE X (.Call (.Name n p) [] kws q) (tE Y (fun ρ m => (evL Γ l ρ m).bind fun ds m1 => f (pick perm ds) m1)) := by
    refine ⟨fun pins st σ H Q I h => ?_⟩
    refine wpAny_Call_Name_kw (ld_glob I hg hm ?_ hdb)
    have h' := hl.run q pins st σ H (fun vs H1 => spOf Y nn f (pick perm vs) H1 Q Y.E ∧ vs.length = ks.length) I (tX_bindE h fun ρ ds m0 m xs W H1 ev si en r ou => ?_)
    · refine PySem.W.callWith_KW0 (h₀ := X.base) I.ok.mod.kin hk hall (thn h' fun ws s1 ⟨vs, H1, I1, rv, q1, q2⟩ => ⟨I1.kIn, ?_⟩) hpl
      rw [hks]
      have rp : Vals (pick perm vs) (pick perm ws) := pick_vals rv
      have hws : ws.length = ks.length := rv.length ▸ q2
      rcases P with F | ⟨hG, F⟩
      · refine wpAny_call (codeAny_mono (F.run X.A X.stack s1 H1 ⟨[], ks.zip ws⟩ (pick perm ws) (pick perm vs) Q Y.E hr I1.env0 (hb3 s1 ws I1.kIn hws) rp q1) fun rs s' hq => ?_)
        match rs, hq with
        | .error e, hq => exact o.hx pins σ H1 s1 e s' I1 hq
        | .ok (.ret u), hq => exact I1.after hq
      · refine wpAny_call (codeAny_mono (F.run X.A X.stack s1 H1 ⟨[], ks.zip ws⟩ (pick perm ws) (pick perm vs) Q Y.E hr hG I1.env0 (hb3 s1 ws I1.kIn hws) rp q1) fun rs s' hq => ?_)
        match rs, hq with
        | .error e, hq => exact o.hx pins σ H1 s1 e s' I1 hq
        | .ok (.ret u), hq => exact I1.after hq
    · refine ⟨⟨?_, W, m, pick perm ds, si, pick_rep r, ou⟩, by rw [r.length, evL_len hpn ev, hlen]⟩
      rcases hn (pick perm ds) m with e | e
      · rw [e] at ou; exact ou.elim
      · rw [(pick_rep (perm := perm) r).length]; exact e
  exact SE.of T rfl

/-! ### len, str of an instance -/
theorem run_spec {pins : List (Addr × Obj)} {σ : L2.St} {H : Hp} {s : Shared} {Q : VK} {k : Nat} {f a : Addr} {fd : FuncData} {ps : List Str} {sp : Sp} {A' : Around} {E' : Value → Shared → Prop} (F : FnOk X.prog X.w X.K X.mg X.base (L2.CX X.prog X.w) k f fd ps sp) (hr : Room k A')
    (I : Inv X pins σ H s) (he : Env0 X.prog X.w X.K X.mg X.base A' X.stack s H) (hb : Binds X.K fd ps []) (h : sp [.ref a] H Q (fun _ _ _ => False)) : wpAny (model X.prog X.w) A' (call (.ref f) [.ref a]) (EP X pins σ Q) E' s := by
  have hl : ([Value.ref a] ++ []).length = ps.length := F.len _ _ _ _ h
  refine wpAny_call (codeAny_mono (F.run A' X.stack s H ⟨[.ref a], []⟩ [.ref a] [.ref a] Q _ hr he (hb s [.ref a] I.kIn hl) (.cons rfl .nil) h) fun rs s' hq => ?_)
  match rs, hq with
  | .error e, hq => exact False.elim (passL (X := X.nox) pins σ H s e s' (I.wish _) hq)
  | .ok (.ret u), hq => exact I.after hq
theorem se_len {c : Nat} {f : List D → Mem → R D} (o : OkX X Y C Γ g) (hf : FOk X Y (.len c) f) (hg : glB X.env.scope "len" = true) (ha : SE X x Y fa) (hs : starEach [x] X.env = (false, eval x X.env) :: starEach [] X.env) :
    SE X (.Call (.Name "len" p) [x] [] q) Y (fun ρ m => (fa ρ m).bind fun x m1 => if clsOf m1 x = some c then (f [x] m1).noexc.bind fun d m2 => if Sq.len.ok d then .ok d m2 else .bad else .bad) := by
  obtain ⟨k, fad, fd, ps, ci, hc, hfi, hfn, F, hr, hb⟩ := hf
  obtain ⟨hg, hdb⟩ := glB_gl hg
  have hm : X.mg "len" = none := o.bi _ (by decide)
  have S : CallR X (.builtin "len") (fun vs H Q => ∃ W m v d, vs = [v] ∧ Y.sit W H m ∧ Y.rep W H v d ∧ clsOf m d = some c ∧ Out Y W H ((f [d] m).noexc.bind fun d m2 => if Sq.len.ok d then .ok d m2 else .bad) Y.rep Q) := by
    intro pins s σ H vs us Q I r h
    obtain ⟨W, m, v, d, rfl, si, rv, e, o'⟩ := h
    obtain ⟨a, dx, fs, rfl, ea, _⟩ := clsOf_ins si rv e hc
    obtain ⟨u, rfl, ru⟩ := vals1 r
    obtain rfl : u = Value.ref a := ru
    obtain ⟨mA, O, _⟩ := ins_get I.hok ea
    obtain ⟨od, J, _⟩ := O.look
    obtain ⟨fm, F0⟩ := I.fr
    refine PySem.W.len_K F0 I.mod.kin J hfi hfn (thn (run_spec (Q := fun v H => ∃ n : Int, v = .int n ∧ (0 ≤ n ∧ n < 2 ^ 62) ∧ Q (.int n) H) F hr.in1 I I.env0.in1 hb ⟨rfl, W, m, [d], si, .cons rv .nil, ?_⟩) fun u s2 hu => ?_)
    · refine Out.unx (Out.bind o' fun d2 m2 v2 W2 H2 _ si2 le2 r2 o2 => ?_)
      split at o2
      · rename_i cc
        cases d2 <;> simp [Sq.ok] at cc
        obtain rfl := r2.int_
        exact ⟨_, rfl, cc, o2.here si2 (.int _)⟩
      · exact o2.elim
    · obtain ⟨v2, H2, I2, r2, n, rfl, hn, q2⟩ := hu
      obtain ⟨t, rfl⟩ := r2
      exact ⟨⟨hn.1, by omega⟩, .int n, H2, I2.tok _, ⟨_, rfl⟩, q2⟩
  have pa : PA X [x] (tCons (tE Y fa) tNil) := pa_cons ha.e pa_nil hs
  refine SE.of (PE.imp (pe_callB S hg hm (by decide +kernel) pa (by decide) hdb hs rfl) fun σ H Q q => ?_) rfl
  refine tX.bind q fun ρ d m v W H1 si en r o => ?_
  split at o
  · rename_i e
    exact ⟨W, m, v, d, rfl, si, r, e, o⟩
  · exact o.elim
theorem se_str {c : Nat} {f : List D → Mem → R D} (o : OkX X Y C Γ g) (hf : FOk X Y (.str c) f) (hg : glB X.env.scope "str" = true) (ha : SE X x Y fa) (hs : starEach [x] X.env = (false, eval x X.env) :: starEach [] X.env) :
    SE X (.Call (.Name "str" p) [x] [] q) Y (fun ρ m => (fa ρ m).bind fun x m1 => if clsOf m1 x = some c then (f [x] m1).noexc.bind fun d m2 => if Sq.str.ok d then .ok d m2 else .bad else .bad) := by
  obtain ⟨k, fad, fd, ps, ci, hc, hfi, hfn, F, hr, hb⟩ := hf
  obtain ⟨hg, hdb⟩ := glB_gl hg
  have hm : X.mg "str" = none := o.bi _ (by decide)
  have S : CallR X (.type "str") (fun vs H Q => ∃ W m v d, vs = [v] ∧ Y.sit W H m ∧ Y.rep W H v d ∧ clsOf m d = some c ∧ Out Y W H ((f [d] m).noexc.bind fun d m2 => if Sq.str.ok d then .ok d m2 else .bad) Y.rep Q) := by
    intro pins s σ H vs us Q I r h
    obtain ⟨W, m, v, d, rfl, si, rv, e, o'⟩ := h
    obtain ⟨a, dx, fs, rfl, ea, _⟩ := clsOf_ins si rv e hc
    obtain ⟨u, rfl, ru⟩ := vals1 r
    obtain rfl : u = Value.ref a := ru
    obtain ⟨mA, O, _⟩ := ins_get I.hok ea
    obtain ⟨od, J, _⟩ := O.look
    refine PySem.W.kso_call (by have := hr.in1.in1.un; omega) I.kIn J hfi hfn (thn (run_spec (Q := fun v H => ∃ n : Str, v = .str n ∧ Q (.str n) H) F hr.in1.in1 I I.env0.in1.in1 hb ⟨rfl, W, m, [d], si, .cons rv .nil, ?_⟩) fun u s2 hu => ?_)
    · refine Out.unx (Out.bind o' fun d2 m2 v2 W2 H2 _ si2 le2 r2 o2 => ?_)
      split at o2
      · rename_i cc
        cases d2 <;> simp [Sq.ok] at cc
        obtain rfl := r2.str_
        exact ⟨_, rfl, o2.here si2 (.str _)⟩
      · exact o2.elim
    · obtain ⟨v2, H2, I2, r2, n, rfl, q2⟩ := hu
      obtain ⟨t, rfl⟩ := r2
      exact ⟨.str n, H2, I2, ⟨_, rfl⟩, q2⟩
  have pa : PA X [x] (tCons (tE Y fa) tNil) := pa_cons ha.e pa_nil hs
  refine SE.of (PE.imp (pe_callTy S hg hm (Bi.boot .str) pa (by decide) hdb hs rfl) fun σ H Q q => ?_) rfl
  refine tX.bind q fun ρ d m v W H1 si en r o => ?_
  split at o
  · rename_i e
    exact ⟨W, m, v, d, rfl, si, r, e, o⟩
  · exact o.elim
end
end Ev

set_option Elab.async false
set_option linter.all false
set_option maxRecDepth 100000
/-! Ev12: things of the store given up (fin, mk), targets, iterables. -/
namespace Ev
open PySem PySem.Spec PyProof.Rows L2

/-! ### giving up the store's things from n on -/
def Wd.cut (W : Wd) (n : Nat) (x : Option Addr) : Wd := { W with F := fun a => W.F a ∨ x = some a, μ := W.μ.take n }
section
variable {K : PySem.W.Frag} {CT : List ClsI} {W : Wd} {H : Hp} {m : Mem} {n : Nat} {x : Option Addr}
mutual
theorem Rep.cut : ∀ {v : V} {d : D}, Rep K CT W H v d → D.ltb n d = true → Rep K CT (W.cut n x) H v d
  | _, _, .non, _ => .non
  | _, _, .bl b, _ => .bl b
  | _, _, .int b, _ => .int b
  | _, _, .str b, _ => .str b
  | _, _, .tup f h d r, e => .tup (.inl f) h d (RepL.cutL r (by simpa [D.ltb] using e))
  | _, _, .lst f h r, e => .lst (.inl f) h (RepL.cutL r (by simpa [D.ltb] using e))
  | _, _, .scr h r, e => .scr (h.imp (fun ⟨f, q⟩ => ⟨.inl f, q⟩) id) (RepL.cutL r (by simpa [D.ltb] using e))
  | _, _, .obj hc f h hn hx hs r, e => .obj hc (.inl f) h hn hx hs (RepL.cutL r (by simpa [D.ltb] using e))
  | _, _, .ref (k := k) h, e => .ref (by
      have hk : k < n := by simpa [D.ltb] using e
      show (W.μ.take n)[k]? = _
      rw [List.getElem?_take, if_pos hk]
      exact h)
theorem RepL.cutL : ∀ {v : List V} {d : List D}, RepL K CT W H v d → D.ltbL n d = true → RepL K CT (W.cut n x) H v d
  | _, _, .nil, _ => .nil
  | _, _, .cons r s, e => by
    simp only [D.ltbL, Bool.and_eq_true] at e
    exact .cons (Rep.cut r e.1) (RepL.cutL s e.2)
end
theorem MoIs.cut {a : Addr} {mo : MO} (h : MoIs K CT W H a mo) (hl : MO.ltb n mo = true) : MoIs K CT (W.cut n x) H a mo := by
  cases mo with
  | lst l => obtain ⟨xs, e, r⟩ := h; exact ⟨xs, e, r.cutL hl⟩
  | dct l => exact h
  | ins c l =>
    obtain ⟨ci, dx, fs, e1, e2, r1, r2, r3⟩ := h
    refine ⟨ci, dx, fs, e1, e2, r1, r2, fun i f e => ?_⟩
    have q := r3 i f e
    cases z : l.lookup i with
    | none => rw [z] at q; exact q
    | some d =>
      rw [z] at q
      obtain ⟨v, e1, r⟩ := q
      refine ⟨v, e1, r.cut ?_⟩
      simp only [MO.ltb, List.all_eq_true] at hl
      have mem : ∀ {l : List (Nat × D)} {i : Nat} {d : D}, l.lookup i = some d → ∃ j, (j, d) ∈ l := fun {l} => by
        induction l with
        | nil => intro i d h; cases h
        | cons p r ih =>
          intro i d h
          obtain ⟨j, e⟩ := p
          rw [List.lookup_cons] at h
          split at h
          · cases h; exact ⟨j, List.mem_cons_self⟩
          · obtain ⟨j', hj⟩ := ih h; exact ⟨j', List.mem_cons_of_mem _ hj⟩
      obtain ⟨j, hj⟩ := mem z
      exact hl (j, d) hj
  | dead => trivial
theorem Sit.cut (s : Sit K CT W H m) (hn : n ≤ m.length) (hl : memLt n (m.take n) = true) (hx : ∀ a, x = some a → ∃ k, n ≤ k ∧ W.μ[k]? = some a) : Sit K CT (W.cut n x) H (m.take n) := by
  have hlen : m.length = W.μ.length := s.m.len
  refine ⟨⟨fun a h => ?_, s.w.P, fun a h q => ?_, fun a h => s.w.μ a (List.mem_of_mem_take h), s.w.nd.sublist (List.take_sublist ..), fun a h => s.w.μP a (List.mem_of_mem_take h)⟩, by simp [Wd.cut, hlen], fun k mo a e1 e2 e3 => ?_⟩
  · rcases h with h | h
    · exact s.w.F a h
    · obtain ⟨k, _, e⟩ := hx a h
      exact s.w.μ a (List.mem_of_getElem? e)
  · rcases h with h | h
    · exact s.w.FP a h q
    · obtain ⟨k, _, e⟩ := hx a h
      exact s.w.μP a (List.mem_of_getElem? e) q
  · have e3' : (W.μ.take n)[k]? = some a := e3
    have hm : mo ∈ m.take n := List.mem_of_getElem? e1
    rw [List.getElem?_take] at e1 e3'
    split at e1
    · rename_i hk
      rw [if_pos hk] at e3'
      obtain ⟨f, q, r⟩ := s.m.is k mo a e1 e2 e3'
      refine ⟨fun z => ?_, q, r.cut (by simp only [memLt, List.all_eq_true] at hl; exact hl mo hm)⟩
      rcases z with z | z
      · exact f z
      · obtain ⟨j, hj, e⟩ := hx a z
        have := nodup_at s.w.nd e e3'
        omega
    · cases e1
theorem le_cut {W0 : Wd} {H0 : Hp} (le : Le W0 H0 W H) (hn : n = W0.μ.length) : Le W0 H0 (W.cut n x) H :=
  ⟨fun a h => .inl (le.F a h), le.P, le.at_, [], by
    obtain ⟨t, e⟩ := le.μ
    show W.μ.take n = _
    rw [e, hn]
    simp⟩
/-- something new that no world knows -/
theorem Sit.new {d : Addr} {o : HO} (s : Sit K CT W H m) (hd : H d = none) : Sit K CT W (L2.upd H d o) m := by
  have nn : ∀ a, H a ≠ none → L2.upd H d o a ≠ none := fun a h => by
    have e : a ≠ d := by rintro rfl; exact h hd
    rw [upd_ne e]; exact h
  have l : Lf W H W (L2.upd H d o) := ⟨fun _ h => h, fun a h => upd_ne (by rintro rfl; exact s.w.F _ h hd), [], by simp⟩
  refine ⟨⟨fun a h => nn a (s.w.F a h), fun a h => nn a (s.w.P a h), s.w.FP, fun a h => nn a (s.w.μ a h), s.w.nd, s.w.μP⟩, s.m.len, fun k mo a e1 e2 e3 => ?_⟩
  obtain ⟨f, q, r⟩ := s.m.is k mo a e1 e2 e3
  have ne : a ≠ d := by rintro rfl; exact s.w.μ _ (List.mem_of_getElem? e3) hd
  exact ⟨f, q, r.monoF l (upd_ne ne)⟩
theorem le_new {d : Addr} {o : HO} (w : WOk W H) (hd : H d = none) : Le W H W (L2.upd H d o) :=
  ⟨fun _ h => h, rfl, fun a h => upd_ne (by rintro rfl; rcases h with h | h; exact w.F _ h hd; exact w.P _ h hd), [], by simp⟩
theorem fieldsD_at {l : List (Nat × D)} : ∀ {k : Nat} {ds : List D}, fieldsD l k = some ds → ds.length = k ∧ ∀ i < k, l.lookup i = ds[i]?
  | 0, ds, h => by simp [fieldsD] at h; subst h; simp
  | k + 1, ds, h => by
    simp only [fieldsD] at h
    obtain ⟨ds0, h0, h⟩ := Option.bind_eq_some_iff.mp h
    obtain ⟨d, h1, rfl⟩ := Option.map_eq_some_iff.mp h
    obtain ⟨e1, e2⟩ := fieldsD_at h0
    refine ⟨by simp [e1], fun i hi => ?_⟩
    by_cases c : i < k
    · rw [e2 i c, List.getElem?_append_left (by omega)]
    · have : i = k := by omega
      subst this
      rw [h1, List.getElem?_append_right (by omega), e1]
      simp
theorem RepL.of_at : ∀ {xs : List V} {ds : List D}, xs.length = ds.length → (∀ (i : Nat) (v : V) (d : D), xs[i]? = some v → ds[i]? = some d → Rep K CT W H v d) → RepL K CT W H xs ds
  | [], [], _, _ => .nil
  | [], _ :: _, h, _ => by simp at h
  | _ :: _, [], h, _ => by simp at h
  | x :: xs, d :: ds, h, k => .cons (k 0 x d rfl rfl) (RepL.of_at (by simpa using h) fun i v e h1 h2 => k (i + 1) v e (by simpa using h1) (by simpa using h2))
end
theorem ExcIs.cut {Y : Yx} {W : Wd} {H : Hp} {n : Nat} {y : Option Addr} {c : Nat} {x : Option D} {cls : Value} {dx : Option Addr} (h : ExcIs Y W H c x cls dx) (hl : ltbO n x = true) : ExcIs Y (W.cut n y) H c x cls dx := by
  obtain ⟨C, f, h1, h2, h3⟩ := h
  refine ⟨C, f, h1, h2, ?_⟩
  cases x with
  | none => exact h3
  | some d =>
    obtain ⟨a, v, e1, e2, r⟩ := h3
    exact ⟨a, v, e1, e2, r.cut hl⟩

/-! ### a new instance -/
section
variable {X : Cx} {Y : Yx} {C : Cfg} {Γ : Gam} {g : Bool} {x y z : Expr} {es : List Expr} {p q : Pos} {fa fb fc : Env → Mem → R D} {fl : Env → Mem → R (List D)}
theorem se_mk {zf : Bool} {c nf : Nat} {n : Str} {f : List D → Mem → R D} (o : OkX X Y C Γ g) (hf : FOk X Y (.init c) f) (hn : ∀ ci, Y.CT[c]? = some ci → X.mg n = some (.ref ci.C) ∧ nf = ci.fs.length) (hg : glB X.env.scope n = true) (hl : PA X (x :: es) (tA Y fl))
    (hs : starEach (x :: es) X.env = (false, eval x X.env) :: starEach es X.env) (hp : (starEach es X.env).any (·.1) = false) :
    SE X (.Call (.Name n p) (x :: es) [] q) Y (fun ρ m => (fl ρ m).bind fun ds m1 => mkD zf nf c m1.length (f (.ref m1.length :: ds) (m1 ++ [.ins c []]))) := by
  obtain ⟨k, fad, fd, ps, nn, ci, hc, hM, F, hr, hb, har⟩ := hf
  obtain ⟨hg, hdb⟩ := glB_gl hg
  obtain ⟨hm, hnf⟩ := hn ci hc
  refine SE.of (PE.imp (pe_make (dvs := []) (ds := []) hM F hr hg hm hb .nil o.hx hl hdb hs (plain_back hp)) fun σ H Q q => ?_) rfl
  refine tX.bind q fun ρ ds m xs W H1 si en r o => ?_
  intro xa dx hx hdx hne
  have hlen : m.length = W.μ.length := si.m.len
  have ex : L2.upd H1 dx (.own xa) xa = none := by rw [upd_ne (Ne.symm hne)]; exact hx
  have s1 := si.new (o := .own xa) hdx
  have l1 := le_new (o := .own xa) si.w hdx
  have s2 : Sit Y.K Y.CT (W.put xa) (L2.upd (L2.upd H1 dx (.own xa)) xa (.ins ci.C dx [])) (m ++ [.ins c []]) :=
    s1.put ex ⟨ci, dx, [], hc, upd_same, fun _ _ => rfl, Nat.zero_le _, fun i f e => rfl⟩
  have l2 : Le W H1 (W.put xa) (L2.upd (L2.upd H1 dx (.own xa)) xa (.ins ci.C dx [])) := l1.trans (le_put s1.w ex)
  refine ⟨?_, W.put xa, m ++ [.ins c []], .ref m.length :: ds, s2, .cons (.ref (by rw [hlen]; simp [Wd.put])) (by rw [List.append_nil]; exact r.mono l2), ?_⟩
  · rcases har (.ref m.length :: ds) (m ++ [.ins c []]) with e | e
    · rw [e] at o; exact o.elim
    · rw [← e]; simp [r.length]
  · revert o
    cases f (.ref m.length :: ds) (m ++ [.ins c []]) with
    | bad => exact fun o => o.elim
    | exc e y m' =>
      intro o cls dx' W' H' si' le hex
      cases zf with
      | false => exact o.elim
      | true =>
        simp only [mkD, if_true] at o
        split at o
        · rename_i cc
          simp only [Bool.and_eq_true, decide_eq_true_eq] at cc
          refine o cls dx' (W'.cut m.length none) H' (si'.cut cc.2 cc.1.2 (fun a h => nomatch h)) ?_ (hex.cut cc.1.1)
          exact le_cut (l2.trans le) hlen
        · exact o.elim
    | ok d m' =>
      cases d with
      | non =>
        intro o v W' H' si' le rel
        refine ⟨rel.non_, ?_⟩
        cases zf with
        | false =>
          simp only [mkD, Bool.false_eq_true, if_false] at o
          refine o (.ref xa) W' H' si' (l2.trans le) (.ref ?_)
          obtain ⟨t, e⟩ := le.μ
          rw [e, hlen]
          simp [Wd.put]
        | true =>
          simp only [mkD, if_true] at o
          split at o
          · rename_i e l hml
            split at o
            · rename_i dss hfd
              split at o
              · rename_i cc
                obtain ⟨rfl, c1, c2, c3⟩ := cc
                have hμ : W'.μ[m.length]? = some xa := by
                  obtain ⟨t, e⟩ := le.μ
                  rw [e, hlen]
                  simp [Wd.put]
                obtain ⟨_, _, ci', dx2, fs, h1, h2, h3, h4, h5⟩ := si'.m.is _ _ _ hml (by intro z; cases z) hμ
                rw [hc] at h1
                cases h1
                obtain ⟨f1, f2⟩ := fieldsD_at hfd
                have key : ∀ i f, ci.fs[i]? = some f → ∃ v d, fs.lookup f = some v ∧ dss[i]? = some d ∧ Y.rep W' H' v d := fun i f e => by
                  have hi : i < nf := by rw [hnf]; exact (List.getElem?_eq_some_iff.mp e).1
                  have hd : dss[i]? = some (dss[i]'(by omega)) := List.getElem?_eq_getElem _
                  have q := h5 i f e
                  rw [f2 i hi, hd] at q
                  obtain ⟨v, e1, r⟩ := q
                  exact ⟨v, _, e1, hd, r⟩
                refine o (.ref xa) (W'.cut m.length (some xa)) H' (si'.cut (by omega) c3 (fun a h => ⟨m.length, Nat.le_refl _, by cases h; exact hμ⟩)) (le_cut (l2.trans le) hlen) ?_
                refine .obj (xs := ci.fs.map fun f => (fs.lookup f).getD .non) hc (.inr rfl) h2 h3 rfl (fun f hf => ?_) ?_
                · obtain ⟨i, hi⟩ := List.getElem?_of_mem hf
                  obtain ⟨v, d, e1, _⟩ := key i f hi
                  rw [e1]; rfl
                · refine RepL.cutL (RepL.of_at (by rw [List.length_map, f1, hnf]) fun i v d e1 e2 => ?_) c2
                  rw [List.getElem?_map] at e1
                  cases ef : ci.fs[i]? with
                  | none => rw [ef] at e1; cases e1
                  | some f =>
                    rw [ef] at e1
                    obtain ⟨v', d', k1, k2, k3⟩ := key i f ef
                    simp [k1] at e1
                    rw [e2] at k2
                    cases k2
                    subst e1
                    exact k3
              · exact o.elim
            · exact o.elim
          · exact o.elim
      | _ => exact fun o => o.elim

/-! ### targets -/
def FnP (X : Cx) (own : Option (Scope × List Nat)) : Prop := ∀ n, locO own X.env.scope n = true → Loc X.env.scope n ∧ (X.fn n = true ∨ X.env.scope.names.lookup n = some .local)
theorem EnvOk.set {W : Wd} {H : Hp} {σ : L2.St} {ρ : Env} {i : Nat} {v : V} {d : D} (e : EnvOk Y W H σ ρ) (r : Y.rep W H v d) : EnvOk Y W H (σ.set i (some v)) (ρ.set i (some d)) := by
  refine ⟨by rw [List.length_set, List.length_set]; exact e.1, fun j d' h => ?_⟩
  by_cases c : i = j
  · subst c
    have hi : i < ρ.length := by
      have := (List.getElem?_eq_some_iff.mp h).1
      rwa [List.length_set] at this
    rw [List.getElem?_set_self hi] at h
    cases h
    exact ⟨v, List.getElem?_set_self (by rw [e.1]; exact hi), r⟩
  · rw [List.getElem?_set_ne c] at h
    obtain ⟨v', e1, r'⟩ := e.2 j d' h
    exact ⟨v', by rw [List.getElem?_set_ne c]; exact e1, r'⟩
theorem Out.rel {α β : Type} {W : Wd} {H : Hp} {r : R α} {Rel Rel' : Wd → Hp → β → α → Prop} {Q : β → Hp → Prop} (h : Out Y W H r Rel Q) (k : ∀ W' H' b a, Rel' W' H' b a → Rel W' H' b a) : Out Y W H r Rel' Q := by
  cases r with
  | ok a m => exact fun b W' H' s le rel => h b W' H' s le (k _ _ _ _ rel)
  | exc c x m => exact h
  | bad => exact h
theorem pg_nm {own : Option (Scope × List Nat)} {i : Nat} {n : Str} (o : OkX X Y C Γ g) (hP : FnP X own) (h : atN C.N i n = true) (hl : locO own X.env.scope n = true) (hi : ownO own i = true) :
    PG X (.Name n p) (gX Y (fun d ρ m => .ok (ρ.set i (some d)) m) (own.map (·.2))) := by
  obtain ⟨h1, h2⟩ := hP n hl
  refine PG.imp (pg_name o.nd (by rw [o.hN]; exact of_decide_eq_true h) h1 h2) fun v σ H Q ⟨W, ρ, m, d, si, en, r, ou⟩ => ?_
  refine Out.here (b := σ.set i (some v)) ou si ⟨en.set r, fun l e => ?_⟩
  cases own with
  | none => cases e
  | some pr =>
    simp only [Option.map_some, Option.some.injEq] at e
    subst e
    exact wipe_set (of_decide_eq_true hi)
theorem pgs_nilE {own : Option (List Nat)} : PGs X [] (gXs Y (fun ds ρ m => match ds with | [] => .ok ρ m | _ => .bad) own) := by
  refine ⟨fun pins s σ H vs us Q I r h => pgs_nil.run pins s σ H vs us Q I r ?_⟩
  obtain ⟨W, ρ, m, ds, si, en, rr, o⟩ := h
  cases rr with
  | nil => exact ⟨rfl, Out.here (b := σ) o si ⟨en, fun l e => rfl⟩⟩
  | cons a b => exact o.elim
theorem pgs_consE {own : Option (List Nat)} {ft : D → Env → Mem → R Env} {fts : List D → Env → Mem → R Env} (h1 : PG X x (gX Y ft own)) (h2 : PGs X es (gXs Y fts own)) (hs : (assignEach (x :: es) X.env).map (·.2) = assign x X.env :: (assignEach es X.env).map (·.2)) :
    PGs X (x :: es) (gXs Y (fun ds ρ m => match ds with | d :: ds => (ft d ρ m).bind fun ρ1 m1 => fts ds ρ1 m1 | [] => .bad) own) := by
  refine ⟨fun pins s σ H vs us Q I r h => (pgs_cons h1 h2 hs).run pins s σ H vs us Q I r ?_⟩
  obtain ⟨W, ρ, m, ds, si, en, rr, o⟩ := h
  cases rr with
  | nil => exact o.elim
  | cons a b =>
    refine ⟨_, _, rfl, W, ρ, m, _, si, en, a, o.bind fun ρ1 m1 σ1 W1 H1 _ si1 le1 rg o1 => ?_⟩
    exact ⟨W1, ρ1, m1, _, si1, rg.1, b.mono le1, o1.rel fun W' H' b a rg' => ⟨rg'.1, fun l e => (rg'.2 l e).trans (rg.2 l e)⟩⟩
theorem pg_tupE {own : Option (List Nat)} {fts : List D → Env → Mem → R Env} {k : Nat} {n : Nat} (o : OkX X Y C Γ g) (h : PGs X es (gXs Y fts own)) (hn : (assignEach es X.env).length = n) (hst : (assignEach es X.env).findIdx? (·.1) = none) :
    PG X (.Tuple es k p) (gX Y (fun d ρ m => match d with
    | .tup ds => if n = ds.length then fts ds ρ m else .bad
    | _ => .bad) own) := by
  refine PG.imp (pg_tup o.calm h hn hst) fun v σ H Q ⟨W, ρ, m, d, si, en, r, ou⟩ => ?_
  cases d with
  | tup ds =>
    simp only at ou
    split at ou
    · rename_i c
      obtain ⟨a, xs, e1, e2, rr⟩ := r.tup_
      exact ⟨a, xs, e1, o.hK ▸ e2, by rw [rr.length]; exact c.symm, W, ρ, m, ds, si, en, rr, ou⟩
    · exact ou.elim
  | _ => exact ou.elim
theorem setD_lst {W : Wd} {H : Hp} {m m' : Mem} {a b d : D} {va vb v : V} {Q : Hp → Prop} (si : Y.sit W H m) (ra : Y.rep W H va a) (rb : Y.rep W H vb b) (rd : Y.rep W H v d) (h : setD a b d m = some m') (q : ∀ W' H', Y.sit W' H' m' → Le W H W' H' → Q H') : rSetL va vb v H Q := by
  unfold setD at h
  cases a with
  | ref k =>
    simp only at h
    split at h
    · rename_i l i hl
      obtain ⟨j, hj, rfl⟩ := Option.map_eq_some_iff.mp h
      cases ra with
      | ref e =>
        obtain ⟨f, qq, xs, e3, rr⟩ := si.m.is _ _ _ hl (by intro z; cases z) e
        obtain rfl := rb.int_
        refine ⟨_, xs, i, j, rfl, rfl, e3, by rw [rr.length]; exact hj, ?_⟩
        have le := le_upd (o := .lst (xs.set j v)) si hl (by intro z; cases z) e
        exact q W _ (si.upd hl (by intro z; cases z) e ⟨_, upd_same, (rr.set rd j).mono le⟩) le
    · cases h
  | _ => cases h
theorem pg_ixE (o : OkX X Y C Γ g) (ha : SE X x Y fa) (hb : SE X y Y fb) (hy : Pl y) :
    PG X (.Subscript x y p) (gX Y (fun d ρ m => (fa ρ m).bind fun x m1 => (fb ρ m1).bind fun y m2 => match setD x y d m2 with
    | some m3 => .ok ρ m3
    | none => .bad) none) := by
  refine PG.imp (pg_sub ha.e hb.e set_list (by intro v; cases y <;> first | rfl | exact False.elim hy)) fun v σ H Q ⟨W, ρ, m, d, si, en, r, ou⟩ => ?_
  refine ⟨W, ρ, m, si, en, ou.bind fun dx m1 vx W1 H1 _ si1 le1 r1 o1 => ?_⟩
  refine ⟨W1, ρ, m1, si1, en.mono le1, o1.bind fun dy m2 vy W2 H2 _ si2 le2 r2 o2 => ?_⟩
  cases e : setD dx dy d m2 with
  | none => rw [e] at o2; exact o2.elim
  | some m3 =>
    rw [e] at o2
    refine setD_lst si2 (r1.mono le2) r2 ((r.mono le1).mono le2) e fun W' H' si' le' => ?_
    exact o2 σ W' H' si' le' ⟨((en.mono le1).mono le2).mono le', fun l e => nomatch e⟩
end
end Ev

set_option Elab.async false
set_option linter.all false
set_option maxRecDepth 100000
/-! Ev13: soundness of expressions, targets, iterables. -/
namespace Ev
open PySem PySem.Spec PyProof.Rows L2

section
variable {X : Cx} {Y : Yx} {C : Cfg} {Γ : Gam} {g : Bool} {x y z : Expr} {es : List Expr} {p q : Pos} {fa fb fc : Env → Mem → R D} {fl : Env → Mem → R (List D)}
/-- a comprehension's scope -/
theorem fnP_blk {s : Shared} {H : Hp} {scope : Scope} {fp : List Addr} {C0 : Addr} {cl : List (Str × Addr)} {own : List Nat} : FnP (X.blk s H scope (compEnvC scope cl C0 X.env) fp) (some (scope, own)) := by
  intro n h
  have h : locB scope n = true := h
  show Loc (relS scope X.env.scope) n ∧ ((scope.names.lookup n == some .cell) = true ∨ (relS scope X.env.scope).names.lookup n = some .local)
  unfold locB at h
  split at h
  · rename_i e
    have k := lookup_relS_keep (sc := X.env.scope) (by intro z; cases z) e
    exact ⟨.inl k, .inr k⟩
  · rename_i e
    have k := lookup_relS_keep (sc := X.env.scope) (by intro z; cases z) e
    exact ⟨.inr k, .inl (by rw [e]; rfl)⟩
  · cases h
theorem se_lc {tg it : Expr} {ifs : List Expr} {scope : Scope} {own : List Nat} {fi : Env → Mem → R (List D × Src)} {ft : D → Env → Mem → R Env} {fcd : Env → Mem → R Bool} {Kf : List D → Mem → R D} (o : OkX X Y C Γ g) (hi : PI X tg it (tI Y fi)) (hit : ∀ v, foldedSetIterable it X.env v = pure v)
    (hb : blkC C.N X.env.scope scope (ownM C.N own) = true)
    (hg : ∀ (s : Shared) (H : Hp) (C0 : Addr) (cl : List (Str × Addr)) (fp : List Addr), PG (X.blk s H scope (compEnvC scope cl C0 X.env) fp) tg (gX Y.nx ft (some own)))
    (ht : ∀ (s : Shared) (H : Hp) (C0 : Addr) (cl : List (Str × Addr)) (fp : List Addr), PTs (X.blk s H scope (compEnvC scope cl C0 X.env) fp) ifs (tX Y.nx fcd RelB))
    (he : ∀ (s : Shared) (H : Hp) (C0 : Addr) (cl : List (Str × Addr)) (fp : List Addr), PE (X.blk s H scope (compEnvC scope cl C0 X.env) fp) x (tE Y.nx fa))
    (hfin : ∀ (W1 W : Wd) (H1 H : Hp) (D : Addr) (l : List Ev.D) (accv : List V) (m6 : Mem) (Q : VK), Y.sit (W.addP D) H m6 → Le W1 H1 W H → ¬ W.P D → H D = some (.lst accv) → Y.repL W H accv l → Out Y W1 H1 (Kf l m6) Y.rep Q → Q (.ref D) H) :
    SE X (.ListComp x [⟨tg, it, ifs, 0⟩] scope p) Y (fun ρ m => (fi ρ m).bind fun w m1 => (lcL (lcTurn own ft fcd fa ρ) w.2 w.1 m1).bind fun l m6 => if sizeOk l.length then Kf l m6 else .bad) := by
  refine SE.of (PE.imp (pe_lc (own := ownM C.N own) o.calm o.nd hi (by rw [o.hN]; exact blkOk_by hb) hg ht he hit) fun σ H Q q => ?_) rfl
  rw [ownM_snd]
  exact lc_ok hfin q
/-- the same, stored in a local name at once -/
theorem ps_lcE {tg it : Expr} {ifs : List Expr} {scope : Scope} {own : List Nat} {fi : Env → Mem → R (List D × Src)} {ft : D → Env → Mem → R Env} {fcd : Env → Mem → R Bool} {Kf : List D → Mem → R D} {i : Nat} {n : Str} {pn sp : Pos} (o : OkX X Y C Γ g) (hi : PI X tg it (tI Y fi)) (hit : ∀ v, foldedSetIterable it X.env v = pure v)
    (hb : blkC C.N X.env.scope scope (ownM C.N own) = true)
    (hg : ∀ (s : Shared) (H : Hp) (C0 : Addr) (cl : List (Str × Addr)) (fp : List Addr), PG (X.blk s H scope (compEnvC scope cl C0 X.env) fp) tg (gX Y.nx ft (some own)))
    (ht : ∀ (s : Shared) (H : Hp) (C0 : Addr) (cl : List (Str × Addr)) (fp : List Addr), PTs (X.blk s H scope (compEnvC scope cl C0 X.env) fp) ifs (tX Y.nx fcd RelB))
    (he : ∀ (s : Shared) (H : Hp) (C0 : Addr) (cl : List (Str × Addr)) (fp : List Addr), PE (X.blk s H scope (compEnvC scope cl C0 X.env) fp) x (tE Y.nx fa))
    (hfin : ∀ (W1 W : Wd) (H1 H : Hp) (D : Addr) (l : List Ev.D) (accv : List V) (m6 : Mem) (Q : VK), Y.sit (W.addP D) H m6 → Le W1 H1 W H → ¬ W.P D → H D = some (.lst accv) → Y.repL W H accv l → Out Y W1 H1 (Kf l m6) Y.rep Q → Q (.ref D) H)
    (hN : atN C.N i n = true) (hnl : X.env.scope.names.lookup n = some .local) (hsw : swapsWith (.ListComp x [⟨tg, it, ifs, 0⟩] scope p) (some (.Name n pn)) sp.line X.env = pure true) :
    PS X (.Assign [.Name n pn] (.ListComp x [⟨tg, it, ifs, 0⟩] scope p) sp) (tAsg (tE Y (fun ρ m => (fi ρ m).bind fun w m1 => (lcL (lcTurn own ft fcd fa ρ) w.2 w.1 m1).bind fun l m6 => if sizeOk l.length then Kf l m6 else .bad)) (gName i)) := by
  refine PS.imp (ps_setLc (own := ownM C.N own) o.calm o.nd (by rw [o.hN]; exact of_decide_eq_true hN) hnl hsw hi (by rw [o.hN]; exact blkOk_by hb) hg ht he hit) fun D σ H q => ?_
  have q : tE Y _ σ H fun x H1 => gName i x σ H1 D.nx := q
  show tLc _ _ _ _ _ σ H fun x H1 => gName i x σ H1 D.nx
  rw [ownM_snd]
  exact lc_ok hfin q

/-! ### two clauses -/
theorem lcM_cases (g : D → Mem → R (List D)) (src : Src) : ∀ (ds : List D) (m : Mem), lcM g src ds m = .bad ∨ ∃ l m', lcM g src ds m = .ok l m'
  | [], m => by
    unfold lcM
    split
    · exact .inr ⟨_, _, rfl⟩
    · exact .inl rfl
  | d :: r, m => by
    unfold lcM
    split
    · cases g d m with
      | ok o m1 =>
        simp only [R.noexc_ok, R.bind_ok]
        rcases lcM_cases g src r m1 with h | ⟨l, m', h⟩
        · rw [h]; exact .inl rfl
        · rw [h]; exact .inr ⟨_, _, rfl⟩
      | exc c x m1 => exact .inl rfl
      | bad => exact .inl rfl
    · exact .inl rfl
theorem lcM_cons {g : D → Mem → R (List D)} {src : Src} {d : D} {r : List D} {m m' : Mem} {l : List D} (h : lcM g src (d :: r) m = .ok l m') : srcOk src m = true ∧ ∃ o m1 l', g d m = .ok o m1 ∧ lcM g src r m1 = .ok l' m' ∧ l = o ++ l' := by
  unfold lcM at h
  split at h
  · rename_i c
    refine ⟨c, ?_⟩
    cases e : g d m with
    | ok o m1 =>
      rw [e] at h
      simp only [R.noexc_ok, R.bind_ok] at h
      cases e2 : lcM g src r m1 with
      | ok l' m2 =>
        rw [e2] at h
        simp only [R.bind_ok] at h
        cases h
        exact ⟨o, m1, l', rfl, e2, rfl⟩
      | exc c x m2 => rw [e2] at h; cases h
      | bad => rw [e2] at h; cases h
    | exc c x m1 => rw [e] at h; cases h
    | bad => rw [e] at h; cases h
  · cases h
theorem lcM_nil {g : D → Mem → R (List D)} {src : Src} {m m' : Mem} {l : List D} (h : lcM g src [] m = .ok l m') : srcOk src m = true ∧ l = [] ∧ m' = m := by
  unfold lcM at h
  split at h
  · rename_i c
    cases h
    exact ⟨c, rfl, rfl⟩
  · cases h
theorem bind_okE {α β : Type} {r : R α} {f : α → Mem → R β} {b : β} {m : Mem} (h : r.bind f = .ok b m) : ∃ a m1, r = .ok a m1 ∧ f a m1 = .ok b m := by
  cases r with
  | ok a m1 => exact ⟨a, m1, rfl, h⟩
  | exc c x m1 => cases h
  | bad => cases h
/-- the new list so far -/
def AccSt (Y : Yx) (W1 : Wd) (H1 : Hp) (dn : Addr) (W : Wd) (m : Mem) (H : Hp) (acc : List D) : Prop := ∃ accv, Y.sit W H m ∧ (W.P = fun a => W1.P a ∨ a = dn) ∧ Le W1 H1 { W with P := W1.P } H ∧ H dn = some (.lst accv) ∧ Y.repL W H accv acc
section
variable {W1 W W' : Wd} {H1 H H' : Hp} {dn : Addr} {m m' : Mem} {acc : List D}
theorem AccSt.step (s : AccSt Y W1 H1 dn W m H acc) (si : Y.sit W' H' m') (le : Le W H W' H') : AccSt Y W1 H1 dn W' m' H' acc := by
  obtain ⟨accv, s1, s2, s3, s4, s5⟩ := s
  have hP : W.P dn := by rw [s2]; exact .inr rfl
  refine ⟨accv, si, le.P.trans s2, ?_, (le.at_ dn (.inr hP)).trans s4, s5.mono le⟩
  refine s3.trans (W' := { W with P := W1.P }) ⟨le.F, rfl, fun a h => le.at_ a ?_, le.μ⟩
  rcases h with h | h
  · exact .inl h
  · exact .inr (by rw [s2]; exact .inl h)
theorem AccSt.app {v : V} {d : D} (s : AccSt Y W1 H1 dn W m H acc) (w1 : H1 dn = none) (si1 : WOk W1 H1) (r : Y.rep W H v d) (hz : acc.length < sizeLine) : ∃ ac, H dn = some (.lst ac) ∧ ac.length < sizeLine ∧ AccSt Y W1 H1 dn W m (upd H dn (.lst (ac ++ [v]))) (acc ++ [d]) := by
  obtain ⟨accv, s1, s2, s3, s4, s5⟩ := s
  have hP : W.P dn := by rw [s2]; exact .inr rfl
  have hF : ¬ W.F dn := fun h => s1.w.FP _ h hP
  have up : Lf W H W (upd H dn (.lst (accv ++ [v]))) := lf_updP hF
  refine ⟨accv, s4, by rw [s5.length]; exact hz, accv ++ [v], s1.updP hP, s2, ⟨s3.F, s3.P, fun a h => (upd_ne ?_).trans (s3.at_ a h), s3.μ⟩, upd_same, (s5.append (.cons r .nil)).monoF up⟩
  rintro rfl
  rcases h with h | h
  · exact si1.F _ h w1
  · exact si1.P _ h w1
theorem AccSt.start (si : Y.sit W1 H1 m) (w1 : H1 dn = none) : AccSt Y W1 H1 dn (W1.addP dn) m (upd H1 dn (.lst [])) [] :=
  ⟨[], si.addP w1, rfl, ⟨fun _ h => h, rfl, fun a h => upd_ne (by rintro rfl; rcases h with h | h; exact si.w.F _ h w1; exact si.w.P _ h w1), [], by simp [Wd.addP]⟩, upd_same, .nil⟩
end
theorem lc2_ok {own own1 : List Nat} {fi fi1 : Env → Mem → R (List D × Src)} {ft ft1 : D → Env → Mem → R Env} {fc fc1 : Env → Mem → R Bool} {fe : Env → Mem → R D} {Kf : List D → Mem → R D}
    (hfin : ∀ (W1 W : Wd) (H1 H : Hp) (D : Addr) (l : List Ev.D) (accv : List V) (m6 : Mem) (Q : VK), Y.sit (W.addP D) H m6 → Le W1 H1 W H → ¬ W.P D → H D = some (.lst accv) → Y.repL W H accv l → Out Y W1 H1 (Kf l m6) Y.rep Q → Q (.ref D) H)
    {σ : L2.St} {H : Hp} {Q : VK} (q : tE Y (fun ρ m => (fi ρ m).bind fun w m1 => (lcM (fun d m2 => (ft d (wipeD ρ own) m2).bind fun ρ1 m3 => (fc ρ1 m3).bind fun b m4 => if b then (fi1 ρ1 m4).bind fun w1 m5 =>
      lcL (lcTurn own1 ft1 fc1 fe ρ1) w1.2 w1.1 m5 else .ok [] m4) w.2 w.1 m1).bind fun l m6 => if sizeOk l.length then Kf l m6 else .bad) σ H Q) :
    tLc2 (tI Y fi) (gX Y.nx ft (some own)) (tX Y.nx fc RelB) (tI Y.nx fi1) (gX Y.nx ft1 (some own1)) (tX Y.nx fc1 RelB) (tE Y.nx fe) own own1 σ H Q := by
  refine tX.bind q fun ρ w m1 J W1 H1 si1 en1 rel o1 => ?_
  generalize hG : (fun d m2 => (ft d (wipeD ρ own) m2).bind fun ρ1 m3 => (fc ρ1 m3).bind fun b m4 => if b then (fi1 ρ1 m4).bind fun w1 m5 => lcL (lcTurn own1 ft1 fc1 fe ρ1) w1.2 w1.1 m5 else .ok [] m4) = G at o1
  rcases lcM_cases G w.2 w.1 m1 with e | ⟨l, m6, e⟩
  · rw [e] at o1; exact o1.elim
  rw [e] at o1
  simp only [R.bind_ok] at o1
  split at o1
  rotate_left
  · exact o1.elim
  rename_i hz
  have hz : l.length ≤ sizeLine := sizeOk_le hz
  intro dn hD
  refine ⟨fun i n H => n = w.1.length - i ∧ i ≤ w.1.length ∧ ∃ W m2 acc rest, lcM G w.2 (w.1.drop i) m2 = .ok rest m6 ∧ l = acc ++ rest ∧ AccSt Y W1 H1 dn W m2 H acc,
    ⟨_, rfl, Nat.zero_le _, W1.addP dn, m1, [], l, e, rfl, AccSt.start si1 hD⟩, ?_⟩
  rintro i n H ⟨rfl, hi, W, m2, acc, rest, e1, e2, st⟩
  obtain ⟨accv, si2, hP2, leW, hDl, ra⟩ := id st
  have lf1 : Lf W1 H1 W H := leW.lf.trans (W' := { W with P := W1.P }) ⟨fun _ h => h, fun _ _ => rfl, [], by simp⟩
  have wr := rel i m2 W H si2 lf1
  by_cases hlt : i < w.1.length
  · right
    have ed : w.1[i]? = some w.1[i] := List.getElem?_eq_getElem hlt
    rw [List.drop_eq_getElem_cons hlt] at e1
    obtain ⟨so, od, m3, l', eg, e3, er⟩ := lcM_cons e1
    obtain ⟨go, yl⟩ := (wr so).1 _ ed
    refine ⟨go, fun H => ∃ W m2 acc rest, lcM G w.2 (w.1.drop (i + 1)) m2 = .ok rest m6 ∧ l = acc ++ rest ∧ AccSt Y W1 H1 dn W m2 H acc, fun H' h => ⟨w.1.length - (i + 1), by omega, rfl, hlt, h⟩, fun x H' hy => ?_⟩
    obtain ⟨W3, si3, le3, r3⟩ := yl x H' hy
    have st3 := st.step si3 le3
    rw [← hG] at eg
    obtain ⟨ρ1, ma, ea, eg⟩ := bind_okE eg
    obtain ⟨b, mb, eb, eg⟩ := bind_okE eg
    have en3 : EnvOk Y W3 H' σ ρ := en1.monoF (lf1.trans le3.lf)
    refine ⟨W3, wipeD ρ own, m2, w.1[i], si3, en3.wipe own, r3, ?_⟩
    rw [ea]
    intro σ2 W4 H4 si4 le4 rg
    have st4 := st3.step si4 le4
    refine ⟨(rg.2 own rfl).trans (wipe_twice σ own), W4, ρ1, ma, si4, rg.1, ?_⟩
    rw [eb]
    intro bb W5 H5 si5 le5 rb
    obtain rfl : bb = b := rb
    have st5 := st4.step si5 le5
    cases bb with
    | false =>
      simp only [Bool.false_eq_true, if_false] at eg ⊢
      cases eg
      exact ⟨W5, _, acc, l', e3, by rw [e2, er]; rfl, st5⟩
    | true =>
      simp only [if_true] at eg ⊢
      obtain ⟨w1, mc, ec, eg⟩ := bind_okE eg
      refine ⟨W5, ρ1, mb, si5, rg.1.mono le5, ?_⟩
      rw [ec]
      intro J1 W6 H6 si6 le6 rel1
      have st6 := st5.step si6 le6
      have en6 : EnvOk Y W6 H6 σ2 ρ1 := (rg.1.mono le5).mono le6
      refine ⟨fun j n H => n = w1.1.length - j ∧ j ≤ w1.1.length ∧ ∃ W m acc1 rest1, lcL (lcTurn own1 ft1 fc1 fe ρ1) w1.2 (w1.1.drop j) m = .ok rest1 m3 ∧ l = acc1 ++ (rest1 ++ l') ∧ Lf W6 H6 W H ∧ AccSt Y W1 H1 dn W m H acc1,
        ⟨_, rfl, Nat.zero_le _, W6, mc, acc, od, eg, by rw [e2, er], Lf.refl, st6⟩, ?_⟩
      rintro j n H7 ⟨rfl, hj, W7, m7, acc1, rest1, f1, f2, lf7, st7⟩
      obtain ⟨accv7, si7, hP7, _⟩ := id st7
      have wr1 := rel1 j m7 W7 H7 si7 lf7
      by_cases hlt1 : j < w1.1.length
      · right
        have ed1 : w1.1[j]? = some w1.1[j] := List.getElem?_eq_getElem hlt1
        rw [List.drop_eq_getElem_cons hlt1] at f1
        obtain ⟨so1, od1, m8, l1', fg, f3, fr⟩ := lcL_cons f1
        obtain ⟨go1, yl1⟩ := (wr1 so1).1 _ ed1
        refine ⟨go1, fun H => ∃ W m acc1 rest1, lcL (lcTurn own1 ft1 fc1 fe ρ1) w1.2 (w1.1.drop (j + 1)) m = .ok rest1 m3 ∧ l = acc1 ++ (rest1 ++ l') ∧ Lf W6 H6 W H ∧ AccSt Y W1 H1 dn W m H acc1, fun H' h => ⟨w1.1.length - (j + 1), by omega, rfl, hlt1, h⟩, fun x1 H8 hy1 => ?_⟩
        obtain ⟨W8, si8, le8, r8⟩ := yl1 x1 H8 hy1
        have st8 := st7.step si8 le8
        unfold lcTurn at fg
        obtain ⟨ρ2, md, fd, fg⟩ := bind_okE fg
        obtain ⟨b1, me, fe', fg⟩ := bind_okE fg
        have en8 : EnvOk Y W8 H8 σ2 ρ1 := en6.monoF (lf7.trans le8.lf)
        refine ⟨W8, wipeD ρ1 own1, m7, w1.1[j], si8, en8.wipe own1, r8, ?_⟩
        rw [fd]
        intro σ3 W9 H9 si9 le9 rg1
        have st9 := st8.step si9 le9
        refine ⟨(rg1.2 own1 rfl).trans (wipe_twice σ2 own1), W9, ρ2, md, si9, rg1.1, ?_⟩
        rw [fe']
        intro bb1 Wa Ha sia lea rb1
        obtain rfl : bb1 = b1 := rb1
        have sta := st9.step sia lea
        have lfa : Lf W6 H6 Wa Ha := ((lf7.trans le8.lf).trans le9.lf).trans lea.lf
        cases bb1 with
        | false =>
          simp only [Bool.false_eq_true, if_false] at fg ⊢
          cases fg
          exact ⟨Wa, _, acc1, l1', f3, by rw [f2, fr]; rfl, lfa, sta⟩
        | true =>
          simp only [if_true] at fg ⊢
          obtain ⟨dx, mf, ff, fg⟩ := bind_okE fg
          cases fg
          refine ⟨Wa, ρ2, me, sia, rg1.1.mono lea, ?_⟩
          rw [ff]
          intro y Wb Hb sib leb ry
          have stb := sta.step sib leb
          have hlen : acc1.length < sizeLine := by
            rw [f2, fr] at hz
            simp at hz
            omega
          obtain ⟨ac, h1, h2, h3⟩ := stb.app hD si1.w ry hlen
          have hPb : ¬ Wb.F dn := by
            obtain ⟨_, q1, q2, _⟩ := stb
            exact fun h => q1.w.FP _ h (by rw [q2]; exact .inr rfl)
          exact ⟨ac, h1, h2, Wb, _, acc1 ++ [dx], l1', f3, by rw [f2, fr]; simp, (lfa.trans leb.lf).trans (lf_updP hPb), h3⟩
      · left
        have ej : j = w1.1.length := by omega
        rw [List.drop_eq_nil_of_le (by omega)] at f1
        obtain ⟨so1, er1, em1⟩ := lcL_nil f1
        subst er1
        refine ⟨(wr1 so1).2 ej, W7, m7, acc1, l', ?_, by rw [f2]; rfl, st7⟩
        rw [← em1]
        exact e3
  · left
    have ei : i = w.1.length := by omega
    rw [List.drop_eq_nil_of_le (by omega)] at e1
    obtain ⟨so, er, em⟩ := lcM_nil e1
    subst er
    refine ⟨(wr so).2 ei, ?_⟩
    have hPD : ¬ W1.P dn := fun h => si1.w.P _ h hD
    rw [em] at o1
    refine hfin W1 { W with P := W1.P } H1 H dn l accv m2 Q ?_ leW hPD hDl ?_ o1
    · rw [← addP_eq hP2]; exact si2
    · rw [e2, List.append_nil]
      exact RepL.monoF (W := W) (W' := { W with P := W1.P }) ⟨fun _ h => h, fun _ _ => rfl, [], by simp⟩ ra
theorem fin_lc2 {z : Bool} (W1 W : Wd) (H1 H : Hp) (D : Addr) (l : List Ev.D) (accv : List V) (m6 : Mem) (Q : VK) (si : Y.sit (W.addP D) H m6) (le : Le W1 H1 W H) (hP : ¬ W.P D) (hD : H D = some (.lst accv)) (ra : Y.repL W H accv l)
    (o : Out Y W1 H1 (if z then .ok (.ref m6.length) (m6 ++ [.lst l]) else .ok (.lst l) m6) Y.rep Q) : Q (.ref D) H := by
  cases z with
  | true => exact fin_mlc W1 W H1 H D l accv m6 Q si le hP hD ra o
  | false => exact fin_lc W1 W H1 H D l accv m6 Q si le hP hD ra o
theorem ownM_snd' {N : List Str} {own : List Nat} : (ownM N own).map (·.2) = own := ownM_snd

/-! ### iterables -/
theorem chkL_len {sc : Scope} : ∀ {l : EL} {es : List Expr}, chkL C g sc l es = true → es.length = l.len
  | .nil, [], _ => rfl
  | .nil, _ :: _, h => by simp [chkL] at h
  | .cons _ _, [], h => by simp [chkL] at h
  | .star _, [], h => by simp [chkL] at h
  | .star _, _ :: _, h => by simp [chkL] at h
  | .cons e l, x :: r, h => by
    simp only [chkL, Bool.and_eq_true] at h
    simp [EL.len, chkL_len h.2]
theorem chkL_pl {sc : Scope} : ∀ {l : EL} {es : List Expr}, chkL C g sc l es = true → l.plain = true
  | .nil, [], _ => rfl
  | .nil, _ :: _, h => by simp [chkL] at h
  | .cons _ _, [], h => by simp [chkL] at h
  | .star _, [], h => by simp [chkL] at h
  | .star _, _ :: _, h => by simp [chkL] at h
  | .cons e l, x :: r, h => by
    simp only [chkL, Bool.and_eq_true] at h
    simp [EL.plain, chkL_pl h.2]
theorem two_of {α : Type} {l : List α} (h : l.length = 2) : ∃ a b, l = [a, b] := by
  match l, h with
  | [a, b], _ => exact ⟨a, b, rfl⟩
theorem one_of {α : Type} {l : List α} (h : l.length = 1) : ∃ a, l = [a] := by
  match l, h with
  | [a], _ => exact ⟨a, rfl⟩
theorem three_of {α : Type} {l : List α} (h : l.length = 3) : ∃ a b c, l = [a, b, c] := by
  match l, h with
  | [a, b, c], _ => exact ⟨a, b, c, rfl⟩
theorem pi_seqE {tg : Expr} (o : OkX X Y C Γ g) (ha : SE X x Y fa) : PI X tg x (tI Y fun ρ m => (fa ρ m).bind fun d m1 => ofO (walkS m1 d) m1) := by
  refine PI.imp (pi_seq (Y := Y) o.hK ha.e) fun σ H Q q => ?_
  refine tX.bind q fun ρ d m v W H1 si en r ou => ?_
  obtain ⟨w, e, ou⟩ := ou.ofO
  exact ⟨W, m, d, w, si, r, e, fun J wr => ou.here si wr⟩
theorem pi_rngE {tg : Expr} {sc : Scope} {l : EL} (o : OkX X Y C Γ g) (hsc : X.env.scope = sc) (hg : glB X.env.scope "range" = true) (hlen : es.length = 1 ∨ es.length = 2) (hc : chkL C g sc l es = true) (hl : PA X es (tA Y (evL Γ l))) :
    PI X tg (.Call (.Name "range" p) es [] q) (tI Y fun ρ m => (evL Γ l ρ m).bind fun ds m1 => ofO ((rngI ds).map fun l => (l, [])) m1) := by
  obtain ⟨hg, hdb⟩ := glB_gl hg
  have hm : X.mg "range" = none := o.bi _ (by decide)
  have hel := chkL_len hc
  have hpn := chkL_pl hc
  rcases hlen with h | h
  · obtain ⟨a, rfl⟩ := one_of h
    have f1 : chkL C g sc l [a] = true := hc
    cases l with
    | nil => simp [chkL] at f1
    | star e => simp [chkL] at f1
    | cons e l =>
      simp only [chkL, Bool.and_eq_true] at f1
      refine PI.imp (pi_range1 hg hm hl (star_one (chkE_form f1.1) [] _)) fun σ H Q q => ?_
      refine tX_bindE q fun ρ ds m0 m vs W H1 ev si en r ou => ?_
      have hds : ds.length = 1 := (evL_len hpn ev).trans (hel.symm.trans h)
      obtain ⟨d, rfl⟩ := one_of hds
      obtain ⟨w, e, ou⟩ := ou.ofO
      obtain ⟨w0, e0, rfl⟩ := Option.map_eq_some_iff.mp e
      unfold rngI at e0
      split at e0
      · rename_i j hj
        cases hj
        split at e0
        · rename_i c
          cases e0
          obtain ⟨v, rfl, rv⟩ := RepL.one r
          obtain rfl := rv.int_
          exact ⟨j, rfl, c.1, c.2, ou.here si (walk_r (by simp))⟩
        · cases e0
      · rename_i hj; cases hj
      · cases e0
  · obtain ⟨a, b, rfl⟩ := two_of h
    cases l with
    | nil => simp [chkL] at hc
    | star e => simp [chkL] at hc
    | cons e l =>
      cases l with
      | nil => simp [chkL] at hc
      | star e => simp [chkL] at hc
      | cons e2 l =>
        have hc' := hc
        simp only [chkL, Bool.and_eq_true] at hc'
        refine PI.imp (pi_range2 hg hm hl (by rw [star_one (chkE_form hc'.1) [b], star_one (chkE_form hc'.2.1) []]; rfl) (by rw [star_one (chkE_form hc'.2.1) []]; rfl)) fun σ H Q q => ?_
        refine tX_bindE q fun ρ ds m0 m vs W H1 ev si en r ou => ?_
        have hds : ds.length = 2 := (evL_len hpn ev).trans (hel.symm.trans h)
        obtain ⟨d, d2, rfl⟩ := two_of hds
        obtain ⟨w, e, ou⟩ := ou.ofO
        obtain ⟨w0, e0, rfl⟩ := Option.map_eq_some_iff.mp e
        unfold rngI at e0
        split at e0
        · rename_i hj; cases hj
        · rename_i i j hj
          cases hj
          split at e0
          · rename_i c
            cases e0
            obtain ⟨v, w, rfl, rv, rw_⟩ := RepL.two r
            obtain rfl := rv.int_
            obtain rfl := rw_.int_
            exact ⟨i, j, rfl, c, ou.here si (walk_r rfl)⟩
          · cases e0
        · cases e0
theorem pi_zipE {elts : List Expr} {kk : Nat} {tp : Pos} {sc : Scope} {l : EL} (o : OkX X Y C Γ g) (hg : glB X.env.scope "zip" = true) (hlen : es.length = 2 ∨ es.length = 3) (hc : chkL C g sc l es = true) (hl : PA X es (tA Y (evL Γ l))) :
    PI X (.Tuple elts kk tp) (.Call (.Name "zip" p) es [] q) (tI Y fun ρ m => (evL Γ l ρ m).bind fun ds m1 => match ds with
    | [a, b] => match walkD m1 a, walkD m1 b with
      | some x, some y => .ok (zip2 x.1 y.1, x.2 ++ y.2) m1
      | _, _ => .bad
    | [a, b, c] => match walkD m1 a, walkD m1 b, walkD m1 c with
      | some x, some y, some z => .ok (zip3 x.1 y.1 z.1, x.2 ++ y.2 ++ z.2) m1
      | _, _, _ => .bad
    | _ => .bad) := by
  obtain ⟨hg, hdb⟩ := glB_gl hg
  have hm : X.mg "zip" = none := o.bi _ (by decide)
  have hel := chkL_len hc
  have hpn := chkL_pl hc
  have hpl := chkL_plain (env := X.env) hc
  rcases hlen with h | h
  · obtain ⟨a, b, rfl⟩ := two_of h
    cases l with
    | nil => simp [chkL] at hc
    | star e => simp [chkL] at hc
    | cons e l =>
      have hc' := hc
      simp only [chkL, Bool.and_eq_true] at hc'
      refine PI.imp (pi_zip2 (Y := Y) o.hK hg hm hl (star_one (chkE_form hc'.1) [b] _) (plain_back (chkL_plain hc'.2))) fun σ H Q q => ?_
      refine tX_bindE q fun ρ ds m0 m vs W H1 ev si en r ou => ?_
      have hds : ds.length = 2 := (evL_len hpn ev).trans (hel.symm.trans h)
      obtain ⟨d, d2, rfl⟩ := two_of hds
      simp only at ou
      split at ou
      · rename_i w1 w2 e1 e2
        exact ⟨W, m, d, d2, w1, w2, si, r, e1, e2, fun J wr => ou.here si wr⟩
      · exact ou.elim
  · obtain ⟨a, b, c, rfl⟩ := three_of h
    cases l with
    | nil => simp [chkL] at hc
    | star e => simp [chkL] at hc
    | cons e l =>
      have hc' := hc
      simp only [chkL, Bool.and_eq_true] at hc'
      refine PI.imp (pi_zip3 (Y := Y) o.hK hg hm hl (star_one (chkE_form hc'.1) [b, c] _) (plain_back (chkL_plain hc'.2))) fun σ H Q q => ?_
      refine tX_bindE q fun ρ ds m0 m vs W H1 ev si en r ou => ?_
      have hds : ds.length = 3 := (evL_len hpn ev).trans (hel.symm.trans h)
      obtain ⟨d, d2, d3, rfl⟩ := three_of hds
      simp only at ou
      split at ou
      · rename_i w1 w2 w3 e1 e2 e3
        exact ⟨W, m, d, d2, d3, w1, w2, w3, si, r, e1, e2, e3, fun J wr => ou.here si wr⟩
      · exact ou.elim
theorem pi_enumE {elts : List Expr} {kk : Nat} {tp : Pos} (o : OkX X Y C Γ g) (hg : glB X.env.scope "enumerate" = true) (ha : SE X x Y fa) (hs : starEach [x] X.env = (false, eval x X.env) :: starEach [] X.env) :
    PI X (.Tuple elts kk tp) (.Call (.Name "enumerate" p) [x] [] q) (tI Y fun ρ m => (fa ρ m).bind fun d m1 => match walkD m1 d with
    | some x => .ok (enumI x.1 0, x.2) m1
    | none => .bad) := by
  obtain ⟨hg, hdb⟩ := glB_gl hg
  have hm : X.mg "enumerate" = none := o.bi _ (by decide)
  have pa : PA X [x] (tCons (tE Y fa) tNil) := pa_cons ha.e pa_nil hs
  refine PI.imp (pi_enum1 (Y := Y) o.hK hg hm pa hs rfl) fun σ H Q q => ?_
  refine tX.bind q fun ρ d m v W H1 si en r ou => ?_
  cases e : walkD m d with
  | none => rw [e] at ou; exact ou.elim
  | some w =>
    rw [e] at ou
    exact ⟨W, m, d, w, si, .cons r .nil, e, fun J wr => ou.here si wr⟩
theorem chkT_form {sc : Scope} {own : Option (Scope × List Nat)} {t : T} (h : chkT C g sc own t x = true) : ∀ es, assignEach (x :: es) X.env = (false, assign x X.env) :: assignEach es X.env := by
  intro es
  cases x <;> first | rfl | (exfalso; cases t <;> simp [chkT] at h)
theorem chkTL_each {sc : Scope} {own : Option (Scope × List Nat)} : ∀ {l : TL} {es : List Expr}, chkTL C g sc own l es = true → (assignEach es X.env).length = l.len ∧ (assignEach es X.env).findIdx? (·.1) = none
  | .nil, [], _ => ⟨rfl, rfl⟩
  | .nil, _ :: _, h => by simp [chkTL] at h
  | .cons _ _, [], h => by simp [chkTL] at h
  | .cons t l, x :: r, h => by
    simp only [chkTL, Bool.and_eq_true] at h
    obtain ⟨h1, h2⟩ := chkTL_each h.2
    rw [chkT_form h.1]
    refine ⟨by simp [TL.len, h1], ?_⟩
    rw [List.findIdx?_cons]
    simp [h2]
end
theorem bad_any {X : Cx} {Y : Yx} {x : Expr} {t : TE} : ∀ σ H Q, tE Y (fun _ _ => (.bad : R D)) σ H Q → t σ H Q := fun σ H Q ⟨_, _, _, _, _, o⟩ => o.elim
theorem se_never {X : Cx} {Y : Yx} {x : Expr} : SE X x Y (fun _ _ => .bad) := by
  refine ⟨⟨fun pins s σ H Q I ⟨_, _, _, _, _, o⟩ => o.elim⟩, ⟨fun pins s σ H Q I ⟨_, _, _, _, _, o⟩ => o.elim⟩, fun op l p e => ⟨fun wh pins s σ H Q I ⟨_, _, _, _, _, o⟩ => o.elim⟩⟩
end Ev

set_option Elab.async false
set_option linter.all false
set_option maxRecDepth 100000
set_option maxHeartbeats 4000000
/-! Ev14: soundness of expressions, targets, iterables, all at once. -/
namespace Ev
open PySem PySem.Spec PyProof.Rows L2

section
variable {C : Cfg} {Γ : Gam} {g : Bool}
theorem chkI_form {sc : Scope} {i : I} {tg x : Expr} (h : chkI C g sc i tg x = true) : Pl x := by
  cases i with
  | seq e => exact chkE_form (by simpa only [chkI] using h)
  | rng l => cases x <;> first | trivial | (exact absurd h Bool.false_ne_true)
  | zip l => cases x <;> first | trivial | (cases tg <;> exact absurd h Bool.false_ne_true)
  | enum l => cases x <;> first | trivial | (cases tg <;> exact absurd h Bool.false_ne_true)
theorem chkK_names {sc : Scope} {pos : Pos} {env : PySem.Env} : ∀ {l : EL} {ks : List Str} {kws : List Keyword}, chkK C g sc l ks kws = true → (backToKw pos (keywordEach kws env)).all (·.1.isSome) = true ∧ (backToKw pos (keywordEach kws env)).filterMap (·.1) = ks ∧ l.len = ks.length ∧ l.plain = true
  | .nil, [], [], _ => ⟨rfl, rfl, rfl, rfl⟩
  | .star _, [], [], h => absurd h Bool.false_ne_true
  | .star _, [], _ :: _, h => absurd h Bool.false_ne_true
  | .star _, _ :: _, [], h => absurd h Bool.false_ne_true
  | .star _, _ :: _, _ :: _, h => absurd h Bool.false_ne_true
  | .nil, [], _ :: _, h => absurd h Bool.false_ne_true
  | .nil, _ :: _, [], h => absurd h Bool.false_ne_true
  | .nil, _ :: _, _ :: _, h => absurd h Bool.false_ne_true
  | .cons _ _, [], [], h => absurd h Bool.false_ne_true
  | .cons _ _, [], _ :: _, h => absurd h Bool.false_ne_true
  | .cons _ _, _ :: _, [], h => absurd h Bool.false_ne_true
  | .cons _ _, _ :: _, ⟨none, _, _⟩ :: _, h => absurd h Bool.false_ne_true
  | .cons e l, k :: ks, ⟨some n, x, kp⟩ :: r, h => by
    simp only [chkK, Bool.and_eq_true, beq_iff_eq] at h
    obtain ⟨h1, h2, h3, h4⟩ := chkK_names (pos := pos) (env := env) h.2
    obtain rfl := h.1.1
    refine ⟨?_, ?_, by simp [EL.len, h3], by simp [EL.plain, h4]⟩
    · show (true && (backToKw pos (keywordEach r env)).all (·.1.isSome)) = true
      rw [h1]; rfl
    · show n :: (backToKw pos (keywordEach r env)).filterMap (·.1) = n :: ks
      rw [h2]
theorem chk_lenset {C : Cfg} {g : Bool} {sc : Scope} {a : E} {x : Expr} (h : chkE C g sc (.lenset a) x = true) : ∃ n m z p q p2 q2, x = .Call (.Name n p) [.Call (.Name m p2) [z] [] q2] [] q ∧ (n == ("len" : Str) && m == ("set" : Str) && glB sc n && glB sc m && chkE C g sc a z) = true := by
  rw [chkE.eq_def] at h
  simp only at h
  split at h
  all_goals first
    | (exfalso; rename_i heq; cases heq; done)
    | (rename_i heq; cases heq; exact ⟨_, _, _, _, _, _, _, rfl, h⟩)
    | cases h
mutual
theorem soundE : ∀ (e : E) {X : Cx} {Y : Yx} {x : Expr}, OkX X Y C Γ g → chkE C g X.env.scope e x = true → SE X x Y (evE Γ e)
  | .v i, X, Y, x, o, h => by
    cases x <;> first | (exact absurd h Bool.false_ne_true) | skip
    simp only [chkE, Bool.and_eq_true] at h
    exact se_v o h.1.1 h.1.2 h.2
  | .non, X, Y, x, o, h => by
    cases x <;> first | (exact absurd h Bool.false_ne_true) | skip
    rename_i c _ _
    cases c <;> first | (exact absurd h Bool.false_ne_true) | skip
    exact se_c pe_non rfl fun _ _ => .non
  | .bl b, X, Y, x, o, h => by
    cases x <;> first | (exact absurd h Bool.false_ne_true) | skip
    rename_i c _ _
    cases c <;> first | (exact absurd h Bool.false_ne_true) | skip
    simp only [chkE, beq_iff_eq] at h
    subst h
    exact se_c pe_bl rfl fun _ _ => .bl _
  | .int b, X, Y, x, o, h => by
    cases x <;> first | (exact absurd h Bool.false_ne_true) | skip
    rename_i c _ _
    cases c <;> first | (exact absurd h Bool.false_ne_true) | skip
    simp only [chkE, beq_iff_eq] at h
    subst h
    exact se_c pe_int rfl fun _ _ => .int _
  | .str b, X, Y, x, o, h => by
    cases x <;> first | (exact absurd h Bool.false_ne_true) | skip
    rename_i c _ _
    cases c <;> first | (exact absurd h Bool.false_ne_true) | skip
    simp only [chkE, beq_iff_eq] at h
    subst h
    exact se_c pe_str rfl fun _ _ => .str _
  | .g i, X, Y, x, o, h => by
    cases x <;> first | (exact absurd h Bool.false_ne_true) | skip
    simp only [chkE, Bool.and_eq_true] at h
    exact se_g o h.1 h.2
  | .bin op a b, X, Y, x, o, h => by
    cases x <;> first | (exact absurd h Bool.false_ne_true) | skip
    simp only [chkE, Bool.and_eq_true, decide_eq_true_eq] at h
    obtain ⟨⟨rfl, h1⟩, h2⟩ := h
    exact se_bin o (soundE a o h1) (soundE b o h2)
  | .neg a, X, Y, x, o, h => by
    cases x <;> first | (exact absurd h Bool.false_ne_true) | skip
    rename_i op _ _
    cases op <;> first | (exact absurd h Bool.false_ne_true) | skip
    exact se_neg (soundE a o (by simpa only [chkE] using h))
  | .not a, X, Y, x, o, h => by
    cases x <;> first | (exact absurd h Bool.false_ne_true) | skip
    rename_i op _ _
    cases op <;> first | (exact absurd h Bool.false_ne_true) | skip
    exact se_not (soundE a o (by simpa only [chkE] using h))
  | .and a b, X, Y, x, o, h => by
    cases x <;> first | (exact absurd h Bool.false_ne_true) | skip
    rename_i op vs p
    cases op <;> first | (exact absurd h Bool.false_ne_true) | skip
    match vs, h with
    | x :: y :: [], h =>
      simp only [chkE, Bool.and_eq_true] at h
      exact se_and (soundE a o h.1) (.inl ⟨rfl, soundE b o h.2⟩)
    | x :: y :: z :: r, h =>
      simp only [chkE, Bool.and_eq_true] at h
      exact se_and (soundE a o h.1) (.inr ⟨by simp, soundE b o h.2⟩)
    | [_], h => exact absurd h Bool.false_ne_true
    | [], h => exact absurd h Bool.false_ne_true
  | .or a b, X, Y, x, o, h => by
    cases x <;> first | (exact absurd h Bool.false_ne_true) | skip
    rename_i op vs p
    cases op <;> first | (exact absurd h Bool.false_ne_true) | skip
    match vs, h with
    | x :: y :: [], h =>
      simp only [chkE, Bool.and_eq_true] at h
      exact se_or (soundE a o h.1) (.inl ⟨rfl, soundE b o h.2⟩)
    | x :: y :: z :: r, h =>
      simp only [chkE, Bool.and_eq_true] at h
      exact se_or (soundE a o h.1) (.inr ⟨by simp, soundE b o h.2⟩)
    | [_], h => exact absurd h Bool.false_ne_true
    | [], h => exact absurd h Bool.false_ne_true
  | .cmp op a b, X, Y, x, o, h => by
    cases x <;> first | (exact absurd h Bool.false_ne_true) | skip
    rename_i x ops cs p
    match ops, cs, h with
    | [q], [y], h =>
      simp only [chkE, Bool.and_eq_true, decide_eq_true_eq] at h
      obtain ⟨⟨rfl, h1⟩, h2⟩ := h
      exact se_cmp o (soundE a o h1) (soundE b o h2) (mark_plain (chkE_form h2))
    | [], _, h => exact absurd h Bool.false_ne_true
    | [_], [], h => exact absurd h Bool.false_ne_true
    | [_], _ :: _ :: _, h => exact absurd h Bool.false_ne_true
    | _ :: _ :: _, _, h => exact absurd h Bool.false_ne_true
  | .chain op op' a b c, X, Y, x, o, h => by
    cases x <;> first | (exact absurd h Bool.false_ne_true) | skip
    rename_i x ops cs p
    match ops, cs, h with
    | [q, r], [y, z], h =>
      simp only [chkE, Bool.and_eq_true, decide_eq_true_eq] at h
      obtain ⟨⟨⟨⟨rfl, rfl⟩, h1⟩, h2⟩, h3⟩ := h
      exact se_chain o (soundE a o h1) (soundE b o h2) (soundE c o h3) (marks_plain (chkE_form h3))
    | [], _, h => exact absurd h Bool.false_ne_true
    | [_], _, h => exact absurd h Bool.false_ne_true
    | [_, _], [], h => exact absurd h Bool.false_ne_true
    | [_, _], [_], h => exact absurd h Bool.false_ne_true
    | [_, _], _ :: _ :: _ :: _, h => exact absurd h Bool.false_ne_true
    | _ :: _ :: _ :: _, _, h => exact absurd h Bool.false_ne_true
  | .ife c a b, X, Y, x, o, h => by
    cases x <;> first | (exact absurd h Bool.false_ne_true) | skip
    simp only [chkE, Bool.and_eq_true] at h
    exact se_ife (soundE c o h.1.1) (soundE a o h.1.2) (soundE b o h.2)
  | .tup l, X, Y, x, o, h => by
    cases x <;> first | (exact absurd h Bool.false_ne_true) | skip
    exact se_tup (soundD l o (by simpa only [chkE] using h))
  | .lst l, X, Y, x, o, h => by
    cases x <;> first | (exact absurd h Bool.false_ne_true) | skip
    exact se_lst (soundD l o (by simpa only [chkE] using h))
  | .mlst l, X, Y, x, o, h => by
    cases x <;> first | (exact absurd h Bool.false_ne_true) | skip
    exact se_mlst (soundD l o (by simpa only [chkE] using h))
  | .call k l, X, Y, x, o, h => by
    cases x <;> first | (exact absurd h Bool.false_ne_true) | skip
    rename_i f es kw p
    match kw, f, h with
    | _ :: _, f, h => cases f <;> exact absurd h Bool.false_ne_true
    | [], .Name n pn, h =>
      simp only [chkE, Bool.and_eq_true] at h
      obtain ⟨⟨h1, h2⟩, h3⟩ := h
      obtain ⟨f, e1, e2⟩ := o.fn k _ (of_decide_eq_true h1)
      have ev : evE Γ (.call k l) = fun ρ m => (evL Γ l ρ m).bind fun ds m1 => f ds m1 := by
        funext ρ m
        simp only [evE, e1]
      rw [ev]
      refine se_call o e2 h2 (soundL l o h3) (fun e r he => ?_) (fun e r he => ?_) (fun he => ?_)
      · subst he
        cases l with
        | nil => simp [chkL] at h3
        | star e0 => simp [chkL] at h3
        | cons e0 l0 =>
          simp only [chkL, Bool.and_eq_true] at h3
          exact star_one (chkE_form h3.1) _ _
      · subst he
        cases l with
        | nil => simp [chkL] at h3
        | star e0 => simp [chkL] at h3
        | cons e0 l0 =>
          simp only [chkL, Bool.and_eq_true] at h3
          exact chkL_plain h3.2
      · subst he
        cases l with
        | nil => rfl
        | star e0 => simp [chkL] at h3
        | cons e0 l0 => simp [chkL] at h3
  | .prop k c a, X, Y, x, o, h => by
    cases x <;> first | (exact absurd h Bool.false_ne_true) | skip
    simp only [chkE, Bool.and_eq_true] at h
    obtain ⟨⟨h1, h2⟩, h3⟩ := h
    obtain ⟨f, e1, e2⟩ := o.fn k _ (of_decide_eq_true h1)
    have ev : evE Γ (.prop k c a) = fun ρ m => (evE Γ a ρ m).bind fun x m1 => if clsOf m1 x = some c then (f [x] m1).noexc else .bad := by
      funext ρ m
      simp only [evE, e1]
    rw [ev]
    exact se_prop o e2 (soundE a o h3) h2
  | .spec sq k c a, X, Y, x, o, h => by
    cases x <;> first | (exact absurd h Bool.false_ne_true) | skip
    rename_i f es kw p
    match kw, f, es, h with
    | _ :: _, f, es, h => cases f <;> first | exact absurd h Bool.false_ne_true | (rcases es with _ | ⟨a1, _ | ⟨a2, _ | ⟨a3, r⟩⟩⟩ <;> first | exact absurd h Bool.false_ne_true | (cases a2 <;> exact absurd h Bool.false_ne_true))
    | [], .Name n pn, [y], h =>
      simp only [chkE, Bool.and_eq_true, beq_iff_eq] at h
      obtain ⟨⟨⟨rfl, h1⟩, h2⟩, h3⟩ := h
      obtain ⟨f, e1, e2⟩ := o.fn k _ (of_decide_eq_true h1)
      have ev : evE Γ (.spec sq k c a) = fun ρ m => (evE Γ a ρ m).bind fun x m1 => if clsOf m1 x = some c then (f [x] m1).noexc.bind fun d m2 => if sq.ok d then .ok d m2 else .bad else .bad := by
        funext ρ m
        simp only [evE, e1]
      rw [ev]
      cases sq with
      | len => exact se_len o e2 h2 (soundE a o h3) (star_one (chkE_form h3) _ _)
      | str => exact se_str o e2 h2 (soundE a o h3) (star_one (chkE_form h3) _ _)
  | .fld c f a, X, Y, x, o, h => by
    cases x <;> first | (exact absurd h Bool.false_ne_true) | skip
    simp only [chkE, Bool.and_eq_true] at h
    obtain ⟨⟨h1, h2⟩, h3⟩ := h
    cases e : C.cl[c]? with
    | none => rw [e] at h1; exact absurd h1 Bool.false_ne_true
    | some pr =>
      rw [e] at h1
      obtain ⟨ci, c1, c2, _⟩ := o.cn c pr e
      exact se_fld o c1 (by rw [c2]; exact of_decide_eq_true h1) (soundE a o h3) h2
  | .mk z k c l, X, Y, x, o, h => by
    cases x <;> first | (exact absurd h Bool.false_ne_true) | skip
    rename_i f es kw p
    match kw, f, es, h with
    | _ :: _, f, es, h => cases f <;> first | exact absurd h Bool.false_ne_true | (rcases es with _ | ⟨a1, _ | ⟨a2, _ | ⟨a3, r⟩⟩⟩ <;> first | exact absurd h Bool.false_ne_true | (cases a2 <;> exact absurd h Bool.false_ne_true))
    | [], .Name n pn, [], h => simp [chkE] at h
    | [], .Name n pn, y :: r, h =>
      simp only [chkE, Bool.and_eq_true] at h
      obtain ⟨⟨⟨⟨h1, h2⟩, h3⟩, _⟩, h4⟩ := h
      obtain ⟨f, e1, e2⟩ := o.fn k _ (of_decide_eq_true h1)
      cases e : C.cl[c]? with
      | none => rw [e] at h2; exact absurd h2 Bool.false_ne_true
      | some pr =>
        rw [e] at h2
        obtain ⟨ci, c1, c2, c3, c4⟩ := o.cn c pr e
        have hn : pr.1 = n := by simpa using h2
        have ev : evE Γ (.mk z k c l) = fun ρ m => (evL Γ l ρ m).bind fun ds m1 => mkD z pr.2.length c m1.length (f (.ref m1.length :: ds) (m1 ++ [.ins c []])) := by
          funext ρ m
          simp only [evE, e1, c4]
        rw [ev]
        have hl := soundL l o h4
        cases l with
        | nil => simp [chkL] at h4
        | star e0 => simp [chkL] at h4
        | cons e0 l0 =>
          simp only [chkL, Bool.and_eq_true] at h4
          refine se_mk o e2 (fun ci' hc' => ?_) h3 hl (star_one (chkE_form h4.1) _ _) (chkL_plain h4.2)
          rw [c1] at hc'
          cases hc'
          exact ⟨hn ▸ c3, by rw [c2]⟩
  | .mcall k c a l, X, Y, x, o, h => by
    cases x <;> exact absurd h Bool.false_ne_true
  | .bi b l, X, Y, x, o, h => by
    cases x <;> first | (exact absurd h Bool.false_ne_true) | skip
    rename_i f es kw p
    match kw, f, es, h with
    | _ :: _, f, es, h => cases f <;> first | exact absurd h Bool.false_ne_true | (rcases es with _ | ⟨a1, _ | ⟨a2, _ | ⟨a3, r⟩⟩⟩ <;> first | exact absurd h Bool.false_ne_true | (cases a2 <;> exact absurd h Bool.false_ne_true))
    | [], .Name n pn, [], h => simp [chkE] at h
    | [], .Name n pn, y :: r, h =>
      simp only [chkE, Bool.and_eq_true, beq_iff_eq, Bool.or_eq_true, decide_eq_true_eq] at h
      obtain ⟨⟨⟨⟨rfl, h1⟩, h2⟩, _⟩, h4⟩ := h
      have hl := soundL l o h4
      cases l with
      | nil => simp [chkL] at h4
      | star e0 => simp [chkL] at h4
      | cons e0 l0 =>
        simp only [chkL, Bool.and_eq_true] at h4
        exact se_bi o h2 h1 hl (star_one (chkE_form h4.1) _ _) (chkL_plain h4.2)
  | .isi t a, X, Y, x, o, h => by
    cases x <;> first | (exact absurd h Bool.false_ne_true) | skip
    rename_i f es kw p
    match kw, f, es, h with
    | _ :: _, f, es, h => cases f <;> first | exact absurd h Bool.false_ne_true | (rcases es with _ | ⟨a1, _ | ⟨a2, _ | ⟨a3, r⟩⟩⟩ <;> first | exact absurd h Bool.false_ne_true | (cases a2 <;> exact absurd h Bool.false_ne_true))
    | [], .Name n pn, [y, .Name z pz], h =>
      simp only [chkE, Bool.and_eq_true, beq_iff_eq, decide_eq_true_eq] at h
      obtain ⟨⟨⟨⟨rfl, h1⟩, h2⟩, h3⟩, h4⟩ := h
      exact se_isi o h1 h2 h3 (soundE a o h4) (star_one (chkE_form h4) _ _)
  | .sm s a l, X, Y, x, o, h => by
    cases x <;> first | (exact absurd h Bool.false_ne_true) | skip
    rename_i f es kw p
    match kw, f, es, h with
    | _ :: _, f, es, h => cases f <;> first | exact absurd h Bool.false_ne_true | (rcases es with _ | ⟨a1, _ | ⟨a2, _ | ⟨a3, r⟩⟩⟩ <;> first | exact absurd h Bool.false_ne_true | (cases a2 <;> exact absurd h Bool.false_ne_true))
    | [], .Attribute y n ap, [], h => simp [chkE] at h
    | [], .Attribute y n ap, z :: r, h =>
      simp only [chkE, Bool.and_eq_true, beq_iff_eq, decide_eq_true_eq] at h
      obtain ⟨⟨⟨⟨⟨⟨⟨h0, h1⟩, _⟩, h2⟩, h3⟩, h4⟩, h5⟩, h6⟩ := h
      have hl := soundL l o h6
      have hfew := chkL_few (env := X.env) (pos := p) h6 h3
      cases l with
      | nil => simp [chkL] at h6
      | star e0 => simp [chkL] at h6
      | cons e0 l0 =>
        simp only [chkL, Bool.and_eq_true] at h6
        exact se_sm o h0 h4 (soundE a o h5) h1 hl hfew h2 (star_one (chkE_form h6.1) _ _) (chkL_plain h6.2)
  | .ix a b, X, Y, x, o, h => by
    cases x <;> first | (exact absurd h Bool.false_ne_true) | skip
    simp only [chkE, Bool.and_eq_true] at h
    exact se_ix o (soundE a o h.1) (soundE b o h.2) (sub_plain (chkE_form h.2))
  | .sl a lo hi, X, Y, x, o, h => by
    cases x <;> first | (exact absurd h Bool.false_ne_true) | skip
    rename_i x y p
    cases y <;> first | (exact absurd h Bool.false_ne_true) | skip
    rename_i l u st p2
    cases st <;> first | (exact absurd h Bool.false_ne_true) | skip
    simp only [chkE, Bool.and_eq_true] at h
    exact se_sl o (soundE a o h.1.1) (soundO lo o h.1.2) (soundO hi o h.2)
  | .lc own e t i c, X, Y, x, o, h => by
    cases x <;> first | (exact absurd h Bool.false_ne_true) | skip
    rename_i x gens scope p
    match gens, h with
    | [⟨tg, it, ifs, n⟩], h =>
      simp only [chkE, Bool.and_eq_true, decide_eq_true_eq] at h
      obtain ⟨⟨⟨⟨⟨rfl, h1⟩, h2⟩, h3⟩, h4⟩, h5⟩ := h
      exact se_lc o (soundI i o h1) (set_plain (chkI_form h1)) h5 (fun s H C0 cl fp => soundT t (o.blk s H scope _ fp) fnP_blk h2) (fun s H C0 cl fp => soundC c (o.blk s H scope _ fp) h3) (fun s H C0 cl fp => (soundE e (o.blk s H scope _ fp) h4).e) fin_lc
    | [], h => exact absurd h Bool.false_ne_true
    | ⟨_, _, _, _⟩ :: _ :: _, h => exact absurd h Bool.false_ne_true
  | .mlc own e t i c, X, Y, x, o, h => by
    cases x <;> first | (exact absurd h Bool.false_ne_true) | skip
    rename_i x gens scope p
    match gens, h with
    | [⟨tg, it, ifs, n⟩], h =>
      simp only [chkE, Bool.and_eq_true, decide_eq_true_eq] at h
      obtain ⟨⟨⟨⟨⟨rfl, h1⟩, h2⟩, h3⟩, h4⟩, h5⟩ := h
      exact se_lc o (soundI i o h1) (set_plain (chkI_form h1)) h5 (fun s H C0 cl fp => soundT t (o.blk s H scope _ fp) fnP_blk h2) (fun s H C0 cl fp => soundC c (o.blk s H scope _ fp) h3) (fun s H C0 cl fp => (soundE e (o.blk s H scope _ fp) h4).e) fin_mlc
    | [], h => exact absurd h Bool.false_ne_true
    | ⟨_, _, _, _⟩ :: _ :: _, h => exact absurd h Bool.false_ne_true
  | .lc2 z own own1 e t i c t1 i1 c1, X, Y, x, o, h => by
    cases x <;> first | (exact absurd h Bool.false_ne_true) | skip
    rename_i x gens scope p
    match gens, h with
    | [⟨tg, it, ifs, n⟩, ⟨tg1, it1, ifs1, n1⟩], h =>
      simp only [chkE, Bool.and_eq_true, decide_eq_true_eq, List.all_eq_true] at h
      obtain ⟨⟨⟨⟨⟨⟨⟨⟨⟨⟨rfl, rfl⟩, h1⟩, h2⟩, h3⟩, h4⟩, h5⟩, h6⟩, h7⟩, h8⟩, h9⟩ := h
      refine SE.of (PE.imp (pe_lc2 (own := ownM C.N own) (vs1 := own1) o.calm o.nd (soundI i o h1) (by rw [o.hN]; exact blkOk_by h8) (by rw [ownM_snd]; exact h9) (fun s H C0 cl fp => soundT t (o.blk s H scope _ fp) fnP_blk h2) (fun s H C0 cl fp => soundC c (o.blk s H scope _ fp) h3)
        (fun s H C0 cl fp => soundI i1 (o.blk s H scope _ fp) h4) (fun s H C0 cl fp => soundT t1 (o.blk s H scope _ fp) fnP_blk h5) (fun s H C0 cl fp => soundC c1 (o.blk s H scope _ fp) h6) (fun s H C0 cl fp => (soundE e (o.blk s H scope _ fp) h7).e) (set_plain (chkI_form h1)) (fun env => set_plain (chkI_form h4))) fun σ H Q q => ?_) rfl
      rw [ownM_snd]
      exact lc2_ok fin_lc2 q
  | .mbin op a b, X, Y, x, o, h => by
    cases x <;> first | (exact absurd h Bool.false_ne_true) | skip
    simp only [chkE, Bool.and_eq_true, decide_eq_true_eq] at h
    obtain ⟨⟨rfl, h1⟩, h2⟩ := h
    exact se_mbin o (soundE a o h1) (soundE b o h2)
  | .msm s a l, X, Y, x, o, h => by
    cases x <;> first | (exact absurd h Bool.false_ne_true) | skip
    rename_i f es kw p
    match kw, f, es, h with
    | _ :: _, f, es, h => cases f <;> first | exact absurd h Bool.false_ne_true | (rcases es with _ | ⟨a1, _ | ⟨a2, _ | ⟨a3, r⟩⟩⟩ <;> first | exact absurd h Bool.false_ne_true | (cases a2 <;> exact absurd h Bool.false_ne_true))
    | [], .Attribute y n ap, [], h => simp [chkE] at h
    | [], .Attribute y n ap, z :: r, h =>
      simp only [chkE, Bool.and_eq_true, beq_iff_eq, decide_eq_true_eq] at h
      obtain ⟨⟨⟨⟨⟨⟨⟨h0, h1⟩, _⟩, h2⟩, h3⟩, h4⟩, h5⟩, h6⟩ := h
      have hl := soundL l o h6
      have hfew := chkL_few (env := X.env) (pos := p) h6 h3
      cases l with
      | nil => simp [chkL] at h6
      | star e0 => simp [chkL] at h6
      | cons e0 l0 =>
        simp only [chkL, Bool.and_eq_true] at h6
        exact se_msm o h0 h4 (soundE a o h5) h1 hl hfew h2 (star_one (chkE_form h6.1) _ _) (chkL_plain h6.2)
  | .lenset a, X, Y, x, o, h => by
    obtain ⟨n, m, z, p, q, p2, q2, e, hh⟩ := chk_lenset h
    subst e
    rw [Bool.and_eq_true, Bool.and_eq_true, Bool.and_eq_true, Bool.and_eq_true, beq_iff_eq, beq_iff_eq] at hh
    obtain ⟨⟨⟨⟨e1, e2⟩, h1⟩, h2⟩, h3⟩ := hh
    subst e1 e2
    exact se_lenset o h1 h2 (soundE a o h3) (fun es => star_one (chkE_form h3) es _)
  | .callK k perm l, X, Y, x, o, h => by
    cases x <;> first | (exact absurd h Bool.false_ne_true) | skip
    rename_i f es kws p
    cases f <;> first | (cases kws <;> first | (exact absurd h Bool.false_ne_true) | (cases es <;> exact absurd h Bool.false_ne_true)) | skip
    rename_i n pn
    match es, kws, h with
    | [], [], h => exact absurd h Bool.false_ne_true
    | _ :: _, [], h => exact absurd h Bool.false_ne_true
    | _ :: _, _ :: _, h => exact absurd h Bool.false_ne_true
    | [], kw :: kws, h =>
      simp only [chkE, Bool.and_eq_true] at h
      obtain ⟨h1, h2⟩ := h
      cases e : C.fn[k]? with
      | none => rw [e] at h1; exact absurd h1 Bool.false_ne_true
      | some fk =>
        rw [e] at h1
        cases fk <;> first | (exact absurd h1 Bool.false_ne_true) | skip
        rename_i y ks p'
        simp only [Bool.and_eq_true, beq_iff_eq, decide_eq_true_eq] at h1
        obtain ⟨⟨rfl, rfl⟩, h3⟩ := h1
        obtain ⟨f, e1, e2⟩ := o.fn k _ e
        have ev : evE Γ (.callK k p' l) = fun ρ m => (evL Γ l ρ m).bind fun ds m1 => f (pick p' ds) m1 := by
          funext ρ m
          simp only [evE, e1]
        rw [ev]
        have k1 := chkK_names (pos := p) (env := X.env) h3
        exact se_callK o e2 h2 (soundK l o h3) k1.1 k1.2.1 k1.2.2.1 k1.2.2.2
  | .never, X, Y, x, o, h => se_never
theorem soundL : ∀ (l : EL) {X : Cx} {Y : Yx} {es : List Expr}, OkX X Y C Γ g → chkL C g X.env.scope l es = true → PA X es (tA Y (evL Γ l))
  | .nil, X, Y, es, o, h => by
    cases es with
    | nil => exact pa_nilE
    | cons a b => exact absurd h Bool.false_ne_true
  | .star e, X, Y, es, o, h => by cases es <;> exact absurd h Bool.false_ne_true
  | .cons e l, X, Y, es, o, h => by
    cases es with
    | nil => exact absurd h Bool.false_ne_true
    | cons a b =>
      simp only [chkL, Bool.and_eq_true] at h
      exact pa_consE (soundE e o h.1) (soundL l o h.2) (star_one (chkE_form h.1) _ _)
theorem soundD : ∀ (l : EL) {X : Cx} {Y : Yx} {es : List Expr}, OkX X Y C Γ g → chkD C g X.env.scope l es = true → PA X es (tA Y (evL Γ l))
  | .nil, X, Y, es, o, h => by
    cases es with
    | nil => exact pa_nilE
    | cons a b => exact absurd h Bool.false_ne_true
  | .star e, X, Y, es, o, h => by
    cases es with
    | nil => exact absurd h Bool.false_ne_true
    | cons a r =>
      cases a <;> first | (exact absurd h Bool.false_ne_true) | skip
      cases r with
      | cons b c => exact absurd h Bool.false_ne_true
      | nil =>
        rename_i x p
        have h' : chkE C g X.env.scope e x = true := by simpa only [chkD] using h
        exact pa_starE o.hK (soundE e o h')
  | .cons e l, X, Y, es, o, h => by
    cases es with
    | nil => exact absurd h Bool.false_ne_true
    | cons a b =>
      simp only [chkD, Bool.and_eq_true] at h
      exact pa_consE (soundE e o h.1) (soundD l o h.2) (star_one (chkE_form h.1) _ _)
theorem soundK : ∀ (l : EL) {X : Cx} {Y : Yx} {ks : List Str} {kws : List Keyword}, OkX X Y C Γ g → chkK C g X.env.scope l ks kws = true → PK X kws (tA Y (evL Γ l))
  | .nil, X, Y, ks, kws, o, h => by
    match ks, kws, h with
    | [], [], h => exact ⟨fun pos pins s σ H Q I q => pk_nil.run pos pins s σ H Q I (by obtain ⟨W, ρ, m, si, en, ou⟩ := q; exact ou.here si .nil)⟩
    | [], _ :: _, h => exact absurd h Bool.false_ne_true
    | _ :: _, [], h => exact absurd h Bool.false_ne_true
    | _ :: _, _ :: _, h => exact absurd h Bool.false_ne_true
  | .star e, X, Y, ks, kws, o, h => by cases ks <;> cases kws <;> exact absurd h Bool.false_ne_true
  | .cons e l, X, Y, ks, kws, o, h => by
    match ks, kws, h with
    | [], [], h => exact absurd h Bool.false_ne_true
    | [], _ :: _, h => exact absurd h Bool.false_ne_true
    | _ :: _, [], h => exact absurd h Bool.false_ne_true
    | _ :: _, ⟨none, _, _⟩ :: _, h => exact absurd h Bool.false_ne_true
    | k :: ks, ⟨some n, x, kp⟩ :: r, h =>
      simp only [chkK, Bool.and_eq_true] at h
      refine ⟨fun pos pins s σ H Q I q => (pk_cons (soundE e o h.1.2).e (soundK l o h.2)).run pos pins s σ H Q I ?_⟩
      have q : tA Y (fun ρ m => (evE Γ e ρ m).bind fun d m1 => (evL Γ l ρ m1).bind fun ds m2 => .ok (d :: ds) m2) σ H Q := q
      refine tX.bind q fun ρ dx m vx W H1 si en r1 ou => ?_
      exact ⟨W, ρ, m, si, en, ou.bind fun ds m2 vs W2 H2 _ si2 le2 rl o2 => o2.here si2 (.cons (r1.mono le2) rl)⟩
theorem soundO : ∀ (e : Op) {X : Cx} {Y : Yx} {x : Option Expr}, OkX X Y C Γ g → chkO C g X.env.scope e x = true → PO X x (tX Y (evO Γ e) RelI)
  | .no, X, Y, x, o, h => by
    cases x with
    | none => exact po_no
    | some a => exact absurd h Bool.false_ne_true
  | .yes e, X, Y, x, o, h => by
    cases x with
    | none => exact absurd h Bool.false_ne_true
    | some a => exact po_yes (soundE e o (by simpa only [chkO] using h))
theorem soundC : ∀ (e : Op) {X : Cx} {Y : Yx} {x : List Expr}, OkX X Y C Γ g → chkC C g X.env.scope e x = true → PTs X x (tX Y (evC Γ e) RelB)
  | .no, X, Y, x, o, h => by
    cases x with
    | nil =>
      refine ⟨fun pins s σ H Q I q => pts_nil.run pins s σ H Q I ?_⟩
      obtain ⟨W, ρ, m, si, en, ou⟩ := q
      exact Out.here (b := true) ou si rfl
    | cons a b => exact absurd h Bool.false_ne_true
  | .yes e, X, Y, x, o, h => by
    match x, h with
    | [], h => exact absurd h Bool.false_ne_true
    | [a], h => exact pts_one (soundE e o (by simpa only [chkC] using h)).t
    | _ :: _ :: _, h => exact absurd h Bool.false_ne_true
theorem soundT : ∀ (t : T) {X : Cx} {Y : Yx} {own : Option (Scope × List Nat)} {x : Expr}, OkX X Y C Γ g → FnP X own → chkT C g X.env.scope own t x = true → PG X x (gX Y (asT Γ t) (own.map (·.2)))
  | .nm i, X, Y, own, x, o, hP, h => by
    cases x <;> first | (exact absurd h Bool.false_ne_true) | skip
    simp only [chkT, Bool.and_eq_true] at h
    exact pg_nm o hP h.1.1 h.1.2 h.2
  | .tup l, X, Y, own, x, o, hP, h => by
    cases x <;> first | (exact absurd h Bool.false_ne_true) | skip
    rename_i es k p
    have h' : chkTL C g X.env.scope own l es = true := by simpa only [chkT] using h
    obtain ⟨e1, e2⟩ := chkTL_each (X := X) h'
    have ev : asT Γ (.tup l) = fun d ρ m => match d with
      | .tup ds => if l.len = ds.length then asL Γ l ds ρ m else .bad
      | _ => .bad := by
      funext d ρ m
      cases d <;> rfl
    rw [ev]
    exact pg_tupE o (soundTL l o hP h') e1 e2
  | .ix a b, X, Y, own, x, o, hP, h => by
    cases x <;> first | (exact absurd h Bool.false_ne_true) | skip
    simp only [chkT, Bool.and_eq_true] at h
    obtain ⟨⟨h1, h2⟩, h3⟩ := h
    cases own with
    | some p => exact absurd h1 Bool.false_ne_true
    | none =>
      have ev : asT Γ (.ix a b) = fun d ρ m => (evE Γ a ρ m).bind fun x m1 => (evE Γ b ρ m1).bind fun y m2 => match setD x y d m2 with
        | some m3 => .ok ρ m3
        | none => .bad := by
        funext d ρ m
        cases d <;> rfl
      rw [ev]
      exact pg_ixE o (soundE a o h2) (soundE b o h3) (chkE_form h3)
theorem soundTL : ∀ (l : TL) {X : Cx} {Y : Yx} {own : Option (Scope × List Nat)} {es : List Expr}, OkX X Y C Γ g → FnP X own → chkTL C g X.env.scope own l es = true → PGs X es (gXs Y (asL Γ l) (own.map (·.2)))
  | .nil, X, Y, own, es, o, hP, h => by
    cases es with
    | nil =>
      have ev : asL Γ .nil = fun ds ρ m => match ds with | [] => .ok ρ m | _ => .bad := by
        funext ds ρ m
        cases ds <;> rfl
      rw [ev]
      exact pgs_nilE
    | cons a b => exact absurd h Bool.false_ne_true
  | .cons t l, X, Y, own, es, o, hP, h => by
    cases es with
    | nil => exact absurd h Bool.false_ne_true
    | cons a b =>
      simp only [chkTL, Bool.and_eq_true] at h
      have ev : asL Γ (.cons t l) = fun ds ρ m => match ds with | d :: ds => (asT Γ t d ρ m).bind fun ρ1 m1 => asL Γ l ds ρ1 m1 | [] => .bad := by
        funext ds ρ m
        cases ds <;> rfl
      rw [ev]
      exact pgs_consE (soundT t o hP h.1) (soundTL l o hP h.2) (by rw [chkT_form h.1]; rfl)
theorem soundI : ∀ (i : I) {X : Cx} {Y : Yx} {tg x : Expr}, OkX X Y C Γ g → chkI C g X.env.scope i tg x = true → PI X tg x (tI Y (evI Γ i))
  | .seq e, X, Y, tg, x, o, h => by
    have h' : chkE C g X.env.scope e x = true := by simpa only [chkI] using h
    exact pi_seqE o (soundE e o h')
  | .rng l, X, Y, tg, x, o, h => by
    cases x <;> first | (exact absurd h Bool.false_ne_true) | skip
    rename_i f es kw p
    match kw, f, h with
    | _ :: _, f, h => cases f <;> exact absurd h Bool.false_ne_true
    | [], .Name n pn, h =>
      simp only [chkI, Bool.and_eq_true, beq_iff_eq, decide_eq_true_eq] at h
      obtain ⟨⟨⟨rfl, h1⟩, h2⟩, h3⟩ := h
      exact pi_rngE o rfl h1 h2 h3 (soundL l o h3)
  | .zip l, X, Y, tg, x, o, h => by
    cases tg <;> first | (exact absurd h Bool.false_ne_true) | skip
    cases x <;> first | (exact absurd h Bool.false_ne_true) | skip
    rename_i f es kw p
    match kw, f, h with
    | _ :: _, f, h => cases f <;> exact absurd h Bool.false_ne_true
    | [], .Name n pn, h =>
      simp only [chkI, Bool.and_eq_true, beq_iff_eq, decide_eq_true_eq] at h
      obtain ⟨⟨⟨rfl, h1⟩, h2⟩, h3⟩ := h
      exact pi_zipE o h1 h2 h3 (soundL l o h3)
  | .enum e, X, Y, tg, x, o, h => by
    cases tg <;> first | (exact absurd h Bool.false_ne_true) | skip
    cases x <;> first | (exact absurd h Bool.false_ne_true) | skip
    rename_i f es kw p
    match kw, f, es, h with
    | _ :: _, f, es, h => cases f <;> first | exact absurd h Bool.false_ne_true | (rcases es with _ | ⟨a1, _ | ⟨a2, _ | ⟨a3, r⟩⟩⟩ <;> first | exact absurd h Bool.false_ne_true | (cases a2 <;> exact absurd h Bool.false_ne_true))
    | [], .Name n pn, [y], h =>
      simp only [chkI, Bool.and_eq_true, beq_iff_eq] at h
      obtain ⟨⟨rfl, h1⟩, h2⟩ := h
      exact pi_enumE o h1 (soundE e o h2) (star_one (chkE_form h2) _ _)
end
end
end Ev

set_option Elab.async false
set_option linter.all false
set_option maxRecDepth 100000
set_option maxHeartbeats 4000000
/-! Ev15: statements: the static check, soundness. -/
namespace Ev
open PySem PySem.Spec PyProof.Rows L2

/-! ### the static check -/
/-- a comprehension that is stored in a local name at once -/
def swB (sc : Scope) (x : Expr) : Option Expr → Bool
  | some (.Name t p) => match x with
    | .ListComp _ _ scope _ => sc.names.lookup t == some .local && p.line == x.pos.line && !(scope.names.any fun (n, k) => n == t && (k == .local || k == .cell))
    | _ => false
  | _ => false
def compB : Expr → Bool
  | .SetComp .. => true
  | .DictComp .. => true
  | _ => false
def lcB : Expr → Bool
  | .ListComp .. => true
  | _ => false
def namesL (sc : Scope) (line : Nat) (ts : List Expr) : List Str := ts.filterMap fun
  | .Name id pos => if sc.names.lookup id == some .local && pos.line == line then some id else none
  | _ => none
/-- surely no swapped stores -/
def noSwap (sc : Scope) (tg x : Expr) : Bool := match tg with
  | .Tuple ts _ _ => match x with
    | .Tuple vs _ _ => !(ts.length == 2 || ts.length == 3) || vs.length != ts.length || (namesL sc ((ts.head?.map (·.pos.line)).getD 0) ts).length != ts.length
    | _ => true
  | .List .. => false
  | _ => true
def lcNm : E → Bool
  | .lc .. => true
  | .mlc .. => true
  | .lc2 .. => true
  | _ => false
def localB (sc : Scope) (x : Str) : Bool := decide (sc.names.lookup x = some .local)
mutual
def chkS (C : Cfg) (g : Bool) (sc : Scope) : S → Stmt → Bool
  | .set t e, .Assign [tg] x p => chkE C g sc e x && chkT C g sc none t tg && !compB x && noSwap sc tg x && (!swB sc x (some tg) || lcNm e)
  | .par2 i j l, .Assign [.Tuple [.Name x px, .Name y py] _ _] (.Tuple [a, b] _ _) p => atN C.N i x && atN C.N j y && decide (i ≠ j) && localB sc x && localB sc y && px.line == py.line && !(x == y) && chkL C g sc l [a, b] && !(foldedForSure 8 a && foldedForSure 8 b) && !(constantsAlone 8 a && constantsAlone 8 b)
  | .par3 i j k l, .Assign [.Tuple [.Name x px, .Name y py, .Name z pz] _ _] (.Tuple [a, b, c] _ _) p => atN C.N i x && atN C.N j y && atN C.N k z && decide (i ≠ j) && decide (i ≠ k) && decide (j ≠ k) && localB sc x && localB sc y && localB sc z &&
      px.line == py.line && px.line == pz.line && !(x == y) && !(x == z) && !(y == z) && chkL C g sc l [a, b, c] && !(foldedForSure 8 a && (foldedForSure 8 b && foldedForSure 8 c)) && !(constantsAlone 8 a && (constantsAlone 8 b && constantsAlone 8 c))
  | .aug i o e, .AugAssign (.Name x _) p y _ => decide (o = p) && decide (o = .Add ∨ o = .Sub) && atN C.N i x && locB sc x && chkE C g sc e y
  | .ex e, .Expr x p => chkE C g sc e x && !compB x && !lcB x
  | .app a e, .Expr (.Call (.Attribute x n ap) [y] [] q) p => n == ("append" : Str) && plainB x && decide (ap.endLine = q.line) && chkE C g sc a x && chkE C g sc e y
  | .setA c f a e, .Assign [.Attribute x n _] y p => (match C.cl[c]? with
    | some pr => atN pr.2 f n && decide (pr.2.length < 1000)
    | none => false) && chkE C g sc a x && chkE C g sc e y && !compB y
  | .ife c a b, .If x y z _ => chkE C g sc c x && chkB C g sc a y && chkB C g sc b z
  | .for t i b, .For tg it body [] _ => chkI C g sc i tg it && chkT C g sc none t tg && chkB C g sc b body
  | .ret e, .Return (some x) _ => chkE C g sc e x
  | .retN, .Return none _ => true
  | .brk, .Break _ => true
  | .cnt, .Continue _ => true
  | .pass, .Pass _ => true
  | .never, _ => true
  | _, _ => false
def chkB (C : Cfg) (g : Bool) (sc : Scope) : SL → List Stmt → Bool
  | .nil, [] => true
  | .cons s l, x :: r => chkS C g sc s x && chkB C g sc l r
  | _, _ => false
end

/-! ### promises of statements -/
inductive FV where
  | nx | bk | ct | rt (v : V)
def RelS (Y : Yx) : Wd → Hp → FV × L2.St → Fl × Env → Prop := fun W H b a => EnvOk Y W H b.2 a.2 ∧ match b.1, a.1 with
  | .nx, .nx => True
  | .bk, .bk => True
  | .ct, .ct => True
  | .rt v, .rt d => Y.rep W H v d
  | _, _ => False
def toD (D : Ends) : FV × L2.St → Hp → Prop := fun b H => match b.1 with
  | .nx => D.nx b.2 H
  | .bk => D.bk b.2 H
  | .ct => D.ct b.2 H
  | .rt v => D.rt v H
def sX (Y : Yx) (f : Env → Mem → R (Fl × Env)) : TS := fun D σ H => tX Y f (RelS Y) σ H (toD D)
structure OkS (X : Cx) (Y : Yx) (C : Cfg) (Γ : Gam) (g : Bool) : Prop where
  o : OkX X Y C Γ g
  kind : X.env.scope.kind = .function
  fn : ∀ n, X.fn n = true
  po : PassesOwn (model X.prog X.w) X.A X.env X.xe
section
variable {X : Cx} {Y : Yx} {C : Cfg} {Γ : Gam} {g : Bool} {x y z tg : Expr} {es : List Expr} {p q : Pos} {fa fb fc : Env → Mem → R D} {fl : Env → Mem → R (List D)} {ft : D → Env → Mem → R Env}
theorem OkS.fnP (o : OkS X Y C Γ g) : FnP X none := fun n h => by
  have h : locB X.env.scope n = true := h
  refine ⟨?_, .inl (o.fn n)⟩
  unfold locB at h
  split at h
  · exact .inl (by assumption)
  · exact .inr (by assumption)
  · cases h
theorem sw_eq (hk : X.env.scope.kind = .function) (hc : compB x = false) (tg : Expr) (line : Nat) : swapsWith x (some tg) line X.env = pure (swB X.env.scope x (some tg)) := by
  have hb : X.env.blockKind = .function := by simp [Env.blockKind, hk, ScopeKind.isAnnotationScope]
  cases x <;> first | (cases hc; done) | skip
  case ListComp a b s d =>
    cases tg <;> first | rfl | skip
    rename_i t pn
    simp only [swapsWith, swB, hb, Env.kindOf]
    rfl
  all_goals (cases tg <;> rfl)
theorem swN_eq (hc : compB x = false) (hl : lcB x = false) (line : Nat) : swapsWith x none line X.env = pure false := by
  cases x <;> first | rfl | (cases hc; done) | (cases hl; done)
theorem noSwap_eq (hk : X.env.scope.kind = .function) (h : noSwap X.env.scope tg x = true) : swappedStores [tg] x X.env = pure none := by
  have hb : X.env.blockKind = .function := by simp [Env.blockKind, hk, ScopeKind.isAnnotationScope]
  cases tg <;> first | rfl | skip
  case Tuple ts a b =>
    cases x <;> first | rfl | skip
    case Tuple vs c d =>
      simp only [noSwap, Bool.or_eq_true] at h
      unfold swappedStores
      simp only
      split
      · rfl
      · rename_i h1
        split
        · rfl
        · split
          · rfl
          · rename_i h3
            exfalso
            simp only [Bool.or_eq_true, not_or] at h1 h3
            rcases h with (h | h) | h
            · exact h1.1.1 h
            · exact h1.1.2 h
            · apply h3.1
              exact h
  case List ts a => cases x <;> cases h
theorem ps_setE (o : OkS X Y C Γ g) (ha : SE X x Y fa) (hg : PG X tg (gX Y ft none)) (hc : compB x = false) (hw : noSwap X.env.scope tg x = true) (hs : swB X.env.scope x (some tg) = false) (h1 : assignEach [tg] X.env = [(false, assign tg X.env)]) :
    PS X (.Assign [tg] x p) (sX Y fun ρ m => (fa ρ m).bind fun d m1 => (ft d ρ m1).bind fun ρ1 m2 => .ok (.nx, ρ1) m2) := by
  refine PS.imp (ps_asg ha.e hg (by show swapsWith x (some tg) p.line X.env = _; rw [sw_eq o.kind hc, hs]) (noSwap_eq o.kind hw) (by rw [h1]; rfl)) fun D σ H q => ?_
  refine tX.bind q fun ρ d m v W H1 si en r ou => ?_
  exact ⟨W, ρ, m, d, si, en, r, ou.bind fun ρ1 m1 σ1 W1 H2 _ si1 le1 rg o1 => Out.here (b := (.nx, σ1)) o1 si1 ⟨rg.1, trivial⟩⟩
theorem asg_of {D : Ends} {σ : L2.St} {H : Hp} {i : Nat} (q : sX Y (fun ρ m => (fa ρ m).bind fun d m1 => (R.ok (ρ.set i (some d)) m1).bind fun ρ1 m2 => .ok (.nx, ρ1) m2) D σ H) : tAsg (tE Y fa) (gName i) D σ H := by
  refine tX.bind q fun ρ d m v W H1 si en r ou => ?_
  exact Out.here (b := (.nx, σ.set i (some v))) ou si ⟨en.set r, trivial⟩
theorem par_len {l : EL} {σ : L2.St} {H : Hp} {D : Ends} {is : List Nat} {T : List V → Hp → Prop}
    (q : sX Y (fun (ρ : Env) (m : Mem) => (evL Γ l ρ m).bind fun ds m1 => match setAll is ds ρ with
    | some ρ1 => .ok (.nx, ρ1) m1
    | none => .bad) D σ H)
    (hk : ∀ (ρ : Env) (ds : List Ev.D) (vs : List V) (ρ1 : Env) (m : Mem) (W : Wd) (H' : Hp), setAll is ds ρ = some ρ1 → Y.repL W H' vs ds → EnvOk Y W H' σ ρ → (∀ σ1, EnvOk Y W H' σ1 ρ1 → D.nx σ1 H') → T vs H') : tA Y (evL Γ l) σ H T := by
  refine tX.bind q fun ρ ds m vs W H1 si en r ou => ?_
  cases e : setAll is ds ρ with
  | none => rw [e] at ou; exact ou.elim
  | some ρ1 =>
    rw [e] at ou
    exact hk ρ ds vs ρ1 m W H1 e r en fun σ1 e1 => Out.here (b := (.nx, σ1)) ou si ⟨e1, trivial⟩
theorem swap2 {a b : Expr} {n k : Str} {px py pt pt2 : Pos} {kt k2 : Nat} (hk : X.env.scope.kind = .function) (h1 : localB X.env.scope n = true) (h2 : localB X.env.scope k = true) (hl : (px.line == py.line) = true) (hn : (n == k) = false) (ha : Pl a) (hb : Pl b)
    (hf : (foldedForSure 8 a && foldedForSure 8 b) = false) (hc : (constantsAlone 8 a && constantsAlone 8 b) = false) : swappedStores [.Tuple [.Name n px, .Name k py] kt pt] (.Tuple [a, b] k2 pt2) X.env = pure (some [n, k]) := by
  have hbk : X.env.blockKind = .function := by simp [Env.blockKind, hk, ScopeKind.isAnnotationScope]
  have e1 : X.env.kindOf n = some .local := of_decide_eq_true h1
  have e2 : X.env.kindOf k = some .local := of_decide_eq_true h2
  have hl' : px.line = py.line := by simpa using hl
  have hn' : ¬ (k = n) := fun e => by subst e; simp at hn
  unfold swappedStores
  simp only [hbk, List.all_cons, List.all_nil, Bool.and_true, hf, hc, List.filterMap_cons, List.filterMap_nil, e1, e2, List.head?_cons, Option.map_some, Option.getD_some, Expr.pos, hl']
  simp [List.eraseDups_cons, hn']
  intro h
  rcases h with h | h
  · cases a <;> first | exact absurd h Bool.false_ne_true | exact False.elim ha
  · cases b <;> first | exact absurd h Bool.false_ne_true | exact False.elim hb
theorem swap3 {a b c : Expr} {n k j : Str} {px py pz pt pt2 : Pos} {kt k2 : Nat} (hk : X.env.scope.kind = .function) (h1 : localB X.env.scope n = true) (h2 : localB X.env.scope k = true) (h3 : localB X.env.scope j = true) (hl : (px.line == py.line) = true) (hl2 : (px.line == pz.line) = true)
    (hn : (n == k) = false) (hn2 : (n == j) = false) (hn3 : (k == j) = false) (ha : Pl a) (hb : Pl b) (hcc : Pl c)
    (hf : (foldedForSure 8 a && (foldedForSure 8 b && foldedForSure 8 c)) = false) (hc : (constantsAlone 8 a && (constantsAlone 8 b && constantsAlone 8 c)) = false) : swappedStores [.Tuple [.Name n px, .Name k py, .Name j pz] kt pt] (.Tuple [a, b, c] k2 pt2) X.env = pure (some [n, k, j]) := by
  have hbk : X.env.blockKind = .function := by simp [Env.blockKind, hk, ScopeKind.isAnnotationScope]
  have e1 : X.env.kindOf n = some .local := of_decide_eq_true h1
  have e2 : X.env.kindOf k = some .local := of_decide_eq_true h2
  have e3 : X.env.kindOf j = some .local := of_decide_eq_true h3
  have hl' : px.line = py.line := by simpa using hl
  have hl2' : px.line = pz.line := by simpa using hl2
  have hn' : ¬ (k = n) := fun e => by subst e; simp at hn
  have hn2' : ¬ (j = n) := fun e => by subst e; simp at hn2
  have hn3' : ¬ (j = k) := fun e => by subst e; simp at hn3
  unfold swappedStores
  simp only [hbk, List.all_cons, List.all_nil, Bool.and_true, hf, hc, List.filterMap_cons, List.filterMap_nil, e1, e2, e3, List.head?_cons, Option.map_some, Option.getD_some, Expr.pos, ← hl', ← hl2']
  simp [List.eraseDups_cons, hn', hn2', hn3']
  intro h
  rcases h with h | h | h
  · cases a <;> first | exact absurd h Bool.false_ne_true | exact False.elim ha
  · cases b <;> first | exact absurd h Bool.false_ne_true | exact False.elim hb
  · cases c <;> first | exact absurd h Bool.false_ne_true | exact False.elim hcc
theorem ps_augE {i : Nat} {op : Operator} {n : Str} {pn : Pos} (o : OkS X Y C Γ g) (hop : op = .Add ∨ op = .Sub) (h1 : atN C.N i n = true) (h2 : locB X.env.scope n = true) (ha : SE X y Y fa) :
    PS X (.AugAssign (.Name n pn) op y p) (sX Y fun ρ m => match getI ρ i with
    | some x => (fa ρ m).bind fun y m1 => (match augD op x y with
      | some d => .ok (.nx, ρ.set i (some d)) m1
      | none => .bad)
    | none => .bad) := by
  have hl := o.fnP n h2
  have getI_some : ∀ {ρ : Env} {x : Int}, getI ρ i = some x → ρ[i]? = some (some (.int x)) := fun {ρ x} h => by
    unfold getI at h
    split at h
    · rename_i e; cases h; exact e
    · cases h
  have key : ∀ (ti : Int → Int → Int) (hti : ∀ x y d, augD op x y = some d → ∃ j, y = .int j ∧ d = .int (ti x j)) (D : Ends) (σ : L2.St) (H : Hp), sX Y (fun ρ m => match getI ρ i with
    | some x => (fa ρ m).bind fun y m1 => (match augD op x y with
      | some d => .ok (.nx, ρ.set i (some d)) m1
      | none => .bad)
    | none => .bad) D σ H → tAug i (tE Y fa) (ipI ti) D σ H := by
    intro ti hti D σ H ⟨W, ρ, m, si, en, ou⟩
    dsimp only at ou
    split at ou
    · rename_i x0 e
      obtain ⟨v, e1, r⟩ := en.2 i _ (getI_some e)
      obtain rfl := r.int_
      refine ⟨_, e1, W, ρ, m, si, en, ou.bind fun d m1 v1 W1 H1 _ si1 le1 r1 o1 => ?_⟩
      cases ed : augD op x0 d with
      | none => rw [ed] at o1; exact o1.elim
      | some dd =>
        rw [ed] at o1
        obtain ⟨j, rfl, rfl⟩ := hti _ _ _ ed
        obtain rfl := r1.int_
        exact ⟨x0, j, rfl, rfl, Out.here (b := (.nx, σ.set i (some (.int (ti x0 j))))) o1 si1 ⟨(en.mono le1).set (.int _), trivial⟩⟩
    · exact ou.elim
  rcases hop with rfl | rfl
  · exact PS.imp (ps_aug o.o.nd (by rw [o.o.hN]; exact of_decide_eq_true h1) hl.1 ha.e ip_add hl.2) fun D σ H q => key (fun i j => i + j) (fun x y d h => by cases y <;> simp [augD] at h; exact ⟨_, rfl, h.symm⟩) D σ H q
  · exact PS.imp (ps_aug o.o.nd (by rw [o.o.hN]; exact of_decide_eq_true h1) hl.1 ha.e ip_sub hl.2) fun D σ H q => key (fun i j => i - j) (fun x y d h => by cases y <;> simp [augD] at h; exact ⟨_, rfl, h.symm⟩) D σ H q
theorem ps_exE (ha : SE X x Y fa) (hc : compB x = false) (hl : lcB x = false) : PS X (.Expr x p) (sX Y fun ρ m => (fa ρ m).bind fun _ m1 => .ok (.nx, ρ) m1) := by
  refine PS.imp (ps_expr ha.e (swN_eq hc hl _)) fun D σ H q => ?_
  refine tX.bind q fun ρ d m v W H1 si en r ou => ?_
  exact Out.here (b := (.nx, σ)) ou si ⟨en, trivial⟩
theorem appD_lst {W : Wd} {H : Hp} {m m' : Mem} {a d : Ev.D} {va v : V} {Q : VK} (si : Y.sit W H m) (ra : Y.rep W H va a) (rd : Y.rep W H v d) (h : appD a d m = some m') (q : ∀ W' H', Y.sit W' H' m' → Le W H W' H' → Q .non H') : rAppend va [v] H Q := by
  unfold appD at h
  cases a with
  | ref k =>
    simp only at h
    split at h
    · rename_i l hl
      split at h
      · rename_i hz
        cases h
        cases ra with
        | ref e =>
          obtain ⟨f, qq, xs, e3, rr⟩ := si.m.is _ _ _ hl (by intro z; cases z) e
          refine ⟨_, xs, v, rfl, rfl, e3, by rw [rr.length, ← lim_eq]; exact hz, ?_⟩
          have le := le_upd (o := .lst (xs ++ [v])) si hl (by intro z; cases z) e
          exact q W _ (si.upd hl (by intro z; cases z) e ⟨_, upd_same, (rr.append (.cons rd .nil)).mono le⟩) le
      · cases h
    · cases h
  | _ => cases h
theorem appD_ty {W : Wd} {H : Hp} {m : Mem} {a : Ev.D} {va : V} {k : Nat} {l : List Ev.D} (si : Y.sit W H m) (ra : Y.rep W H va (.ref k)) (hl : m[k]? = some (.lst l)) (hK : X.K = Y.K) : tyV X.K "list" va H := by
  cases ra with
  | ref e =>
    obtain ⟨f, qq, xs, e3, rr⟩ := si.m.is _ _ _ hl (by intro z; cases z) e
    exact .inl ⟨rfl, xs, SqL.of e3⟩
theorem ps_appE {apos : Pos} (o : OkS X Y C Γ g) (ha : SE X x Y fa) (hb : SE X y Y fb) (hpl : plainB x = true) (hline : apos.endLine = q.line) (hs : starEach [y] X.env = (false, eval y X.env) :: starEach [] X.env) :
    PS X (.Expr (.Call (.Attribute x "append" apos) [y] [] q) p) (sX Y fun ρ m => (fa ρ m).bind fun x m1 => if isLst m1 x then (fb ρ m1).bind fun y m2 => match appD x y m2 with
    | some m3 => .ok (.nx, ρ) m3
    | none => .bad else .bad) := by
  have pa : PA X [y] (tCons (tE Y fb) tNil) := pa_cons hb.e pa_nil hs
  have hfew : ((backTo q (starEach [y] X.env)).all (fun x => !x.1) && (backToKw q (keywordEach [] X.env)).all (fun x => x.1.isSome) && decide ([y].length + ([] : List Keyword).length + (if ([] : List Keyword).isEmpty then 0 else 1) < 30)) = true := by
    rw [hs]; rfl
  refine PS.imp (ps_expr (pe_bm PySem.F.plainAttrs_list PySem.F.slot_list_append PySem.F.type_list_append mt_append ha.e pa (base_plain hpl) hfew (by rw [hline]; simp) hs rfl) rfl) fun D σ H q => ?_
  refine tX.bind q fun ρ d m v W H1 si en r ou => ?_
  split at ou
  · rename_i hlst
    unfold isLst at hlst
    split at hlst
    · rename_i k
      split at hlst
      · rename_i l hl
        refine ⟨appD_ty (a := .non) si r hl o.o.hK, W, ρ, m, si, en, ou.bind fun d2 m2 v2 W2 H2 _ si2 le2 r2 o2 => ?_⟩
        cases e : appD (.ref k) d2 m2 with
        | none => rw [e] at o2; exact o2.elim
        | some m3 =>
          rw [e] at o2
          exact appD_lst (Q := fun _ H' => D.nx σ H') si2 (r.mono le2) r2 e fun W' H' si' le' => o2 (.nx, σ) W' H' si' le' ⟨(en.mono le2).mono le', trivial⟩
      · cases hlst
    · cases hlst
  · exact ou.elim
theorem ps_ifE {a b : List Stmt} {f1 f2 : Env → Mem → R (Fl × Env)} (hc : SE X x Y fa) (h1 : PSs X a (sX Y f1)) (h2 : PSs X b (sX Y f2)) : PS X (.If x a b p) (sX Y fun ρ m => (fa ρ m).bind fun x m1 => onB (toB x) (f1 ρ m1) (f2 ρ m1)) := by
  refine PS.imp (ps_if hc.t h1 h2) fun D σ H ⟨W, ρ, m, si, en, ou⟩ => ?_
  refine ⟨W, ρ, m, si, en, out_toB (h := fun b m => match b with | true => f1 ρ m | false => f2 ρ m) ou fun c m1 W1 H1 si1 le o1 => ?_⟩
  cases c <;> exact ⟨W1, ρ, m1, si1, en.mono le, o1⟩
theorem ps_retE (ha : SE X x Y fa) : PS X (.Return (some x) p) (sX Y fun ρ m => (fa ρ m).bind fun d m1 => .ok (.rt d, ρ) m1) := by
  refine PS.imp (ps_ret ha.e) fun D σ H q => ?_
  refine tX.bind q fun ρ d m v W H1 si en r ou => ?_
  exact Out.here (b := (.rt v, σ)) ou si ⟨en, r⟩
theorem pss_consE {st : Stmt} {r : List Stmt} {f : Env → Mem → R (Fl × Env)} {fr : Env → Mem → R (Fl × Env)} (h1 : PS X st (sX Y f)) (h2 : PSs X r (sX Y fr)) : PSs X (st :: r) (sX Y fun ρ m => (f ρ m).bind fun p m1 => match p.1 with
    | .nx => fr p.2 m1
    | f => .ok (f, p.2) m1) := by
  refine PSs.imp (pss_cons h1 h2) fun D σ H ⟨W, ρ, m, si, en, ou⟩ => ?_
  refine ⟨W, ρ, m, si, en, ou.bind fun a m1 b W1 H1 _ si1 le1 rs o1 => ?_⟩
  obtain ⟨fv, σ1⟩ := b
  obtain ⟨fl, ρ1⟩ := a
  obtain ⟨e1, e2⟩ := rs
  cases fl <;> cases fv <;> first | exact e2.elim | skip
  · exact ⟨W1, ρ1, m1, si1, e1, o1⟩
  · exact Out.here (b := (.bk, σ1)) o1 si1 ⟨e1, trivial⟩
  · exact Out.here (b := (.ct, σ1)) o1 si1 ⟨e1, trivial⟩
  · exact Out.here (b := (.rt _, σ1)) o1 si1 ⟨e1, e2⟩
theorem ps_forE {it : Expr} {body : List Stmt} {fi : Env → Mem → R (List Ev.D × Src)} {fB : Env → Mem → R (Fl × Env)} (o : OkS X Y C Γ g) (hi : PI X tg it (tI Y fi)) (hg : PG X tg (gX Y ft none)) (hb : PSs X body (sX Y fB)) (hit : ∀ v, foldedSetIterable it X.env v = pure v) :
    PS X (.For tg it body [] p) (sX Y fun ρ m => (fi ρ m).bind fun w m1 => forL (fun d ρ1 m2 => (ft d ρ1 m2).bind fun ρ2 m3 => fB ρ2 m3) w.2 w.1 ρ m1) := by
  refine PS.imp (ps_for o.po o.o.calm hi hg hb hit) fun D σ H q => ?_
  refine tX.bind q fun ρ w m1 J W1 H1 si1 en1 rel o1 => ?_
  refine ⟨fun i n σ H => n = w.1.length - i ∧ i ≤ w.1.length ∧ ∃ W m ρ, Y.sit W H m ∧ Le W1 H1 W H ∧ EnvOk Y W H σ ρ ∧ Out Y W H (forL (fun d ρ1 m2 => (ft d ρ1 m2).bind fun ρ2 m3 => fB ρ2 m3) w.2 (w.1.drop i) ρ m) (RelS Y) (toD D),
    ⟨_, rfl, Nat.zero_le _, W1, m1, ρ, si1, Le.refl, en1, o1⟩, ?_⟩
  rintro i n σ H ⟨rfl, hi, W, m, ρ, si, le, en, ou⟩
  have wr := rel i m W H si le.lf
  by_cases hlt : i < w.1.length
  · right
    have ed : w.1[i]? = some w.1[i] := List.getElem?_eq_getElem hlt
    rw [List.drop_eq_getElem_cons hlt] at ou
    unfold forL at ou
    split at ou
    rotate_left
    · exact ou.elim
    rename_i so
    obtain ⟨go, yl⟩ := (wr so).1 _ ed
    refine ⟨go, fun σ H => ∃ W m ρ, Y.sit W H m ∧ Le W1 H1 W H ∧ EnvOk Y W H σ ρ ∧ Out Y W H (forL (fun d ρ1 m2 => (ft d ρ1 m2).bind fun ρ2 m3 => fB ρ2 m3) w.2 (w.1.drop (i + 1)) ρ m) (RelS Y) (toD D), fun σ' H' h => ⟨w.1.length - (i + 1), by omega, rfl, hlt, h⟩, fun x H' hy => ?_⟩
    obtain ⟨W3, si3, le3, r3⟩ := yl x H' hy
    have ou := ou.mono le3
    rw [R.bind_assoc] at ou
    refine ⟨W3, ρ, m, w.1[i], si3, en.mono le3, r3, ou.bind fun ρ1 m4 σ1 W4 H4 _ si4 le4 rg o4 => ?_⟩
    refine ⟨W4, ρ1, m4, si4, rg.1, o4.bind fun a m5 b W5 H5 _ si5 le5 rs o5 => ?_⟩
    have le5' : Le W1 H1 W5 H5 := ((le.trans le3).trans le4).trans le5
    obtain ⟨fv, σ5⟩ := b
    obtain ⟨fl, ρ5⟩ := a
    obtain ⟨e1, e2⟩ := rs
    cases fl <;> cases fv <;> first | exact e2.elim | skip
    · exact ⟨W5, m5, ρ5, si5, le5', e1, o5⟩
    · exact Out.here (b := (.nx, σ5)) o5 si5 ⟨e1, trivial⟩
    · exact ⟨W5, m5, ρ5, si5, le5', e1, o5⟩
    · exact Out.here (b := (.rt _, σ5)) o5 si5 ⟨e1, e2⟩
  · left
    have ei : i = w.1.length := by omega
    rw [List.drop_eq_nil_of_le (by omega)] at ou
    unfold forL at ou
    split at ou
    · rename_i so
      exact ⟨(wr so).2 ei, Out.here (b := (.nx, σ)) ou si ⟨en, trivial⟩⟩
    · exact ou.elim
end
end Ev

set_option Elab.async false
set_option linter.all false
set_option maxRecDepth 100000
set_option maxHeartbeats 4000000
/-! Ev16: soundness of statements, a def's promise by its term. -/
namespace Ev
open PySem PySem.Spec PyProof.Rows L2

section
variable {X : Cx} {Y : Yx} {C : Cfg} {Γ : Gam} {g : Bool} {x y z tg : Expr} {es : List Expr} {p q : Pos} {fa fb fc : Env → Mem → R D}
theorem lookup_putF {f n : Str} {v : V} : ∀ (fs : List (Str × V)), (putF f v fs).lookup n = if n = f then some v else fs.lookup n
  | [] => by
    unfold putF
    by_cases c : n = f
    · subst c; simp [List.lookup_cons]
    · have : (n == f) = false := by simpa using c
      simp [List.lookup_cons, this, c]
  | (k, u) :: r => by
    unfold putF
    by_cases c : k = f
    · subst c
      rw [if_pos rfl, List.lookup_cons, List.lookup_cons]
      by_cases d : n = k
      · subst d; simp
      · have : (n == k) = false := by simpa using d
        simp [this, d]
    · rw [if_neg c, List.lookup_cons, List.lookup_cons, lookup_putF r]
      by_cases d : n = k
      · subst d; simp [c]
      · have : (n == k) = false := by simpa using d
        simp [this]
theorem lookup_cons_nat {i f : Nat} {x : D} {l : List (Nat × D)} : ((f, x) :: l).lookup i = if i = f then some x else l.lookup i := by
  rw [List.lookup_cons]
  by_cases c : i = f
  · subst c; simp
  · have : (i == f) = false := by simpa using c
    simp [this, c]
theorem ps_setAE {c f : Nat} {n : Str} {ci : ClsI} {pn : Pos} (o : OkS X Y C Γ g) (hc : Y.CT[c]? = some ci) (hn : ci.fs[f]? = some n) (hnd : ci.fs.Nodup) (ha : SE X x Y fa) (hb : SE X y Y fb) (hcb : compB y = false) :
    PS X (.Assign [.Attribute x n pn] y p) (sX Y fun ρ m => (fb ρ m).bind fun y m1 => (fa ρ m1).bind fun x m2 => match setA c f x y m2 with
    | some m3 => .ok (.nx, ρ) m3
    | none => .bad) := by
  have hsw : swapsWith y (some (.Attribute x n pn)) p.line X.env = pure false := by
    rw [sw_eq o.kind hcb]
    rfl
  refine PS.imp (ps_fld ha.e hb.e hsw) fun D σ H q => ?_
  refine tX.bind q fun ρ dy m vy W H1 si en ry ou => ?_
  refine ⟨W, ρ, m, si, en, ou.bind fun dx m2 vx W2 H2 _ si2 le2 rx o2 => ?_⟩
  cases e : setA c f dx dy m2 with
  | none => rw [e] at o2; exact o2.elim
  | some m3 =>
    rw [e] at o2
    have co := o.o.cls c ci hc
    unfold setA at e
    split at e
    · rename_i k
      split at e
      · rename_i c' l hl
        split at e
        · rename_i cc
          obtain ⟨rfl, hz⟩ := cc
          cases e
          cases rx with
          | ref e0 =>
            rename_i a
            obtain ⟨nf, np, ci', dx2, fs, e3, e4, e5, e6, e7⟩ := si2.m.is _ _ _ hl (by intro z; cases z) e0
            rw [hc] at e3
            cases e3
            refine ⟨a, ci.C, dx2, fs, rfl, e4, co.cl, co.na n (List.mem_of_getElem? hn), by omega, ?_⟩
            have le := le_upd (o := .ins ci.C dx2 (putF n vy fs)) si2 hl (by intro z; cases z) e0
            have ry2 := (ry.mono le2).mono le
            refine o2 (.nx, σ) W2 _ (si2.upd hl (by intro z; cases z) e0 ⟨ci, dx2, _, hc, upd_same, fun f' hf' => ?_, ?_, fun i f' hf' => ?_⟩) le ⟨(en.mono le2).mono le, trivial⟩
            · rw [lookup_putF, if_neg (by rintro rfl; exact hf' (List.mem_of_getElem? hn))]
              exact e5 f' hf'
            · have := length_putF n vy fs
              simp
              omega
            · rw [lookup_putF, lookup_cons_nat]
              by_cases c2 : i = f
              · subst c2
                rw [hn] at hf'
                cases hf'
                rw [if_pos rfl, if_pos rfl]
                exact ⟨vy, rfl, ry2⟩
              · rw [if_neg c2]
                have hne : f' ≠ n := by
                  rintro rfl
                  obtain ⟨h1, e1⟩ := List.getElem?_eq_some_iff.mp hf'
                  obtain ⟨h2, e2⟩ := List.getElem?_eq_some_iff.mp hn
                  exact c2 ((List.getElem_inj hnd).mp (e1.trans e2.symm))
                rw [if_neg hne]
                have z := e7 i f' hf'
                cases zz : l.lookup i with
                | none => rw [zz] at z; exact z
                | some d =>
                  rw [zz] at z
                  obtain ⟨v, z1, z2⟩ := z
                  exact ⟨v, z1, z2.mono le⟩
        · cases e
      · cases e
    · cases e
end

section
variable {C : Cfg} {Γ : Gam} {g : Bool}
theorem chkT_nm {sc : Scope} {t : T} {n : Str} {pn : Pos} (h : chkT C g sc none t (.Name n pn) = true) : ∃ i, t = .nm i ∧ atN C.N i n = true := by
  cases t with
  | nm i =>
    simp only [chkT, Bool.and_eq_true] at h
    exact ⟨i, rfl, h.1.1⟩
  | tup l => exact absurd h Bool.false_ne_true
  | ix a b => exact absurd h Bool.false_ne_true
theorem lc_set {X : Cx} {Y : Yx} {tg x : Expr} {e : E} {t : T} {p : Pos} (o : OkS X Y C Γ g) (he : chkE C g X.env.scope e x = true) (ht : chkT C g X.env.scope none t tg = true) (hcb : compB x = false) (hs : swB X.env.scope x (some tg) = true)
    (hm : lcNm e = true) : PS X (.Assign [tg] x p) (sX Y (evS Γ (.set t e))) := by
  cases tg <;> first | (exfalso; exact absurd hs Bool.false_ne_true) | skip
  rename_i n pn
  obtain ⟨i, rfl, hN⟩ := chkT_nm ht
  cases x <;> first | (exfalso; exact absurd hs Bool.false_ne_true) | skip
  rename_i x gens scope px
  have hsw := sw_eq o.kind hcb (.Name n pn) p.line
  rw [hs] at hsw
  have hloc : X.env.scope.names.lookup n = some .local := by
    simp only [swB, Bool.and_eq_true, beq_iff_eq] at hs
    exact hs.1.1
  cases e <;> first | (exfalso; exact absurd hm Bool.false_ne_true) | skip
  · rename_i own e t i' c
    match gens, he with
    | [⟨tg, it, ifs, nn⟩], he =>
      simp only [chkE, Bool.and_eq_true, decide_eq_true_eq] at he
      obtain ⟨⟨⟨⟨⟨rfl, h1⟩, h2⟩, h3⟩, h4⟩, h5⟩ := he
      exact PS.imp (ps_lcE o.o (soundI i' o.o h1) (set_plain (chkI_form h1)) h5 (fun s H C0 cl fp => soundT t (o.o.blk s H scope _ fp) fnP_blk h2) (fun s H C0 cl fp => soundC c (o.o.blk s H scope _ fp) h3)
        (fun s H C0 cl fp => (soundE e (o.o.blk s H scope _ fp) h4).e) fin_lc hN hloc hsw) fun D σ H q => asg_of q
    | [], h => exact absurd h Bool.false_ne_true
    | ⟨_, _, _, _⟩ :: _ :: _, h => exact absurd h Bool.false_ne_true
  · rename_i own e t i' c
    match gens, he with
    | [⟨tg, it, ifs, nn⟩], he =>
      simp only [chkE, Bool.and_eq_true, decide_eq_true_eq] at he
      obtain ⟨⟨⟨⟨⟨rfl, h1⟩, h2⟩, h3⟩, h4⟩, h5⟩ := he
      exact PS.imp (ps_lcE o.o (soundI i' o.o h1) (set_plain (chkI_form h1)) h5 (fun s H C0 cl fp => soundT t (o.o.blk s H scope _ fp) fnP_blk h2) (fun s H C0 cl fp => soundC c (o.o.blk s H scope _ fp) h3)
        (fun s H C0 cl fp => (soundE e (o.o.blk s H scope _ fp) h4).e) fin_mlc hN hloc hsw) fun D σ H q => asg_of q
    | [], h => exact absurd h Bool.false_ne_true
    | ⟨_, _, _, _⟩ :: _ :: _, h => exact absurd h Bool.false_ne_true
  · rename_i z own own1 e t i' c t1 i1 c1
    match gens, he with
    | [⟨tg, it, ifs, n⟩, ⟨tg1, it1, ifs1, n1⟩], h =>
      simp only [chkE, Bool.and_eq_true, decide_eq_true_eq, List.all_eq_true] at h
      obtain ⟨⟨⟨⟨⟨⟨⟨⟨⟨⟨rfl, rfl⟩, h1⟩, h2⟩, h3⟩, h4⟩, h5⟩, h6⟩, h7⟩, h8⟩, h9⟩ := h
      refine PS.imp (ps_setLc2 (own := ownM C.N own) (vs1 := own1) o.o.calm o.o.nd (by rw [o.o.hN]; exact of_decide_eq_true hN) hloc hsw (soundI i' o.o h1) (by rw [o.o.hN]; exact blkOk_by h8) (by rw [ownM_snd]; exact h9) (fun s H C0 cl fp => soundT t (o.o.blk s H scope _ fp) fnP_blk h2)
        (fun s H C0 cl fp => soundC c (o.o.blk s H scope _ fp) h3) (fun s H C0 cl fp => soundI i1 (o.o.blk s H scope _ fp) h4) (fun s H C0 cl fp => soundT t1 (o.o.blk s H scope _ fp) fnP_blk h5) (fun s H C0 cl fp => soundC c1 (o.o.blk s H scope _ fp) h6)
        (fun s H C0 cl fp => (soundE e (o.o.blk s H scope _ fp) h7).e) (set_plain (chkI_form h1)) (fun env => set_plain (chkI_form h4))) fun D σ H q => ?_
      have q2 := asg_of q
      show tLc2 _ _ _ _ _ _ _ _ _ σ H fun x H1 => gName i x σ H1 D.nx
      rw [ownM_snd]
      exact lc2_ok fin_lc2 q2
theorem setAll2 {i j : Nat} {ds : List D} {ρ ρ1 : Env} (h : setAll [i, j] ds ρ = some ρ1) : ∃ a b, ds = [a, b] ∧ ρ1 = (ρ.set i (some a)).set j (some b) := by
  match ds, h with
  | [a, b], h => cases h; exact ⟨a, b, rfl, rfl⟩
theorem setAll3 {i j k : Nat} {ds : List D} {ρ ρ1 : Env} (h : setAll [i, j, k] ds ρ = some ρ1) : ∃ a b c, ds = [a, b, c] ∧ ρ1 = ((ρ.set i (some a)).set j (some b)).set k (some c) := by
  match ds, h with
  | [a, b, c], h => cases h; exact ⟨a, b, c, rfl, rfl⟩
mutual
theorem soundS : ∀ (s : S) {X : Cx} {Y : Yx} {x : Stmt}, OkS X Y C Γ g → (∀ (c : Nat) (ci : ClsI), Y.CT[c]? = some ci → ci.fs.Nodup) → chkS C g X.env.scope s x = true → PS X x (sX Y (evS Γ s))
  | .set t e, X, Y, x, o, hnd, h => by
    cases x <;> first | (exact absurd h Bool.false_ne_true) | skip
    rename_i tgs x p
    match tgs, h with
    | [tg], h =>
      simp only [chkS, Bool.and_eq_true, Bool.or_eq_true, Bool.not_eq_true'] at h
      obtain ⟨⟨⟨⟨h1, h2⟩, h3⟩, h4⟩, h5⟩ := h
      rcases h5 with h5 | h5
      · exact ps_setE o (soundE e o.o h1) (soundT t o.o o.fnP h2) h3 h4 h5 (chkT_form h2 [])
      · cases hs : swB X.env.scope x (some tg) with
        | false => exact ps_setE o (soundE e o.o h1) (soundT t o.o o.fnP h2) h3 h4 hs (chkT_form h2 [])
        | true => exact lc_set o h1 h2 h3 hs h5
    | [], h => exact absurd h Bool.false_ne_true
    | _ :: _ :: _, h => exact absurd h Bool.false_ne_true
  | .par2 i j l, X, Y, x, o, hnd, h => by
    cases x <;> first | (exact absurd h Bool.false_ne_true) | skip
    rename_i tgs x p
    match tgs, x, h with
    | [.Tuple [.Name n px, .Name k py] kt pt], .Tuple [a, b] k2 pt2, h =>
      simp only [chkS, Bool.and_eq_true, Bool.not_eq_true', decide_eq_true_eq] at h
      obtain ⟨⟨⟨⟨⟨⟨⟨⟨⟨h1, h2⟩, h3⟩, h4⟩, h5⟩, h6⟩, h7⟩, h8⟩, h9⟩, h10⟩ := h
      have hp1 : Pl a ∧ Pl b := by
        cases l with
        | nil => simp [chkL] at h8
        | star e => simp [chkL] at h8
        | cons e l =>
          cases l with
          | nil => simp [chkL] at h8
          | star e => simp [chkL] at h8
          | cons e2 l => simp only [chkL, Bool.and_eq_true] at h8; exact ⟨chkE_form h8.1, chkE_form h8.2.1⟩
      refine PS.imp (ps_par o.o.calm o.o.nd (by rw [o.o.hN]; exact of_decide_eq_true h1) (by rw [o.o.hN]; exact of_decide_eq_true h2) h3 (of_decide_eq_true h4) (of_decide_eq_true h5) (soundL l o.o h8) (swap2 o.kind h4 h5 h6 h7 hp1.1 hp1.2 h9 h10)) fun D σ H q => ?_
      refine par_len q fun ρ ds vs ρ1 m W H' e r en hk => ?_
      obtain ⟨da, db, rfl, rfl⟩ := setAll2 e
      obtain ⟨va, vb, rfl, ra, rb⟩ := RepL.two r
      exact ⟨va, vb, rfl, hk _ ((en.set ra).set rb)⟩
  | .par3 i j k l, X, Y, x, o, hnd, h => by
    cases x <;> first | (exact absurd h Bool.false_ne_true) | skip
    rename_i tgs x p
    match tgs, x, h with
    | [.Tuple [.Name n px, .Name n2 py, .Name n3 pz] kt pt], .Tuple [a, b, c] k2 pt2, h =>
      simp only [chkS, Bool.and_eq_true, Bool.not_eq_true', decide_eq_true_eq] at h
      obtain ⟨⟨⟨⟨⟨⟨⟨⟨⟨⟨⟨⟨⟨⟨⟨⟨h1, h2⟩, h3⟩, h4⟩, h5⟩, h6⟩, h7⟩, h8⟩, h9⟩, h10⟩, h11⟩, h12⟩, h13⟩, h14⟩, h15⟩, h16⟩, h17⟩ := h
      have hp1 : Pl a ∧ Pl b ∧ Pl c := by
        cases l with
        | nil => simp [chkL] at h15
        | star e => simp [chkL] at h15
        | cons e l =>
          cases l with
          | nil => simp [chkL] at h15
          | star e => simp [chkL] at h15
          | cons e2 l =>
            cases l with
            | nil => simp [chkL] at h15
            | star e => simp [chkL] at h15
            | cons e3 l => simp only [chkL, Bool.and_eq_true] at h15; exact ⟨chkE_form h15.1, chkE_form h15.2.1, chkE_form h15.2.2.1⟩
      refine PS.imp (ps_par3 o.o.calm o.o.nd (by rw [o.o.hN]; exact of_decide_eq_true h1) (by rw [o.o.hN]; exact of_decide_eq_true h2) (by rw [o.o.hN]; exact of_decide_eq_true h3) h4 h5 h6 (of_decide_eq_true h7) (of_decide_eq_true h8) (of_decide_eq_true h9) (soundL l o.o h15)
        (swap3 o.kind h7 h8 h9 h10 h11 h12 h13 h14 hp1.1 hp1.2.1 hp1.2.2 h16 h17)) fun D σ H q => ?_
      refine par_len q fun ρ ds vs ρ1 m W H' e r en hk => ?_
      obtain ⟨da, db, dc, rfl, rfl⟩ := setAll3 e
      cases r with
      | cons ra r =>
      cases r with
      | cons rb r =>
      cases r with
      | cons rc r =>
      cases r
      exact ⟨_, _, _, rfl, hk _ (((en.set ra).set rb).set rc)⟩
  | .aug i op e, X, Y, x, o, hnd, h => by
    cases x <;> first | (exact absurd h Bool.false_ne_true) | skip
    rename_i tg op' y p
    cases tg <;> first | (exact absurd h Bool.false_ne_true) | skip
    simp only [chkS, Bool.and_eq_true, decide_eq_true_eq] at h
    obtain ⟨⟨⟨⟨rfl, h1⟩, h2⟩, h3⟩, h4⟩ := h
    exact ps_augE o h1 h2 h3 (soundE e o.o h4)
  | .ex e, X, Y, x, o, hnd, h => by
    cases x <;> first | (exact absurd h Bool.false_ne_true) | skip
    simp only [chkS, Bool.and_eq_true, Bool.not_eq_true'] at h
    exact ps_exE (soundE e o.o h.1.1) h.1.2 h.2
  | .app a e, X, Y, x, o, hnd, h => by
    cases x <;> first | (exact absurd h Bool.false_ne_true) | skip
    rename_i x p
    cases x <;> first | (exact absurd h Bool.false_ne_true) | skip
    rename_i f es kw q
    cases f <;> first | (exact absurd h Bool.false_ne_true) | skip
    rename_i x n ap
    match es, kw, h with
    | [y], [], h =>
      simp only [chkS, Bool.and_eq_true, beq_iff_eq, decide_eq_true_eq] at h
      obtain ⟨⟨⟨⟨rfl, h1⟩, h2⟩, h3⟩, h4⟩ := h
      exact ps_appE o (soundE a o.o h3) (soundE e o.o h4) h1 h2 (star_one (chkE_form h4) _ _)
    | [], _, h => exact absurd h Bool.false_ne_true
    | [_], _ :: _, h => exact absurd h Bool.false_ne_true
    | _ :: _ :: _, _, h => exact absurd h Bool.false_ne_true
  | .setA c f a e, X, Y, x, o, hnd, h => by
    cases x <;> first | (exact absurd h Bool.false_ne_true) | skip
    rename_i tgs y p
    match tgs, h with
    | [.Attribute x n pn], h =>
      simp only [chkS, Bool.and_eq_true, Bool.not_eq_true'] at h
      obtain ⟨⟨⟨h1, h2⟩, h3⟩, h4⟩ := h
      cases ec : C.cl[c]? with
      | none => rw [ec] at h1; exact absurd h1 Bool.false_ne_true
      | some pr =>
        rw [ec] at h1
        simp only [Bool.and_eq_true, decide_eq_true_eq] at h1
        obtain ⟨ci, c1, c2, _⟩ := o.o.cn c pr ec
        exact ps_setAE o c1 (by rw [c2]; exact of_decide_eq_true h1.1) (hnd c ci c1) (soundE a o.o h2) (soundE e o.o h3) h4
  | .ife c a b, X, Y, x, o, hnd, h => by
    cases x <;> first | (exact absurd h Bool.false_ne_true) | skip
    simp only [chkS, Bool.and_eq_true] at h
    exact ps_ifE (soundE c o.o h.1.1) (soundB a o hnd h.1.2) (soundB b o hnd h.2)
  | .for t i b, X, Y, x, o, hnd, h => by
    cases x <;> first | (exact absurd h Bool.false_ne_true) | skip
    rename_i tg it body orelse p
    match orelse, h with
    | [], h =>
      simp only [chkS, Bool.and_eq_true] at h
      exact ps_forE o (soundI i o.o h.1.1) (soundT t o.o o.fnP h.1.2) (soundB b o hnd h.2) (set_plain (chkI_form h.1.1))
    | _ :: _, h => exact absurd h Bool.false_ne_true
  | .ret e, X, Y, x, o, hnd, h => by
    cases x <;> first | (exact absurd h Bool.false_ne_true) | skip
    rename_i v p
    cases v with
    | none => exact absurd h Bool.false_ne_true
    | some x => exact ps_retE (soundE e o.o (by simpa only [chkS] using h))
  | .retN, X, Y, x, o, hnd, h => by
    cases x <;> first | (exact absurd h Bool.false_ne_true) | skip
    rename_i v p
    cases v with
    | none => exact PS.imp ps_retN fun D σ H ⟨W, ρ, m, si, en, ou⟩ => Out.here (b := (.rt .non, σ)) ou si ⟨en, .non⟩
    | some x => exact absurd h Bool.false_ne_true
  | .brk, X, Y, x, o, hnd, h => by
    cases x <;> first | (exact absurd h Bool.false_ne_true) | skip
    exact PS.imp ps_break fun D σ H ⟨W, ρ, m, si, en, ou⟩ => Out.here (b := (.bk, σ)) ou si ⟨en, trivial⟩
  | .cnt, X, Y, x, o, hnd, h => by
    cases x <;> first | (exact absurd h Bool.false_ne_true) | skip
    exact PS.imp ps_continue fun D σ H ⟨W, ρ, m, si, en, ou⟩ => Out.here (b := (.ct, σ)) ou si ⟨en, trivial⟩
  | .pass, X, Y, x, o, hnd, h => by
    cases x <;> first | (exact absurd h Bool.false_ne_true) | skip
    exact PS.imp ps_pass fun D σ H ⟨W, ρ, m, si, en, ou⟩ => Out.here (b := (.nx, σ)) ou si ⟨en, trivial⟩
  | .raise c l, X, Y, x, o, hnd, h => by
    cases x <;> exact absurd h Bool.false_ne_true
  | .never, X, Y, x, o, hnd, h => PS.imp ps_never fun D σ H ⟨W, ρ, m, si, en, ou⟩ => ou.elim
theorem soundB : ∀ (l : SL) {X : Cx} {Y : Yx} {x : List Stmt}, OkS X Y C Γ g → (∀ (c : Nat) (ci : ClsI), Y.CT[c]? = some ci → ci.fs.Nodup) → chkB C g X.env.scope l x = true → PSs X x (sX Y (evB Γ l))
  | .nil, X, Y, x, o, hnd, h => by
    cases x with
    | nil => exact PSs.imp pss_nil fun D σ H ⟨W, ρ, m, si, en, ou⟩ => Out.here (b := (.nx, σ)) ou si ⟨en, trivial⟩
    | cons a b => exact absurd h Bool.false_ne_true
  | .cons s l, X, Y, x, o, hnd, h => by
    cases x with
    | nil => exact absurd h Bool.false_ne_true
    | cons a b =>
      simp only [chkB, Bool.and_eq_true] at h
      have ev : evB Γ (.cons s l) = fun ρ m => (evS Γ s ρ m).bind fun p m1 => match p.1 with
        | .nx => evB Γ l p.2 m1
        | f => .ok (f, p.2) m1 := by
        funext ρ m
        first
          | (simp only [evB]; done)
          | (simp only [evB]
             cases evS Γ s ρ m with
             | ok a m => obtain ⟨fl, r⟩ := a; cases fl <;> rfl
             | exc c x m => rfl
             | bad => rfl)
      rw [ev]
      exact pss_consE (soundS s o hnd h.1) (soundB l o hnd h.2)
end
end
end Ev

set_option Elab.async false
set_option linter.all false
set_option maxRecDepth 100000
set_option maxHeartbeats 4000000
/-! Ev17: a def of the text keeps the promise of its term. -/
namespace Ev
open PySem PySem.Spec PyProof.Rows L2

section
variable {P : Program} {w : World} {K : PySem.W.Frag} {mg : Str → Option Value} {base : Heap}
abbrev Fok (P : Program) (w : World) (K : PySem.W.Frag) (mg : Str → Option Value) (base : Heap) := FnOk P w K mg base (L2.CX P w)
/-- what stands behind an entry of the table, for defs that have room k -/
def FM (P : Program) (w : World) (K : PySem.W.Frag) (mg : Str → Option Value) (base : Heap) (Y : Yx) (g : Bool) (k : Nat) : FK → (List D → Mem → R D) → Prop
  | .fn x, f => ∃ (fa : Addr) (fd : FuncData) (ps : List Str) (n : Nat) (h : List D → Mem → R D) (dvs : List V) (ds : List Value) (dds : List D), (Fok P w K mg base k fa fd ps (spOf Y n h) ∨ (g = true ∧ FnG P w K mg base k fa fd ps (spOf Y n h))) ∧ mg x = some (.ref fa) ∧
      PySem.W.keepIn K (.ref fa) = true ∧ Binds K fd ps ds ∧ Vals dvs ds ∧ (∀ W H, Y.repL W H dvs dds) ∧ (∀ args m, f args m = h (args ++ dds) m) ∧ ∀ args m, h args m = .bad ∨ args.length = n
  | .kw x ks perm, f => ∃ (fa : Addr) (fd : FuncData) (ps : List Str) (n : Nat), (Fok P w K mg base k fa fd ps (spOf Y n f) ∨ (g = true ∧ FnG P w K mg base k fa fd ps (spOf Y n f))) ∧ mg x = some (.ref fa) ∧ PySem.W.keepIn K (.ref fa) = true ∧ KwB K fd ps ks perm ∧
      ∀ args m, f args m = .bad ∨ args.length = n
  | .prop c x, f => ∃ (j : Nat) (p ga : Addr) (fd : FuncData) (ps : List Str) (ci : ClsI), Y.CT[c]? = some ci ∧ PropOf K ci.C x p ga ∧ Fok P w K mg base j ga fd ps (spOf Y 1 f) ∧ j + 1 ≤ k ∧ Binds K fd ps []
  | .init c, f => ∃ (j : Nat) (fa : Addr) (fd : FuncData) (ps : List Str) (n : Nat) (ci : ClsI), Y.CT[c]? = some ci ∧ Mk K ci.C fa ∧ Fok P w K mg base j fa fd ps (spOf Y n f) ∧ j + 1 ≤ k ∧ Binds K fd ps [] ∧ ∀ args m, f args m = .bad ∨ args.length = n
  | .meth _ _, _ => False
  | .len c, f => ∃ (j : Nat) (fa : Addr) (fd : FuncData) (ps : List Str) (ci : ClsI), Y.CT[c]? = some ci ∧ PySem.W.findIn K (.ref ci.C) "__len__" = some (some (.ref fa)) ∧ PySem.W.isFn K (.ref fa) = true ∧ Fok P w K mg base j fa fd ps (spOf Y 1 f) ∧ j + 1 ≤ k ∧ Binds K fd ps []
  | .str c, f => ∃ (j : Nat) (fa : Addr) (fd : FuncData) (ps : List Str) (ci : ClsI), Y.CT[c]? = some ci ∧ PySem.W.findIn K (.ref ci.C) "__str__" = some (some (.ref fa)) ∧ PySem.W.isFn K (.ref fa) = true ∧ Fok P w K mg base j fa fd ps (spOf Y 1 f) ∧ j + 2 ≤ k ∧ Binds K fd ps []
/-- the text's facts -/
structure OkT (K : PySem.W.Frag) (mg : Str → Option Value) (Y : Yx) : Prop where
  hK : K = Y.K
  cls : ∀ c ci, Y.CT[c]? = some ci → ClsOk K Y.CT c ci
  nd : ∀ (c : Nat) (ci : ClsI), Y.CT[c]? = some ci → ci.fs.Nodup
  bi : ∀ x ∈ bltNames, mg x = none
structure OkM (P : Program) (w : World) (K : PySem.W.Frag) (mg : Str → Option Value) (base : Heap) (Y : Yx) (C : Cfg) (Γ : Gam) (g : Bool) (k : Nat) : Prop where
  t : OkT K mg Y
  cn : ∀ (c : Nat) (p : Str × List Str), C.cl[c]? = some p → ∃ ci, Y.CT[c]? = some ci ∧ ci.fs = p.2 ∧ mg p.1 = some (.ref ci.C) ∧ Γ.cls[c]? = some p.2.length
  fn : ∀ (j : Nat) (e : FK), C.fn[j]? = some e → ∃ f, Γ.fns[j]? = some f ∧ FM P w K mg base Y g k e f
  gl : ∀ (i : Nat) (x : Str) (d : D), C.gl[i]? = some x → Γ.glb[i]? = some d → ∃ v u, mg x = some u ∧ RelV v u ∧ ∀ W H, Y.rep W H v d
theorem OkM.okX {Y : Yx} {C : Cfg} {Γ : Gam} {g : Bool} {k : Nat} (M : OkM P w K mg base Y C Γ g k) {X : Cx} (h1 : X.prog = P) (h2 : X.w = w) (h3 : X.K = K) (h4 : X.mg = mg) (h5 : X.base = base) (hc : X.calm = true) (hnd : X.N.Nodup) (hN : X.N = C.N) (hg : g = true → X.A.guards = some []) (hr : Room k X.A) (E : XK)
    (hx : Passes (L2.CX X.prog X.w) X E) : OkX X { Y with E := E } C Γ g := by
  subst h1 h2 h3 h4 h5
  refine ⟨M.t.hK, hc, hnd, hN, hg, by have := hr.un; omega, M.t.cls, M.cn, fun j e he => ?_, M.gl, M.t.bi, hx⟩
  obtain ⟨f, hf, q⟩ := M.fn j e he
  refine ⟨f, hf, ?_⟩
  cases e with
  | fn x =>
    obtain ⟨fa, fd, ps, n, h, dvs, ds, dds, F, q1, q2, q3, q4, q5, q6, q7⟩ := q
    exact ⟨k, fa, fd, ps, n, h, dvs, ds, dds, F.imp id fun ⟨e, F⟩ => ⟨hg e, F⟩, hr, q1, q2, q3, q4, q5, q6, q7⟩
  | prop c x =>
    obtain ⟨j, p, ga, fd, ps, ci, q1, q2, q3, q4, q5⟩ := q
    exact ⟨j, p, ga, fd, ps, ci, q1, q2, q3, hr.mono q4, q5⟩
  | init c =>
    obtain ⟨j, fa, fd, ps, n, ci, q1, q2, q3, q4, q5, q6⟩ := q
    exact ⟨j, fa, fd, ps, n, ci, q1, q2, q3, hr.mono q4, q5, q6⟩
  | kw x ks perm =>
    obtain ⟨fa, fd, ps, n, F, q1, q2, q3, q4⟩ := q
    exact ⟨k, fa, fd, ps, n, F.imp id fun ⟨e, F⟩ => ⟨hg e, F⟩, hr, q1, q2, q3, q4⟩
  | meth c x => exact q.elim
  | len c =>
    obtain ⟨j, fa, fd, ps, ci, q1, q2, q3, q4, q5, q6⟩ := q
    exact ⟨j, fa, fd, ps, ci, q1, q2, q3, q4, hr.mono q5, q6⟩
  | str c =>
    obtain ⟨j, fa, fd, ps, ci, q1, q2, q3, q4, q5, q6⟩ := q
    exact ⟨j, fa, fd, ps, ci, q1, q2, q3, q4, hr.mono q5, q6⟩

/-! ### what leaves a def -/
theorem fin_out {Y : Yx} {W W' : Wd} {H H' : Hp} {m m1 : Mem} {keep : Bool} {d : D} {v : V} {Q : VK} (si : Y.sit W H m) (o : Out Y W H (fin keep m.length d m1) Y.rep Q) (si' : Y.sit W' H' m1) (le : Le W H W' H') (r : Y.rep W' H' v d) : Q v H' := by
  have hlen : m.length = W.μ.length := si.m.len
  unfold fin at o
  split at o
  · exact o v W' H' si' le r
  · split at o
    rotate_left
    · exact o.elim
    rename_i hc
    simp only [Bool.and_eq_true, decide_eq_true_eq] at hc
    obtain ⟨⟨c1, c2⟩, c3⟩ := hc
    cases d with
    | ref k =>
      simp only [finV] at c1 o
      by_cases hk : m.length ≤ k
      · rw [if_pos hk] at c1 o
        cases hd : deref m1 (.ref k) with
        | lst l =>
          rw [hd] at c1 o
          simp only [deref] at hd
          split at hd
          · rename_i l' hl
            cases hd
            cases r with
            | ref e =>
              rename_i a
              obtain ⟨_, _, xs, e3, rr⟩ := si'.m.is _ _ _ hl (by intro z; cases z) e
              refine o (.ref a) (W'.cut m.length (some a)) H' (si'.cut c3 c2 fun b hb => ⟨k, hk, by cases hb; exact e⟩) (le_cut le hlen) ?_
              exact .lst (.inr rfl) e3 (rr.cutL (by simpa [D.ltb] using c1))
          · cases hd
          · cases hd
        | dct l =>
          simp only [deref] at hd
          split at hd
          · cases hd
          · rename_i l' hl
            cases r with
            | ref e =>
              obtain ⟨_, _, f⟩ := si'.m.is _ _ _ hl (by intro z; cases z) e
              exact f.elim
          · cases hd
        | ref j =>
          rw [hd] at c1
          have : j = k := by
            simp only [deref] at hd
            split at hd <;> cases hd
            rfl
          subst this
          simp [D.ltb] at c1
          omega
        | _ => simp only [deref] at hd; split at hd <;> cases hd
      · rw [if_neg hk] at c1 o
        exact o v (W'.cut m.length none) H' (si'.cut c3 c2 fun a h => nomatch h) (le_cut le hlen) (r.cut c1)
    | _ => exact o v (W'.cut m.length none) H' (si'.cut c3 c2 fun a h => nomatch h) (le_cut le hlen) (r.cut c1)

theorem start_env {Y : Yx} {W : Wd} {H : Hp} {vs : List V} {ds : List D} {N : List Str} (r : Y.repL W H vs ds) : EnvOk Y W H (L2.start N vs) (ds.map some ++ List.replicate (N.length - ds.length) none) := by
  have hl := r.length
  refine ⟨by simp [L2.start, hl], fun i d h => ?_⟩
  unfold L2.start
  by_cases c : i < ds.length
  · rw [List.getElem?_append_left (by simpa using c), List.getElem?_map] at h
    rw [List.getElem?_append_left (by simpa [hl] using c), List.getElem?_map]
    cases e : ds[i]? with
    | none => rw [e] at h; cases h
    | some d' =>
      rw [e] at h
      cases h
      obtain ⟨v, e1, r1⟩ := r.get e
      exact ⟨v, by rw [e1]; rfl, r1⟩
  · rw [List.getElem?_append_right (by simpa using Nat.le_of_not_lt c), List.getElem?_replicate] at h
    split at h <;> cases h
/-- the body -/
theorem body_ok {Y : Yx} {C : Cfg} {Γ : Gam} {g keep : Bool} {k n : Nat} {b : SL} {body : List Stmt} {qual : Str} {sc : Scope} {f : Addr} {cdv : Value} {ps : List Str} (M : OkM P w K mg base Y C Γ g k) (S : FnScope C.N ps sc) (chk : chkB C g sc b body = true)
    {A : Around} {outer : List PySem.Env} {s : Shared} {H : Hp} {vs : List V} {Q : VK} {E : XK} (hr : Room k (A.deeper (envOfC qual sc s.heap.objs.size f cdv))) (hg : g = true → (A.deeper (envOfC qual sc s.heap.objs.size f cdv)).guards = some []) (hsp : spOf Y n (runN Γ keep C.N.length n b) vs H Q E) :
    ∃ t, PSs (cxOf (L2.CX P w) P w K mg base C.N qual sc f cdv A outer s H E) body t ∧ t { nx := fun _ H' => Q .non H', rt := Q } (L2.start C.N vs) H := by
  have hx : Passes (L2.CX P w) (cxOf (L2.CX P w) P w K mg base C.N qual sc f cdv A outer s H E) E := passes_call (takes_of (E := E) rfl rfl rfl rfl) fun _ _ _ _ h => h
  have ox : OkX (cxOf (L2.CX P w) P w K mg base C.N qual sc f cdv A outer s H E) { Y with E := E } C Γ g := M.okX rfl rfl rfl rfl rfl rfl S.nd rfl hg hr E hx
  have os : OkS (cxOf (L2.CX P w) P w K mg base C.N qual sc f cdv A outer s H E) { Y with E := E } C Γ g := ⟨ox, S.kind, fun _ => rfl, passes_of rfl⟩
  refine ⟨_, soundB b os M.t.nd chk, ?_⟩
  obtain ⟨hl, W, m, ds, si, r, o⟩ := hsp
  have hdl : ds.length = n := r.length.symm.trans hl
  unfold runN at o
  rw [if_pos hdl] at o
  refine ⟨W, ds.map some ++ List.replicate (C.N.length - ds.length) none, m, si, start_env r, ?_⟩
  have hlen : m.length = W.μ.length := si.m.len
  unfold run at o
  revert o
  cases evB Γ b (ds.map some ++ List.replicate (C.N.length - ds.length) none) m with
  | bad => exact fun o => o.elim
  | exc c x m1 =>
    intro o cls dx W' H' si' le ex
    simp only at o
    split at o
    · rename_i hc
      simp only [Bool.and_eq_true, decide_eq_true_eq] at hc
      exact o cls dx (W'.cut m.length none) H' (si'.cut hc.2 hc.1.2 fun a h => nomatch h) (le_cut le hlen) (ex.cut hc.1.1)
    · exact o.elim
  | ok a m1 =>
    obtain ⟨fl, ρ1⟩ := a
    intro o fs W' H' si' le rs
    obtain ⟨fv, σ1⟩ := fs
    obtain ⟨e1, e2⟩ := rs
    cases fl <;> cases fv <;> first | exact e2.elim | skip
    · exact fin_out (Y := { Y with E := E }) (v := .non) si o si' le .non
    · exact o.elim
    · exact o.elim
    · exact fin_out (Y := { Y with E := E }) si o si' le e2
/-- a def's promise -/
theorem fok_of {Y : Yx} {C : Cfg} {Γ : Gam} {keep : Bool} {k : Nat} {b : SL} {st : Stmt} {x qual : Str} {f : Addr} {fd : FuncData} {ps : List Str} (F : Fun K x qual st f fd) (M : OkM P w K mg base Y C Γ false k) (S : C8.scC C.N ps (defScope st) = true) (chk : chkB C false (defScope st) b (defBody st) = true) :
    Fok P w K mg base (k + 1) f fd ps (spOf Y ps.length (runN Γ keep C.N.length ps.length b)) :=
  F.okX (C8.fnScope_by S) (fun _ _ _ _ h => h.1) fun cdv A outer s H vs Q E hr hsp => body_ok M (C8.fnScope_by S) chk hr (fun h => nomatch h) hsp
theorem fok_ofD {Y : Yx} {C : Cfg} {Γ : Gam} {keep : Bool} {k : Nat} {b : SL} {x qual : Str} {params : Arguments} {body : List Stmt} {sc : Scope} {dvs : List V} {kws : List (Str × V)} {f : Addr} {fd : FuncData} {ps : List Str} (F : FunD K x qual params body sc dvs kws f fd) (M : OkM P w K mg base Y C Γ false k) (S : C8.scC C.N ps sc = true)
    (chk : chkB C false sc b body = true) : Fok P w K mg base (k + 1) f fd ps (spOf Y ps.length (runN Γ keep C.N.length ps.length b)) :=
  F.ok (C8.fnScope_by S) (fun _ _ _ _ h => h.1) fun cdv A outer s H vs Q E hr hsp => body_ok M (C8.fnScope_by S) chk hr (fun h => nomatch h) hsp
theorem guards_deeper {A : Around} {env : PySem.Env} (h : A.guards = some []) : (A.deeper env).guards = some [] := by
  first
    | exact h
    | (show (Around.under A _).guards = some []; simp [Around.under, h])
/-- .. that may call repr -/
theorem fng_of {Y : Yx} {C : Cfg} {Γ : Gam} {keep : Bool} {k : Nat} {b : SL} {st : Stmt} {x qual : Str} {f : Addr} {fd : FuncData} {ps : List Str} (F : Fun K x qual st f fd) (M : OkM P w K mg base Y C Γ true k) (S : C8.scC C.N ps (defScope st) = true) (chk : chkB C true (defScope st) b (defBody st) = true) :
    FnG P w K mg base (k + 1) f fd ps (spOf Y ps.length (runN Γ keep C.N.length ps.length b)) := by
  obtain ⟨oc, od, kV, doc, pm, an, cdv, ct, osl, rfl, look, code⟩ := F.ex
  have sco := C8.fnScope_by S
  refine ⟨fun _ _ _ _ h => h.1, fun Ar out0 st0 H0 ar us vs Q E room hG en bnd rel hsp => ?_⟩
  have lenv : vs.length = ps.length := hsp.1
  have inK : K.In st0.heap := en.mod.kin.keeps fun c o e => (en.bs c o e).1
  have noLim : st0.heap.NoLimit := en.mod.nolimit.keeps fun c o e => (en.bs c o e).1
  have kinds : ∀ y ∈ ps.zip us, (defScope st).names.lookup y.1 = some .local ∨ ((defScope st).names.lookup y.1 = some .cell ∧ ((cellsFrom (st0.heap.objs.size + 1) (defScope st).names []).lookup y.1).isSome = true) := by
    rintro ⟨nm, vv⟩ hy
    exact (sco.par nm (List.of_mem_zip hy).1).imp id fun q => ⟨q, PySem.W.cellsFrom_some _ _ _ (.inl q)⟩
  refine codeAny_call_function room.depth (inK _ _ look) rfl sco.co sco.gen rfl (PySem.W.codeRec_of inK code) (bnd _ _ _ _ ?_)
  refine wpAny_newFunctionEnv_cells sco.kind kinds fun ev hev s1 ic => ?_
  subst hev
  refine ⟨noLim.keeps ic.toInCall.keep, codeAny_func ?_⟩
  obtain ⟨t, ht, hq⟩ := body_ok M sco chk (room.deeper _) (fun _ => guards_deeper hG) (outer := out0) hsp
  have J0 : Inv (cxOf (L2.CX P w) P w K mg base C.N qual (defScope st) f cdv Ar out0 st0 H0 E) [] (L2.start C.N vs) H0 s1 := inv_start sco room.hd en lenv rel ic
  refine wpAny_mono (ht.run [] s1 (L2.start C.N vs) H0 _ J0 hq) (fun fl s' hs => ?_) fun e s' hs => hs
  match fl, hs with
  | .ret u, ⟨v, σ', H', J, rv, q⟩ => exact ⟨v, H', J.os, J.bare, J.base, J.hok, rv, q⟩
  | .next, ⟨σ', H', J, q⟩ => exact ⟨V.non, H', J.os, J.bare, J.base, J.hok, rfl, q⟩
  | .brk, ⟨_, _, _, q⟩ => exact q.elim
  | .cont, ⟨_, _, _, q⟩ => exact q.elim
theorem runN_ar {Γ : Gam} {keep : Bool} {k n : Nat} {b : SL} : ∀ args m, runN Γ keep k n b args m = .bad ∨ args.length = n := fun args m => by
  unfold runN
  split
  · rename_i h; exact .inr h
  · exact .inl rfl
/-- an entry of the table for a def without defaults -/
theorem fm_fn {Y : Yx} {g : Bool} {j k : Nat} {x : Str} {f : Addr} {fd : FuncData} {ps : List Str} {n : Nat} {h : List D → Mem → R D} (F : Fok P w K mg base j f fd ps (spOf Y n h) ∨ (g = true ∧ FnG P w K mg base j f fd ps (spOf Y n h))) (hj : j ≤ k) (hm : mg x = some (.ref f)) (hk : PySem.W.keepIn K (.ref f) = true) (hb : Binds K fd ps [])
    (har : ∀ args m, h args m = .bad ∨ args.length = n) : FM P w K mg base Y g k (.fn x) h :=
  ⟨f, fd, ps, n, h, [], [], [], F.imp (fun F => F.mono hj) (fun ⟨e, F⟩ => ⟨e, F.mono hj⟩), hm, hk, hb, .nil, fun _ _ => .nil, fun args m => by rw [List.append_nil], har⟩
end
end Ev

set_option Elab.async false
set_option linter.all false
set_option maxRecDepth 100000
set_option maxHeartbeats 4000000
/-! Ev18: what the written part of the text tells, by one look; the law's end. -/
namespace Ev
open PySem PySem.Spec PyProof.Rows L2

abbrev Cl0 := List (Str × List Str)
def CTof (K : PySem.W.Frag) (cs : Cl0) : List ClsI := cs.map fun p => ⟨He.ga K p.1, p.2⟩
abbrev Yof (K : PySem.W.Frag) (cs : Cl0) : Yx := ⟨K, CTof K cs, [], fun _ _ _ => False⟩
/-- a class of the text, all that is asked of it -/
def clsB (K : PySem.W.Frag) (cs : Cl0) (c : Nat) (p : Str × List Str) : Bool :=
  PySem.W.plainGet K (He.ga K p.1) Str.empty && (PySem.W.hasDictIn K (He.ga K p.1) && (PySem.W.plainOver K (He.ga K p.1) && (He.eqO (PySem.W.findIn K (.ref (He.ga K p.1)) "__setattr__") (some (some (.builtin "object.__setattr__"))) &&
  ((p.2.all fun f => He.eqO (PySem.W.findIn K (.ref (He.ga K p.1)) f) (some none)) && (He.eqO (PySem.W.findIn K (.ref (He.ga K p.1)) "__class__") (some (some (.builtin "object.__class__"))) &&
  (He.eqO (PySem.W.specialIn K (.builtin "object.__class__") "__get__") (some (some (.builtin "getset_descriptor.__get__"))) && (decide (PySem.W.takesIn K (.builtin "object.__class__") = some true) &&
  (decide (PySem.W.mroIn K (He.ga K p.1) (.type "object") = some true) && ((tyNames.all fun T => decide (PySem.W.kitOne K (.type T) (.ref (He.ga K p.1)) = some false)) && ((tyNames.all fun T => decide (PySem.W.kitOne K (.ref (He.ga K p.1)) (.type T) = some false)) &&
  ((cs.zipIdx.all fun q => decide (PySem.W.kitOne K (.ref (He.ga K q.1.1)) (.ref (He.ga K p.1)) = some (c == q.2))) && (decide p.2.Nodup && He.eqO (PySem.W.nsIn K mainGlobals p.1) (some (some (.ref (He.ga K p.1))))))))))))))))
/-- the property's object, its getter -/
def propP (K : PySem.W.Frag) (C : Addr) (f : Str) : Addr := match PySem.W.findIn K (.ref C) f with
  | some (some (.ref p)) => p
  | _ => 0
def propA (K : PySem.W.Frag) (C : Addr) (f : Str) : Addr := match PySem.W.recIn K (propP K C f) "property" with
  | some (.ref g :: _) => g
  | _ => 0
inductive Fx where
  | prop (c f : Str) | mkr (c : Str) | spec (c m : Str) | val (x : Str) (v : He.Dv) | glo (x : Str)
def Fx.ok (K : PySem.W.Frag) : Fx → Bool
  | .prop c f => He.eqO (PySem.W.findIn K (.ref (He.ga K c)) f) (some (some (.ref (propP K (He.ga K c) f)))) && (He.eqO (PySem.W.specialIn K (.ref (propP K (He.ga K c) f)) "__get__") (some (some (.builtin "property.__get__"))) &&
      (decide (PySem.W.takesIn K (.ref (propP K (He.ga K c) f)) = some true) && (match PySem.W.recIn K (propP K (He.ga K c) f) "property" with
      | some (.ref g :: _) => decide (g = propA K (He.ga K c) f)
      | _ => false)))
  | .mkr c => PySem.W.makesIn K (He.ga K c) && (He.eqO (PySem.W.findIn K (.ref (He.ga K c)) "__init__") (some (some (.ref (He.ma K (He.ga K c) "__init__")))) && (PySem.W.isFn K (.ref (He.ma K (He.ga K c) "__init__")) && PySem.W.keepIn K (.ref (He.ga K c))))
  | .spec c m => He.eqO (PySem.W.findIn K (.ref (He.ga K c)) m) (some (some (.ref (He.ma K (He.ga K c) m)))) && PySem.W.isFn K (.ref (He.ma K (He.ga K c) m))
  | .val x v => (match PySem.W.nsIn K mainGlobals x with
    | some (some u) => He.relB (v.v K) u
    | _ => false)
  | .glo x => He.eqO (PySem.W.nsIn K mainGlobals x) (some (some (.ref (He.ga K x))))
def exB (cs : Cl0) (fx : List Fx) (K : PySem.W.Frag) : Bool := (cs.zipIdx.all fun q => clsB K cs q.2 q.1) && ((bltNames.all fun x => He.eqO (PySem.W.nsIn K mainGlobals x) (some none)) && fx.all fun f => f.ok K)
abbrev AlE : Type := Bool × List He5.FnW
def obsK (cs : Cl0) (fx : List Fx) (fn : List He5.DefA) (K : PySem.W.Frag) : AlE := (exB cs fx K && fn.all fun d => d.ok K, fn.map fun d => He5.fnA K (d.at_ K))
def valE (fn : List He5.DefA) : AlE := (true, fn.map He5.DefA.val)
def obsE (n : Nat) (cs : Cl0) (fx : List Fx) (fn : List He5.DefA) (g : Addr → Option Obj) : AlE := obsK cs fx fn (He.frG g (He5.asA g n))
structure Says (cs : Cl0) (fx : List Fx) (fn : List He5.DefA) (K : PySem.W.Frag) : Prop where
  e : obsK cs fx fn K = valE fn
def hookE (n : Nat) (cs : Cl0) (fx : List Fx) (fn : List He5.DefA) : PySem.W.Hook where
  α := AlE
  obs := fun st => obsE n cs fx fn st.heap.get?
  val := fun _ => valE fn
  says := fun _ hp => ∃ K : PySem.W.Frag, K.In hp ∧ Says cs fx fn K
  of := fun _ _ eq => ⟨_, He.frG_in, ⟨eq⟩⟩
  keeps := fun _ _ _ ⟨K, inK, c⟩ kp => ⟨K, PySem.W.Frag.In.keeps inK kp, c⟩
theorem obsE_eq {n : Nat} {cs : Cl0} {fx : List Fx} {fn : List He5.DefA} {g : Addr → Option Obj} {st : Shared} (same : ∀ a, g a = st.heap.get? a) : obsE n cs fx fn g = (hookE n cs fx fn).obs st := by
  rw [show g = st.heap.get? from funext same]
  rfl
section
variable {cs : Cl0} {fx : List Fx} {fn : List He5.DefA} {K : PySem.W.Frag} {h : Heap} {mg : Str → Option Value}
theorem Says.ex (c : Says cs fx fn K) : exB cs fx K = true := (He.ba (congrArg Prod.fst c.e : (exB cs fx K && fn.all fun d => d.ok K) = true)).1
theorem Says.fact (c : Says cs fx fn K) (i : Nat) {f : Fx} (e : fx[i]? = some f) : f.ok K = true :=
  List.all_eq_true.mp (He.ba (He.ba c.ex).2).2 f (List.mem_of_getElem? e)
theorem Says.def_ (c : Says cs fx fn K) (i : Nat) {d : He5.DefA} (e : fn[i]? = some d) : ∃ fd, FunD K d.name d.qual d.params d.body d.scope (d.dvs K) (d.kws K) (d.at_ K) fd := by
  have h1 := (He.ba (congrArg Prod.fst c.e : (exB cs fx K && fn.all fun d => d.ok K) = true)).2
  have h2 : (fn.map fun d => He5.fnA K (d.at_ K))[i]? = (fn.map He5.DefA.val)[i]? := congrArg (fun l : List He5.FnW => l[i]?) (congrArg Prod.snd c.e)
  rw [List.getElem?_map, List.getElem?_map, e] at h2
  exact He5.DefA.funD (Option.some.inj h2) (List.all_eq_true.mp h1 d (List.mem_of_getElem? e))
theorem CTof_at {c : Nat} {ci : ClsI} (e : (CTof K cs)[c]? = some ci) : ∃ p, cs[c]? = some p ∧ ci = ⟨He.ga K p.1, p.2⟩ := by
  unfold CTof at e
  rw [List.getElem?_map] at e
  cases q : cs[c]? with
  | none => rw [q] at e; cases e
  | some p => rw [q] at e; cases e; exact ⟨p, rfl, rfl⟩
theorem CTof_get {c : Nat} {p : Str × List Str} (e : cs[c]? = some p) : (CTof K cs)[c]? = some ⟨He.ga K p.1, p.2⟩ := by
  unfold CTof
  rw [List.getElem?_map, e]
  rfl
theorem zipIdx_mem {α : Type} {l : List α} {i : Nat} {a : α} (e : l[i]? = some a) : (a, i) ∈ l.zipIdx := by
  rw [List.mem_zipIdx_iff_getElem?]
  exact e
theorem Says.clsAt (c : Says cs fx fn K) {i : Nat} {p : Str × List Str} (e : cs[i]? = some p) : clsB K cs i p = true := List.all_eq_true.mp (He.ba c.ex).1 (p, i) (zipIdx_mem e)
theorem Says.okT (c : Says cs fx fn K) (X : K.In h) (G : h.Ns mainGlobals mg) : OkT K mg (Yof K cs) := by
  refine ⟨rfl, fun i ci e => ?_, fun i ci e => ?_, fun x hx => ?_⟩
  · obtain ⟨p, e1, rfl⟩ := CTof_at e
    have q := c.clsAt e1
    unfold clsB at q
    simp only [Bool.and_eq_true, List.all_eq_true, decide_eq_true_eq] at q
    obtain ⟨q1, q2, q3, q4, q5, q6, q7, q8, q9, q10, q11, q12, q13, q14⟩ := q
    refine ⟨⟨q1, q2, q3, He.eqO_ok q4⟩, fun f hf => He.eqO_ok (q5 f hf), He.eqO_ok q6, He.eqO_ok q7, q8, q9, q10, q11, fun j cj ej => ?_⟩
    obtain ⟨p2, e2, rfl⟩ := CTof_at ej
    exact q12 (p2, j) (zipIdx_mem e2)
  · obtain ⟨p, e1, rfl⟩ := CTof_at e
    have q := c.clsAt e1
    unfold clsB at q
    simp only [Bool.and_eq_true, List.all_eq_true, decide_eq_true_eq] at q
    exact q.2.2.2.2.2.2.2.2.2.2.2.2.1
  · exact PySem.W.mg_none_of X G (He.eqO_ok (List.all_eq_true.mp (He.ba (He.ba c.ex).2).1 x hx))
theorem Says.clsMg (c : Says cs fx fn K) (X : K.In h) (G : h.Ns mainGlobals mg) {i : Nat} {p : Str × List Str} (e : cs[i]? = some p) : mg p.1 = some (.ref (He.ga K p.1)) := by
  have q := c.clsAt e
  unfold clsB at q
  simp only [Bool.and_eq_true, List.all_eq_true, decide_eq_true_eq] at q
  exact PySem.W.mg_of X G (He.eqO_ok q.2.2.2.2.2.2.2.2.2.2.2.2.2)
theorem Says.glo (c : Says cs fx fn K) (X : K.In h) (G : h.Ns mainGlobals mg) (i : Nat) {x : Str} (e : fx[i]? = some (.glo x)) : mg x = some (.ref (He.ga K x)) := PySem.W.mg_of X G (He.eqO_ok (c.fact i e))
theorem Says.prop (c : Says cs fx fn K) (i : Nat) {x f : Str} (e : fx[i]? = some (.prop x f)) : PropOf K (He.ga K x) f (propP K (He.ga K x) f) (propA K (He.ga K x) f) := by
  have q := c.fact i e
  simp only [Fx.ok, Bool.and_eq_true, decide_eq_true_eq] at q
  obtain ⟨q1, q2, q3, q4⟩ := q
  refine ⟨He.eqO_ok q1, He.eqO_ok q2, q3, ?_⟩
  split at q4
  · rename_i g rest hr
    rw [of_decide_eq_true q4] at hr
    exact ⟨rest, hr⟩
  · cases q4
theorem Says.mkr (c : Says cs fx fn K) (i : Nat) {x : Str} (e : fx[i]? = some (.mkr x)) : Mk K (He.ga K x) (He.ma K (He.ga K x) "__init__") := by
  have q := c.fact i e
  simp only [Fx.ok, Bool.and_eq_true] at q
  exact ⟨q.1, He.eqO_ok q.2.1, q.2.2.1, q.2.2.2⟩
theorem Says.spec (c : Says cs fx fn K) (i : Nat) {x m : Str} (e : fx[i]? = some (.spec x m)) : PySem.W.findIn K (.ref (He.ga K x)) m = some (some (.ref (He.ma K (He.ga K x) m))) ∧ PySem.W.isFn K (.ref (He.ma K (He.ga K x) m)) = true := by
  have q := c.fact i e
  simp only [Fx.ok, Bool.and_eq_true] at q
  exact ⟨He.eqO_ok q.1, q.2⟩
theorem Says.val (c : Says cs fx fn K) (X : K.In h) (G : h.Ns mainGlobals mg) (i : Nat) {x : Str} {v : He.Dv} (e : fx[i]? = some (.val x v)) : ∃ u, mg x = some u ∧ RelV (v.v K) u := by
  have q := c.fact i e
  simp only [Fx.ok] at q
  split at q
  · rename_i u hu
    have z := PySem.W.mg_of X G hu
    exact ⟨u, z, He.relB_ok q⟩
  · cases q
end

/-! ### the law's end -/
/-- the script alone: a first world -/
def W0 (H : Hp) : Wd := ⟨fun a => H a ≠ none, fun _ => False, []⟩
theorem law_sp {K : PySem.W.Frag} {cs : Cl0} {f : List D → Mem → R D} {H : Hp} {a : Addr} {ns : List Int} {m' : Mem} (hS : SqL K H a (ns.map V.int)) (hf : f [.scr (ns.map D.int)] [] = .ok (.bl true) m') : spOf (Yof K cs) 1 f [.ref a] H (fun v _ => v = .bl true) fun _ _ _ => False := by
  refine ⟨rfl, W0 H, [], [.scr (ns.map D.int)], ⟨⟨fun a h => h, fun a h => h.elim, fun a _ h => h, fun a h => absurd h (by simp [W0]), List.nodup_nil, fun a h => absurd h (by simp [W0])⟩, rfl, fun k mo a e => by simp at e⟩, .cons (.scr ?_ (RepL.of_ints ns)) .nil, ?_⟩
  · rcases hS with h | h
    · refine .inl ⟨?_, h⟩
      show H a ≠ none
      rcases h with h | ⟨o, h⟩ <;> rw [h] <;> simp
    · exact .inr h
  · rw [hf]
    exact fun b W' H' _ _ r => r.bl_
section
variable {P : Program} {w : World} {K : PySem.W.Frag} {mg mb : Str → Option Value}
theorem law_run {k : Nat} {fa a : Addr} {fd : FuncData} {x : Str} {sp : Sp} {st : Shared} {items : List Value} {ns : List Int} {H : Hp} {base : Heap} (F : FnG P w K mg base k fa fd [x] sp) (hr : Room k callerA)
    (en : Env0 P w K mg base callerA [] st H) (only : Only H) (bnd : ∀ (s : Shared) (u : Value), BindsTo s fd ⟨[u], []⟩ [(x, u)]) (q : sp [.ref a] H (fun v _ => v = .bl true) fun _ _ _ => False) :
    codeAny (model P w) callerA (.call (.ref fa) ⟨[.ref a], []⟩) (fun res st' => res = .ok (.ret (.bool true)) ∧ OldK st.heap st'.heap ∧ st'.os = st.os ∧ AllBare st'.gens) st := by
  refine codeAny_mono (F.run callerA [] st H ⟨[.ref a], []⟩ [.ref a] [.ref a] _ _ hr rfl en (bnd st (.ref a)) (.cons rfl .nil) q) fun res st' hres => ?_
  match res, hres with
  | .error e, hres =>
    obtain ⟨_, _, _, _, _, _, _, _, _, _, _, _, no⟩ := hres
    exact no.elim
  | .ok (.ret u), ⟨v, H2, os, bare, un, hok2, rv, (ev : v = .bl true)⟩ =>
    subst ev
    cases rv
    refine ⟨rfl, OldK.of_keep fun b o e => ?_, os, bare⟩
    rcases only b with none_ | ⟨ob, xs, frz_⟩
    · exact un.keep b o e none_ (fun z => (nomatch (show b ∈ ([] : List Addr) from z))) (by simp)
    · have now := (hok2 b _ (un.frzs b ob _ frz_)).1
      have was := (en.hok b _ frz_).1
      rw [e] at was
      cases was
      exact now
theorem law_g {k : Nat} {fa a : Addr} {fd : FuncData} {x : Str} {sp : Sp} {st : Shared} {items : List Value} {ns : List Int} (inK : K.In st.heap) (nsG : st.heap.Ns mainGlobals mg) (nsB : st.heap.Ns builtinsNs mb) (boot : ∀ x : Str, x ≠ "__name__" → mb x = bootBuiltins x) (lim : st.heap.NoLimit) (noGens : st.gens = #[])
    (at_ : st.heap.get? a = some { cls := .type "list", data := .seq items.toArray }) (intsAt : IntsAre items ns) (len : ns.length ≤ sizeLine) (hr : Room k callerA) (F : ∀ base : Heap, K.In base → base.Ns mainGlobals mg → FnG P w K mg base k fa fd [x] sp) (bnd : ∀ (s : Shared) (u : Value), BindsTo s fd ⟨[u], []⟩ [(x, u)])
    (promise : ∀ H : Hp, Only H → SqL K H a (ns.map V.int) → sp [.ref a] H (fun v _ => v = .bl true) fun _ _ _ => False) :
    codeAny (model P w) callerA (.call (.ref fa) ⟨[.ref a], []⟩) (fun res st' => res = .ok (.ret (.bool true)) ∧ OldK st.heap st'.heap ∧ st'.os = st.os ∧ AllBare st'.gens) st := by
  have rel := vals_ints intsAt
  have lenI := intsAt.length
  have main : ∀ H : Hp, Only H → SqL K H a (ns.map V.int) → HOk P w H st.heap → (∀ b, H b ≠ none → b = a ∧ K.lookup a = none) → codeAny (model P w) callerA (.call (.ref fa) ⟨[.ref a], []⟩) (fun res st' => res = .ok (.ret (.bool true)) ∧ OldK st.heap st'.heap ∧ st'.os = st.os ∧ AllBare st'.gens) st := by
    intro H only sq hok one
    have untr : ∀ {b : Addr} {o : Obj}, st.heap.get? b = some o → (b = a → K.lookup a ≠ none ∨ ∃ es ep, o.data = .dict es ep) → H b = none := fun {b o} e no => by
      cases q : H b with
      | none => rfl
      | some u =>
        exfalso
        obtain ⟨rfl, hk⟩ := one b (by rw [q]; simp)
        rcases no rfl with z | ⟨es, ep, z⟩
        · exact z hk
        · rw [at_] at e
          cases e
          cases z
    have keepNs : ∀ {b : Addr} {m : Str → Option Value}, st.heap.Ns b m → (hidT st.heap H).Ns b m := fun {b m} ⟨o, es, ep, e, d, r⟩ => ⟨o, es, ep, hidT_get e (untr e fun _ => .inr ⟨es, ep, d⟩), d, r⟩
    have inKb : K.In (hidT st.heap H) := fun b o e => hidT_get (inK b o e) (untr (inK b o e) fun z => .inl (by subst z; rw [e]; simp))
    have md : Mod K mg (hidT st.heap H) := ⟨inKb, keepNs nsG, ⟨mb, keepNs nsB, boot⟩, by obtain ⟨mc, h1, h2⟩ := lim; exact ⟨mc, keepNs h1, h2⟩⟩
    exact law_run (items := items) (ns := ns) (F _ inKb (keepNs nsG)) hr ⟨rfl, md, fun b o e => of_hidT e, Nat.le_of_eq (hidT_size _ _), trivial, fun b hb => (nomatch (show b ∈ ([] : List Addr) from hb)), hok, .of_eq noGens⟩ only bnd (promise H only sq)
  cases known : K.lookup a with
  | some o =>
    have e := inK a o known
    rw [at_] at e
    cases e
    exact main (fun _ => none) (fun _ => .inl rfl) (.inr ⟨_, items.toArray, _, known, rfl, rfl, rfl, by rw [List.size_toArray, lenI]; exact len, by simpa using rel⟩) (fun b u z => nomatch (show (none : Option HO) = some u from z)) fun b z => absurd rfl z
  | none =>
    refine main (fun b => if b = a then some (.frz { cls := .type "list", data := .seq items.toArray } (.lst (ns.map V.int))) else none) (fun b => ?_) (.inl (.inr ⟨_, if_pos rfl⟩)) (fun b u z => ?_) fun b z => ?_
    · by_cases e : b = a
      · exact .inr ⟨_, _, if_pos e⟩
      · exact .inl (if_neg e)
    · by_cases e : b = a
      · dsimp only at z
        rw [if_pos e] at z
        cases z
        subst e
        exact ⟨at_, by rw [List.length_map]; exact len, items, _, rel, at_⟩
      · dsimp only at z
        rw [if_neg e] at z
        cases z
    · by_cases e : b = a
      · exact ⟨e, known⟩
      · exact absurd (if_neg e) z
end
/-- the goal behind the head -/
theorem walk_g {l : PySem.W.OpenLaw} {n k : Nat} {q : Program} {loose : List Str} {XP : (Str → Option Value) → Heap → Prop} {YP : World → Heap → Prop} {d : DefRec} {x : Str} (most : l.most = some n) (small : n ≤ sizeLine) (noDfl : d.params.defaults = []) (hr : Room k callerA)
    (F : ∀ (w : World) (mg : Str → Option Value) (fa : Addr) (h : Heap), YP w h → h.Ns mainGlobals mg → mg d.name = some (.ref fa) →
      ∃ (K : PySem.W.Frag) (fd : FuncData) (sp : Sp), K.In h ∧ (∀ (s : Shared) (u : Value), BindsTo s fd ⟨[u], []⟩ [(x, u)]) ∧ (∀ (H : Hp) (a : Addr) (ns : List Int), ns.length ≤ n → SqL K H a (ns.map V.int) → sp [.ref a] H (fun v _ => v = .bl true) fun _ _ _ => False) ∧
        ∀ base : Heap, K.In base → base.Ns mainGlobals mg → FnG l.prog w K mg base k fa fd [x] sp) :
    PySem.W.WalkO q loose XP YP l.row.toRowW d [] (fun f vs => PySem.call f vs) := by
  refine Att.attach_call most noDfl fun w st0 st mg mb fa o pm cd doc a items ns G Y ho hd hcd named at_ intsAt len noGens => ?_
  obtain ⟨K, fd, sp, inK, bnd, promise, hF⟩ := F w mg fa _ Y G.T.g named
  exact law_g inK G.T.g G.T.b G.T.builtins G.T.nolimit noGens at_ intsAt (Nat.le_trans len small) hr hF bnd fun H _ sq => promise H a ns len sq
end Ev

set_option Elab.async false
set_option linter.all false
set_option maxRecDepth 100000
set_option maxHeartbeats 4000000
/-! Ev19: tables by lists. -/
namespace Ev
open PySem PySem.Spec PyProof.Rows L2

section
variable {P : Program} {w : World} {K : PySem.W.Frag} {mg : Str → Option Value} {base : Heap}
inductive FL (P : Program) (w : World) (K : PySem.W.Frag) (mg : Str → Option Value) (base : Heap) (Y : Yx) (g : Bool) (k : Nat) : List FK → List (List D → Mem → R D) → Prop where
  | nil : FL P w K mg base Y g k [] []
  | cons {e : FK} {f : List D → Mem → R D} {es : List FK} {fs : List (List D → Mem → R D)} : FM P w K mg base Y g k e f → FL P w K mg base Y g k es fs → FL P w K mg base Y g k (e :: es) (f :: fs)
theorem FL.at_ {Y : Yx} {g : Bool} {k : Nat} : ∀ {es : List FK} {fs : List (List D → Mem → R D)}, FL P w K mg base Y g k es fs → ∀ (j : Nat) (e : FK), es[j]? = some e → ∃ f, fs[j]? = some f ∧ FM P w K mg base Y g k e f
  | _, _, .nil, j, e, h => by simp at h
  | _, _, .cons a b, 0, e, h => by simp at h; subst h; exact ⟨_, rfl, a⟩
  | _, _, .cons a b, j + 1, e, h => by simpa using FL.at_ b j e (by simpa using h)
inductive GL (K : PySem.W.Frag) (mg : Str → Option Value) (Y : Yx) : List Str → List D → Prop where
  | nil : GL K mg Y [] []
  | cons {x : Str} {d : D} {xs : List Str} {ds : List D} : (∃ v u, mg x = some u ∧ RelV v u ∧ ∀ W H, Y.rep W H v d) → GL K mg Y xs ds → GL K mg Y (x :: xs) (d :: ds)
theorem GL.at_ {Y : Yx} : ∀ {xs : List Str} {ds : List D}, GL K mg Y xs ds → ∀ (i : Nat) (x : Str) (d : D), xs[i]? = some x → ds[i]? = some d → ∃ v u, mg x = some u ∧ RelV v u ∧ ∀ W H, Y.rep W H v d
  | _, _, .nil, j, x, d, h, _ => by simp at h
  | _, _, .cons a b, 0, x, d, h, h' => by simp at h h'; subst h h'; exact a
  | _, _, .cons a b, j + 1, x, d, h, h' => GL.at_ b j x d (by simpa using h) (by simpa using h')
section
variable {cs : Cl0} {fx : List Fx} {fn : List He5.DefA} {h : Heap}
theorem Says.okM (c : Says cs fx fn K) (X : K.In h) (G : h.Ns mainGlobals mg) {C : Cfg} {Γ : Gam} {g : Bool} {k : Nat} (h1 : C.cl = cs) (h2 : Γ.cls = cs.map fun p => p.2.length) (hf : FL P w K mg base (Yof K cs) g k C.fn Γ.fns) (hg : GL K mg (Yof K cs) C.gl Γ.glb) : OkM P w K mg base (Yof K cs) C Γ g k := by
  refine ⟨c.okT X G, fun i p e => ?_, hf.at_, hg.at_⟩
  rw [h1] at e
  exact ⟨_, CTof_get e, rfl, c.clsMg X G e, by rw [h2, List.getElem?_map, e]; rfl⟩
theorem Says.gInt (c : Says cs fx fn K) (X : K.In h) (G : h.Ns mainGlobals mg) (i : Nat) {x : Str} {n : Int} (e : fx[i]? = some (.val x (.int n))) : ∃ v u, mg x = some u ∧ RelV v u ∧ ∀ W H, (Yof K cs).rep W H v (.int n) := by
  obtain ⟨u, h1, h2⟩ := c.val X G i e
  exact ⟨_, u, h1, h2, fun _ _ => .int n⟩
theorem Says.gStr (c : Says cs fx fn K) (X : K.In h) (G : h.Ns mainGlobals mg) (i : Nat) {x n : Str} (e : fx[i]? = some (.val x (.str n))) : ∃ v u, mg x = some u ∧ RelV v u ∧ ∀ W H, (Yof K cs).rep W H v (.str n) := by
  obtain ⟨u, h1, h2⟩ := c.val X G i e
  exact ⟨_, u, h1, h2, fun _ _ => .str n⟩
end
/-- what a def of the text gives; g: only where no repr runs -/
def Giv1 (K : PySem.W.Frag) (mg : Str → Option Value) (base : Heap) (Y : Yx) (g : Bool) (j : Nat) (fa : Addr) (fd : FuncData) (ps : List Str) (n : Nat) (f : List D → Mem → R D) (P : Program) (w : World) : Prop := match g with
    | false => Fok P w K mg base j fa fd ps (spOf Y n f)
    | true => FnG P w K mg base j fa fd ps (spOf Y n f)
theorem Giv1.g {Y : Yx} {g : Bool} {j : Nat} {fa : Addr} {fd : FuncData} {ps : List Str} {n : Nat} {f : List D → Mem → R D} (h : Giv1 K mg base Y g j fa fd ps n f P w) : FnG P w K mg base j fa fd ps (spOf Y n f) := by
  cases g with
  | false => exact FnG.of h
  | true => exact h
def Gives (K : PySem.W.Frag) (mg : Str → Option Value) (base : Heap) (Y : Yx) (g : Bool) (j : Nat) (fa : Addr) (fd : FuncData) (ps : List Str) (n : Nat) (f : List D → Mem → R D) : Prop :=
  ∀ (P : Program) (w : World), Giv1 K mg base Y g j fa fd ps n f P w
/-- .. under a global name, no defaults -/
def GivF (K : PySem.W.Frag) (mg : Str → Option Value) (Y : Yx) (g : Bool) (j : Nat) (x : Str) (fa : Addr) (ps : List Str) (f : List D → Mem → R D) : Prop :=
  ∃ fd, mg x = some (.ref fa) ∧ PySem.W.keepIn K (.ref fa) = true ∧ Binds K fd ps [] ∧ (∀ args m, f args m = .bad ∨ args.length = ps.length) ∧ ∀ base, Gives K mg base Y g j fa fd ps ps.length f
theorem GivF.fm {Y : Yx} {j k : Nat} {x : Str} {fa : Addr} {ps : List Str} {f : List D → Mem → R D} {g : Bool} (h : GivF K mg Y false j x fa ps f) (hj : j ≤ k) : FM P w K mg base Y g k (.fn x) f := by
  obtain ⟨fd, h1, h2, h3, h4, h5⟩ := h
  exact fm_fn (.inl (h5 base P w)) hj h1 h2 h3 h4
theorem GivF.fmG {Y : Yx} {j k : Nat} {x : Str} {fa : Addr} {ps : List Str} {f : List D → Mem → R D} (h : GivF K mg Y true j x fa ps f) (hj : j ≤ k) : FM P w K mg base Y true k (.fn x) f := by
  obtain ⟨fd, h1, h2, h3, h4, h5⟩ := h
  exact fm_fn (.inr ⟨rfl, h5 base P w⟩) hj h1 h2 h3 h4
/-- .. with defaults dds -/
def GivD (K : PySem.W.Frag) (mg : Str → Option Value) (Y : Yx) (j : Nat) (x : Str) (fa : Addr) (ps : List Str) (h : List D → Mem → R D) (dds : List D) : Prop :=
  ∃ fd dvs ds, mg x = some (.ref fa) ∧ PySem.W.keepIn K (.ref fa) = true ∧ Binds K fd ps ds ∧ Vals dvs ds ∧ (∀ W H, Y.repL W H dvs dds) ∧ (∀ args m, h args m = .bad ∨ args.length = ps.length) ∧ ∀ base, Gives K mg base Y false j fa fd ps ps.length h
theorem GivD.fm {Y : Yx} {j k : Nat} {x : Str} {fa : Addr} {ps : List Str} {h : List D → Mem → R D} {dds : List D} {g : Bool} (q : GivD K mg Y j x fa ps h dds) (hj : j ≤ k) : FM P w K mg base Y g k (.fn x) (fun args m => h (args ++ dds) m) := by
  obtain ⟨fd, dvs, ds, h1, h2, h3, h4, h5, h6, h7⟩ := q
  exact ⟨fa, fd, ps, ps.length, h, dvs, ds, dds, .inl ((h7 base P w).mono hj), h1, h2, h3, h4, h5, fun _ _ => rfl, h6⟩
/-- .. a method (not by a name) -/
def GivM (K : PySem.W.Frag) (mg : Str → Option Value) (Y : Yx) (j : Nat) (fa : Addr) (ps : List Str) (f : List D → Mem → R D) : Prop :=
  ∃ fd, Binds K fd ps [] ∧ (∀ args m, f args m = .bad ∨ args.length = ps.length) ∧ ∀ base, Gives K mg base Y false j fa fd ps ps.length f
section
variable {cs : Cl0} {fx : List Fx} {fn : List He5.DefA} {h : Heap}
theorem GivM.prop {j k : Nat} {c : Nat} {x y : Str} {fs : List Str} {f : List D → Mem → R D} {g : Bool} (q : GivM K mg (Yof K cs) j (propA K (He.ga K x) y) ["self"] f) (c0 : Says cs fx fn K) (i : Nat) (e : fx[i]? = some (.prop x y)) (hc : cs[c]? = some (x, fs)) (hj : j + 1 ≤ k) : FM P w K mg base (Yof K cs) g k (.prop c y) f := by
  obtain ⟨fd, h1, h2, h3⟩ := q
  exact ⟨j, _, _, fd, ["self"], _, CTof_get hc, c0.prop i e, h3 base P w, hj, h1⟩
theorem GivM.init {j k : Nat} {c : Nat} {x : Str} {fs ps : List Str} {f : List D → Mem → R D} {g : Bool} (q : GivM K mg (Yof K cs) j (He.ma K (He.ga K x) "__init__") ps f) (c0 : Says cs fx fn K) (i : Nat) (e : fx[i]? = some (.mkr x)) (hc : cs[c]? = some (x, fs)) (hj : j + 1 ≤ k) : FM P w K mg base (Yof K cs) g k (.init c) f := by
  obtain ⟨fd, h1, h2, h3⟩ := q
  exact ⟨j, _, fd, ps, ps.length, _, CTof_get hc, c0.mkr i e, h3 base P w, hj, h1, h2⟩
theorem GivM.len {j k : Nat} {c : Nat} {x : Str} {fs : List Str} {f : List D → Mem → R D} {g : Bool} (q : GivM K mg (Yof K cs) j (He.ma K (He.ga K x) "__len__") ["self"] f) (c0 : Says cs fx fn K) (i : Nat) (e : fx[i]? = some (.spec x "__len__")) (hc : cs[c]? = some (x, fs)) (hj : j + 1 ≤ k) : FM P w K mg base (Yof K cs) g k (.len c) f := by
  obtain ⟨fd, h1, h2, h3⟩ := q
  exact ⟨j, _, fd, ["self"], _, CTof_get hc, (c0.spec i e).1, (c0.spec i e).2, h3 base P w, hj, h1⟩
theorem GivM.str {j k : Nat} {c : Nat} {x : Str} {fs : List Str} {f : List D → Mem → R D} {g : Bool} (q : GivM K mg (Yof K cs) j (He.ma K (He.ga K x) "__str__") ["self"] f) (c0 : Says cs fx fn K) (i : Nat) (e : fx[i]? = some (.spec x "__str__")) (hc : cs[c]? = some (x, fs)) (hj : j + 2 ≤ k) : FM P w K mg base (Yof K cs) g k (.str c) f := by
  obtain ⟨fd, h1, h2, h3⟩ := q
  exact ⟨j, _, fd, ["self"], _, CTof_get hc, (c0.spec i e).1, (c0.spec i e).2, h3 base P w, hj, h1⟩
end
/-- .. called by keywords alone -/
def GivK (K : PySem.W.Frag) (mg : Str → Option Value) (Y : Yx) (j : Nat) (x : Str) (fa : Addr) (ps ks : List Str) (perm : List Nat) (f : List D → Mem → R D) : Prop :=
  ∃ fd, mg x = some (.ref fa) ∧ PySem.W.keepIn K (.ref fa) = true ∧ KwB K fd ps ks perm ∧ (∀ args m, f args m = .bad ∨ args.length = ps.length) ∧ ∀ base, Gives K mg base Y false j fa fd ps ps.length f
theorem GivK.fm {Y : Yx} {j k : Nat} {x : Str} {fa : Addr} {ps ks : List Str} {perm : List Nat} {f : List D → Mem → R D} {g : Bool} (h : GivK K mg Y j x fa ps ks perm f) (hj : j ≤ k) : FM P w K mg base Y g k (.kw x ks perm) f := by
  obtain ⟨fd, h1, h2, h3, h4, h5⟩ := h
  exact ⟨fa, fd, ps, ps.length, .inl ((h5 base P w).mono hj), h1, h2, h3, h4⟩
theorem kwb_of {x qual : Str} {params : Arguments} {body : List Stmt} {scope : Scope} {f : Addr} {fd : FuncData} {ps ks : List Str} {perm : List Nat} (F : FunD K x qual params body scope [] [] f fd) (hp : (perm.all fun i => decide (i < ks.length)) = true) (hl : perm.length = ps.length)
    (h : ∀ (kV doc pm : Value) (an : Option Addr) (cdv ct : Value) (ws : List Value), ws.length = ks.length → bindArgs (PySem.W.fnOf x qual params body scope .none kV doc pm an cdv ct) ⟨[], ks.zip ws⟩ = pure (ps.zip (pick perm ws))) : KwB K fd ps ks perm := by
  obtain ⟨oc, od, dV, kV, doc, pm, an, cdv, ct, osl, rfl, lk, hcd, hD, hK⟩ := F.ex
  rcases hD with ⟨_, rfl⟩ | ⟨e, _⟩
  · exact ⟨fun i hi => of_decide_eq_true (List.all_eq_true.mp hp i hi), hl, fun s ws _ hw => .of_eq (h kV doc pm an cdv ct ws hw)⟩
  · exact absurd rfl e
theorem bd_of {x qual : Str} {params : Arguments} {body : List Stmt} {scope : Scope} {f : Addr} {fd : FuncData} {ps : List Str} {dvs : List V} (F : FunD K x qual params body scope dvs [] f fd) (hd : dvs ≠ []) (n : Nat) (hn : n + dvs.length = ps.length)
    (h : ∀ (T : Addr) (kV doc pm : Value) (an : Option Addr) (cdv ct : Value) (us its : List Value), us.length = n → its.length = dvs.length → ∃ k, bindArgs (PySem.W.fnOf x qual params body scope (.ref T) kV doc pm an cdv ct) ⟨us, []⟩ = seqItems? (.ref T) >>= k ∧ k (some its.toArray) = pure (ps.zip (us ++ its))) : ∃ ds, Vals dvs ds ∧ Binds K fd ps ds := by
  obtain ⟨oc, od, dV, kV, doc, pm, an, cdv, ct, osl, rfl, lk, hcd, hD, hK⟩ := F.ex
  rcases hD with ⟨e, _⟩ | ⟨_, T, o, its, m, rfl, lT, oT, rT⟩
  · exact absurd e hd
  · refine ⟨its, rT, fun s us inK hlen => BindsTo.of_looks fun M => ?_⟩
    have l1 := rT.length
    rw [List.length_append] at hlen
    obtain ⟨k, e1, e2⟩ := h T kV doc pm an cdv ct us its (by omega) l1.symm
    rw [e1]
    exact looks_items inK lT oT (PySem.W.Looks.of_pure e2)
theorem giv_ofD {Y : Yx} {C : Cfg} {Γ : Gam} {keep : Bool} {k : Nat} {b : SL} {x qual : Str} {params : Arguments} {body : List Stmt} {sc : Scope} {dvs : List V} {f : Addr} {fd : FuncData} {ps : List Str} (F : FunD K x qual params body sc dvs [] f fd) (M : ∀ P w base, OkM P w K mg base Y C Γ false k) (S : C8.scC C.N ps sc = true) (chk : chkB C false sc b body = true) :
    ∀ base, Gives K mg base Y false (k + 1) f fd ps ps.length (runN Γ keep C.N.length ps.length b) := fun base P w => fok_ofD F (M P w base) S chk
/-- a def with its term -/
theorem giv_of {Y : Yx} {C : Cfg} {Γ : Gam} {keep : Bool} {g : Bool} {k : Nat} {b : SL} {x qual : Str} {params : Arguments} {body : List Stmt} {sc : Scope} {f : Addr} {fd : FuncData} {ps : List Str} (F : FunD K x qual params body sc [] [] f fd) (M : ∀ P w base, OkM P w K mg base Y C Γ g k) (S : C8.scC C.N ps sc = true) (chk : chkB C g sc b body = true)
    (st : Stmt) (e1 : params = defArgs st) (e2 : body = defBody st) (e3 : sc = defScope st) : ∀ base, Gives K mg base Y g (k + 1) f fd ps ps.length (runN Γ keep C.N.length ps.length b) := by
  intro base P w
  subst e1 e2 e3
  cases g with
  | false => exact fok_of (He5.fun_of F) (M P w base) S chk
  | true => exact fng_of (He5.fun_of F) (M P w base) S chk
end
end Ev

set_option Elab.async false
set_option linter.all false
set_option maxRecDepth 100000
set_option maxHeartbeats 4000000
/-! Ev20: the evaluator at pure bodies (plain Lean). -/
namespace Ev
open PySem L2

theorem lcL_map {α : Type} {g : D → Mem → R (Option D)} {src : Src} {m : Mem} {e : α → D} {o : α → Option D} (hs : srcOk src m = true) {l : List α} (h : ∀ a ∈ l, g (e a) m = .ok (o a) m) : lcL g src (l.map e) m = .ok (l.filterMap o) m := by
  induction l with
  | nil => unfold lcL; simp [hs]
  | cons a r ih =>
    rw [List.map_cons]
    unfold lcL
    rw [if_pos hs, h a List.mem_cons_self, R.noexc_ok, R.bind_ok, ih fun x hx => h x (List.mem_cons_of_mem _ hx), R.bind_ok, List.filterMap_cons]
    cases o a <;> rfl
/-- .. each kept -/
theorem lcL_all {α : Type} {g : D → Mem → R (Option D)} {src : Src} {m : Mem} {e : α → D} {o : α → D} (hs : srcOk src m = true) {l : List α} (h : ∀ a ∈ l, g (e a) m = .ok (some (o a)) m) : lcL g src (l.map e) m = .ok (l.map o) m := by
  rw [lcL_map (o := fun a => some (o a)) hs h]
  simp
/-- .. filtered -/
theorem lcL_if {α : Type} {g : D → Mem → R (Option D)} {src : Src} {m : Mem} {e : α → D} {p : α → Bool} {o : α → D} (hs : srcOk src m = true) {l : List α} (h : ∀ a ∈ l, g (e a) m = .ok (if p a then some (o a) else none) m) : lcL g src (l.map e) m = .ok ((l.filter p).map o) m := by
  rw [lcL_map (o := fun a => if p a then some (o a) else none) hs h]
  congr 1
  clear h
  induction l with
  | nil => rfl
  | cons a r ih =>
    rw [List.filterMap_cons, List.filter_cons]
    cases p a <;> simp [ih]
theorem lcM_map {α : Type} {g : D → Mem → R (List D)} {src : Src} {m : Mem} {e : α → D} {o : α → List D} (hs : srcOk src m = true) {l : List α} (h : ∀ a ∈ l, g (e a) m = .ok (o a) m) : lcM g src (l.map e) m = .ok (l.flatMap o) m := by
  induction l with
  | nil => unfold lcM; simp [hs]
  | cons a r ih =>
    rw [List.map_cons]
    unfold lcM
    rw [if_pos hs, h a List.mem_cons_self, R.noexc_ok, R.bind_ok, ih fun x hx => h x (List.mem_cons_of_mem _ hx), R.bind_ok, List.flatMap_cons]
section
variable {g : D → Env → Mem → R (Fl × Env)} {src : Src} {d : D} {r : List D} {ρ ρ' : Env} {m m' : Mem} {x : D}
theorem forL_nil (hs : srcOk src m = true) : forL g src [] ρ m = .ok (.nx, ρ) m := by unfold forL; rw [if_pos hs]
theorem forL_nx (hs : srcOk src m = true) (h : g d ρ m = .ok (.nx, ρ') m') : forL g src (d :: r) ρ m = forL g src r ρ' m' := by
  rw [forL, if_pos hs, h]; rfl
theorem forL_rt (hs : srcOk src m = true) (h : g d ρ m = .ok (.rt x, ρ') m') : forL g src (d :: r) ρ m = .ok (.rt x, ρ') m' := by
  rw [forL, if_pos hs, h]; rfl
/-- a loop that only changes the slots: P i what holds ahead of turn i -/
theorem forL_go {α : Type} {e : α → D} (hs : srcOk src m = true) (P : Nat → Env → Prop) : ∀ (l : List α) (k : Nat) (ρ : Env), P k ρ → (∀ (i : Nat) (a : α) (ρ : Env), l[i]? = some a → P (k + i) ρ → ∃ ρ', g (e a) ρ m = .ok (.nx, ρ') m ∧ P (k + i + 1) ρ') →
    ∃ ρ', forL g src (l.map e) ρ m = .ok (.nx, ρ') m ∧ P (k + l.length) ρ'
  | [], k, ρ, h0, _ => ⟨ρ, by rw [List.map_nil]; exact forL_nil hs, by simpa using h0⟩
  | a :: r, k, ρ, h0, hstep => by
    obtain ⟨ρ1, e1, p1⟩ := hstep 0 a ρ rfl (by simpa using h0)
    obtain ⟨ρ2, e2, p2⟩ := forL_go hs P r (k + 1) ρ1 (by simpa using p1) fun i b ρ hb hp => by
      obtain ⟨ρ', h1, h2⟩ := hstep (i + 1) b ρ (by simpa using hb) (by rw [show k + (i + 1) = k + 1 + i by omega]; exact hp)
      exact ⟨ρ', h1, by rw [show k + 1 + i + 1 = k + (i + 1) + 1 by omega]; exact h2⟩
    refine ⟨ρ2, by rw [List.map_cons, forL_nx hs e1]; exact e2, ?_⟩
    rw [List.length_cons, show k + (r.length + 1) = k + 1 + r.length by omega]
    exact p2
end
/-- .. that changes the store, too -/
theorem forL_goM {α : Type} {g : D → Env → Mem → R (Fl × Env)} {src : Src} {e : α → D} (P : Nat → Env → Mem → Prop) (hs : ∀ i ρ m, P i ρ m → srcOk src m = true) : ∀ (l : List α) (k : Nat) (ρ : Env) (m : Mem), P k ρ m → (∀ (i : Nat) (a : α) (ρ : Env) (m : Mem), l[i]? = some a → P (k + i) ρ m → ∃ ρ' m', g (e a) ρ m = .ok (.nx, ρ') m' ∧ P (k + i + 1) ρ' m') →
    ∃ ρ' m', forL g src (l.map e) ρ m = .ok (.nx, ρ') m' ∧ P (k + l.length) ρ' m'
  | [], k, ρ, m, h0, _ => ⟨ρ, m, by rw [List.map_nil]; exact forL_nil (hs _ _ _ h0), by simpa using h0⟩
  | a :: r, k, ρ, m, h0, hstep => by
    obtain ⟨ρ1, m1, e1, p1⟩ := hstep 0 a ρ m rfl (by simpa using h0)
    obtain ⟨ρ2, m2, e2, p2⟩ := forL_goM P hs r (k + 1) ρ1 m1 (by simpa using p1) fun i b ρ m hb hp => by
      obtain ⟨ρ', m', h1, h2⟩ := hstep (i + 1) b ρ m (by simpa using hb) (by rw [show k + (i + 1) = k + 1 + i by omega]; exact hp)
      exact ⟨ρ', m', h1, by rw [show k + 1 + i + 1 = k + (i + 1) + 1 by omega]; exact h2⟩
    refine ⟨ρ2, m2, by rw [List.map_cons, forL_nx (hs _ _ _ h0) e1]; exact e2, ?_⟩
    rw [List.length_cons, show k + (r.length + 1) = k + 1 + r.length by omega]
    exact p2
theorem zip2_map {α β : Type} {f : α → D} {g : β → D} : ∀ {l : List α} {k : List β}, zip2 (l.map f) (k.map g) = (l.zip k).map fun p => .tup [f p.1, g p.2]
  | [], _ => by simp [zip2]
  | _ :: _, [] => by simp [zip2]
  | a :: l, b :: k => by simp [zip2, zip2_map (l := l) (k := k)]
theorem zip3_map {α β γ : Type} {f : α → D} {g : β → D} {h : γ → D} : ∀ {l : List α} {k : List β} {j : List γ}, zip3 (l.map f) (k.map g) (j.map h) = (l.zip (k.zip j)).map fun p => .tup [f p.1, g p.2.1, h p.2.2]
  | [], _, _ => by simp [zip3]
  | _ :: _, [], _ => by simp [zip3]
  | _ :: _, _ :: _, [] => by simp [zip3]
  | a :: l, b :: k, c :: j => by simp [zip3, zip3_map (l := l) (k := k) (j := j)]
theorem enumI_map {α : Type} {f : α → D} : ∀ {l : List α} {n : Nat}, enumI (l.map f) n = (l.zipIdx n).map fun p => .tup [.int (p.2 : Nat), f p.1]
  | [], _ => by simp [enumI]
  | a :: l, n => by simp [enumI, enumI_map (l := l) (n := n + 1)]
theorem atI_map {α : Type} {f : α → D} {l : List α} {i : Nat} {a : α} (h : l[i]? = some a) : atI (l.map f) ((i : Nat) : Int) = some (f a) := by
  have hi : i < l.length := (List.getElem?_eq_some_iff.mp h).1
  unfold atI
  rw [show ixN (l.map f).length ((i : Nat) : Int) = some i by unfold ixN; rw [if_pos (by omega), if_pos (by simp; omega)]; simp]
  simp [h]
theorem atI_at {l : List D} {i : Nat} {a : D} (h : l[i]? = some a) : atI l ((i : Nat) : Int) = some a := by
  have := atI_map (f := id) h
  simpa using this
/-- a def that leaves the store as it was -/
theorem fin_at {d : D} {m : Mem} (hm : memLt m.length m = true) (hd : D.ltb m.length d = true) (hf : finV m.length m d = d) : fin false m.length d m = .ok d m := by
  unfold fin
  rw [if_neg (by simp), hf, List.take_length, if_pos (by simp [hm, hd])]
/-- what a body gives -/
def retV (r : R (Fl × Env)) : R D := r.bind fun p m => match p.1 with
  | .rt d => .ok d m
  | .nx => .ok .non m
  | _ => .bad
theorem run_rt {Γ : Gam} {k n : Nat} {b : SL} {args : List D} {m : Mem} {d : D} (hn : args.length = n) (hm : memLt m.length m = true) (hd : D.ltb m.length d = true) (hf : finV m.length m d = d) (h : retV (evB Γ b (args.map some ++ List.replicate (k - args.length) none) m) = .ok d m) : runN Γ false k n b args m = .ok d m := by
  unfold runN run
  rw [if_pos hn]
  revert h
  cases evB Γ b (args.map some ++ List.replicate (k - args.length) none) m with
  | bad => intro h; cases h
  | exc c x m1 => intro h; cases h
  | ok p m1 =>
    obtain ⟨fl, ρ⟩ := p
    intro h
    cases fl <;> simp only [retV, R.bind_ok] at h <;> cases h
    · exact fin_at hm hd hf
    · exact fin_at hm hd hf
/-- .. whose own things of the store go -/
theorem run_rtM {Γ : Gam} {k n : Nat} {b : SL} {args : List D} {m m1 : Mem} {d : D} (hn : args.length = n) (hm : memLt m.length m = true) (hd : D.ltb m.length d = true) (hf : finV m.length m1 d = d) (ht : m1.take m.length = m) (h : retV (evB Γ b (args.map some ++ List.replicate (k - args.length) none) m) = .ok d m1) : runN Γ false k n b args m = .ok d m := by
  have hl : m.length ≤ m1.length := by
    have := congrArg List.length ht
    rw [List.length_take] at this
    omega
  have key : ∀ d', d' = d → fin false m.length d' m1 = .ok d m := fun d' e => by
    subst e
    unfold fin
    rw [if_neg (by simp), hf, ht, if_pos (by simp [hm, hd, hl])]
  unfold runN run
  rw [if_pos hn]
  revert h
  cases evB Γ b (args.map some ++ List.replicate (k - args.length) none) m with
  | bad => intro h; cases h
  | exc c x m1 => intro h; cases h
  | ok p m2 =>
    obtain ⟨fl, ρ⟩ := p
    intro h
    cases fl <;> simp only [retV, R.bind_ok] at h <;> cases h
    · exact key _ rfl
    · exact key _ rfl
section
variable {Γ : Gam} {s : S} {l : SL} {ρ ρ' : Env} {m m' : Mem} {d : D} {e : E} {i : Nat} {b c : SL} {t : T} {it : I} {w : List D × Src}
theorem evB_nx (h : evS Γ s ρ m = .ok (.nx, ρ') m') : evB Γ (.cons s l) ρ m = evB Γ l ρ' m' := by simp only [evB, h, R.bind_ok]
theorem evB_rt (h : evS Γ s ρ m = .ok (.rt d, ρ') m') : evB Γ (.cons s l) ρ m = .ok (.rt d, ρ') m' := by simp only [evB, h, R.bind_ok]
theorem evB_nil : evB Γ .nil ρ m = .ok (.nx, ρ) m := rfl
theorem evS_for (h : evI Γ it ρ m = .ok w m') : evS Γ (.for t it b) ρ m = forL (fun d ρ1 m2 => (asT Γ t d ρ1 m2).bind fun ρ2 m3 => evB Γ b ρ2 m3) w.2 w.1 ρ m' := by simp only [evS, h, R.bind_ok]
theorem evS_ret (h : evE Γ e ρ m = .ok d m') : evS Γ (.ret e) ρ m = .ok (.rt d, ρ) m' := by simp only [evS, h, R.bind_ok]
theorem evS_set (h : evE Γ e ρ m = .ok d m') : evS Γ (.set (.nm i) e) ρ m = .ok (.nx, ρ.set i (some d)) m' := by simp only [evS, h, R.bind_ok, asT]
theorem evS_ex (h : evE Γ e ρ m = .ok d m') : evS Γ (.ex e) ρ m = .ok (.nx, ρ) m' := by simp only [evS, h, R.bind_ok]
theorem evS_T (h : evE Γ e ρ m = .ok (.bl true) m') : evS Γ (.ife e b c) ρ m = evB Γ b ρ m' := by simp only [evS, h, R.bind_ok, toB, onB_true]
theorem evS_F (h : evE Γ e ρ m = .ok (.bl false) m') : evS Γ (.ife e b c) ρ m = evB Γ c ρ m' := by simp only [evS, h, R.bind_ok, toB, onB_false]
end
theorem intL_map : ∀ (l : List Int), intL (l.map .int) = some l
  | [] => rfl
  | i :: r => by simp [intL, intL_map r]
theorem blL_map : ∀ (l : List Bool), blL (l.map .bl) = some l
  | [] => rfl
  | i :: r => by simp [blL, blL_map r]
theorem strL_map : ∀ (l : List Str), strL (l.map .str) = some l
  | [] => rfl
  | i :: r => by simp [strL, strL_map r]
/-! what data hold no thing of the store -/
theorem ltbL_of {n : Nat} : ∀ {l : List D}, (∀ d ∈ l, D.ltb n d = true) → D.ltbL n l = true
  | [], _ => rfl
  | d :: r, h => by
    simp only [D.ltbL, Bool.and_eq_true]
    exact ⟨h d List.mem_cons_self, ltbL_of fun x hx => h x (List.mem_cons_of_mem _ hx)⟩
theorem ltbL_map {α : Type} {n : Nat} {f : α → D} {l : List α} (h : ∀ a ∈ l, D.ltb n (f a) = true) : D.ltbL n (l.map f) = true := ltbL_of fun d hd => by
  obtain ⟨a, ha, rfl⟩ := List.mem_map.mp hd
  exact h a ha
mutual
theorem ltb_le {n k : Nat} (h : n ≤ k) : ∀ {d : D}, D.ltb n d = true → D.ltb k d = true
  | .non, _ => rfl
  | .bl _, _ => rfl
  | .int _, _ => rfl
  | .str _, _ => rfl
  | .tup l, e => by simp only [D.ltb] at e ⊢; exact ltbL_le h e
  | .lst l, e => by simp only [D.ltb] at e ⊢; exact ltbL_le h e
  | .dct l, e => by simp only [D.ltb] at e ⊢; exact ltbP_le h e
  | .obj _ l, e => by simp only [D.ltb] at e ⊢; exact ltbL_le h e
  | .ref i, e => by simp only [D.ltb, decide_eq_true_eq] at e ⊢; omega
  | .scr l, e => by simp only [D.ltb] at e ⊢; exact ltbL_le h e
theorem ltbL_le {n k : Nat} (h : n ≤ k) : ∀ {l : List D}, D.ltbL n l = true → D.ltbL k l = true
  | [], _ => rfl
  | d :: r, e => by
    simp only [D.ltbL, Bool.and_eq_true] at e ⊢
    exact ⟨ltb_le h e.1, ltbL_le h e.2⟩
theorem ltbP_le {n k : Nat} (h : n ≤ k) : ∀ {l : List (D × D)}, D.ltbP n l = true → D.ltbP k l = true
  | [], _ => rfl
  | (a, b) :: r, e => by
    simp only [D.ltbP, Bool.and_eq_true] at e ⊢
    exact ⟨⟨ltb_le h e.1.1, ltb_le h e.1.2⟩, ltbP_le h e.2⟩
end
theorem moltb_le {n k : Nat} (h : n ≤ k) {mo : MO} (e : MO.ltb n mo = true) : MO.ltb k mo = true := by
  cases mo with
  | lst l => exact ltbL_le h e
  | dct l => exact ltbP_le h e
  | ins c l =>
    simp only [MO.ltb, List.all_eq_true] at e ⊢
    exact fun p hp => ltb_le h (e p hp)
  | dead => rfl
theorem memLt_app {m x : Mem} (hm : memLt m.length m = true) (hx : ∀ mo ∈ x, MO.ltb (m ++ x).length mo = true) : memLt (m ++ x).length (m ++ x) = true := by
  unfold memLt at hm ⊢
  rw [List.all_eq_true] at hm ⊢
  intro mo h
  rcases List.mem_append.mp h with h | h
  · exact moltb_le (by simp) (hm mo h)
  · exact hx mo h
section
variable {m : Mem} {a b x : MO}
theorem two0 : (m ++ [a, b])[m.length]? = some a := by simp
theorem two1 : (m ++ [a, b])[m.length + 1]? = some b := by simp
theorem two_set0 : (m ++ [a, b]).set m.length x = m ++ [x, b] := by simp
theorem two_set1 : (m ++ [a, b]).set (m.length + 1) x = m ++ [a, x] := by simp
theorem two_take : (m ++ [a, b]).take m.length = m := by simp
end
/-! built-ins at their data -/
section
variable {m : Mem} {l : List D} {x : D}
theorem bi_len_t : biD .len [.tup l] m = some (.int (l.length : Nat)) := rfl
theorem bi_len_l : biD .len [.lst l] m = some (.int (l.length : Nat)) := rfl
theorem bi_len_s : biD .len [.scr l] m = some (.int (l.length : Nat)) := rfl
theorem bi_sum_l : biD .sum [.lst l] m = (intL l).map fun l => .int l.sum := rfl
theorem bi_min_l : biD .min [.lst l] m = (intL l).bind fun l => (minI l).map .int := rfl
theorem bi_max_l : biD .max [.lst l] m = (intL l).bind fun l => (maxI l).map .int := rfl
theorem bi_all_l : biD .all [.lst l] m = (blL l).map fun l => .bl (l.all id) := rfl
theorem bi_any_l : biD .any [.lst l] m = (blL l).map fun l => .bl (l.any id) := rfl
theorem bi_tuple_l : biD .tuple [.lst l] m = some (.tup l) := rfl
theorem bi_tuple_t : biD .tuple [.tup l] m = some (.tup l) := rfl
theorem bi_list_l : biD .list [.lst l] m = some (.lst l) := rfl
theorem bi_list_t : biD .list [.tup l] m = some (.lst l) := rfl
theorem bi_min2 {i j : Int} : biD .min [.int i, .int j] m = some (.int (if j < i then j else i)) := rfl
theorem bi_max2 {i j : Int} : biD .max [.int i, .int j] m = some (.int (if j > i then j else i)) := rfl
theorem bi_int_i {i : Int} : biD .int [.int i] m = some (.int i) := rfl
theorem bi_int_b {b : Bool} : biD .int [.bl b] m = some (.int (if b then 1 else 0)) := rfl
theorem bi_abs {i : Int} : biD .abs [.int i] m = some (.int (if i < 0 then -i else i)) := rfl
theorem ix_t {i : Int} : ixD (.tup l) (.int i) m = atI l i := rfl
theorem ix_l {i : Int} : ixD (.lst l) (.int i) m = atI l i := rfl
theorem ix_s {i : Int} : ixD (.scr l) (.int i) m = atI l i := rfl
theorem lt_ii {i j : Int} : opCmp .Lt (.int i) (.int j) m = some (decide (i < j)) := rfl
theorem le_ii {i j : Int} : opCmp .LtE (.int i) (.int j) m = some (decide (i ≤ j)) := rfl
theorem gt_ii {i j : Int} : opCmp .Gt (.int i) (.int j) m = some (decide (j < i)) := rfl
theorem ge_ii {i j : Int} : opCmp .GtE (.int i) (.int j) m = some (decide (j ≤ i)) := rfl
theorem is_n : opCmp .Is x .non m = some (decide (x = .non)) := by cases x <;> rfl
theorem isn_n : opCmp .IsNot x .non m = some (!decide (x = .non)) := by cases x <;> rfl
theorem eq_ii {i j : Int} : opCmp .Eq (.int i) (.int j) m = some (decide (i = j)) := by
  simp [opCmp, eqD, toP, deref, SeqAt.shaped, PyData.eqv, PyData.canLay0, PyData.depth]
  rw [Bool.eq_iff_iff]; simp
theorem ne_ii {i j : Int} : opCmp .NotEq (.int i) (.int j) m = some (!decide (i = j)) := by
  have := eq_ii (i := i) (j := j) (m := m)
  simp only [opCmp] at this ⊢
  rw [this]; rfl
theorem eq_bb {i j : Bool} : opCmp .Eq (.bl i) (.bl j) m = some (decide (i = j)) := by cases i <;> cases j <;> rfl
theorem ne_bb {i j : Bool} : opCmp .NotEq (.bl i) (.bl j) m = some (!decide (i = j)) := by cases i <;> cases j <;> rfl
end
/-! equality of data that are all of one kind -/
structure Kd (α : Type) [DecidableEq α] where
  p : α → PyData
  ok : ∀ a, (p a).canLay0 = true
  dp : Nat
  dle : ∀ a, (p a).depth ≤ dp
  eq : ∀ a b, PyData.eqv (p a) (p b) = decide (a = b)
def Kd.int : Kd Int := ⟨.int, fun _ => rfl, 0, fun _ => Nat.le_refl _, fun a b => by simp [PyData.eqv]; rw [Bool.eq_iff_iff]; simp⟩
def Kd.bl : Kd Bool := ⟨.bool, fun _ => rfl, 0, fun _ => Nat.le_refl _, fun a b => by cases a <;> cases b <;> rfl⟩
theorem eqvAll_map {α : Type} [DecidableEq α] (k : Kd α) : ∀ (l r : List α), PyData.eqvAll (l.map k.p) (r.map k.p) = decide (l = r)
  | [], [] => by simp [PyData.eqvAll]
  | [], _ :: _ => by simp [PyData.eqvAll]
  | _ :: _, [] => by simp [PyData.eqvAll]
  | a :: l, b :: r => by
    simp only [List.map_cons, PyData.eqvAll, k.eq, eqvAll_map k l r]
    rw [Bool.eq_iff_iff]
    simp
theorem lay_map {α : Type} [DecidableEq α] (k : Kd α) : ∀ (l : List α), PyData.canLayAll0 (l.map k.p) = true
  | [] => by simp [PyData.canLayAll0]
  | a :: l => by simp [PyData.canLayAll0, k.ok, lay_map k l]
theorem dep_map {α : Type} [DecidableEq α] (k : Kd α) : ∀ (l : List α), PyData.depthAll (l.map k.p) ≤ k.dp
  | [] => by simp [PyData.depthAll]
  | a :: l => by
    rw [List.map_cons, PyData.depthAll]
    exact Nat.max_le.mpr ⟨k.dle a, dep_map k l⟩
def Kd.tup {α : Type} [DecidableEq α] (k : Kd α) : Kd (List α) :=
  ⟨fun l => .tuple (l.map k.p), fun l => by simp only [PyData.canLay0]; exact lay_map k l, k.dp + 1, fun l => by simp only [PyData.depth]; have := dep_map k l; omega, fun a b => by simp only [PyData.eqv]; exact eqvAll_map k a b⟩
def Kd.lst {α : Type} [DecidableEq α] (k : Kd α) : Kd (List α) :=
  ⟨fun l => .list (l.map k.p), fun l => by simp only [PyData.canLay0]; exact lay_map k l, k.dp + 1, fun l => by simp only [PyData.depth]; have := dep_map k l; omega, fun a b => by simp only [PyData.eqv]; exact eqvAll_map k a b⟩
theorem Kd.sh {α : Type} [DecidableEq α] (k : Kd α) (h : k.dp ≤ 64) (a : α) : SeqAt.shaped (k.p a) = true := by
  unfold SeqAt.shaped
  rw [k.ok a]
  simp
  have := k.dle a
  omega
/-- x in [..] of one kind -/
theorem any_map {α : Type} [DecidableEq α] (k : Kd α) (a : α) : ∀ (l : List α), (l.map k.p).any (fun q => PyData.eqv q (k.p a)) = decide (a ∈ l)
  | [] => by simp
  | b :: l => by
    rw [List.map_cons, List.any_cons, any_map k a l, k.eq]
    rw [Bool.eq_iff_iff]
    simp only [Bool.or_eq_true, decide_eq_true_eq, List.mem_cons]
    exact ⟨fun h => h.imp Eq.symm id, fun h => h.imp Eq.symm id⟩
theorem go_map {α : Type} {f : α → D} {g : α → PyData} (h : ∀ a, toP (f a) = some (g a)) : ∀ (l : List α), toP.go (l.map f) = some (l.map g)
  | [] => by simp [toP.go]
  | a :: l => by simp [toP.go, h, go_map h l]
end Ev

set_option Elab.async false
set_option linter.all false
set_option maxRecDepth 100000
set_option maxHeartbeats 4000000
/-! Ev21: the looks behind the top, in parts. -/
namespace Ev
open PySem PySem.Spec PyProof.Rows L2
theorem obs_join {n : Nat} {cs : Cl0} {fx : List Fx} {A B : List He5.DefA} {g : Addr → Option Obj} (h1 : obsE n cs fx A g = valE A) (h2 : obsE n [] [] B g = valE B) : obsE n cs fx (A ++ B) g = valE (A ++ B) := by
  unfold obsE obsK valE at *
  simp only [Prod.mk.injEq, Bool.and_eq_true] at h1 h2
  obtain ⟨⟨a1, a2⟩, a3⟩ := h1
  obtain ⟨⟨b1, b2⟩, b3⟩ := h2
  simp only [List.all_append, a1, a2, b2, Bool.and_self, List.map_append, a3, b3]
theorem obs_nil {n : Nat} {cs : Cl0} {fx : List Fx} {B : List He5.DefA} {g : Addr → Option Obj} (h1 : obsE n cs fx [] g = valE []) (h2 : obsE n [] [] B g = valE B) : obsE n cs fx B g = valE B := obs_join (A := []) h1 h2
/-- .. by the objects that were made last -/
def asR (g : Addr → Option Obj) (N c : Nat) : List Addr := He5.asA g 0 ++ List.range' (N - c) c
def obsR (c : Nat) (cs : Cl0) (fx : List Fx) (fn : List He5.DefA) (g : Addr → Option Obj) (N : Nat) : AlE := obsK cs fx fn (He.frG g (asR g N c))
def hookR (c : Nat) (cs : Cl0) (fx : List Fx) (fn : List He5.DefA) : PySem.W.Hook where
  α := AlE
  obs := fun st => obsR c cs fx fn st.heap.get? st.heap.objs.size
  val := fun _ => valE fn
  says := fun _ hp => ∃ K : PySem.W.Frag, K.In hp ∧ Says cs fx fn K
  of := fun _ _ eq => ⟨_, He.frG_in, ⟨eq⟩⟩
  keeps := fun _ _ _ ⟨K, inK, c⟩ kp => ⟨K, PySem.W.Frag.In.keeps inK kp, c⟩
theorem obsR_eq {c : Nat} {cs : Cl0} {fx : List Fx} {fn : List He5.DefA} (s : PySem.W.SharedT) : obsR c cs fx fn (HandSHeadRun.getT s) s.n = (hookR c cs fx fn).obs s.abs := by
  rw [show HandSHeadRun.getT s = s.abs.heap.get? from funext (HandSHeadRun.getT_eq s)]
  show _ = obsR c cs fx fn s.abs.heap.get? s.abs.heap.objs.size
  rw [show s.abs.heap.objs.size = s.n from PySem.W.absHeap_size s.tree s.n _]
theorem obsR_join {c : Nat} {cs : Cl0} {fx : List Fx} {A B : List He5.DefA} {g : Addr → Option Obj} {N : Nat} (h1 : obsR c cs fx A g N = valE A) (h2 : obsR c [] [] B g N = valE B) : obsR c cs fx (A ++ B) g N = valE (A ++ B) := by
  unfold obsR obsK valE at *
  simp only [Prod.mk.injEq, Bool.and_eq_true] at h1 h2
  obtain ⟨⟨a1, a2⟩, a3⟩ := h1
  obtain ⟨⟨b1, b2⟩, b3⟩ := h2
  simp only [List.all_append, a1, a2, b2, Bool.and_self, List.map_append, a3, b3]
theorem obsR_nil {c : Nat} {cs : Cl0} {fx : List Fx} {B : List He5.DefA} {g : Addr → Option Obj} {N : Nat} (h1 : obsR c cs fx [] g N = valE []) (h2 : obsR c [] [] B g N = valE B) : obsR c cs fx B g N = valE B := obsR_join (A := []) h1 h2
section
variable {α β γ : Type} {x : Option α}
theorem map_at {f : α → β} {v : β} {s : α} (h : x.map f = some v) (e : x = some s) : f s = v := by
  subst e
  exact Option.some.inj h
theorem map_ex {f : α → β} {v : β} (h : x.map f = some v) : ∃ s, x = some s := by
  cases x with
  | none => cases h
  | some s => exact ⟨s, rfl⟩
theorem run_join {f1 : α → β} {f2 : α → γ} {δ : Type} {f3 : α → δ} {a : β} {b : γ} {c : δ} (h1 : x.map f1 = some a) (h2 : x.map f2 = some b) (h3 : ∀ s, x = some s → f3 s = c) : x.map (fun s => (f1 s, f2 s, f3 s)) = some (a, b, c) := by
  cases x with
  | none => cases h1
  | some s =>
    show some (f1 s, f2 s, f3 s) = _
    rw [Option.some.inj h1, Option.some.inj h2, h3 s rfl]
end
end Ev

set_option Elab.async false
set_option linter.all false
set_option maxRecDepth 100000
set_option maxHeartbeats 4000000
/-! printed by gen.py -/
namespace K85
open PySem PySem.Spec PyProof.Rows L2 Ev
def top (i : Nat) : Stmt := PySem.Challenge.pw_sparebridges_k85_whole_texts_in_claims.main.body.getD i (.Pass ⟨0, 0, 0, 0⟩)
def cl : List (Str × List Str) := [("Sea", ["rocks", "links"])]
abbrev s_sets_of : Stmt := top 3
def N_sets_of : List Str := ["many", "found", "turn", "row", "inside"]
def C_sets_of : Cfg := ⟨N_sets_of, [], [], cl⟩
def G_sets_of (fs : List (List D → Mem → R D)) : Gam := ⟨fs, [], [2]⟩
def l_sets_of_1 : SL :=
 (.cons (.set (.nm 1) (.lc2 false [3, 4] [4] (.bin .Add (.v 3) (.tup (.cons (.v 4) .nil))) (.nm 3) (.seq (.v 1)) .no (.nm 4) (.seq (.tup (.cons (.bl false) (.cons (.bl true) .nil)))) .no))
 .nil)
def b_sets_of : SL :=
 (.cons (.set (.nm 1) (.lst (.cons (.tup .nil) .nil)))
 (.cons (.for (.nm 2) (.rng (.cons (.v 0) .nil)) l_sets_of_1)
 (.cons (.ret (.v 1))
 .nil)))
def f_sets_of : List D → Mem → R D := runN (G_sets_of []) false 5 1 b_sets_of
abbrev s_lots_of : Stmt := top 4
def N_lots_of : List Str := ["many", "lot"]
def C_lots_of : Cfg := ⟨N_lots_of, [(.fn "sets_of")], [], cl⟩
def G_lots_of (fs : List (List D → Mem → R D)) : Gam := ⟨fs, [], [2]⟩
def b_lots_of : SL :=
 (.cons (.ret (.lc [1] (.v 1) (.nm 1) (.seq (.call 0 (.cons (.v 0) .nil))) (.yes (.and (.cmp .In (.bl true) (.v 1)) (.cmp .In (.bl false) (.v 1))))))
 .nil)
def f_lots_of : List D → Mem → R D := runN (G_lots_of [f_sets_of]) false 2 1 b_lots_of
abbrev s_out_of : Stmt := top 5
def N_out_of : List Str := ["spans", "numbers", "lot", "one", "other", "number"]
def C_out_of : Cfg := ⟨N_out_of, [], [], cl⟩
def G_out_of (fs : List (List D → Mem → R D)) : Gam := ⟨fs, [], [2]⟩
def b_out_of : SL :=
 (.cons (.ret (.bi .sum (.cons (.lc [3, 4, 5] (.v 5) (.tup (.cons (.tup (.cons (.nm 3) (.cons (.nm 4) .nil))) (.cons (.nm 5) .nil))) (.zip (.cons (.v 0) (.cons (.v 1) .nil))) (.yes (.cmp .NotEq (.ix (.v 2) (.v 3)) (.ix (.v 2) (.v 4))))) .nil)))
 .nil)
def f_out_of : List D → Mem → R D := runN (G_out_of []) false 6 3 b_out_of
abbrev s_Sea_islands : Stmt := inClass (top 31) 2
def N_Sea_islands : List Str := ["self"]
def C_Sea_islands : Cfg := ⟨N_Sea_islands, [], [], cl⟩
def G_Sea_islands (fs : List (List D → Mem → R D)) : Gam := ⟨fs, [], [2]⟩
def b_Sea_islands : SL :=
 (.cons (.ret (.fld 0 0 (.v 0)))
 .nil)
def f_Sea_islands : List D → Mem → R D := runN (G_Sea_islands []) false 1 1 b_Sea_islands
abbrev s_names_in : Stmt := top 9
def N_names_in : List Str := ["sea", "lot", "island", "inside"]
def C_names_in : Cfg := ⟨N_names_in, [(.prop 0 "islands")], [], cl⟩
def G_names_in (fs : List (List D → Mem → R D)) : Gam := ⟨fs, [], [2]⟩
def b_names_in : SL :=
 (.cons (.ret (.bi .tuple (.cons (.lc [2, 3] (.v 2) (.tup (.cons (.nm 2) (.cons (.nm 3) .nil))) (.zip (.cons (.prop 0 0 (.v 0)) (.cons (.v 1) .nil))) (.yes (.v 3))) .nil)))
 .nil)
def f_names_in : List D → Mem → R D := runN (G_names_in [f_Sea_islands]) false 4 2 b_names_in
abbrev s_lot_of : Stmt := top 10
def N_lot_of : List Str := ["sea", "names", "island"]
def C_lot_of : Cfg := ⟨N_lot_of, [(.prop 0 "islands")], [], cl⟩
def G_lot_of (fs : List (List D → Mem → R D)) : Gam := ⟨fs, [], [2]⟩
def b_lot_of : SL :=
 (.cons (.ret (.bi .tuple (.cons (.lc [2] (.cmp .In (.v 2) (.v 1)) (.nm 2) (.seq (.prop 0 0 (.v 0))) .no) .nil)))
 .nil)
def f_lot_of : List D → Mem → R D := runN (G_lot_of [f_Sea_islands]) false 3 2 b_lot_of
abbrev s_is_integer : Stmt := top 23
def N_is_integer : List Str := ["value"]
def C_is_integer : Cfg := ⟨N_is_integer, [], [], cl⟩
def G_is_integer (fs : List (List D → Mem → R D)) : Gam := ⟨fs, [], [2]⟩
def b_is_integer : SL :=
 (.cons (.ret (.and (.isi .int (.v 0)) (.not (.isi .bool (.v 0)))))
 .nil)
def f_is_integer : List D → Mem → R D := runN (G_is_integer []) false 1 1 b_is_integer
abbrev s_is_within : Stmt := top 24
def N_is_within : List Str := ["value", "least", "most"]
def C_is_within : Cfg := ⟨N_is_within, [(.fn "is_integer")], [], cl⟩
def G_is_within (fs : List (List D → Mem → R D)) : Gam := ⟨fs, [], [2]⟩
def b_is_within : SL :=
 (.cons (.ret (.and (.call 0 (.cons (.v 0) .nil)) (.chain .LtE .LtE (.v 1) (.v 0) (.v 2))))
 .nil)
def f_is_within : List D → Mem → R D := runN (G_is_within [f_is_integer]) false 3 3 b_is_within
abbrev s_is_name : Stmt := top 25
def N_is_name : List Str := ["value", "sign"]
def C_is_name : Cfg := ⟨N_is_name, [], ["DIGITS", "LETTERS", "LONGEST_NAME"], cl⟩
def G_is_name (fs : List (List D → Mem → R D)) : Gam := ⟨fs, [(.str "0123456789"), (.str "abcdefghijklmnopqrstuvwxyz"), (.int (8))], [2]⟩
def b_is_name : SL :=
 (.cons (.ife (.or (.not (.isi .str (.v 0))) (.not (.chain .LtE .LtE (.int 1) (.bi .len (.cons (.v 0) .nil)) (.g 2)))) (.cons (.ret (.bl false))
  .nil) .nil)
 (.cons (.ret (.and (.cmp .In (.ix (.v 0) (.int 0)) (.g 1)) (.bi .all (.cons (.lc [1] (.or (.cmp .In (.v 1) (.g 1)) (.cmp .In (.v 1) (.g 0))) (.nm 1) (.seq (.v 0)) .no) .nil))))
 .nil))
def f_is_name : List D → Mem → R D := runN (G_is_name []) false 2 1 b_is_name
abbrev s_wrong_island : Stmt := top 28
def N_wrong_island : List Str := ["islands", "at", "island"]
def C_wrong_island : Cfg := ⟨N_wrong_island, [(.fn "is_name")], ["MOST_ISLANDS"], cl⟩
def G_wrong_island (fs : List (List D → Mem → R D)) : Gam := ⟨fs, [(.int (5))], [2]⟩
def l_wrong_island_1 : SL :=
 (.cons (.ife (.or (.not (.call 0 (.cons (.v 2) .nil))) (.or (.cmp .In (.v 2) (.sl (.v 0) .no (.yes (.v 1)))) (.cmp .GtE (.v 1) (.g 0)))) (.cons (.ret (.v 1))
  .nil) .nil)
 .nil)
def b_wrong_island : SL :=
 (.cons (.for (.tup (.cons (.nm 1) (.cons (.nm 2) .nil))) (.enum (.v 0)) l_wrong_island_1)
 (.cons (.ret .non)
 .nil))
def f_wrong_island : List D → Mem → R D := runN (G_wrong_island [f_is_name]) false 3 1 b_wrong_island
abbrev s_read_sea : Stmt := top 29
def N_read_sea : List Str := ["text", "words", "islands"]
def C_read_sea : Cfg := ⟨N_read_sea, [(.fn "wrong_island")], [], cl⟩
def G_read_sea (fs : List (List D → Mem → R D)) : Gam := ⟨fs, [], [2]⟩
def b_read_sea : SL :=
 (.cons (.ife (.not (.isi .str (.v 0))) (.cons (.ret .non)
  .nil) .nil)
 (.cons (.set (.nm 1) (.sm .split (.v 0) (.cons (.str " ") .nil)))
 (.cons (.set (.nm 2) (.bi .tuple (.cons (.sl (.v 1) (.yes (.int 1)) .no) .nil)))
 (.cons (.ret (.ife (.and (.cmp .Eq (.ix (.v 1) (.int 0)) (.str "islands")) (.and (.cmp .Gt (.bi .len (.cons (.v 2) .nil)) (.int 1)) (.cmp .Is (.call 0 (.cons (.v 2) .nil)) .non))) (.v 2) .non))
 .nil))))
def f_read_sea : List D → Mem → R D := runN (G_read_sea [f_wrong_island]) false 3 1 b_read_sea
abbrev s_pairs_of : Stmt := top 30
def N_pairs_of : List Str := ["many", "found", "one", "other"]
def C_pairs_of : Cfg := ⟨N_pairs_of, [], [], cl⟩
def G_pairs_of (fs : List (List D → Mem → R D)) : Gam := ⟨fs, [], [2]⟩
def l_pairs_of_1 : SL :=
 (.cons (.set (.nm 1) (.bin .Add (.v 1) (.lc [3] (.tup (.cons (.v 2) (.cons (.v 3) .nil))) (.nm 3) (.rng (.cons (.bin .Add (.v 2) (.int 1)) (.cons (.v 0) .nil))) .no)))
 .nil)
def b_pairs_of : SL :=
 (.cons (.set (.nm 1) (.lst .nil))
 (.cons (.for (.nm 2) (.rng (.cons (.v 0) .nil)) l_pairs_of_1)
 (.cons (.ret (.bi .tuple (.cons (.v 1) .nil)))
 .nil)))
def f_pairs_of : List D → Mem → R D := runN (G_pairs_of []) false 4 1 b_pairs_of
abbrev s_Sea___init__ : Stmt := inClass (top 31) 0
def N_Sea___init__ : List Str := ["self", "islands", "wrong"]
def C_Sea___init__ : Cfg := ⟨N_Sea___init__, [(.fn "pairs_of"), (.fn "wrong_island")], [], cl⟩
def G_Sea___init__ (fs : List (List D → Mem → R D)) : Gam := ⟨fs, [], [2]⟩
def b_Sea___init__ : SL :=
 (.cons (.ife (.or (.not (.isi .tuple (.v 1))) (.cmp .Lt (.bi .len (.cons (.v 1) .nil)) (.int 2))) (.cons .never
  .nil) .nil)
 (.cons (.set (.nm 2) (.call 1 (.cons (.v 1) .nil)))
 (.cons (.ife (.cmp .IsNot (.v 2) .non) (.cons .never
  .nil) .nil)
 (.cons (.setA 0 0 (.v 0) (.v 1))
 (.cons (.setA 0 1 (.v 0) (.call 0 (.cons (.bi .len (.cons (.v 1) .nil)) .nil)))
 .nil)))))
def f_Sea___init__ : List D → Mem → R D := runN (G_Sea___init__ [f_pairs_of, f_wrong_island]) false 3 2 b_Sea___init__
abbrev s_Sea_spans : Stmt := inClass (top 31) 4
def N_Sea_spans : List Str := ["self"]
def C_Sea_spans : Cfg := ⟨N_Sea_spans, [], [], cl⟩
def G_Sea_spans (fs : List (List D → Mem → R D)) : Gam := ⟨fs, [], [2]⟩
def b_Sea_spans : SL :=
 (.cons (.ret (.fld 0 1 (.v 0)))
 .nil)
def f_Sea_spans : List D → Mem → R D := runN (G_Sea_spans []) false 1 1 b_Sea_spans
abbrev s_Sea___len__ : Stmt := inClass (top 31) 7
def N_Sea___len__ : List Str := ["self"]
def C_Sea___len__ : Cfg := ⟨N_Sea___len__, [], [], cl⟩
def G_Sea___len__ (fs : List (List D → Mem → R D)) : Gam := ⟨fs, [], [2]⟩
def b_Sea___len__ : SL :=
 (.cons (.ret (.bi .len (.cons (.fld 0 0 (.v 0)) .nil)))
 .nil)
def f_Sea___len__ : List D → Mem → R D := runN (G_Sea___len__ []) false 1 1 b_Sea___len__
abbrev s_Sea___str__ : Stmt := inClass (top 31) 10
def N_Sea___str__ : List Str := ["self"]
def C_Sea___str__ : Cfg := ⟨N_Sea___str__, [], [], cl⟩
def G_Sea___str__ (fs : List (List D → Mem → R D)) : Gam := ⟨fs, [], [2]⟩
def b_Sea___str__ : SL :=
 (.cons (.ret (.sm .join (.str " ") (.cons (.lst (.cons (.str "islands") (.star (.fld 0 0 (.v 0))))) .nil)))
 .nil)
def f_Sea___str__ : List D → Mem → R D := runN (G_Sea___str__ []) false 1 1 b_Sea___str__
abbrev s_check_sea : Stmt := top 32
def N_check_sea : List Str := ["value"]
def C_check_sea : Cfg := ⟨N_check_sea, [], [], cl⟩
def G_check_sea (fs : List (List D → Mem → R D)) : Gam := ⟨fs, [], [2]⟩
def b_check_sea : SL :=
 (.cons (.ife (.not (.isi (.cls 0) (.v 0))) (.cons .never
  .nil) .nil)
 .nil)
def f_check_sea : List D → Mem → R D := runN (G_check_sea []) false 1 1 b_check_sea
abbrev s_wrong_number : Stmt := top 33
def N_wrong_number : List Str := ["value", "many", "least", "most", "at", "number"]
def C_wrong_number : Cfg := ⟨N_wrong_number, [(.fn "is_within")], [], cl⟩
def G_wrong_number (fs : List (List D → Mem → R D)) : Gam := ⟨fs, [], [2]⟩
def l_wrong_number_1 : SL :=
 (.cons (.ife (.not (.call 0 (.cons (.v 5) (.cons (.v 2) (.cons (.v 3) .nil))))) (.cons (.ret (.tup (.cons (.v 4) .nil)))
  .nil) .nil)
 .nil)
def b_wrong_number : SL :=
 (.cons (.ife (.or (.not (.isi .tuple (.v 0))) (.cmp .NotEq (.bi .len (.cons (.v 0) .nil)) (.v 1))) (.cons (.ret (.tup (.cons .non .nil)))
  .nil) .nil)
 (.cons (.for (.tup (.cons (.nm 4) (.cons (.nm 5) .nil))) (.enum (.v 0)) l_wrong_number_1)
 (.cons (.ret (.tup .nil))
 .nil)))
def f_wrong_number : List D → Mem → R D := runN (G_wrong_number [f_is_within]) false 6 4 b_wrong_number
abbrev s_check_bridges : Stmt := top 34
def N_check_bridges : List Str := ["sea", "bridges", "most", "wrong"]
def C_check_bridges : Cfg := ⟨N_check_bridges, [(.fn "wrong_number"), (.prop 0 "spans")], [], cl⟩
def G_check_bridges (fs : List (List D → Mem → R D)) : Gam := ⟨fs, [], [2]⟩
def b_check_bridges : SL :=
 (.cons (.set (.nm 3) (.call 0 (.cons (.v 1) (.cons (.bi .len (.cons (.prop 1 0 (.v 0)) .nil)) (.cons (.int 0) (.cons (.v 2) .nil))))))
 (.cons (.ife (.cmp .NotEq (.v 3) (.tup .nil)) (.cons .never
  .nil) .nil)
 .nil))
def h_check_bridges : List D → Mem → R D := runN (G_check_bridges [f_wrong_number, f_Sea_spans]) false 4 3 b_check_bridges
def f_check_bridges : List D → Mem → R D := fun args m => h_check_bridges (args ++ [(.int (10 ^ 30))]) m
abbrev s_check_island : Stmt := top 35
def N_check_island : List Str := ["sea", "value"]
def C_check_island : Cfg := ⟨N_check_island, [(.prop 0 "islands")], [], cl⟩
def G_check_island (fs : List (List D → Mem → R D)) : Gam := ⟨fs, [], [2]⟩
def b_check_island : SL :=
 (.cons (.ife (.cmp .NotIn (.v 1) (.prop 0 0 (.v 0))) (.cons .never
  .nil) .nil)
 .nil)
def f_check_island : List D → Mem → R D := runN (G_check_island [f_Sea_islands]) false 2 2 b_check_island
abbrev s_check_pair : Stmt := top 36
def N_check_pair : List Str := ["sea", "one", "other"]
def C_check_pair : Cfg := ⟨N_check_pair, [(.fn "check_island")], [], cl⟩
def G_check_pair (fs : List (List D → Mem → R D)) : Gam := ⟨fs, [], [2]⟩
def b_check_pair : SL :=
 (.cons (.ex (.call 0 (.cons (.v 0) (.cons (.v 1) .nil))))
 (.cons (.ex (.call 0 (.cons (.v 0) (.cons (.v 2) .nil))))
 (.cons (.ife (.cmp .Eq (.v 1) (.v 2)) (.cons .never
  .nil) .nil)
 .nil)))
def f_check_pair : List D → Mem → R D := runN (G_check_pair [f_check_island]) false 3 3 b_check_pair
abbrev s_parting_lots : Stmt := top 38
def N_parting_lots : List Str := ["sea", "here", "there", "lot"]
def C_parting_lots : Cfg := ⟨N_parting_lots, [(.fn "lots_of"), (.len 0)], [], cl⟩
def G_parting_lots (fs : List (List D → Mem → R D)) : Gam := ⟨fs, [], [2]⟩
def b_parting_lots : SL :=
 (.cons (.ret (.lc [3] (.v 3) (.nm 3) (.seq (.call 0 (.cons (.spec .len 1 0 (.v 0)) .nil))) (.yes (.and (.ix (.v 3) (.v 1)) (.not (.ix (.v 3) (.v 2)))))))
 .nil)
def f_parting_lots : List D → Mem → R D := runN (G_parting_lots [f_lots_of, f_Sea___len__]) false 4 3 b_parting_lots
abbrev s_between_of : Stmt := top 39
def N_between_of : List Str := ["sea", "bridges", "here", "there", "lot"]
def C_between_of : Cfg := ⟨N_between_of, [(.fn "parting_lots"), (.fn "out_of"), (.prop 0 "spans")], [], cl⟩
def G_between_of (fs : List (List D → Mem → R D)) : Gam := ⟨fs, [], [2]⟩
def b_between_of : SL :=
 (.cons (.ret (.bi .min (.cons (.lc [4] (.call 1 (.cons (.prop 2 0 (.v 0)) (.cons (.v 1) (.cons (.v 4) .nil)))) (.nm 4) (.seq (.call 0 (.cons (.v 0) (.cons (.v 2) (.cons (.v 3) .nil))))) .no) .nil)))
 .nil)
def f_between_of : List D → Mem → R D := runN (G_between_of [f_parting_lots, f_out_of, f_Sea_spans]) false 5 4 b_between_of
abbrev s_cut_of : Stmt := top 40
def N_cut_of : List Str := ["sea", "bridges", "here", "there", "least", "lot"]
def C_cut_of : Cfg := ⟨N_cut_of, [(.fn "parting_lots"), (.fn "out_of"), (.prop 0 "spans"), (.fn "between_of")], [], cl⟩
def G_cut_of (fs : List (List D → Mem → R D)) : Gam := ⟨fs, [], [2]⟩
def b_cut_of : SL :=
 (.cons (.set (.nm 4) (.call 3 (.cons (.v 0) (.cons (.v 1) (.cons (.v 2) (.cons (.v 3) .nil))))))
 (.cons (.ret (.ix (.lc [5] (.v 5) (.nm 5) (.seq (.call 0 (.cons (.v 0) (.cons (.v 2) (.cons (.v 3) .nil))))) (.yes (.cmp .Eq (.call 1 (.cons (.prop 2 0 (.v 0)) (.cons (.v 1) (.cons (.v 5) .nil)))) (.v 4)))) (.int 0)))
 .nil))
def f_cut_of : List D → Mem → R D := runN (G_cut_of [f_parting_lots, f_out_of, f_Sea_spans, f_between_of]) false 6 4 b_cut_of
abbrev s_flow_range : Stmt := top 66
def N_flow_range : List Str := ["spans", "bridges", "wants", "at", "one", "other", "low", "high", "lot", "give", "rest", "want", "inside"]
def C_flow_range : Cfg := ⟨N_flow_range, [(.fn "out_of"), (.fn "lots_of")], [], cl⟩
def G_flow_range (fs : List (List D → Mem → R D)) : Gam := ⟨fs, [], [2]⟩
def l_flow_range_1 : SL :=
 (.cons (.set (.nm 9) (.bi .sum (.cons (.lc [11, 12] (.v 11) (.tup (.cons (.nm 11) (.cons (.nm 12) .nil))) (.zip (.cons (.v 2) (.cons (.v 8) .nil))) (.yes (.v 12))) .nil)))
 (.cons (.set (.nm 10) (.bin .Sub (.call 0 (.cons (.v 0) (.cons (.v 1) (.cons (.v 8) .nil)))) (.ix (.v 1) (.v 3))))
 (.cons (.ife (.and (.ix (.v 8) (.v 4)) (.not (.ix (.v 8) (.v 5)))) (.cons (.par2 6 7 (.cons (.bi .max (.cons (.v 6) (.cons (.bin .Sub (.v 9) (.v 10)) .nil))) (.cons (.bi .min (.cons (.v 7) (.cons (.bin .Add (.v 9) (.v 10)) .nil))) .nil)))
  .nil) .nil)
 .nil)))
def b_flow_range : SL :=
 (.cons (.set (.tup (.cons (.nm 4) (.cons (.nm 5) .nil))) (.ix (.v 0) (.v 3)))
 (.cons (.par2 6 7 (.cons (.neg (.ix (.v 1) (.v 3))) (.cons (.ix (.v 1) (.v 3)) .nil)))
 (.cons (.for (.nm 8) (.seq (.call 1 (.cons (.bi .len (.cons (.v 2) .nil)) .nil))) l_flow_range_1)
 (.cons (.ret (.tup (.cons (.v 6) (.cons (.v 7) .nil))))
 .nil))))
def f_flow_range : List D → Mem → R D := runN (G_flow_range [f_out_of, f_lots_of]) false 13 4 b_flow_range
abbrev s_flow_of : Stmt := top 67
def N_flow_of : List Str := ["sea", "bridges", "here", "there", "many", "wants", "found", "at", "one", "other", "low", "high", "number", "place", "each"]
def C_flow_of : Cfg := ⟨N_flow_of, [(.fn "flow_range"), (.prop 0 "spans"), (.len 0)], [], cl⟩
def G_flow_of (fs : List (List D → Mem → R D)) : Gam := ⟨fs, [], [2]⟩
def l_flow_of_1 : SL :=
 (.cons (.set (.tup (.cons (.nm 10) (.cons (.nm 11) .nil))) (.call 0 (.cons (.prop 1 0 (.v 0)) (.cons (.v 1) (.cons (.v 5) (.cons (.v 7) .nil))))))
 (.cons (.set (.nm 12) (.bi .min (.cons (.bi .max (.cons (.int 0) (.cons (.v 10) .nil))) (.cons (.v 11) .nil))))
 (.cons (.set (.ix (.v 5) (.v 8)) (.bin .Sub (.ix (.v 5) (.v 8)) (.v 12)))
 (.cons (.set (.ix (.v 5) (.v 9)) (.bin .Add (.ix (.v 5) (.v 9)) (.v 12)))
 (.cons (.set (.nm 1) (.bi .tuple (.cons (.lc [13, 14] (.ife (.cmp .Eq (.v 13) (.v 7)) (.int 0) (.v 14)) (.tup (.cons (.nm 13) (.cons (.nm 14) .nil))) (.enum (.v 1)) .no) .nil)))
 (.cons (.app (.v 6) (.v 12))
 .nil))))))
def b_flow_of : SL :=
 (.cons (.set (.nm 5) (.mlc [7] (.ife (.cmp .Eq (.v 7) (.v 2)) (.v 4) (.ife (.cmp .Eq (.v 7) (.v 3)) (.neg (.v 4)) (.int 0))) (.nm 7) (.rng (.cons (.spec .len 2 0 (.v 0)) .nil)) .no))
 (.cons (.set (.nm 6) (.mlst .nil))
 (.cons (.for (.tup (.cons (.nm 7) (.cons (.tup (.cons (.nm 8) (.cons (.nm 9) .nil))) .nil))) (.enum (.prop 1 0 (.v 0))) l_flow_of_1)
 (.cons (.ret (.bi .tuple (.cons (.v 6) .nil)))
 .nil))))
def f_flow_of : List D → Mem → R D := runN (G_flow_of [f_flow_range, f_Sea_spans, f_Sea___len__]) false 15 5 b_flow_of
abbrev s_certify_between : Stmt := top 68
def N_certify_between : List Str := ["sea", "bridges", "one", "other", "here", "there", "many", "paper"]
def C_certify_between : Cfg := ⟨N_certify_between, [(.str 0), (.fn "flow_of"), (.fn "names_in"), (.fn "cut_of"), (.fn "between_of"), (.prop 0 "islands"), (.fn "check_pair"), (.fn "check_bridges"), (.fn "check_sea")], [], cl⟩
def G_certify_between (fs : List (List D → Mem → R D)) : Gam := ⟨fs, [], [2]⟩
def b_certify_between : SL :=
 (.cons (.ex (.call 8 (.cons (.v 0) .nil)))
 (.cons (.ex (.call 7 (.cons (.v 0) (.cons (.v 1) .nil))))
 (.cons (.ex (.call 6 (.cons (.v 0) (.cons (.v 2) (.cons (.v 3) .nil)))))
 (.cons (.par2 4 5 (.cons (.sm .index (.prop 5 0 (.v 0)) (.cons (.v 2) .nil)) (.cons (.sm .index (.prop 5 0 (.v 0)) (.cons (.v 3) .nil)) .nil)))
 (.cons (.set (.nm 6) (.call 4 (.cons (.v 0) (.cons (.v 1) (.cons (.v 4) (.cons (.v 5) .nil))))))
 (.cons (.set (.nm 7) (.tup (.cons (.call 2 (.cons (.v 0) (.cons (.call 3 (.cons (.v 0) (.cons (.v 1) (.cons (.v 4) (.cons (.v 5) .nil))))) .nil))) (.cons (.call 1 (.cons (.v 0) (.cons (.v 1) (.cons (.v 4) (.cons (.v 5) (.cons (.v 6) .nil)))))) .nil))))
 (.cons (.ret (.tup (.cons (.tup (.cons (.str "between") (.cons (.spec .str 0 0 (.v 0)) (.cons (.v 1) (.cons (.v 2) (.cons (.v 3) (.cons (.v 6) .nil))))))) (.cons (.v 7) .nil))))
 .nil)))))))
def f_certify_between : List D → Mem → R D := runN (G_certify_between [f_Sea___str__, f_flow_of, f_names_in, f_cut_of, f_between_of, f_Sea_islands, f_check_pair, f_check_bridges, f_check_sea]) false 8 4 b_certify_between
abbrev s_is_count : Stmt := top 46
def N_is_count : List Str := ["value"]
def C_is_count : Cfg := ⟨N_is_count, [(.fn "is_integer")], [], cl⟩
def G_is_count (fs : List (List D → Mem → R D)) : Gam := ⟨fs, [], [2]⟩
def b_is_count : SL :=
 (.cons (.ret (.and (.call 0 (.cons (.v 0) .nil)) (.cmp .GtE (.v 0) (.int 0))))
 .nil)
def f_is_count : List D → Mem → R D := runN (G_is_count [f_is_integer]) false 1 1 b_is_count
abbrev s_is_pair : Stmt := top 47
def N_is_pair : List Str := ["value"]
def C_is_pair : Cfg := ⟨N_is_pair, [], [], cl⟩
def G_is_pair (fs : List (List D → Mem → R D)) : Gam := ⟨fs, [], [2]⟩
def b_is_pair : SL :=
 (.cons (.ret (.and (.isi .tuple (.v 0)) (.cmp .Eq (.bi .len (.cons (.v 0) .nil)) (.int 2))))
 .nil)
def f_is_pair : List D → Mem → R D := runN (G_is_pair []) false 1 1 b_is_pair
abbrev s_is_lot : Stmt := top 48
def N_is_lot : List Str := ["sea", "value", "island"]
def C_is_lot : Cfg := ⟨N_is_lot, [(.prop 0 "islands"), (.len 0)], [], cl⟩
def G_is_lot (fs : List (List D → Mem → R D)) : Gam := ⟨fs, [], [2]⟩
def b_is_lot : SL :=
 (.cons (.ife (.or (.not (.isi .tuple (.v 1))) (.not (.chain .Lt .Lt (.int 0) (.bi .len (.cons (.v 1) .nil)) (.spec .len 1 0 (.v 0))))) (.cons (.ret (.bl false))
  .nil) .nil)
 (.cons (.ret (.cmp .Eq (.v 1) (.bi .tuple (.cons (.lc [2] (.v 2) (.nm 2) (.seq (.prop 0 0 (.v 0))) (.yes (.cmp .In (.v 2) (.v 1)))) .nil))))
 .nil))
def f_is_lot : List D → Mem → R D := runN (G_is_lot [f_Sea_islands, f_Sea___len__]) false 3 2 b_is_lot
abbrev s_are_two : Stmt := top 50
def N_are_two : List Str := ["sea", "one", "other"]
def C_are_two : Cfg := ⟨N_are_two, [(.prop 0 "islands")], [], cl⟩
def G_are_two (fs : List (List D → Mem → R D)) : Gam := ⟨fs, [], [2]⟩
def b_are_two : SL :=
 (.cons (.ret (.and (.cmp .In (.v 1) (.prop 0 0 (.v 0))) (.and (.cmp .In (.v 2) (.prop 0 0 (.v 0))) (.cmp .NotEq (.v 1) (.v 2)))))
 .nil)
def f_are_two : List D → Mem → R D := runN (G_are_two [f_Sea_islands]) false 3 3 b_are_two
abbrev s_is_flow : Stmt := top 52
def N_is_flow : List Str := ["sea", "bridges", "claim", "value", "one", "other", "many", "out", "here", "there", "number", "due", "most", "island"]
def C_is_flow : Cfg := ⟨N_is_flow, [(.prop 0 "islands"), (.prop 0 "spans"), (.fn "is_within")], [], cl⟩
def G_is_flow (fs : List (List D → Mem → R D)) : Gam := ⟨fs, [], [2]⟩
def l_is_flow_1 : SL :=
 (.cons (.set (.ix (.v 7) (.v 8)) (.bin .Add (.ix (.v 7) (.v 8)) (.v 10)))
 (.cons (.set (.ix (.v 7) (.v 9)) (.bin .Sub (.ix (.v 7) (.v 9)) (.v 10)))
 .nil))
def b_is_flow : SL :=
 (.cons (.set (.tup (.cons (.nm 4) (.cons (.nm 5) (.cons (.nm 6) .nil)))) (.v 2))
 (.cons (.ife (.or (.not (.isi .tuple (.v 3))) (.cmp .NotEq (.bi .len (.cons (.v 3) .nil)) (.bi .len (.cons (.v 1) .nil)))) (.cons (.ret (.bl false))
  .nil) .nil)
 (.cons (.ife (.not (.bi .all (.cons (.lc [10, 12] (.call 2 (.cons (.v 10) (.cons (.neg (.v 12)) (.cons (.v 12) .nil)))) (.tup (.cons (.nm 10) (.cons (.nm 12) .nil))) (.zip (.cons (.v 3) (.cons (.v 1) .nil))) .no) .nil))) (.cons (.ret (.bl false))
  .nil) .nil)
 (.cons (.set (.nm 7) (.mlc [13] (.int 0) (.nm 13) (.seq (.prop 0 0 (.v 0))) .no))
 (.cons (.for (.tup (.cons (.tup (.cons (.nm 8) (.cons (.nm 9) .nil))) (.cons (.nm 10) .nil))) (.zip (.cons (.prop 1 0 (.v 0)) (.cons (.v 3) .nil))) l_is_flow_1)
 (.cons (.set (.nm 11) (.lc [13] (.ife (.cmp .Eq (.v 13) (.v 4)) (.v 6) (.ife (.cmp .Eq (.v 13) (.v 5)) (.neg (.v 6)) (.int 0))) (.nm 13) (.seq (.prop 0 0 (.v 0))) .no))
 (.cons (.ret (.cmp .Eq (.v 7) (.v 11)))
 .nil)))))))
def f_is_flow : List D → Mem → R D := runN (G_is_flow [f_Sea_islands, f_Sea_spans, f_is_within]) false 14 4 b_is_flow
abbrev s_between_shown : Stmt := top 53
def N_between_shown : List Str := ["sea", "bridges", "claim", "certificate", "one", "other", "many"]
def C_between_shown : Cfg := ⟨N_between_shown, [(.fn "is_flow"), (.fn "out_of"), (.fn "lot_of"), (.prop 0 "spans"), (.fn "is_lot"), (.fn "is_pair"), (.fn "is_count"), (.fn "are_two")], [], cl⟩
def G_between_shown (fs : List (List D → Mem → R D)) : Gam := ⟨fs, [], [2]⟩
def b_between_shown : SL :=
 (.cons (.set (.tup (.cons (.nm 4) (.cons (.nm 5) (.cons (.nm 6) .nil)))) (.v 2))
 (.cons (.ife (.or (.not (.call 7 (.cons (.v 0) (.cons (.v 4) (.cons (.v 5) .nil))))) (.or (.not (.call 6 (.cons (.v 6) .nil))) (.not (.call 5 (.cons (.v 3) .nil))))) (.cons (.ret (.bl false))
  .nil) .nil)
 (.cons (.ife (.or (.not (.call 4 (.cons (.v 0) (.cons (.ix (.v 3) (.int 0)) .nil)))) (.cmp .Eq (.cmp .In (.v 4) (.ix (.v 3) (.int 0))) (.cmp .In (.v 5) (.ix (.v 3) (.int 0))))) (.cons (.ret (.bl false))
  .nil) .nil)
 (.cons (.ife (.cmp .NotEq (.call 1 (.cons (.prop 3 0 (.v 0)) (.cons (.v 1) (.cons (.call 2 (.cons (.v 0) (.cons (.ix (.v 3) (.int 0)) .nil))) .nil)))) (.v 6)) (.cons (.ret (.bl false))
  .nil) .nil)
 (.cons (.ret (.call 0 (.cons (.v 0) (.cons (.v 1) (.cons (.v 2) (.cons (.ix (.v 3) (.int 1)) .nil))))))
 .nil)))))
def f_between_shown : List D → Mem → R D := runN (G_between_shown [f_is_flow, f_out_of, f_lot_of, f_Sea_spans, f_is_lot, f_is_pair, f_is_count, f_are_two]) false 7 4 b_between_shown
abbrev s_accepts : Stmt := top 64
def N_accepts : List Str := ["claim", "certificate", "islands", "sea"]
def C_accepts : Cfg := ⟨N_accepts, [(.fn "between_shown"), (.fn "wrong_number"), (.prop 0 "spans"), (.init 0), (.fn "read_sea")], ["MOST_BRIDGES"], cl⟩
def G_accepts (fs : List (List D → Mem → R D)) : Gam := ⟨fs, [(.int (1000000000000000000000000000000))], [2]⟩
def b_accepts : SL :=
 (.cons (.ife (.or (.not (.isi .tuple (.v 0))) (.cmp .Lt (.bi .len (.cons (.v 0) .nil)) (.int 4))) (.cons (.ret (.bl false))
  .nil) .nil)
 (.cons (.set (.nm 2) (.call 4 (.cons (.ix (.v 0) (.int 1)) .nil)))
 (.cons (.set (.nm 3) (.ife (.cmp .Is (.v 2) .non) .non (.mk true 3 0 (.cons (.v 2) .nil))))
 (.cons (.ife (.or (.cmp .Is (.v 3) .non) (.cmp .NotEq (.call 1 (.cons (.ix (.v 0) (.int 2)) (.cons (.bi .len (.cons (.prop 2 0 (.v 3)) .nil)) (.cons (.int 0) (.cons (.g 0) .nil))))) (.tup .nil))) (.cons (.ret (.bl false))
  .nil) .nil)
 (.cons (.ife (.cmp .Eq (.ix (.v 0) (.int 0)) (.str "between")) (.cons (.ret (.and (.cmp .Eq (.bi .len (.cons (.v 0) .nil)) (.int 6)) (.call 0 (.cons (.v 3) (.cons (.ix (.v 0) (.int 2)) (.cons (.sl (.v 0) (.yes (.int 3)) .no) (.cons (.v 1) .nil)))))))
  .nil) .nil)
 (.cons (.ife (.cmp .In (.ix (.v 0) (.int 0)) (.tup (.cons (.str "needed") (.cons (.str "ends") .nil)))) (.cons (.ret .never)
  .nil) .nil)
 (.cons (.ife (.cmp .In (.ix (.v 0) (.int 0)) (.tup (.cons (.str "ways") (.cons (.str "no ways") .nil)))) (.cons (.ret (.and (.cmp .Eq (.bi .len (.cons (.v 0) .nil)) (.int 4)) .never))
  .nil) .nil)
 (.cons (.ret (.and (.cmp .Eq (.ix (.v 0) (.int 0)) (.str "arrows")) (.and (.cmp .Eq (.bi .len (.cons (.v 0) .nil)) (.int 6)) .never)))
 .nil))))))))
def f_accepts : List D → Mem → R D := runN (G_accepts [f_between_shown, f_wrong_number, f_Sea_spans, f_Sea___init__, f_read_sea]) false 4 2 b_accepts
abbrev s__law_bowl : Stmt := top 70
def N__law_bowl : List Str := ["cells", "turn", "mixed", "cell", "here"]
def C__law_bowl : Cfg := ⟨N__law_bowl, [], [], cl⟩
def G__law_bowl (fs : List (List D → Mem → R D)) : Gam := ⟨fs, [], [2]⟩
def l__law_bowl_1 : SL :=
 (.cons (.set (.nm 2) (.bin .Mod (.bi .int (.cons (.bin .Add (.bin .Mult (.v 2) (.int 50021)) (.bi .int (.cons (.v 3) .nil))) .nil)) (.int 2147483399)))
 .nil)
def b__law_bowl : SL :=
 (.cons (.set (.nm 2) (.bin .Add (.int 81001) (.bin .Mult (.int 2903) (.v 1))))
 (.cons (.for (.nm 3) (.seq (.sl (.v 0) .no (.yes (.int 6)))) l__law_bowl_1)
 (.cons (.set (.nm 4) (.ife (.cmp .Lt (.v 1) (.bi .len (.cons (.v 0) .nil))) (.bi .int (.cons (.ix (.v 0) (.v 1)) .nil)) (.v 2)))
 (.cons (.ret (.mlst (.cons (.ife (.cmp .GtE (.bi .abs (.cons (.v 4) .nil)) (.bin .Pow (.int 10) (.int 18))) (.bi .abs (.cons (.v 4) .nil)) (.int 0)) (.cons (.bin .Mod (.bi .int (.cons (.bin .Add (.bin .Mult (.v 2) (.int 43013)) (.v 4)) .nil)) (.int 2147483399)) (.cons (.int 0) .nil)))))
 .nil))))
def f__law_bowl : List D → Mem → R D := runN (G__law_bowl []) true 5 2 b__law_bowl
abbrev s__law_pull : Stmt := top 71
def N__law_pull : List Str := ["bowl", "size", "digit", "state", "factor"]
def C__law_pull : Cfg := ⟨N__law_pull, [], [], cl⟩
def G__law_pull (fs : List (List D → Mem → R D)) : Gam := ⟨fs, [], [2]⟩
def b__law_pull : SL :=
 (.cons (.set (.ix (.v 0) (.int 2)) (.bin .Add (.ix (.v 0) (.int 2)) (.int 1)))
 (.cons (.ife (.cmp .Gt (.ix (.v 0) (.int 0)) (.int 0)) (.cons (.set (.tup (.cons (.ix (.v 0) (.int 0)) (.cons (.nm 2) .nil))) (.bi .divmod (.cons (.ix (.v 0) (.int 0)) (.cons (.v 1) .nil))))
  (.cons (.ret (.v 2))
  .nil)) .nil)
 (.cons (.set (.nm 3) (.bi .int (.cons (.ix (.v 0) (.int 1)) .nil)))
 (.cons (.set (.nm 4) (.bin .Add (.int 40127) (.bin .Mult (.int 2) (.bin .Mod (.bi .int (.cons (.v 3) .nil)) (.int 8999)))))
 (.cons (.set (.ix (.v 0) (.int 1)) (.bin .Mod (.bi .int (.cons (.bin .Add (.bin .Add (.bin .Mult (.v 3) (.v 4)) (.bin .Mult (.int 907) (.ix (.v 0) (.int 2)))) (.int 29)) .nil)) (.int 2147483399)))
 (.cons (.ret (.bin .Mod (.bi .int (.cons (.bin .FloorDiv (.ix (.v 0) (.int 1)) (.int 89)) .nil)) (.v 1)))
 .nil))))))
def f__law_pull : List D → Mem → R D := runN (G__law_pull []) false 5 2 b__law_pull
abbrev s__law_one : Stmt := top 72
def N__law_one : List Str := ["bowl", "some"]
def C__law_one : Cfg := ⟨N__law_one, [(.fn "_law_pull")], [], cl⟩
def G__law_one (fs : List (List D → Mem → R D)) : Gam := ⟨fs, [], [2]⟩
def b__law_one : SL :=
 (.cons (.ret (.ix (.v 1) (.call 0 (.cons (.v 0) (.cons (.bi .len (.cons (.v 1) .nil)) .nil)))))
 .nil)
def f__law_one : List D → Mem → R D := runN (G__law_one [f__law_pull]) false 2 2 b__law_one
abbrev s__law_words : Stmt := top 73
def N__law_words : List Str := ["bowl", "count", "abc", "found", "k", "word", "more", "at", "each"]
def C__law_words : Cfg := ⟨N__law_words, [(.fn "_law_pull"), (.fn "_law_one")], [], cl⟩
def G__law_words (fs : List (List D → Mem → R D)) : Gam := ⟨fs, [], [2]⟩
def l__law_words_2 : SL :=
 (.cons (.set (.nm 5) (.bin .Add (.v 5) (.call 1 (.cons (.v 0) (.cons (.bin .Add (.v 2) (.str "0123456789")) .nil)))))
 .nil)
def l__law_words_1 : SL :=
 (.cons (.set (.nm 5) (.call 1 (.cons (.v 0) (.cons (.v 2) .nil))))
 (.cons (.for (.nm 6) (.rng (.cons (.call 1 (.cons (.v 0) (.cons (.lst (.cons (.int 0) (.cons (.int 0) (.cons (.int 1) (.cons (.int 7) .nil))))) .nil))) .nil)) l__law_words_2)
 (.cons (.ife (.cmp .Eq (.call 0 (.cons (.v 0) (.cons (.int 6) .nil))) (.int 0)) (.cons (.set (.nm 5) (.call 1 (.cons (.v 0) (.cons (.lst (.cons (.str "islands") (.cons (.str "needed") (.cons (.str "ends") (.cons (.str "ways") (.cons (.str "in") (.cons (.str "out") .nil))))))) .nil))))
  .nil) .nil)
 (.cons (.app (.v 3) (.ix (.lc [8] (.v 8) (.nm 8) (.seq (.bin .Add (.lst (.cons (.v 5) .nil)) (.lc [7] (.bin .Add (.str "q") (.bi .str (.cons (.v 7) .nil))) (.nm 7) (.rng (.cons (.v 1) .nil)) .no))) (.yes (.cmp .NotIn (.v 8) (.v 3)))) (.int 0)))
 .nil))))
def b__law_words : SL :=
 (.cons (.set (.tup (.cons (.nm 2) (.cons (.nm 3) .nil))) (.tup (.cons (.str "abcdefghijklmnopqrstuvwxyz") (.cons (.mlst .nil) .nil))))
 (.cons (.for (.nm 4) (.rng (.cons (.v 1) .nil)) l__law_words_1)
 (.cons (.ret (.bi .tuple (.cons (.v 3) .nil)))
 .nil)))
def f__law_words : List D → Mem → R D := runN (G__law_words [f__law_pull, f__law_one]) false 9 2 b__law_words
abbrev s__law_isles : Stmt := top 74
def N__law_isles : List Str := ["bowl", "most"]
def C__law_isles : Cfg := ⟨N__law_isles, [(.fn "_law_words"), (.fn "_law_pull")], [], cl⟩
def G__law_isles (fs : List (List D → Mem → R D)) : Gam := ⟨fs, [], [2]⟩
def b__law_isles : SL :=
 (.cons (.ret (.call 0 (.cons (.v 0) (.cons (.bin .Add (.int 2) (.call 1 (.cons (.v 0) (.cons (.bin .Sub (.v 1) (.int 1)) .nil)))) .nil))))
 .nil)
def f__law_isles : List D → Mem → R D := runN (G__law_isles [f__law_words, f__law_pull]) false 2 2 b__law_isles
abbrev s__law_joints : Stmt := top 75
def N__law_joints : List Str := ["size", "found", "here", "there"]
def C__law_joints : Cfg := ⟨N__law_joints, [], [], cl⟩
def G__law_joints (fs : List (List D → Mem → R D)) : Gam := ⟨fs, [], [2]⟩
def l__law_joints_1 : SL :=
 (.cons (.set (.nm 1) (.bin .Add (.v 1) (.lc [3] (.tup (.cons (.v 2) (.cons (.v 3) .nil))) (.nm 3) (.rng (.cons (.bin .Add (.v 2) (.int 1)) (.cons (.v 0) .nil))) .no)))
 .nil)
def b__law_joints : SL :=
 (.cons (.set (.nm 1) (.lst .nil))
 (.cons (.for (.nm 2) (.rng (.cons (.v 0) .nil)) l__law_joints_1)
 (.cons (.ret (.v 1))
 .nil)))
def f__law_joints : List D → Mem → R D := runN (G__law_joints []) false 4 1 b__law_joints
abbrev s__law_few : Stmt := top 76
def N__law_few : List Str := ["bowl", "size", "most", "empty", "joint"]
def C__law_few : Cfg := ⟨N__law_few, [(.fn "_law_joints"), (.fn "_law_pull")], [], cl⟩
def G__law_few (fs : List (List D → Mem → R D)) : Gam := ⟨fs, [], [2]⟩
def b__law_few : SL :=
 (.cons (.set (.nm 3) (.cmp .Eq (.call 1 (.cons (.v 0) (.cons (.int 3) .nil))) (.int 0)))
 (.cons (.ret (.bi .tuple (.cons (.lc [4] (.ife (.and (.v 3) (.cmp .Eq (.call 1 (.cons (.v 0) (.cons (.int 2) .nil))) (.int 0))) (.int 0) (.call 1 (.cons (.v 0) (.cons (.bin .Add (.v 2) (.int 1)) .nil)))) (.nm 4) (.seq (.call 0 (.cons (.v 1) .nil))) .no) .nil)))
 .nil))
def f__law_few : List D → Mem → R D := runN (G__law_few [f__law_joints, f__law_pull]) false 5 3 b__law_few
abbrev s__law_leads : Stmt := top 77
def N__law_leads : List Str := ["nums", "size", "lot", "total", "here", "there", "number"]
def C__law_leads : Cfg := ⟨N__law_leads, [(.fn "_law_joints")], [], cl⟩
def G__law_leads (fs : List (List D → Mem → R D)) : Gam := ⟨fs, [], [2]⟩
def l__law_leads_1 : SL :=
 (.cons (.ife (.cmp .NotEq (.cmp .In (.v 4) (.v 2)) (.cmp .In (.v 5) (.v 2))) (.cons (.set (.nm 3) (.bin .Add (.v 3) (.v 6)))
  .nil) .nil)
 .nil)
def b__law_leads : SL :=
 (.cons (.set (.nm 3) (.int 0))
 (.cons (.for (.tup (.cons (.tup (.cons (.nm 4) (.cons (.nm 5) .nil))) (.cons (.nm 6) .nil))) (.zip (.cons (.call 0 (.cons (.v 1) .nil)) (.cons (.v 0) .nil))) l__law_leads_1)
 (.cons (.ret (.v 3))
 .nil)))
def f__law_leads : List D → Mem → R D := runN (G__law_leads [f__law_joints]) false 7 3 b__law_leads
abbrev s__law_is_whole : Stmt := top 78
def N__law_is_whole : List Str := ["thing", "low", "high"]
def C__law_is_whole : Cfg := ⟨N__law_is_whole, [], [], cl⟩
def G__law_is_whole (fs : List (List D → Mem → R D)) : Gam := ⟨fs, [], [2]⟩
def b__law_is_whole : SL :=
 (.cons (.ife (.or (.not (.isi .int (.v 0))) (.or (.isi .bool (.v 0)) (.cmp .Lt (.v 0) (.v 1)))) (.cons (.ret (.bl false))
  .nil) .nil)
 (.cons (.ret (.or (.cmp .Is (.v 2) .non) (.cmp .LtE (.v 0) (.v 2))))
 .nil))
def f__law_is_whole : List D → Mem → R D := runN (G__law_is_whole []) false 3 3 b__law_is_whole
abbrev s__law_spots : Stmt := top 79
def N__law_spots : List Str := ["isles", "thing", "spots", "at"]
def C__law_spots : Cfg := ⟨N__law_spots, [], [], cl⟩
def G__law_spots (fs : List (List D → Mem → R D)) : Gam := ⟨fs, [], [2]⟩
def b__law_spots : SL :=
 (.cons (.ife (.or (.not (.isi .tuple (.v 1))) (.not (.chain .Lt .Lt (.int 0) (.bi .len (.cons (.v 1) .nil)) (.bi .len (.cons (.v 0) .nil))))) (.cons (.ret .non)
  .nil) .nil)
 (.cons (.set (.nm 2) (.lc [3] (.v 3) (.nm 3) (.rng (.cons (.bi .len (.cons (.v 0) .nil)) .nil)) (.yes (.cmp .In (.ix (.v 0) (.v 3)) (.v 1)))))
 (.cons (.ret (.ife (.cmp .Eq (.v 1) (.bi .tuple (.cons (.lc [3] (.ix (.v 0) (.v 3)) (.nm 3) (.seq (.v 2)) .no) .nil))) (.v 2) .non))
 .nil)))
def f__law_spots : List D → Mem → R D := runN (G__law_spots []) false 4 2 b__law_spots
abbrev s__law_is_pair : Stmt := top 80
def N__law_is_pair : List Str := ["thing"]
def C__law_is_pair : Cfg := ⟨N__law_is_pair, [], [], cl⟩
def G__law_is_pair (fs : List (List D → Mem → R D)) : Gam := ⟨fs, [], [2]⟩
def b__law_is_pair : SL :=
 (.cons (.ret (.and (.isi .tuple (.v 0)) (.cmp .Eq (.bi .len (.cons (.v 0) .nil)) (.int 2))))
 .nil)
def f__law_is_pair : List D → Mem → R D := runN (G__law_is_pair []) false 1 1 b__law_is_pair
abbrev s__law_between_fits : Stmt := top 81
def N__law_between_fits : List Str := ["isles", "nums", "said", "paper", "first", "last", "count", "spots", "given", "joint", "number", "part", "word"]
def C__law_between_fits : Cfg := ⟨N__law_between_fits, [(.fn "_law_is_whole"), (.fn "_law_joints"), (.fn "_law_leads"), (.fn "_law_is_pair"), (.fn "_law_spots")], [], cl⟩
def G__law_between_fits (fs : List (List D → Mem → R D)) : Gam := ⟨fs, [], [2]⟩
def l__law_between_fits_1 : SL :=
 (.cons (.ife (.not (.call 0 (.cons (.v 11) (.cons (.bin .Sub (.int 0) (.v 10)) (.cons (.v 10) .nil))))) (.cons (.ret (.bl false))
  .nil) .nil)
 (.cons (.set (.ix (.v 8) (.ix (.v 9) (.int 0))) (.bin .Add (.ix (.v 8) (.ix (.v 9) (.int 0))) (.v 11)))
 (.cons (.set (.ix (.v 8) (.ix (.v 9) (.int 1))) (.bin .Sub (.ix (.v 8) (.ix (.v 9) (.int 1))) (.v 11)))
 .nil)))
def b__law_between_fits : SL :=
 (.cons (.set (.tup (.cons (.nm 4) (.cons (.nm 5) (.cons (.nm 6) .nil)))) (.v 2))
 (.cons (.ife (.or (.cmp .NotIn (.v 4) (.v 0)) (.or (.cmp .NotIn (.v 5) (.v 0)) (.or (.cmp .Eq (.v 4) (.v 5)) (.not (.call 0 (.cons (.v 6) (.cons (.int 0) (.cons .non .nil)))))))) (.cons (.ret (.bl false))
  .nil) .nil)
 (.cons (.set (.nm 7) (.ife (.call 3 (.cons (.v 3) .nil)) (.call 4 (.cons (.v 0) (.cons (.ix (.v 3) (.int 0)) .nil))) .non))
 (.cons (.ife (.or (.cmp .Is (.v 7) .non) (.or (.cmp .Eq (.cmp .In (.v 4) (.ix (.v 3) (.int 0))) (.cmp .In (.v 5) (.ix (.v 3) (.int 0)))) (.cmp .NotEq (.call 2 (.cons (.v 1) (.cons (.bi .len (.cons (.v 0) .nil)) (.cons (.v 7) .nil)))) (.v 6)))) (.cons (.ret (.bl false))
  .nil) .nil)
 (.cons (.ife (.or (.not (.isi .tuple (.ix (.v 3) (.int 1)))) (.cmp .NotEq (.bi .len (.cons (.ix (.v 3) (.int 1)) .nil)) (.bi .len (.cons (.v 1) .nil)))) (.cons (.ret (.bl false))
  .nil) .nil)
 (.cons (.set (.nm 8) (.mbin .Mult (.lst (.cons (.int 0) .nil)) (.bi .len (.cons (.v 0) .nil))))
 (.cons (.for (.tup (.cons (.nm 9) (.cons (.nm 10) (.cons (.nm 11) .nil)))) (.zip (.cons (.call 1 (.cons (.bi .len (.cons (.v 0) .nil)) .nil)) (.cons (.v 1) (.cons (.ix (.v 3) (.int 1)) .nil)))) l__law_between_fits_1)
 (.cons (.ret (.cmp .Eq (.v 8) (.lc [12] (.bin .Sub (.bin .Mult (.bi .int (.cons (.cmp .Eq (.v 12) (.v 4)) .nil)) (.v 6)) (.bin .Mult (.bi .int (.cons (.cmp .Eq (.v 12) (.v 5)) .nil)) (.v 6))) (.nm 12) (.seq (.v 0)) .no)))
 .nil))))))))
def f__law_between_fits : List D → Mem → R D := runN (G__law_between_fits [f__law_is_whole, f__law_joints, f__law_leads, f__law_is_pair, f__law_spots]) false 13 4 b__law_between_fits
abbrev s__law_read : Stmt := top 82
def N__law_read : List Str := ["page", "words", "abc", "isles", "word", "sign"]
def C__law_read : Cfg := ⟨N__law_read, [], [], cl⟩
def G__law_read (fs : List (List D → Mem → R D)) : Gam := ⟨fs, [], [2]⟩
def l__law_read_1 : SL :=
 (.cons (.ife (.or (.not (.chain .LtE .LtE (.int 1) (.bi .len (.cons (.v 4) .nil)) (.int 8))) (.cmp .NotIn (.ix (.v 4) (.int 0)) (.v 2))) (.cons (.ret .non)
  .nil) .nil)
 (.cons (.ife (.cmp .NotEq (.lc [5] (.v 5) (.nm 5) (.seq (.v 4)) (.yes (.cmp .NotIn (.v 5) (.bin .Add (.v 2) (.str "0123456789"))))) (.lst .nil)) (.cons (.ret .non)
  .nil) .nil)
 .nil))
def b__law_read : SL :=
 (.cons (.set (.tup (.cons (.nm 1) (.cons (.nm 2) .nil))) (.tup (.cons (.sm .split (.v 0) (.cons (.str " ") .nil)) (.cons (.str "abcdefghijklmnopqrstuvwxyz") .nil))))
 (.cons (.set (.nm 3) (.bi .tuple (.cons (.sl (.v 1) (.yes (.int 1)) .no) .nil)))
 (.cons (.ife (.or (.cmp .NotEq (.ix (.v 1) (.int 0)) (.str "islands")) (.or (.not (.chain .LtE .LtE (.int 2) (.bi .len (.cons (.v 3) .nil)) (.int 5))) (.cmp .Lt (.lenset (.v 3)) (.bi .len (.cons (.v 3) .nil))))) (.cons (.ret .non)
  .nil) .nil)
 (.cons (.for (.nm 4) (.seq (.v 3)) l__law_read_1)
 (.cons (.ret (.v 3))
 .nil)))))
def f__law_read : List D → Mem → R D := runN (G__law_read []) false 6 1 b__law_read
abbrev s__law_changed : Stmt := top 83
def N__law_changed : List Str := ["bowl", "page", "way", "at", "sign", "words", "spot", "place"]
def C__law_changed : Cfg := ⟨N__law_changed, [(.fn "_law_pull"), (.fn "_law_one")], [], cl⟩
def G__law_changed (fs : List (List D → Mem → R D)) : Gam := ⟨fs, [], [2]⟩
def b__law_changed : SL :=
 (.cons (.par2 2 3 (.cons (.call 0 (.cons (.v 0) (.cons (.int 6) .nil))) (.cons (.call 0 (.cons (.v 0) (.cons (.bin .Add (.bi .len (.cons (.v 1) .nil)) (.int 1)) .nil))) .nil)))
 (.cons (.set (.nm 4) (.call 1 (.cons (.v 0) (.cons (.str "abcz0123456789 \n.AZ-_") .nil))))
 (.cons (.ife (.cmp .Eq (.v 2) (.int 0)) (.cons (.ret (.bin .Add (.bin .Add (.sl (.v 1) .no (.yes (.v 3))) (.v 4)) (.sl (.v 1) (.yes (.v 3)) .no)))
  .nil) .nil)
 (.cons (.ife (.cmp .Eq (.v 2) (.int 1)) (.cons (.ret (.bin .Add (.sl (.v 1) .no (.yes (.v 3))) (.sl (.v 1) (.yes (.bin .Add (.v 3) (.int 1))) .no)))
  .nil) .nil)
 (.cons (.ife (.cmp .Eq (.v 2) (.int 2)) (.cons (.ret (.bin .Add (.bin .Add (.sl (.v 1) .no (.yes (.v 3))) (.v 4)) (.sl (.v 1) (.yes (.bin .Add (.v 3) (.int 1))) .no)))
  .nil) .nil)
 (.cons (.set (.nm 5) (.msm .split (.v 1) (.cons (.str " ") .nil)))
 (.cons (.par2 6 7 (.cons (.call 0 (.cons (.v 0) (.cons (.bi .len (.cons (.v 5) .nil)) .nil))) (.cons (.call 0 (.cons (.v 0) (.cons (.bi .len (.cons (.v 5) .nil)) .nil))) .nil)))
 (.cons (.ife (.cmp .Eq (.v 2) (.int 3)) (.cons (.ret (.sm .join (.str " ") (.cons (.bin .Add (.bin .Add (.sl (.v 5) .no (.yes (.v 6))) (.lst (.cons (.ix (.v 5) (.v 7)) .nil))) (.sl (.v 5) (.yes (.v 6)) .no)) .nil)))
  .nil) .nil)
 (.cons (.ife (.cmp .Eq (.v 2) (.int 4)) (.cons (.ret (.sm .join (.str " ") (.cons (.bin .Add (.sl (.v 5) .no (.yes (.v 6))) (.sl (.v 5) (.yes (.bin .Add (.v 6) (.int 1))) .no)) .nil)))
  .nil) .nil)
 (.cons (.set (.tup (.cons (.ix (.v 5) (.v 6)) (.cons (.ix (.v 5) (.v 7)) .nil))) (.tup (.cons (.ix (.v 5) (.v 7)) (.cons (.ix (.v 5) (.v 6)) .nil))))
 (.cons (.ret (.sm .join (.str " ") (.cons (.v 5) .nil)))
 .nil)))))))))))
def f__law_changed : List D → Mem → R D := runN (G__law_changed [f__law_pull, f__law_one]) false 8 2 b__law_changed
abbrev s__law_right : Stmt := top 84
def N__law_right : List Str := ["bowl", "isles", "size", "nums", "first", "last", "page", "said", "paper", "turn", "other_page", "found", "asked", "due"]
def C__law_right : Cfg := ⟨N__law_right, [(.fn "accepts"), (.fn "_law_between_fits"), (.fn "_law_joints"), (.fn "_law_read"), (.fn "_law_pull"), (.fn "_law_changed"), (.fn "certify_between"), (.init 0), (.fn "_law_few"), (.fn "_law_isles")], [], cl⟩
def G__law_right (fs : List (List D → Mem → R D)) : Gam := ⟨fs, [], [2]⟩
def l__law_right_1 : SL :=
 (.cons (.set (.nm 10) (.call 5 (.cons (.v 0) (.cons (.v 6) .nil))))
 (.cons (.ife (.cmp .Eq (.call 4 (.cons (.v 0) (.cons (.int 4) .nil))) (.int 0)) (.cons (.set (.nm 10) (.call 5 (.cons (.v 0) (.cons (.v 10) .nil))))
  .nil) .nil)
 (.cons (.par2 11 12 (.cons (.call 3 (.cons (.v 10) .nil)) (.cons (.bin .Add (.bin .Add (.sl (.v 7) .no (.yes (.int 1))) (.tup (.cons (.v 10) .nil))) (.sl (.v 7) (.yes (.int 2)) .no)) .nil)))
 (.cons (.set (.nm 13) (.and (.cmp .IsNot (.v 11) .non) (.cmp .Eq (.bi .len (.cons (.call 2 (.cons (.bi .len (.cons (.v 11) .nil)) .nil)) .nil)) (.bi .len (.cons (.v 3) .nil)))))
 (.cons (.set (.nm 13) (.and (.v 13) (.call 1 (.cons (.v 11) (.cons (.v 3) (.cons (.sl (.v 7) (.yes (.int 3)) .no) (.cons (.v 8) .nil)))))))
 (.cons (.ife (.cmp .NotEq (.bi .repr (.cons (.call 0 (.cons (.v 12) (.cons (.v 8) .nil))) .nil)) (.bi .repr (.cons (.v 13) .nil))) (.cons (.ret (.bl false))
  .nil) .nil)
 .nil))))))
def b__law_right : SL :=
 (.cons (.set (.nm 1) (.call 9 (.cons (.v 0) (.cons (.int 5) .nil))))
 (.cons (.set (.nm 2) (.bi .len (.cons (.v 1) .nil)))
 (.cons (.par2 3 4 (.cons (.call 8 (.cons (.v 0) (.cons (.v 2) (.cons (.int 9) .nil)))) (.cons (.call 4 (.cons (.v 0) (.cons (.v 2) .nil))) .nil)))
 (.cons (.set (.nm 5) (.bin .Mod (.bi .int (.cons (.bin .Add (.bin .Add (.v 4) (.int 1)) (.call 4 (.cons (.v 0) (.cons (.bin .Sub (.v 2) (.int 1)) .nil)))) .nil)) (.v 2)))
 (.cons (.set (.nm 6) (.sm .join (.str " ") (.cons (.bin .Add (.tup (.cons (.str "islands") .nil)) (.v 1)) .nil)))
 (.cons (.set (.tup (.cons (.nm 7) (.cons (.nm 8) .nil))) (.call 6 (.cons (.mk true 7 0 (.cons (.v 1) .nil)) (.cons (.v 3) (.cons (.ix (.v 1) (.v 4)) (.cons (.ix (.v 1) (.v 5)) .nil))))))
 (.cons (.ife (.or (.cmp .NotEq (.ix (.v 7) (.int 1)) (.v 6)) (.or (.cmp .NotEq (.call 3 (.cons (.v 6) .nil)) (.v 1)) (.cmp .IsNot (.call 0 (.cons (.v 7) (.cons (.v 8) .nil))) (.bl true)))) (.cons (.ret (.bl false))
  .nil) .nil)
 (.cons (.for (.nm 9) (.rng (.cons (.int 16) .nil)) l__law_right_1)
 (.cons (.ret (.bl true))
 .nil)))))))))
def f__law_right : List D → Mem → R D := runN (G__law_right [f_accepts, f__law_between_fits, f__law_joints, f__law_read, f__law_pull, f__law_changed, f_certify_between, f_Sea___init__, f__law_few, f__law_isles]) false 14 1 b__law_right
abbrev s_law : Stmt := top 85
def N_law : List Str := ["script", "k"]
def C_law : Cfg := ⟨N_law, [(.fn "_law_right"), (.fn "_law_bowl")], [], cl⟩
def G_law (fs : List (List D → Mem → R D)) : Gam := ⟨fs, [], [2]⟩
def b_law : SL :=
 (.cons (.ret (.bi .all (.cons (.lc [1] (.call 0 (.cons (.call 1 (.cons (.v 0) (.cons (.v 1) .nil))) .nil)) (.nm 1) (.rng (.cons (.bi .max (.cons (.int 2) (.cons (.bi .min (.cons (.bi .len (.cons (.v 0) .nil)) (.cons (.int 4) .nil))) .nil))) .nil)) .no) .nil)))
 .nil)
def f_law : List D → Mem → R D := runN (G_law [f__law_right, f__law_bowl]) false 2 1 b_law

end K85

set_option Elab.async false
set_option linter.all false
set_option maxRecDepth 100000
set_option maxHeartbeats 4000000
namespace K85
open PySem PySem.Spec PyProof.Rows L2 Ev
/-! the program's defs, computed -/
abbrev spD (l : List (Nat × Nat)) : D := .tup (l.map fun p => .tup [.int (p.1 : Nat), .int (p.2 : Nat)])
abbrev intT (l : List Int) : D := .tup (l.map .int)
abbrev blT (l : List Bool) : D := .tup (l.map .bl)
theorem ltb_bl {n : Nat} {l : List Bool} : D.ltb n (blT l) = true := ltbL_map fun _ _ => rfl
theorem ltb_int {n : Nat} {l : List Int} : D.ltb n (intT l) = true := ltbL_map fun _ _ => rfl
theorem toP_bl (l : List Bool) : toP (blT l) = some (Kd.bl.tup.p l) := by
  simp only [toP]
  rw [go_map (g := Kd.bl.p) fun _ => rfl]
  rfl
theorem in_bl {b : Bool} {l : List Bool} {m : Mem} : opCmp .In (.bl b) (blT l) m = some (decide (b ∈ l)) := by
  simp only [opCmp, inD, deref]
  rw [go_map (g := Kd.bl.p) fun _ => rfl]
  have h1 := Kd.bl.sh (by decide) b
  have h2 : SeqAt.shaped (.list (l.map Kd.bl.p)) = true := Kd.bl.lst.sh (by decide) l
  simp only [toP]
  rw [show (PyData.bool b) = Kd.bl.p b from rfl, h1, h2]
  simp only [Bool.and_self, if_true]
  rw [any_map Kd.bl b l]
def setsOf : Nat → List (List Bool)
  | 0 => [[]]
  | n + 1 => (setsOf n).flatMap fun r => [r ++ [false], r ++ [true]]
theorem setsOf_len : ∀ n, (setsOf n).length = 2 ^ n
  | 0 => rfl
  | n + 1 => by
    have : ∀ l : List (List Bool), (l.flatMap fun r => [r ++ [false], r ++ [true]]).length = 2 * l.length := fun l => by
      induction l with
      | nil => rfl
      | cons a r ih => rw [List.flatMap_cons, List.length_append, ih]; simp; omega
    rw [setsOf, this, setsOf_len n, Nat.pow_succ]
    omega
theorem mem_setsOf : ∀ {n : Nat} {l : List Bool}, l ∈ setsOf n ↔ l.length = n
  | 0, l => by simp [setsOf]
  | n + 1, l => by
    simp only [setsOf, List.mem_flatMap, List.mem_cons, List.not_mem_nil, or_false]
    constructor
    · rintro ⟨r, hr, rfl | rfl⟩ <;> simp [mem_setsOf.mp hr]
    · intro h
      have hne : l ≠ [] := by intro e; subst e; simp at h
      refine ⟨l.dropLast, mem_setsOf.mpr (by simp [h]), ?_⟩
      have e := List.dropLast_concat_getLast hne
      cases hb : l.getLast hne with
      | false => left; rw [← hb]; exact e.symm
      | true => right; rw [← hb]; exact e.symm
theorem sizeOk_pow {n : Nat} (h : n ≤ 2 ^ 20) : Ev.sizeOk n = true := by
  unfold Ev.sizeOk lim
  exact decide_eq_true (by omega)
theorem blT_snoc {r : List Bool} {b : Bool} : D.tup (List.map D.bl r ++ [D.bl b]) = blT (r ++ [b]) := by simp [blT]
theorem e_sets_of {n : Nat} {m : Mem} (hn : n ≤ 20) (hm : memLt m.length m = true) : f_sets_of [.int n] m = .ok (.lst ((setsOf n).map blT)) m := by
  refine run_rt rfl hm (ltbL_map fun _ _ => ltb_bl) rfl ?_
  · unfold b_sets_of
    simp only [List.map_cons, List.map_nil, List.length_cons, List.length_nil, List.reduceReplicate, Nat.reduceAdd, Nat.reduceSub, List.cons_append, List.nil_append]
    rw [evB_nx (evS_set (d := .lst ([[]].map blT)) (m' := m) (by simp -implicitDefEqProofs [evE, evL, Ev.sizeOk, lim]))]
    obtain ⟨ρ', e, t, rfl⟩ := forL_go (m := m) (src := []) (e := fun k : Nat => D.int (k : Nat)) (g := fun d ρ1 m2 => (asT (G_sets_of []) (.nm 2) d ρ1 m2).bind fun ρ2 m3 => evB (G_sets_of []) l_sets_of_1 ρ2 m3) rfl
      (fun i ρ => ∃ t, ρ = [some (.int n), some (.lst ((setsOf i).map blT)), t, none, none]) (List.range n) 0 [some (.int n), some (.lst ([[]].map blT)), none, none, none] ⟨none, rfl⟩ (by
        rintro i a ρ hi ⟨t, rfl⟩
        have hin : i < n := by
          have := (List.getElem?_eq_some_iff.mp hi).1
          simpa using this
        refine ⟨[some (.int n), some (.lst ((setsOf (0 + i + 1)).map blT)), some (.int a), none, none], ?_, _, rfl⟩
        unfold l_sets_of_1
        simp -implicitDefEqProofs only [evB, evS, evE, evL, evI, evC, evO, asT, asL, wipeD, walkD, walkS, deref, R.bind_ok, ofO_some, onB_true, onB_false, toB, TL.len, partI, setAll, List.getElem?_cons_zero, List.getElem?_cons_succ, List.set_cons_zero, List.set_cons_succ, List.length_cons, List.length_nil, if_true, Option.map_some, Bool.not_true, Bool.not_false]
        rw [lcM_map (o := fun r => [blT (r ++ [false]), blT (r ++ [true])]) rfl ?h]
        case h =>
          intro r hr
          have hlen : r.length ≤ 20 := by have := mem_setsOf.mp hr; omega
          have hz : Ev.sizeOk (r.length + 1) = true := by simp [Ev.sizeOk, lim]; omega
          have hz2 : r.length ≤ 16777215 := by omega
          simp -implicitDefEqProofs [lcL, srcOk, evE, evL, asT, opBin, deref, hz, Ev.sizeOk, lim, hz2]
        have hl : (List.flatMap (fun r => [blT (r ++ [false]), blT (r ++ [true])]) (setsOf (0 + i))) = (setsOf (0 + i + 1)).map blT := by
          simp [setsOf, List.map_flatMap]
        have hz : Ev.sizeOk ((setsOf (0 + i + 1)).map blT).length = true := by
          exact sizeOk_pow (by rw [List.length_map, setsOf_len]; exact Nat.pow_le_pow_right (by decide) (by omega))
        rw [hl]
        simp -implicitDefEqProofs only [evB, evS, evE, evL, evI, evC, evO, asT, asL, wipeD, walkD, walkS, deref, R.bind_ok, ofO_some, onB_true, onB_false, toB, TL.len, partI, setAll, List.getElem?_cons_zero, List.getElem?_cons_succ, List.set_cons_zero, List.set_cons_succ, List.length_cons, List.length_nil, if_true, Option.map_some, Bool.not_true, Bool.not_false, hz]
        rfl)
    rw [evB_nx (ρ' := [some (.int n), some (.lst ((setsOf n).map blT)), t, none, none]) (m' := m) ?hf]
    case hf =>
      rw [evS_for (w := ((List.range n).map fun k => .int (k : Nat), [])) (m' := m) ?hi]
      case hi =>
        simp -implicitDefEqProofs only [evB, evS, evE, evL, evI, evC, evO, asT, asL, wipeD, walkD, walkS, deref, R.bind_ok, ofO_some, onB_true, onB_false, toB, TL.len, partI, setAll, List.getElem?_cons_zero, List.getElem?_cons_succ, List.set_cons_zero, List.set_cons_succ, List.length_cons, List.length_nil, if_true, Option.map_some, Bool.not_true, Bool.not_false, rngI]
        rw [if_pos (by omega)]
        simp
      rw [show (0 + (List.range n).length) = n by simp] at e
      exact e
    rw [evB_rt (evS_ret (d := .lst ((setsOf n).map blT)) (m' := m) rfl)]
    rfl
def lotsOf (n : Nat) : List (List Bool) := (setsOf n).filter fun l => decide (true ∈ l) && decide (false ∈ l)
theorem e_lots_of {n : Nat} {m : Mem} (hn : n ≤ 20) (hm : memLt m.length m = true) : f_lots_of [.int n] m = .ok (.lst ((lotsOf n).map blT)) m := by
  refine run_rt rfl hm (ltbL_map fun _ _ => ltb_bl) rfl ?_
  · unfold b_lots_of
    simp only [List.map_cons, List.map_nil, List.length_cons, List.length_nil, List.reduceReplicate, Nat.reduceAdd, Nat.reduceSub, List.cons_append, List.nil_append]
    rw [evB_rt (evS_ret (d := .lst ((lotsOf n).map blT)) (m' := m) ?h)]
    · rfl
    case h =>
      simp -implicitDefEqProofs only [evB, evS, evE, evL, evI, evC, evO, asT, asL, wipeD, walkD, walkS, deref, R.bind_ok, ofO_some, onB_true, onB_false, toB, TL.len, partI, setAll, List.getElem?_cons_zero, List.getElem?_cons_succ, List.set_cons_zero, List.set_cons_succ, List.length_cons, List.length_nil, if_true, Option.map_some, Bool.not_true, Bool.not_false, G_lots_of, e_sets_of hn hm]
      rw [lcL_if (p := fun l => decide (true ∈ l) && decide (false ∈ l)) (o := blT) rfl ?h]
      case h =>
        intro l hl
        simp -implicitDefEqProofs only [evB, evS, evE, evL, evI, evC, evO, asT, asL, wipeD, walkD, walkS, deref, R.bind_ok, ofO_some, onB_true, onB_false, toB, TL.len, partI, setAll, List.getElem?_cons_zero, List.getElem?_cons_succ, List.set_cons_zero, List.set_cons_succ, List.length_cons, List.length_nil, if_true, Option.map_some, Bool.not_true, Bool.not_false, in_bl]
        cases decide (true ∈ l) <;> cases decide (false ∈ l) <;> simp [toB]
      have hz : Ev.sizeOk (((lotsOf n)).map blT).length = true := by
        have h1 : (lotsOf n).length ≤ (setsOf n).length := List.length_filter_le ..
        have : 2 ^ n ≤ 2 ^ 20 := Nat.pow_le_pow_right (by decide) hn
        rw [setsOf_len] at h1
        exact sizeOk_pow (by rw [List.length_map]; omega)
      show (R.ok ((lotsOf n).map blT) m).bind _ = _
      simp -implicitDefEqProofs only [evB, evS, evE, evL, evI, evC, evO, asT, asL, wipeD, walkD, walkS, deref, R.bind_ok, ofO_some, onB_true, onB_false, toB, TL.len, partI, setAll, List.getElem?_cons_zero, List.getElem?_cons_succ, List.set_cons_zero, List.set_cons_succ, List.length_cons, List.length_nil, if_true, Option.map_some, Bool.not_true, Bool.not_false, hz]
/-! ### out_of -/
def outs (sp : List (Nat × Nat)) (nums : List Int) (lot : List Bool) : List Int := ((sp.zip nums).filter fun p => decide (lot[p.1.1]? ≠ lot[p.1.2]?)).map (·.2)
def outOf (sp : List (Nat × Nat)) (nums : List Int) (lot : List Bool) : Int := (outs sp nums lot).sum
theorem e_out_of {sp : List (Nat × Nat)} {nums : List Int} {lot : List Bool} {m : Mem} (hm : memLt m.length m = true) (hsp : ∀ p ∈ sp, p.1 < lot.length ∧ p.2 < lot.length) (hl : sp.length ≤ 100) :
    f_out_of [spD sp, intT nums, blT lot] m = .ok (.int (outOf sp nums lot)) m := by
  refine run_rt rfl hm rfl rfl ?_
  unfold b_out_of
  simp only [List.map_cons, List.map_nil, List.length_cons, List.length_nil, List.reduceReplicate, Nat.reduceAdd, Nat.reduceSub, List.cons_append, List.nil_append]
  rw [evB_rt (evS_ret (d := .int (outOf sp nums lot)) (m' := m) ?h)]
  · rfl
  case h =>
    simp -implicitDefEqProofs only [evB, evS, evE, evL, evI, evC, evO, asT, asL, wipeD, walkD, walkS, deref, R.bind_ok, ofO_some, onB_true, onB_false, toB, TL.len, partI, setAll, List.getElem?_cons_zero, List.getElem?_cons_succ, List.set_cons_zero, List.set_cons_succ, List.length_cons, List.length_nil, if_true, Option.map_some, Bool.not_true, Bool.not_false, spD, intT]
    rw [zip2_map, lcL_if (p := fun p => decide (lot[p.1.1]? ≠ lot[p.1.2]?)) (o := fun p => .int p.2) rfl ?t]
    case t =>
      rintro ⟨⟨i, j⟩, n⟩ hp
      have hb := hsp _ (List.of_mem_zip hp).1
      obtain ⟨x, hx⟩ : ∃ x, lot[i]? = some x := ⟨_, List.getElem?_eq_getElem hb.1⟩
      obtain ⟨y, hy⟩ : ∃ y, lot[j]? = some y := ⟨_, List.getElem?_eq_getElem hb.2⟩
      have e1 : atI (lot.map D.bl) (i : Int) = some (.bl x) := atI_map hx
      have e2 : atI (lot.map D.bl) (j : Int) = some (.bl y) := atI_map hy
      simp -implicitDefEqProofs only [evB, evS, evE, evL, evI, evC, evO, asT, asL, wipeD, walkD, walkS, deref, R.bind_ok, ofO_some, onB_true, onB_false, toB, TL.len, partI, setAll, List.getElem?_cons_zero, List.getElem?_cons_succ, List.set_cons_zero, List.set_cons_succ, List.length_cons, List.length_nil, if_true, Option.map_some, Bool.not_true, Bool.not_false, blT, ix_t, e1, e2, ne_bb, hx, hy]
      cases x <;> cases y <;> simp [toB]
    have hz : Ev.sizeOk (outs sp nums lot).length = true := by
      have h1 : (outs sp nums lot).length ≤ (sp.zip nums).length := by
        unfold outs
        rw [List.length_map]
        exact List.length_filter_le ..
      rw [List.length_zip] at h1
      exact sizeOk_pow (by omega)
    have he : (((sp.zip nums).filter fun p => decide (lot[p.1.1]? ≠ lot[p.1.2]?)).map fun p => D.int p.2) = (outs sp nums lot).map D.int := by simp [outs]
    rw [he]
    simp -implicitDefEqProofs only [evB, evS, evE, evL, evI, evC, evO, asT, asL, wipeD, walkD, walkS, deref, R.bind_ok, ofO_some, onB_true, onB_false, toB, TL.len, partI, setAll, List.getElem?_cons_zero, List.getElem?_cons_succ, List.set_cons_zero, List.set_cons_succ, List.length_cons, List.length_nil, if_true, Option.map_some, Bool.not_true, Bool.not_false, List.length_map, hz, bi_sum_l, intL_map]
    rfl
/-! ### the sea -/
def spans (n : Nat) : List (Nat × Nat) := (List.range n).flatMap fun i => (List.range (n - (i + 1))).map fun k => (i, i + 1 + k)
abbrev seaD (isles : List Str) : D := .obj 0 [.tup (isles.map .str), spD (spans isles.length)]
theorem ltb_str {n : Nat} {l : List Str} : D.ltb n (.tup (l.map .str)) = true := ltbL_map fun _ _ => rfl
theorem ltb_sp {n : Nat} {l : List (Nat × Nat)} : D.ltb n (spD l) = true := ltbL_map fun _ _ => rfl
section
variable {isles : List Str} {m : Mem}
theorem e_islands (hm : memLt m.length m = true) : f_Sea_islands [seaD isles] m = .ok (.tup (isles.map .str)) m := by
  refine run_rt rfl hm ltb_str rfl ?_
  unfold b_Sea_islands
  simp only [List.map_cons, List.map_nil, List.length_cons, List.length_nil, List.reduceReplicate, Nat.reduceAdd, Nat.reduceSub, List.cons_append, List.nil_append]
  rw [evB_rt (evS_ret (d := .tup (isles.map .str)) (m' := m) ?h)]
  · rfl
  case h => simp -implicitDefEqProofs only [evB, evS, evE, evL, evI, evC, evO, asT, asL, wipeD, walkD, walkS, deref, R.bind_ok, ofO_some, onB_true, onB_false, toB, TL.len, partI, setAll, List.getElem?_cons_zero, List.getElem?_cons_succ, List.set_cons_zero, List.set_cons_succ, List.length_cons, List.length_nil, if_true, Option.map_some, Bool.not_true, Bool.not_false, fldD]
theorem e_spans (hm : memLt m.length m = true) : f_Sea_spans [seaD isles] m = .ok (spD (spans isles.length)) m := by
  refine run_rt rfl hm ltb_sp rfl ?_
  unfold b_Sea_spans
  simp only [List.map_cons, List.map_nil, List.length_cons, List.length_nil, List.reduceReplicate, Nat.reduceAdd, Nat.reduceSub, List.cons_append, List.nil_append]
  rw [evB_rt (evS_ret (d := spD (spans isles.length)) (m' := m) ?h)]
  · rfl
  case h => simp -implicitDefEqProofs only [evB, evS, evE, evL, evI, evC, evO, asT, asL, wipeD, walkD, walkS, deref, R.bind_ok, ofO_some, onB_true, onB_false, toB, TL.len, partI, setAll, List.getElem?_cons_zero, List.getElem?_cons_succ, List.set_cons_zero, List.set_cons_succ, List.length_cons, List.length_nil, if_true, Option.map_some, Bool.not_true, Bool.not_false, fldD]
theorem e_len (hm : memLt m.length m = true) : f_Sea___len__ [seaD isles] m = .ok (.int (isles.length : Nat)) m := by
  refine run_rt rfl hm rfl rfl ?_
  unfold b_Sea___len__
  simp only [List.map_cons, List.map_nil, List.length_cons, List.length_nil, List.reduceReplicate, Nat.reduceAdd, Nat.reduceSub, List.cons_append, List.nil_append]
  rw [evB_rt (evS_ret (d := .int (isles.length : Nat)) (m' := m) ?h)]
  · rfl
  case h => simp -implicitDefEqProofs only [evB, evS, evE, evL, evI, evC, evO, asT, asL, wipeD, walkD, walkS, deref, R.bind_ok, ofO_some, onB_true, onB_false, toB, TL.len, partI, setAll, List.getElem?_cons_zero, List.getElem?_cons_succ, List.set_cons_zero, List.set_cons_succ, List.length_cons, List.length_nil, if_true, Option.map_some, Bool.not_true, Bool.not_false, fldD, bi_len_t, List.length_map]
theorem len_ok {n : Nat} (h : n ≤ 20) : Sq.len.ok (.int n) = true := by
  simp [Sq.ok]
  omega
def partLots (n i j : Nat) : List (List Bool) := (lotsOf n).filter fun l => decide (l[i]? = some true) && decide (l[j]? = some false)
theorem mem_lotsOf {n : Nat} {l : List Bool} : l ∈ lotsOf n ↔ l.length = n ∧ true ∈ l ∧ false ∈ l := by
  unfold lotsOf
  rw [List.mem_filter, mem_setsOf]
  simp
theorem e_parting {i j : Nat} (hn : isles.length ≤ 20) (hi : i < isles.length) (hj : j < isles.length) (hm : memLt m.length m = true) : f_parting_lots [seaD isles, .int i, .int j] m = .ok (.lst ((partLots isles.length i j).map blT)) m := by
  refine run_rt rfl hm (ltbL_map fun _ _ => ltb_bl) rfl ?_
  unfold b_parting_lots
  simp only [List.map_cons, List.map_nil, List.length_cons, List.length_nil, List.reduceReplicate, Nat.reduceAdd, Nat.reduceSub, List.cons_append, List.nil_append]
  rw [evB_rt (evS_ret (d := .lst ((partLots isles.length i j).map blT)) (m' := m) ?h)]
  · rfl
  case h =>
    simp -implicitDefEqProofs only [evB, evS, evE, evL, evI, evC, evO, asT, asL, wipeD, walkD, walkS, deref, R.bind_ok, ofO_some, onB_true, onB_false, toB, TL.len, partI, setAll, List.getElem?_cons_zero, List.getElem?_cons_succ, List.set_cons_zero, List.set_cons_succ, List.length_cons, List.length_nil, if_true, Option.map_some, Bool.not_true, Bool.not_false, G_parting_lots, clsOf, e_len hm, R.noexc_ok, len_ok hn, e_lots_of hn hm]
    rw [lcL_if (p := fun l => decide (l[i]? = some true) && decide (l[j]? = some false)) (o := blT) rfl ?t]
    case t =>
      intro l hl
      have hlen := (mem_lotsOf.mp hl).1
      obtain ⟨x, hx⟩ : ∃ x, l[i]? = some x := ⟨_, List.getElem?_eq_getElem (by omega)⟩
      obtain ⟨y, hy⟩ : ∃ y, l[j]? = some y := ⟨_, List.getElem?_eq_getElem (by omega)⟩
      have e1 : atI (l.map D.bl) (i : Int) = some (.bl x) := atI_map hx
      have e2 : atI (l.map D.bl) (j : Int) = some (.bl y) := atI_map hy
      simp -implicitDefEqProofs only [evB, evS, evE, evL, evI, evC, evO, asT, asL, wipeD, walkD, walkS, deref, R.bind_ok, ofO_some, onB_true, onB_false, toB, TL.len, partI, setAll, List.getElem?_cons_zero, List.getElem?_cons_succ, List.set_cons_zero, List.set_cons_succ, List.length_cons, List.length_nil, if_true, Option.map_some, Bool.not_true, Bool.not_false, blT, ix_t, e1, e2, hx, hy]
      cases x <;> cases y <;> simp [toB]
    have hz : Ev.sizeOk ((partLots isles.length i j).map blT).length = true := by
      have h1 : (partLots isles.length i j).length ≤ (lotsOf isles.length).length := List.length_filter_le ..
      have h2 : (lotsOf isles.length).length ≤ (setsOf isles.length).length := List.length_filter_le ..
      have : 2 ^ isles.length ≤ 2 ^ 20 := Nat.pow_le_pow_right (by decide) hn
      rw [setsOf_len] at h2
      exact sizeOk_pow (by rw [List.length_map]; omega)
    show (R.ok ((partLots isles.length i j).map blT) m).bind _ = _
    simp -implicitDefEqProofs only [evB, evS, evE, evL, evI, evC, evO, asT, asL, wipeD, walkD, walkS, deref, R.bind_ok, ofO_some, onB_true, onB_false, toB, TL.len, partI, setAll, List.getElem?_cons_zero, List.getElem?_cons_succ, List.set_cons_zero, List.set_cons_succ, List.length_cons, List.length_nil, if_true, Option.map_some, Bool.not_true, Bool.not_false, hz]
theorem spans_lt {n : Nat} {p : Nat × Nat} (h : p ∈ spans n) : p.1 < p.2 ∧ p.2 < n := by
  simp only [spans, List.mem_flatMap, List.mem_range, List.mem_map] at h
  obtain ⟨i, hi, k, hk, rfl⟩ := h
  simp
  omega
theorem spans_len_le : ∀ {n : Nat}, n ≤ 5 → (spans n).length ≤ 100 := by
  intro n h
  have : n = 0 ∨ n = 1 ∨ n = 2 ∨ n = 3 ∨ n = 4 ∨ n = 5 := by omega
  rcases this with rfl | rfl | rfl | rfl | rfl | rfl <;> decide
theorem partLots_ne {n i j : Nat} (hi : i < n) (hj : j < n) (hij : i ≠ j) : partLots n i j ≠ [] := by
  have h : ((List.range n).map fun k => decide (k = i)) ∈ partLots n i j := by
    unfold partLots
    rw [List.mem_filter, mem_lotsOf]
    refine ⟨⟨by simp, ?_, ?_⟩, ?_⟩
    · rw [List.mem_map]; exact ⟨i, List.mem_range.mpr hi, by simp⟩
    · rw [List.mem_map]; exact ⟨j, List.mem_range.mpr hj, by simp; omega⟩
    · simp [hi, hj]; omega
  intro e
  rw [e] at h
  cases h
def betw (n : Nat) (nums : List Int) (i j : Nat) : Int := (minI ((partLots n i j).map (outOf (spans n) nums))).getD 0
theorem betw_eq {n i j : Nat} {nums : List Int} (hi : i < n) (hj : j < n) (hij : i ≠ j) : minI ((partLots n i j).map (outOf (spans n) nums)) = some (betw n nums i j) := by
  unfold betw
  cases h : partLots n i j with
  | nil => exact absurd h (partLots_ne hi hj hij)
  | cons a r => rfl
theorem e_between_of {i j : Nat} {nums : List Int} (hn : isles.length ≤ 5) (hi : i < isles.length) (hj : j < isles.length) (hij : i ≠ j) (hm : memLt m.length m = true) :
    f_between_of [seaD isles, intT nums, .int i, .int j] m = .ok (.int (betw isles.length nums i j)) m := by
  refine run_rt rfl hm rfl rfl ?_
  unfold b_between_of
  simp only [List.map_cons, List.map_nil, List.length_cons, List.length_nil, List.reduceReplicate, Nat.reduceAdd, Nat.reduceSub, List.cons_append, List.nil_append]
  rw [evB_rt (evS_ret (d := .int (betw isles.length nums i j)) (m' := m) ?h)]
  · rfl
  case h =>
    simp -implicitDefEqProofs only [evB, evS, evE, evL, evI, evC, evO, asT, asL, wipeD, walkD, walkS, deref, R.bind_ok, ofO_some, onB_true, onB_false, toB, TL.len, partI, setAll, List.getElem?_cons_zero, List.getElem?_cons_succ, List.set_cons_zero, List.set_cons_succ, List.length_cons, List.length_nil, if_true, Option.map_some, Bool.not_true, Bool.not_false, G_between_of, e_parting (show isles.length ≤ 20 by omega) hi hj hm]
    rw [lcL_all (o := fun l => .int (outOf (spans isles.length) nums l)) rfl ?t]
    case t =>
      intro l hl
      have hlen := (mem_lotsOf.mp (List.mem_filter.mp hl).1).1
      simp -implicitDefEqProofs only [evB, evS, evE, evL, evI, evC, evO, asT, asL, wipeD, walkD, walkS, deref, R.bind_ok, ofO_some, onB_true, onB_false, toB, TL.len, partI, setAll, List.getElem?_cons_zero, List.getElem?_cons_succ, List.set_cons_zero, List.set_cons_succ, List.length_cons, List.length_nil, if_true, Option.map_some, Bool.not_true, Bool.not_false, clsOf, e_spans hm, R.noexc_ok, e_out_of (lot := l) (nums := nums) hm (fun p hp => by have := spans_lt hp; omega) (spans_len_le hn)]
    have hz : Ev.sizeOk (partLots isles.length i j).length = true := by
      have h1 : (partLots isles.length i j).length ≤ (lotsOf isles.length).length := List.length_filter_le ..
      have h2 : (lotsOf isles.length).length ≤ (setsOf isles.length).length := List.length_filter_le ..
      have : 2 ^ isles.length ≤ 2 ^ 20 := Nat.pow_le_pow_right (by decide) (by omega)
      rw [setsOf_len] at h2
      exact sizeOk_pow (by omega)
    have he : ((partLots isles.length i j).map fun l => D.int (outOf (spans isles.length) nums l)) = ((partLots isles.length i j).map (outOf (spans isles.length) nums)).map D.int := by simp
    rw [he]
    simp -implicitDefEqProofs only [evB, evS, evE, evL, evI, evC, evO, asT, asL, wipeD, walkD, walkS, deref, R.bind_ok, ofO_some, onB_true, onB_false, toB, TL.len, partI, setAll, List.getElem?_cons_zero, List.getElem?_cons_succ, List.set_cons_zero, List.set_cons_succ, List.length_cons, List.length_nil, if_true, Option.map_some, Bool.not_true, Bool.not_false, List.length_map, hz, bi_min_l, intL_map, betw_eq hi hj hij, Option.bind_some]
/-- the first lot whose cut is least -/
def cutOf (n : Nat) (nums : List Int) (i j : Nat) : List Bool := (((partLots n i j).filter fun l => decide (outOf (spans n) nums l = betw n nums i j))[0]?).getD []
theorem minI_mem {l : List Int} {a : Int} (h : minI l = some a) : a ∈ l ∧ ∀ y ∈ l, a ≤ y := by
  cases l with
  | nil => cases h
  | cons x r =>
    cases h
    obtain ⟨h1, h2, h3⟩ := foldl_min_le r x
    refine ⟨?_, fun y hy => ?_⟩
    · rcases h3 with h3 | h3
      · rw [h3]; exact List.mem_cons_self
      · exact List.mem_cons_of_mem _ h3
    · rcases List.mem_cons.mp hy with rfl | hy
      · exact h1
      · exact h2 y hy
theorem betw_spec {n i j : Nat} {nums : List Int} (hi : i < n) (hj : j < n) (hij : i ≠ j) : (∃ l ∈ partLots n i j, outOf (spans n) nums l = betw n nums i j) ∧ ∀ l ∈ partLots n i j, betw n nums i j ≤ outOf (spans n) nums l := by
  obtain ⟨h1, h2⟩ := minI_mem (betw_eq (nums := nums) hi hj hij)
  obtain ⟨l, hl, e⟩ := List.mem_map.mp h1
  exact ⟨⟨l, hl, e⟩, fun l hl => h2 _ (List.mem_map.mpr ⟨l, hl, rfl⟩)⟩
theorem cutOf_at {n i j : Nat} {nums : List Int} (hi : i < n) (hj : j < n) (hij : i ≠ j) : ((partLots n i j).filter fun l => decide (outOf (spans n) nums l = betw n nums i j))[0]? = some (cutOf n nums i j) ∧ cutOf n nums i j ∈ partLots n i j ∧ outOf (spans n) nums (cutOf n nums i j) = betw n nums i j := by
  obtain ⟨⟨l, hl, e⟩, _⟩ := betw_spec (nums := nums) hi hj hij
  have hm : l ∈ (partLots n i j).filter fun l => decide (outOf (spans n) nums l = betw n nums i j) := List.mem_filter.mpr ⟨hl, decide_eq_true e⟩
  unfold cutOf
  cases h : (partLots n i j).filter fun l => decide (outOf (spans n) nums l = betw n nums i j) with
  | nil => rw [h] at hm; cases hm
  | cons a r =>
    have ha : a ∈ (partLots n i j).filter fun l => decide (outOf (spans n) nums l = betw n nums i j) := by rw [h]; exact List.mem_cons_self
    obtain ⟨h1, h2⟩ := List.mem_filter.mp ha
    exact ⟨rfl, h1, of_decide_eq_true h2⟩
theorem e_cut_of {i j : Nat} {nums : List Int} (hn : isles.length ≤ 5) (hi : i < isles.length) (hj : j < isles.length) (hij : i ≠ j) (hm : memLt m.length m = true) :
    f_cut_of [seaD isles, intT nums, .int i, .int j] m = .ok (blT (cutOf isles.length nums i j)) m := by
  refine run_rt rfl hm ltb_bl rfl ?_
  unfold b_cut_of
  simp only [List.map_cons, List.map_nil, List.length_cons, List.length_nil, List.reduceReplicate, Nat.reduceAdd, Nat.reduceSub, List.cons_append, List.nil_append]
  rw [evB_nx (evS_set (d := .int (betw isles.length nums i j)) (m' := m) ?h1)]
  case h1 => simp -implicitDefEqProofs only [evB, evS, evE, evL, evI, evC, evO, asT, asL, wipeD, walkD, walkS, deref, R.bind_ok, ofO_some, onB_true, onB_false, toB, TL.len, partI, setAll, List.getElem?_cons_zero, List.getElem?_cons_succ, List.set_cons_zero, List.set_cons_succ, List.length_cons, List.length_nil, if_true, Option.map_some, Bool.not_true, Bool.not_false, G_cut_of, e_between_of hn hi hj hij hm]
  rw [evB_rt (evS_ret (d := blT (cutOf isles.length nums i j)) (m' := m) ?h)]
  · rfl
  case h =>
    simp -implicitDefEqProofs only [evB, evS, evE, evL, evI, evC, evO, asT, asL, wipeD, walkD, walkS, deref, R.bind_ok, ofO_some, onB_true, onB_false, toB, TL.len, partI, setAll, List.getElem?_cons_zero, List.getElem?_cons_succ, List.set_cons_zero, List.set_cons_succ, List.length_cons, List.length_nil, if_true, Option.map_some, Bool.not_true, Bool.not_false, G_cut_of, e_parting (show isles.length ≤ 20 by omega) hi hj hm]
    rw [lcL_if (p := fun l => decide (outOf (spans isles.length) nums l = betw isles.length nums i j)) (o := blT) rfl ?t]
    case t =>
      intro l hl
      have hlen := (mem_lotsOf.mp (List.mem_filter.mp hl).1).1
      simp -implicitDefEqProofs only [evB, evS, evE, evL, evI, evC, evO, asT, asL, wipeD, walkD, walkS, deref, R.bind_ok, ofO_some, onB_true, onB_false, toB, TL.len, partI, setAll, List.getElem?_cons_zero, List.getElem?_cons_succ, List.set_cons_zero, List.set_cons_succ, List.length_cons, List.length_nil, if_true, Option.map_some, Bool.not_true, Bool.not_false, clsOf, e_spans hm, R.noexc_ok, e_out_of (lot := l) (nums := nums) hm (fun p hp => by have := spans_lt hp; omega) (spans_len_le hn), eq_ii]
      cases decide (outOf (spans isles.length) nums l = betw isles.length nums i j) <;> rfl
    have hz : Ev.sizeOk ((partLots isles.length i j).filter fun l => decide (outOf (spans isles.length) nums l = betw isles.length nums i j)).length = true := by
      have h0 := List.length_filter_le (fun l => decide (outOf (spans isles.length) nums l = betw isles.length nums i j)) (partLots isles.length i j)
      have h1 : (partLots isles.length i j).length ≤ (lotsOf isles.length).length := List.length_filter_le ..
      have h2 : (lotsOf isles.length).length ≤ (setsOf isles.length).length := List.length_filter_le ..
      have : 2 ^ isles.length ≤ 2 ^ 20 := Nat.pow_le_pow_right (by decide) (by omega)
      rw [setsOf_len] at h2
      exact sizeOk_pow (by omega)
    have e0 := atI_map (f := blT) (cutOf_at (nums := nums) hi hj hij).1
    simp -implicitDefEqProofs only [evB, evS, evE, evL, evI, evC, evO, asT, asL, wipeD, walkD, walkS, deref, R.bind_ok, ofO_some, onB_true, onB_false, toB, TL.len, partI, setAll, List.getElem?_cons_zero, List.getElem?_cons_succ, List.set_cons_zero, List.set_cons_succ, List.length_cons, List.length_nil, if_true, Option.map_some, Bool.not_true, Bool.not_false, List.length_map, hz, ix_l]
    rw [show ((0 : Nat) : Int) = 0 from rfl] at e0
    rw [e0]
    rfl
end
/-! ### flow_range -/
def giveOf (ws : List Int) (lot : List Bool) : Int := (((ws.zip lot).filter fun p => p.2).map (·.1)).sum
def rngStep (sp : List (Nat × Nat)) (nums ws : List Int) (b : Int) (i j : Nat) (q : Int × Int) (lot : List Bool) : Int × Int :=
  if lot[i]? = some true ∧ lot[j]? = some false then (if giveOf ws lot - (outOf sp nums lot - b) > q.1 then giveOf ws lot - (outOf sp nums lot - b) else q.1, if giveOf ws lot + (outOf sp nums lot - b) < q.2 then giveOf ws lot + (outOf sp nums lot - b) else q.2) else q
def rngOf (sp : List (Nat × Nat)) (nums ws : List Int) (b : Int) (i j : Nat) : Int × Int := (lotsOf ws.length).foldl (rngStep sp nums ws b i j) (-b, b)
theorem e_flow_range {sp : List (Nat × Nat)} {nums ws : List Int} {m : Mem} {k a i j : Nat} {b : Int} (hm : memLt m.length m = true) (hk : m[k]? = some (.lst (ws.map .int))) (hat : sp[a]? = some (i, j)) (hb : nums[a]? = some b) (hn : ws.length ≤ 5) (hsp : ∀ p ∈ sp, p.1 < ws.length ∧ p.2 < ws.length) (hl : sp.length ≤ 100) :
    f_flow_range [spD sp, intT nums, .ref k, .int a] m = .ok (.tup [.int (rngOf sp nums ws b i j).1, .int (rngOf sp nums ws b i j).2]) m := by
  refine run_rt rfl hm rfl rfl ?_
  unfold b_flow_range
  simp only [List.map_cons, List.map_nil, List.length_cons, List.length_nil, List.reduceReplicate, Nat.reduceAdd, Nat.reduceSub, List.cons_append, List.nil_append]
  have ea : atI (sp.map fun p => D.tup [.int (p.1 : Nat), .int (p.2 : Nat)]) (a : Int) = some (.tup [.int (i : Nat), .int (j : Nat)]) := atI_map (f := fun p : Nat × Nat => D.tup [.int (p.1 : Nat), .int (p.2 : Nat)]) hat
  have eb : atI (nums.map D.int) (a : Int) = some (.int b) := atI_map hb
  have hij := hsp _ (List.mem_of_getElem? hat)
  rw [evB_nx (ρ' := [some (spD sp), some (intT nums), some (.ref k), some (.int a), some (.int i), some (.int j), none, none, none, none, none, none, none]) (m' := m) ?h1]
  case h1 => simp -implicitDefEqProofs only [evB, evS, evE, evL, evI, evC, evO, asT, asL, wipeD, walkD, walkS, deref, R.bind_ok, ofO_some, onB_true, onB_false, toB, TL.len, partI, setAll, List.getElem?_cons_zero, List.getElem?_cons_succ, List.set_cons_zero, List.set_cons_succ, List.length_cons, List.length_nil, if_true, Option.map_some, Bool.not_true, Bool.not_false, spD, ix_t, ea]
  rw [evB_nx (ρ' := [some (spD sp), some (intT nums), some (.ref k), some (.int a), some (.int i), some (.int j), some (.int (-b)), some (.int b), none, none, none, none, none]) (m' := m) ?h2]
  case h2 => simp -implicitDefEqProofs only [evB, evS, evE, evL, evI, evC, evO, asT, asL, wipeD, walkD, walkS, deref, R.bind_ok, ofO_some, onB_true, onB_false, toB, TL.len, partI, setAll, List.getElem?_cons_zero, List.getElem?_cons_succ, List.set_cons_zero, List.set_cons_succ, List.length_cons, List.length_nil, if_true, Option.map_some, Bool.not_true, Bool.not_false, intT, ix_t, eb]
  obtain ⟨ρ', e, l, g, r, rfl⟩ := forL_go (m := m) (src := []) (e := blT) (g := fun d ρ1 m2 => (asT (G_flow_range [f_out_of, f_lots_of]) (.nm 8) d ρ1 m2).bind fun ρ2 m3 => evB (G_flow_range [f_out_of, f_lots_of]) l_flow_range_1 ρ2 m3) rfl
    (fun t ρ => ∃ l g r, ρ = [some (spD sp), some (intT nums), some (.ref k), some (.int a), some (.int i), some (.int j), some (.int (((lotsOf ws.length).take t).foldl (rngStep sp nums ws b i j) (-b, b)).1), some (.int (((lotsOf ws.length).take t).foldl (rngStep sp nums ws b i j) (-b, b)).2), l, g, r, none, none])
    (lotsOf ws.length) 0 [some (spD sp), some (intT nums), some (.ref k), some (.int a), some (.int i), some (.int j), some (.int (-b)), some (.int b), none, none, none, none, none] ⟨none, none, none, rfl⟩ (by
      rintro t lot ρ ht ⟨l, g, r, rfl⟩
      have hlen := (mem_lotsOf.mp (List.mem_of_getElem? ht)).1
      rw [Nat.zero_add]
      have hstep : ((lotsOf ws.length).take (t + 1)).foldl (rngStep sp nums ws b i j) (-b, b) = rngStep sp nums ws b i j (((lotsOf ws.length).take t).foldl (rngStep sp nums ws b i j) (-b, b)) lot := by
        rw [List.take_succ, ht, List.foldl_append]
        rfl
      generalize hq : ((lotsOf ws.length).take t).foldl (rngStep sp nums ws b i j) (-b, b) = q at hstep ⊢
      refine ⟨[some (spD sp), some (intT nums), some (.ref k), some (.int a), some (.int i), some (.int j), some (.int (rngStep sp nums ws b i j q lot).1), some (.int (rngStep sp nums ws b i j q lot).2), some (blT lot), some (.int (giveOf ws lot)), some (.int (outOf sp nums lot - b)), none, none], ?_, _, _, _, by rw [hstep]⟩
      unfold l_flow_range_1
      simp -implicitDefEqProofs only [asT, R.bind_ok, List.set_cons_succ, List.set_cons_zero]
      rw [evB_nx (evS_set (d := .int (giveOf ws lot)) (m' := m) ?g1)]
      case g1 =>
        simp -implicitDefEqProofs only [evB, evS, evE, evL, evI, evC, evO, asT, asL, wipeD, walkD, walkS, deref, R.bind_ok, ofO_some, onB_true, onB_false, toB, TL.len, partI, setAll, List.getElem?_cons_zero, List.getElem?_cons_succ, List.set_cons_zero, List.set_cons_succ, List.length_cons, List.length_nil, if_true, Option.map_some, Bool.not_true, Bool.not_false, hk, blT]
        rw [zip2_map, lcL_if (p := fun p => p.2) (o := fun p => .int p.1) (by simp [srcOk, hk]) ?t1]
        case t1 =>
          rintro ⟨w, x⟩ hp
          simp -implicitDefEqProofs only [evB, evS, evE, evL, evI, evC, evO, asT, asL, wipeD, walkD, walkS, deref, R.bind_ok, ofO_some, onB_true, onB_false, toB, TL.len, partI, setAll, List.getElem?_cons_zero, List.getElem?_cons_succ, List.set_cons_zero, List.set_cons_succ, List.length_cons, List.length_nil, if_true, Option.map_some, Bool.not_true, Bool.not_false]
          cases x <;> rfl
        have hz : Ev.sizeOk ((ws.zip lot).filter fun p => p.2).length = true := by
          have h0 := List.length_filter_le (fun p : Int × Bool => p.2) (ws.zip lot)
          rw [List.length_zip] at h0
          exact sizeOk_pow (by omega)
        have he : (((ws.zip lot).filter fun p => p.2).map fun p => D.int p.1) = (((ws.zip lot).filter fun p => p.2).map (·.1)).map D.int := by simp
        rw [he]
        simp -implicitDefEqProofs only [evB, evS, evE, evL, evI, evC, evO, asT, asL, wipeD, walkD, walkS, deref, R.bind_ok, ofO_some, onB_true, onB_false, toB, TL.len, partI, setAll, List.getElem?_cons_zero, List.getElem?_cons_succ, List.set_cons_zero, List.set_cons_succ, List.length_cons, List.length_nil, if_true, Option.map_some, Bool.not_true, Bool.not_false, List.length_map, hz, bi_sum_l, intL_map]
        rfl
      simp -implicitDefEqProofs only [List.set_cons_succ, List.set_cons_zero]
      rw [evB_nx (evS_set (d := .int (outOf sp nums lot - b)) (m' := m) ?g2)]
      case g2 =>
        simp -implicitDefEqProofs only [evB, evS, evE, evL, evI, evC, evO, asT, asL, wipeD, walkD, walkS, deref, R.bind_ok, ofO_some, onB_true, onB_false, toB, TL.len, partI, setAll, List.getElem?_cons_zero, List.getElem?_cons_succ, List.set_cons_zero, List.set_cons_succ, List.length_cons, List.length_nil, if_true, Option.map_some, Bool.not_true, Bool.not_false, G_flow_range, e_out_of (lot := lot) (nums := nums) (sp := sp) hm (fun p hp => by have := hsp p hp; omega) hl, intT, ix_t, eb, opBin]
      simp -implicitDefEqProofs only [List.set_cons_succ, List.set_cons_zero]
      obtain ⟨x, hx⟩ : ∃ x, lot[i]? = some x := ⟨_, List.getElem?_eq_getElem (by omega)⟩
      obtain ⟨y, hy⟩ : ∃ y, lot[j]? = some y := ⟨_, List.getElem?_eq_getElem (by omega)⟩
      have e1 : atI (lot.map D.bl) (i : Int) = some (.bl x) := atI_map hx
      have e2 : atI (lot.map D.bl) (j : Int) = some (.bl y) := atI_map hy
      rw [evB_nx (ρ' := [some (spD sp), some (intT nums), some (.ref k), some (.int a), some (.int i), some (.int j), some (.int (rngStep sp nums ws b i j q lot).1), some (.int (rngStep sp nums ws b i j q lot).2), some (blT lot), some (.int (giveOf ws lot)), some (.int (outOf sp nums lot - b)), none, none]) (m' := m) ?g3]
      case g3 =>
        cases x <;> cases y <;> simp -implicitDefEqProofs [evS, evB, evE, evL, blT, ix_t, e1, e2, toB, setAll, bi_max2, bi_min2, opBin, deref, rngStep, hx, hy]
      rfl)
  rw [evB_nx (ρ' := [some (spD sp), some (intT nums), some (.ref k), some (.int a), some (.int i), some (.int j), some (.int (rngOf sp nums ws b i j).1), some (.int (rngOf sp nums ws b i j).2), l, g, r, none, none]) (m' := m) ?h3]
  case h3 =>
    rw [evS_for (w := ((lotsOf ws.length).map blT, [])) (m' := m) ?hi]
    case hi =>
      simp -implicitDefEqProofs only [evB, evS, evE, evL, evI, evC, evO, asT, asL, wipeD, walkD, walkS, deref, R.bind_ok, ofO_some, onB_true, onB_false, toB, TL.len, partI, setAll, List.getElem?_cons_zero, List.getElem?_cons_succ, List.set_cons_zero, List.set_cons_succ, List.length_cons, List.length_nil, if_true, Option.map_some, Bool.not_true, Bool.not_false, G_flow_range, hk, biD, List.length_map, e_lots_of (show ws.length ≤ 20 by omega) hm]
    rw [Nat.zero_add, List.take_length] at e
    exact e
  rw [evB_rt (evS_ret (d := .tup [.int (rngOf sp nums ws b i j).1, .int (rngOf sp nums ws b i j).2]) (m' := m) ?h4)]
  · rfl
  case h4 => simp -implicitDefEqProofs [evE, evL, Ev.sizeOk, lim]
/-! ### flow_of -/
def clampF (q : Int × Int) : Int := if q.2 < (if q.1 > 0 then q.1 else 0) then q.2 else (if q.1 > 0 then q.1 else 0)
abbrev FSt := List Int × List Int × List Int
def flowX (sp : List (Nat × Nat)) (s : FSt) (p : (Nat × Nat) × Nat) : Int := clampF (rngOf sp s.1 s.2.1 ((s.1[p.2]?).getD 0) p.1.1 p.1.2)
def flowW (ws : List Int) (i j : Nat) (x : Int) : List Int := (ws.set i ((ws[i]?).getD 0 - x)).set j (((ws.set i ((ws[i]?).getD 0 - x))[j]?).getD 0 + x)
def zeroAt (nums : List Int) (a : Nat) : List Int := nums.zipIdx.map fun p => if p.2 = a then 0 else p.1
def flowStep (sp : List (Nat × Nat)) (s : FSt) (p : (Nat × Nat) × Nat) : FSt := (zeroAt s.1 p.2, flowW s.2.1 p.1.1 p.1.2 (flowX sp s p), s.2.2 ++ [flowX sp s p])
def wants0 (n i j : Nat) (many : Int) : List Int := (List.range n).map fun a => if a = i then many else if a = j then -many else 0
def flowAll (n : Nat) (nums : List Int) (i j : Nat) (many : Int) : FSt := (spans n).zipIdx.foldl (flowStep (spans n)) (nums, wants0 n i j many, [])
theorem zeroAt_len {nums : List Int} {a : Nat} : (zeroAt nums a).length = nums.length := by simp [zeroAt]
theorem flowW_len {ws : List Int} {i j : Nat} {x : Int} : (flowW ws i j x).length = ws.length := by simp [flowW]
theorem flow_lens {sp : List (Nat × Nat)} : ∀ (l : List ((Nat × Nat) × Nat)) (s : FSt), (l.foldl (flowStep sp) s).1.length = s.1.length ∧ (l.foldl (flowStep sp) s).2.1.length = s.2.1.length ∧ (l.foldl (flowStep sp) s).2.2.length = s.2.2.length + l.length
  | [], s => by simp
  | p :: l, s => by
    obtain ⟨h1, h2, h3⟩ := flow_lens l (flowStep sp s p)
    rw [List.foldl_cons]
    refine ⟨h1.trans zeroAt_len, h2.trans flowW_len, h3.trans ?_⟩
    simp [flowStep]
    omega
theorem ixN_nat {n i : Nat} (h : i < n) : ixN n ((i : Nat) : Int) = some i := by
  unfold ixN
  rw [if_pos (by omega), if_pos (by omega)]
  simp
theorem e_flow_step {isles : List Str} {m : Mem} {st : FSt} {p : (Nat × Nat) × Nat} {i j : Nat} {many : Int} {s7 s8 s9 s10 s11 s12 : Option D} (hn : isles.length ≤ 5) (hm : memLt m.length m = true) (hp : (spans isles.length)[p.2]? = some p.1)
    (h1 : st.1.length = (spans isles.length).length) (h2 : st.2.1.length = isles.length) (h3 : st.2.2.length ≤ 100) :
    ((asT (G_flow_of [f_flow_range, f_Sea_spans, f_Sea___len__]) (.tup (.cons (.nm 7) (.cons (.tup (.cons (.nm 8) (.cons (.nm 9) .nil))) .nil))) (.tup [.int (p.2 : Nat), .tup [.int (p.1.1 : Nat), .int (p.1.2 : Nat)]])
      [some (seaD isles), some (intT st.1), some (.int i), some (.int j), some (.int many), some (.ref m.length), some (.ref (m.length + 1)), s7, s8, s9, s10, s11, s12, none, none] (m ++ [.lst (st.2.1.map .int), .lst (st.2.2.map .int)])).bind fun ρ2 m3 => evB (G_flow_of [f_flow_range, f_Sea_spans, f_Sea___len__]) l_flow_of_1 ρ2 m3) =
    .ok (.nx, [some (seaD isles), some (intT (flowStep (spans isles.length) st p).1), some (.int i), some (.int j), some (.int many), some (.ref m.length), some (.ref (m.length + 1)), some (.int (p.2 : Nat)), some (.int (p.1.1 : Nat)), some (.int (p.1.2 : Nat)),
      some (.int (rngOf (spans isles.length) st.1 st.2.1 ((st.1[p.2]?).getD 0) p.1.1 p.1.2).1), some (.int (rngOf (spans isles.length) st.1 st.2.1 ((st.1[p.2]?).getD 0) p.1.1 p.1.2).2), some (.int (flowX (spans isles.length) st p)), none, none])
      (m ++ [.lst ((flowStep (spans isles.length) st p).2.1.map .int), .lst ((flowStep (spans isles.length) st p).2.2.map .int)]) := by
  obtain ⟨nums, ws, found⟩ := st
  obtain ⟨⟨a, b⟩, t⟩ := p
  simp only at hp h1 h2 h3 ⊢
  have hab := spans_lt (List.mem_of_getElem? hp)
  have ht : t < (spans isles.length).length := (List.getElem?_eq_some_iff.mp hp).1
  obtain ⟨c, hc⟩ : ∃ c, nums[t]? = some c := ⟨_, List.getElem?_eq_getElem (by omega)⟩
  have hM : memLt (m ++ [MO.lst (ws.map .int), MO.lst (found.map .int)]).length (m ++ [MO.lst (ws.map .int), MO.lst (found.map .int)]) = true := by
    refine memLt_app hm fun mo h => ?_
    simp only [List.mem_cons, List.not_mem_nil, or_false] at h
    rcases h with rfl | rfl <;> exact ltbL_map fun _ _ => rfl
  have er := e_flow_range (sp := spans isles.length) (nums := nums) (ws := ws) (m := m ++ [MO.lst (ws.map .int), MO.lst (found.map .int)]) (k := m.length) (a := t) hM two0 hp hc (by omega) (fun p hp => by have := spans_lt hp; omega) (spans_len_le hn)
  rw [show (nums[t]?).getD 0 = c by rw [hc]; rfl]
  have hx : flowX (spans isles.length) (nums, ws, found) ((a, b), t) = clampF (rngOf (spans isles.length) nums ws c a b) := by simp [flowX, hc]
  generalize hq : rngOf (spans isles.length) nums ws c a b = q at er hx ⊢
  simp -implicitDefEqProofs only [asT, asL, TL.len, R.bind_ok, List.set_cons_succ, List.set_cons_zero, List.length_cons, List.length_nil, if_true]
  unfold l_flow_of_1
  rw [evB_nx (ρ' := [some (seaD isles), some (intT nums), some (.int i), some (.int j), some (.int many), some (.ref m.length), some (.ref (m.length + 1)), some (.int (t : Nat)), some (.int (a : Nat)), some (.int (b : Nat)), some (.int q.1), some (.int q.2), s12, none, none]) (m' := m ++ [.lst (ws.map .int), .lst (found.map .int)]) ?g1]
  case g1 => simp -implicitDefEqProofs only [evB, evS, evE, evL, evI, evC, evO, asT, asL, wipeD, walkD, walkS, deref, R.bind_ok, ofO_some, onB_true, onB_false, toB, TL.len, partI, setAll, List.getElem?_cons_zero, List.getElem?_cons_succ, List.set_cons_zero, List.set_cons_succ, List.length_cons, List.length_nil, if_true, Option.map_some, Bool.not_true, Bool.not_false, G_flow_of, clsOf, e_spans hM, R.noexc_ok, er]
  rw [evB_nx (evS_set (d := .int (clampF q)) (m' := m ++ [.lst (ws.map .int), .lst (found.map .int)]) ?g2)]
  case g2 => simp -implicitDefEqProofs only [evB, evS, evE, evL, evI, evC, evO, asT, asL, wipeD, walkD, walkS, deref, R.bind_ok, ofO_some, onB_true, onB_false, toB, TL.len, partI, setAll, List.getElem?_cons_zero, List.getElem?_cons_succ, List.set_cons_zero, List.set_cons_succ, List.length_cons, List.length_nil, if_true, Option.map_some, Bool.not_true, Bool.not_false, bi_max2, bi_min2, clampF]
  simp -implicitDefEqProofs only [List.set_cons_succ, List.set_cons_zero]
  generalize clampF q = x at hx ⊢
  obtain ⟨w1, hw1⟩ : ∃ w1, ws[a]? = some w1 := ⟨_, List.getElem?_eq_getElem (by omega)⟩
  obtain ⟨w2, hw2⟩ : ∃ w2, (ws.set a (w1 - x))[b]? = some w2 := ⟨_, List.getElem?_eq_getElem (by rw [List.length_set]; omega)⟩
  have ea := atI_map (f := D.int) hw1
  have eb := atI_map (f := D.int) hw2
  have na : ixN (ws.map D.int).length (a : Int) = some a := ixN_nat (by rw [List.length_map]; omega)
  have nb : ixN ((ws.set a (w1 - x)).map D.int).length (b : Int) = some b := ixN_nat (by rw [List.length_map, List.length_set]; omega)
  rw [evB_nx (ρ' := [some (seaD isles), some (intT nums), some (.int i), some (.int j), some (.int many), some (.ref m.length), some (.ref (m.length + 1)), some (.int (t : Nat)), some (.int (a : Nat)), some (.int (b : Nat)), some (.int q.1), some (.int q.2), some (.int x), none, none]) (m' := m ++ [.lst ((ws.set a (w1 - x)).map .int), .lst (found.map .int)]) ?g3]
  case g3 =>
    simp -implicitDefEqProofs only [evS, evE, asT, R.bind_ok, List.getElem?_cons_zero, List.getElem?_cons_succ, ixD, deref, two0, ea, ofO_some, opBin, setD, na, Option.map_some, two_set0, List.map_set]
  rw [evB_nx (ρ' := [some (seaD isles), some (intT nums), some (.int i), some (.int j), some (.int many), some (.ref m.length), some (.ref (m.length + 1)), some (.int (t : Nat)), some (.int (a : Nat)), some (.int (b : Nat)), some (.int q.1), some (.int q.2), some (.int x), none, none]) (m' := m ++ [.lst (((ws.set a (w1 - x)).set b (w2 + x)).map .int), .lst (found.map .int)]) ?g4]
  case g4 =>
    generalize hv : ws.set a (w1 - x) = v at eb nb hw2 ⊢
    simp -implicitDefEqProofs only [evS, evE, asT, R.bind_ok, List.getElem?_cons_zero, List.getElem?_cons_succ, ixD, deref, two0, eb, ofO_some, opBin, setD, nb, Option.map_some, two_set0, List.map_set]
  have hW : (ws.set a (w1 - x)).set b (w2 + x) = flowW ws a b x := by simp only [flowW, hw1, Option.getD_some, hw2]
  rw [hW]
  rw [evB_nx (evS_set (d := intT (zeroAt nums t)) (m' := m ++ [.lst ((flowW ws a b x).map .int), .lst (found.map .int)]) ?g5)]
  case g5 =>
    simp -implicitDefEqProofs only [evB, evS, evE, evL, evI, evC, evO, asT, asL, wipeD, walkD, walkS, deref, R.bind_ok, ofO_some, onB_true, onB_false, toB, TL.len, partI, setAll, List.getElem?_cons_zero, List.getElem?_cons_succ, List.set_cons_zero, List.set_cons_succ, List.length_cons, List.length_nil, if_true, Option.map_some, Bool.not_true, Bool.not_false, intT]
    rw [enumI_map, lcL_all (o := fun p => .int (if p.2 = t then 0 else p.1)) rfl ?t5]
    case t5 =>
      rintro ⟨v, k⟩ _
      simp -implicitDefEqProofs only [evB, evS, evE, evL, evI, evC, evO, asT, asL, wipeD, walkD, walkS, deref, R.bind_ok, ofO_some, onB_true, onB_false, toB, TL.len, partI, setAll, List.getElem?_cons_zero, List.getElem?_cons_succ, List.set_cons_zero, List.set_cons_succ, List.length_cons, List.length_nil, if_true, Option.map_some, Bool.not_true, Bool.not_false, eq_ii]
      by_cases hk : k = t
      · subst hk; simp [toB]
      · have : ¬ ((k : Nat) : Int) = (t : Nat) := by omega
        simp [toB, this, hk]
    have hz : Ev.sizeOk (nums.zipIdx).length = true := by
      rw [List.length_zipIdx]
      have := spans_len_le hn
      exact sizeOk_pow (by omega)
    have he : (nums.zipIdx.map fun p => D.int (if p.2 = t then 0 else p.1)) = (zeroAt nums t).map D.int := by simp [zeroAt]
    rw [he]
    have hz2 : Ev.sizeOk (zeroAt nums t).length = true := by rw [zeroAt_len, ← List.length_zipIdx (l := nums) (i := 0)]; exact hz
    simp -implicitDefEqProofs only [evB, evS, evE, evL, evI, evC, evO, asT, asL, wipeD, walkD, walkS, deref, R.bind_ok, ofO_some, onB_true, onB_false, toB, TL.len, partI, setAll, List.getElem?_cons_zero, List.getElem?_cons_succ, List.set_cons_zero, List.set_cons_succ, List.length_cons, List.length_nil, if_true, Option.map_some, Bool.not_true, Bool.not_false, List.length_map, hz2, bi_tuple_l]
  simp -implicitDefEqProofs only [List.set_cons_succ, List.set_cons_zero]
  rw [evB_nx (ρ' := [some (seaD isles), some (intT (zeroAt nums t)), some (.int i), some (.int j), some (.int many), some (.ref m.length), some (.ref (m.length + 1)), some (.int (t : Nat)), some (.int (a : Nat)), some (.int (b : Nat)), some (.int q.1), some (.int q.2), some (.int x), none, none]) (m' := m ++ [.lst ((flowW ws a b x).map .int), .lst ((found ++ [x]).map .int)]) ?g6]
  case g6 =>
    have hl : (found.map D.int).length < lim := by rw [List.length_map]; unfold lim; omega
    simp -implicitDefEqProofs only [evS, evE, R.bind_ok, List.getElem?_cons_zero, List.getElem?_cons_succ, isLst, two1, if_true, appD, hl, two_set1, List.map_append, List.map_cons, List.map_nil]
  rw [evB_nil]
  simp only [flowStep, hx]
theorem e_flow_of {isles : List Str} {m : Mem} {nums : List Int} {i j : Nat} {many : Int} (hn : isles.length ≤ 5) (hm : memLt m.length m = true) (h1 : nums.length = (spans isles.length).length) :
    f_flow_of [seaD isles, intT nums, .int i, .int j, .int many] m = .ok (intT (flowAll isles.length nums i j many).2.2) m := by
  have hs := spans_len_le hn
  refine run_rtM (m1 := m ++ [.lst ((flowAll isles.length nums i j many).2.1.map .int), .lst ((flowAll isles.length nums i j many).2.2.map .int)]) rfl hm ltb_int rfl two_take ?_
  unfold b_flow_of
  simp only [List.map_cons, List.map_nil, List.length_cons, List.length_nil, List.reduceReplicate, Nat.reduceAdd, Nat.reduceSub, List.cons_append, List.nil_append]
  rw [evB_nx (evS_set (d := .ref m.length) (m' := m ++ [.lst ((wants0 isles.length i j many).map .int)]) ?g1)]
  case g1 =>
    have hr : rngI [D.int (isles.length : Nat)] = some ((List.range isles.length).map fun k => D.int (k : Nat)) := by
      unfold rngI
      simp only
      rw [if_pos (by omega)]
      simp
    simp -implicitDefEqProofs only [evB, evS, evE, evL, evI, evC, evO, asT, asL, wipeD, walkD, walkS, deref, R.bind_ok, ofO_some, onB_true, onB_false, toB, TL.len, partI, setAll, List.getElem?_cons_zero, List.getElem?_cons_succ, List.set_cons_zero, List.set_cons_succ, List.length_cons, List.length_nil, if_true, Option.map_some, Bool.not_true, Bool.not_false, G_flow_of, clsOf, e_len hm, R.noexc_ok, len_ok (show isles.length ≤ 20 by omega), hr]
    rw [lcL_all (o := fun a => .int (if a = i then many else if a = j then -many else 0)) rfl ?t1]
    case t1 =>
      intro a _
      simp -implicitDefEqProofs only [evB, evS, evE, evL, evI, evC, evO, asT, asL, wipeD, walkD, walkS, deref, R.bind_ok, ofO_some, onB_true, onB_false, toB, TL.len, partI, setAll, List.getElem?_cons_zero, List.getElem?_cons_succ, List.set_cons_zero, List.set_cons_succ, List.length_cons, List.length_nil, if_true, Option.map_some, Bool.not_true, Bool.not_false, eq_ii]
      by_cases ha : a = i
      · subst ha; simp [toB]
      · have e1 : ¬ ((a : Nat) : Int) = (i : Nat) := by omega
        by_cases hb : a = j
        · subst hb; simp [toB, e1, ha, partI]
        · have e2 : ¬ ((a : Nat) : Int) = (j : Nat) := by omega
          simp [toB, e1, e2, ha, hb]
    have he : ((List.range isles.length).map fun a => D.int (if a = i then many else if a = j then -many else 0)) = (wants0 isles.length i j many).map D.int := by simp [wants0]
    rw [he]
    have hz : Ev.sizeOk (wants0 isles.length i j many).length = true := sizeOk_pow (by simp [wants0]; omega)
    simp -implicitDefEqProofs only [evB, evS, evE, evL, evI, evC, evO, asT, asL, wipeD, walkD, walkS, deref, R.bind_ok, ofO_some, onB_true, onB_false, toB, TL.len, partI, setAll, List.getElem?_cons_zero, List.getElem?_cons_succ, List.set_cons_zero, List.set_cons_succ, List.length_cons, List.length_nil, if_true, Option.map_some, Bool.not_true, Bool.not_false, List.length_map, hz]
  simp -implicitDefEqProofs only [List.set_cons_succ, List.set_cons_zero]
  rw [evB_nx (evS_set (d := .ref (m.length + 1)) (m' := m ++ [.lst ((wants0 isles.length i j many).map .int), .lst (([] : List Int).map .int)]) ?g2)]
  case g2 => simp -implicitDefEqProofs [evE, evL, Ev.sizeOk, lim]
  simp -implicitDefEqProofs only [List.set_cons_succ, List.set_cons_zero]
  have hM0 : memLt (m ++ [MO.lst ((wants0 isles.length i j many).map .int), MO.lst (([] : List Int).map .int)]).length (m ++ [MO.lst ((wants0 isles.length i j many).map .int), MO.lst (([] : List Int).map .int)]) = true := by
    refine memLt_app hm fun mo h => ?_
    simp only [List.mem_cons, List.not_mem_nil, or_false] at h
    rcases h with rfl | rfl <;> exact ltbL_map fun _ _ => rfl
  obtain ⟨ρ', m', e, s7, s8, s9, s10, s11, s12, rfl, rfl⟩ := forL_goM (src := []) (e := fun p : (Nat × Nat) × Nat => D.tup [.int (p.2 : Nat), .tup [.int (p.1.1 : Nat), .int (p.1.2 : Nat)]])
    (g := fun d ρ1 m2 => (asT (G_flow_of [f_flow_range, f_Sea_spans, f_Sea___len__]) (.tup (.cons (.nm 7) (.cons (.tup (.cons (.nm 8) (.cons (.nm 9) .nil))) .nil))) d ρ1 m2).bind fun ρ2 m3 => evB (G_flow_of [f_flow_range, f_Sea_spans, f_Sea___len__]) l_flow_of_1 ρ2 m3)
    (fun t ρ mm => ∃ s7 s8 s9 s10 s11 s12, ρ = [some (seaD isles), some (intT (((spans isles.length).zipIdx.take t).foldl (flowStep (spans isles.length)) (nums, wants0 isles.length i j many, [])).1), some (.int i), some (.int j), some (.int many), some (.ref m.length), some (.ref (m.length + 1)), s7, s8, s9, s10, s11, s12, none, none] ∧
      mm = m ++ [.lst ((((spans isles.length).zipIdx.take t).foldl (flowStep (spans isles.length)) (nums, wants0 isles.length i j many, [])).2.1.map .int), .lst ((((spans isles.length).zipIdx.take t).foldl (flowStep (spans isles.length)) (nums, wants0 isles.length i j many, [])).2.2.map .int)])
    (fun _ _ _ _ => rfl) (spans isles.length).zipIdx 0 [some (seaD isles), some (intT nums), some (.int i), some (.int j), some (.int many), some (.ref m.length), some (.ref (m.length + 1)), none, none, none, none, none, none, none, none] (m ++ [.lst ((wants0 isles.length i j many).map .int), .lst (([] : List Int).map .int)]) ⟨none, none, none, none, none, none, rfl, rfl⟩ (by
      rintro t p ρ mm ht ⟨s7, s8, s9, s10, s11, s12, rfl, rfl⟩
      rw [Nat.zero_add]
      have hstep : ((spans isles.length).zipIdx.take (t + 1)).foldl (flowStep (spans isles.length)) (nums, wants0 isles.length i j many, []) = flowStep (spans isles.length) (((spans isles.length).zipIdx.take t).foldl (flowStep (spans isles.length)) (nums, wants0 isles.length i j many, [])) p := by
        rw [List.take_succ, ht, List.foldl_append]
        rfl
      obtain ⟨l1, l2, l3⟩ := flow_lens (sp := spans isles.length) ((spans isles.length).zipIdx.take t) (nums, wants0 isles.length i j many, [])
      have hp : (spans isles.length)[p.2]? = some p.1 := by
        have := List.mem_zipIdx_iff_getElem?.mp (List.mem_of_getElem? ht)
        simpa using this
      have l4 : ((spans isles.length).zipIdx.take t).length ≤ 100 := by
        rw [List.length_take, List.length_zipIdx]
        omega
      refine ⟨_, _, e_flow_step hn hm hp (l1.trans h1) (l2.trans (by simp [wants0])) (by rw [l3]; simpa using l4), _, _, _, _, _, _, by rw [hstep], by rw [hstep]⟩)
  have hall : ((spans isles.length).zipIdx.take (0 + (spans isles.length).zipIdx.length)).foldl (flowStep (spans isles.length)) (nums, wants0 isles.length i j many, []) = flowAll isles.length nums i j many := by
    rw [Nat.zero_add, List.take_length]
    rfl
  rw [hall] at e
  rw [evB_nx (m' := m ++ [.lst ((flowAll isles.length nums i j many).2.1.map .int), .lst ((flowAll isles.length nums i j many).2.2.map .int)]) ((evS_for (w := ((spans isles.length).zipIdx.map fun p => D.tup [.int (p.2 : Nat), .tup [.int (p.1.1 : Nat), .int (p.1.2 : Nat)]], [])) (m' := m ++ [.lst ((wants0 isles.length i j many).map .int), .lst (([] : List Int).map .int)]) ?g3).trans e)]
  case g3 => simp -implicitDefEqProofs only [evB, evS, evE, evL, evI, evC, evO, asT, asL, wipeD, walkD, walkS, deref, R.bind_ok, ofO_some, onB_true, onB_false, toB, TL.len, partI, setAll, List.getElem?_cons_zero, List.getElem?_cons_succ, List.set_cons_zero, List.set_cons_succ, List.length_cons, List.length_nil, if_true, Option.map_some, Bool.not_true, Bool.not_false, G_flow_of, clsOf, e_spans hM0, R.noexc_ok, spD, enumI_map]
  rw [evB_rt (evS_ret (d := intT (flowAll isles.length nums i j many).2.2) (m' := m ++ [.lst ((flowAll isles.length nums i j many).2.1.map .int), .lst ((flowAll isles.length nums i j many).2.2.map .int)]) ?g4)]
  · rfl
  case g4 => simp -implicitDefEqProofs only [evE, evL, R.bind_ok, List.getElem?_cons_zero, List.getElem?_cons_succ, biD, items, deref, two1, Option.map_some, ofO_some]
/-! ### names -/
/-- a text that the model lays: every sign a code point -/
abbrev OkS := { x : Str // PyData.canLay0 (.str x) = true }
def kStr : Kd OkS := ⟨fun x => .str x.1, fun x => x.2, 0, fun _ => Nat.le_refl _, fun a b => by
  simp only [PyData.eqv]
  rw [Bool.eq_iff_iff]
  simp [Subtype.ext_iff]⟩
abbrev okAll (l : List Str) : Prop := ∀ x ∈ l, PyData.canLay0 (.str x) = true
theorem lift_ok : ∀ {l : List Str}, okAll l → ∃ k : List OkS, l = k.map (·.1)
  | [], _ => ⟨[], rfl⟩
  | x :: r, h => by
    obtain ⟨k, e⟩ := lift_ok (l := r) fun y hy => h y (List.mem_cons_of_mem _ hy)
    exact ⟨⟨x, h x List.mem_cons_self⟩ :: k, congrArg (List.cons x) e⟩
theorem in_str {x : Str} {l : List Str} {m : Mem} (hx : PyData.canLay0 (.str x) = true) (hl : okAll l) : opCmp .In (.str x) (.tup (l.map .str)) m = some (decide (x ∈ l)) := by
  obtain ⟨k, rfl⟩ := lift_ok hl
  simp only [opCmp, inD, deref]
  rw [List.map_map, go_map (f := D.str ∘ fun x : OkS => x.1) (g := kStr.p) fun _ => rfl]
  simp only [toP]
  have h1 : SeqAt.shaped (PyData.str x) = true := kStr.sh (by decide) ⟨x, hx⟩
  have h2 : SeqAt.shaped (.list (k.map kStr.p)) = true := kStr.lst.sh (by decide) k
  rw [h1, h2]
  simp only [Bool.and_self, if_true]
  rw [show PyData.str x = kStr.p ⟨x, hx⟩ from rfl, any_map kStr ⟨x, hx⟩ k]
  congr 1
  rw [Bool.eq_iff_iff]
  simp only [decide_eq_true_eq, List.mem_map]
  constructor
  · intro h; exact ⟨_, h, rfl⟩
  · rintro ⟨y, hy, rfl⟩; exact hy
def namesIn (isles : List Str) (lot : List Bool) : List Str := ((isles.zip lot).filter fun p => p.2).map (·.1)
theorem e_names_in {isles : List Str} {lot : List Bool} {m : Mem} (hn : isles.length ≤ 100) (hm : memLt m.length m = true) : f_names_in [seaD isles, blT lot] m = .ok (.tup ((namesIn isles lot).map .str)) m := by
  refine run_rt rfl hm ltb_str rfl ?_
  unfold b_names_in
  simp only [List.map_cons, List.map_nil, List.length_cons, List.length_nil, List.reduceReplicate, Nat.reduceAdd, Nat.reduceSub, List.cons_append, List.nil_append]
  rw [evB_rt (evS_ret (d := .tup ((namesIn isles lot).map .str)) (m' := m) ?h)]
  · rfl
  case h =>
    simp -implicitDefEqProofs only [evB, evS, evE, evL, evI, evC, evO, asT, asL, wipeD, walkD, walkS, deref, R.bind_ok, ofO_some, onB_true, onB_false, toB, TL.len, partI, setAll, List.getElem?_cons_zero, List.getElem?_cons_succ, List.set_cons_zero, List.set_cons_succ, List.length_cons, List.length_nil, if_true, Option.map_some, Bool.not_true, Bool.not_false, G_names_in, clsOf, e_islands hm, R.noexc_ok, blT]
    rw [zip2_map, lcL_if (p := fun p => p.2) (o := fun p => .str p.1) rfl ?t]
    case t =>
      rintro ⟨w, x⟩ _
      simp -implicitDefEqProofs only [evB, evS, evE, evL, evI, evC, evO, asT, asL, wipeD, walkD, walkS, deref, R.bind_ok, ofO_some, onB_true, onB_false, toB, TL.len, partI, setAll, List.getElem?_cons_zero, List.getElem?_cons_succ, List.set_cons_zero, List.set_cons_succ, List.length_cons, List.length_nil, if_true, Option.map_some, Bool.not_true, Bool.not_false]
      cases x <;> rfl
    have hz : Ev.sizeOk ((isles.zip lot).filter fun p => p.2).length = true := by
      have h0 := List.length_filter_le (fun p : Str × Bool => p.2) (isles.zip lot)
      rw [List.length_zip] at h0
      exact sizeOk_pow (by omega)
    have he : (((isles.zip lot).filter fun p => p.2).map fun p => D.str p.1) = (((isles.zip lot).filter fun p => p.2).map (·.1)).map D.str := by simp
    rw [he]
    simp -implicitDefEqProofs only [evB, evS, evE, evL, evI, evC, evO, asT, asL, wipeD, walkD, walkS, deref, R.bind_ok, ofO_some, onB_true, onB_false, toB, TL.len, partI, setAll, List.getElem?_cons_zero, List.getElem?_cons_succ, List.set_cons_zero, List.set_cons_succ, List.length_cons, List.length_nil, if_true, Option.map_some, Bool.not_true, Bool.not_false, List.length_map, hz, bi_tuple_l]
    rfl
theorem e_lot_of {isles names : List Str} {m : Mem} (hn : isles.length ≤ 100) (h1 : okAll isles) (h2 : okAll names) (hm : memLt m.length m = true) : f_lot_of [seaD isles, .tup (names.map .str)] m = .ok (blT (isles.map fun x => decide (x ∈ names))) m := by
  refine run_rt rfl hm ltb_bl rfl ?_
  unfold b_lot_of
  simp only [List.map_cons, List.map_nil, List.length_cons, List.length_nil, List.reduceReplicate, Nat.reduceAdd, Nat.reduceSub, List.cons_append, List.nil_append]
  rw [evB_rt (evS_ret (d := blT (isles.map fun x => decide (x ∈ names))) (m' := m) ?h)]
  · rfl
  case h =>
    simp -implicitDefEqProofs only [evB, evS, evE, evL, evI, evC, evO, asT, asL, wipeD, walkD, walkS, deref, R.bind_ok, ofO_some, onB_true, onB_false, toB, TL.len, partI, setAll, List.getElem?_cons_zero, List.getElem?_cons_succ, List.set_cons_zero, List.set_cons_succ, List.length_cons, List.length_nil, if_true, Option.map_some, Bool.not_true, Bool.not_false, G_lot_of, clsOf, e_islands hm, R.noexc_ok]
    rw [lcL_all (o := fun x => .bl (decide (x ∈ names))) rfl ?t]
    case t =>
      intro x hx
      simp -implicitDefEqProofs only [evB, evS, evE, evL, evI, evC, evO, asT, asL, wipeD, walkD, walkS, deref, R.bind_ok, ofO_some, onB_true, onB_false, toB, TL.len, partI, setAll, List.getElem?_cons_zero, List.getElem?_cons_succ, List.set_cons_zero, List.set_cons_succ, List.length_cons, List.length_nil, if_true, Option.map_some, Bool.not_true, Bool.not_false, in_str (h1 x hx) h2]
    have hz : Ev.sizeOk isles.length = true := sizeOk_pow (by omega)
    have he : (isles.map fun x => D.bl (decide (x ∈ names))) = (isles.map fun x => decide (x ∈ names)).map D.bl := by simp
    rw [he]
    simp -implicitDefEqProofs only [evB, evS, evE, evL, evI, evC, evO, asT, asL, wipeD, walkD, walkS, deref, R.bind_ok, ofO_some, onB_true, onB_false, toB, TL.len, partI, setAll, List.getElem?_cons_zero, List.getElem?_cons_succ, List.set_cons_zero, List.set_cons_succ, List.length_cons, List.length_nil, if_true, Option.map_some, Bool.not_true, Bool.not_false, List.length_map, hz, bi_tuple_l]
/-! ### small tests -/
theorem e_is_integer {v : Int} {m : Mem} (hm : memLt m.length m = true) : f_is_integer [.int v] m = .ok (.bl true) m := by
  refine run_rt rfl hm rfl rfl ?_
  unfold b_is_integer
  simp only [List.map_cons, List.map_nil, List.length_cons, List.length_nil, List.reduceReplicate, Nat.reduceAdd, Nat.reduceSub, List.cons_append, List.nil_append]
  rw [evB_rt (evS_ret (d := .bl true) (m' := m) ?h)]
  · rfl
  case h => simp -implicitDefEqProofs [evE, isiD, deref, toB]
theorem e_is_within {v lo hi : Int} {m : Mem} (hm : memLt m.length m = true) : f_is_within [.int v, .int lo, .int hi] m = .ok (.bl (decide (lo ≤ v) && decide (v ≤ hi))) m := by
  refine run_rt rfl hm rfl rfl ?_
  unfold b_is_within
  simp only [List.map_cons, List.map_nil, List.length_cons, List.length_nil, List.reduceReplicate, Nat.reduceAdd, Nat.reduceSub, List.cons_append, List.nil_append]
  rw [evB_rt (evS_ret (d := .bl (decide (lo ≤ v) && decide (v ≤ hi))) (m' := m) ?h)]
  · rfl
  case h =>
    simp -implicitDefEqProofs only [evB, evS, evE, evL, evI, evC, evO, asT, asL, wipeD, walkD, walkS, deref, R.bind_ok, ofO_some, onB_true, onB_false, toB, TL.len, partI, setAll, List.getElem?_cons_zero, List.getElem?_cons_succ, List.set_cons_zero, List.set_cons_succ, List.length_cons, List.length_nil, if_true, Option.map_some, Bool.not_true, Bool.not_false, G_is_within, e_is_integer hm, le_ii]
    cases decide (lo ≤ v) <;> simp
theorem e_is_count {v : Int} {m : Mem} (hm : memLt m.length m = true) : f_is_count [.int v] m = .ok (.bl (decide (0 ≤ v))) m := by
  refine run_rt rfl hm rfl rfl ?_
  unfold b_is_count
  simp only [List.map_cons, List.map_nil, List.length_cons, List.length_nil, List.reduceReplicate, Nat.reduceAdd, Nat.reduceSub, List.cons_append, List.nil_append]
  rw [evB_rt (evS_ret (d := .bl (decide (0 ≤ v))) (m' := m) ?h)]
  · rfl
  case h => simp -implicitDefEqProofs only [evB, evS, evE, evL, evI, evC, evO, asT, asL, wipeD, walkD, walkS, deref, R.bind_ok, ofO_some, onB_true, onB_false, toB, TL.len, partI, setAll, List.getElem?_cons_zero, List.getElem?_cons_succ, List.set_cons_zero, List.set_cons_succ, List.length_cons, List.length_nil, if_true, Option.map_some, Bool.not_true, Bool.not_false, G_is_count, e_is_integer hm, ge_ii]
theorem e_is_pair {a b : D} {m : Mem} (hm : memLt m.length m = true) : f_is_pair [.tup [a, b]] m = .ok (.bl true) m := by
  refine run_rt rfl hm rfl rfl ?_
  unfold b_is_pair
  simp only [List.map_cons, List.map_nil, List.length_cons, List.length_nil, List.reduceReplicate, Nat.reduceAdd, Nat.reduceSub, List.cons_append, List.nil_append]
  rw [evB_rt (evS_ret (d := .bl true) (m' := m) ?h)]
  · rfl
  case h =>
    simp -implicitDefEqProofs only [evB, evS, evE, evL, evI, evC, evO, asT, asL, wipeD, walkD, walkS, deref, R.bind_ok, ofO_some, onB_true, onB_false, toB, TL.len, partI, setAll, List.getElem?_cons_zero, List.getElem?_cons_succ, List.set_cons_zero, List.set_cons_succ, List.length_cons, List.length_nil, if_true, Option.map_some, Bool.not_true, Bool.not_false, isiD, bi_len_t, eq_ii]
    simp
end K85

set_option Elab.async false
set_option linter.all false
set_option maxRecDepth 100000
set_option maxHeartbeats 4000000
namespace K85
open PySem PySem.Spec PyProof.Rows L2 Ev
/-! law B: what flow_of finds is a flow; plain lists, no program -/
theorem sum_filter {α : Type} {p : α → Bool} {f : α → Int} : ∀ l : List α, ((l.filter p).map f).sum = (l.map fun x => if p x then f x else 0).sum
  | [] => rfl
  | a :: r => by
    rw [List.filter_cons]
    cases h : p a <;> simp [h, sum_filter r]
theorem sum_le {α : Type} {f g : α → Int} : ∀ l : List α, (∀ x ∈ l, f x ≤ g x) → (l.map f).sum ≤ (l.map g).sum
  | [], _ => Int.le_refl _
  | a :: r, h => by
    have h1 := h a List.mem_cons_self
    have h2 := sum_le r fun x hx => h x (List.mem_cons_of_mem _ hx)
    simp only [List.map_cons, List.sum_cons]
    omega
theorem sum_eq {α : Type} {f g : α → Int} (l : List α) (h : ∀ x ∈ l, f x = g x) : (l.map f).sum = (l.map g).sum := by
  rw [List.map_congr_left h]
theorem sum_add {α : Type} {f g : α → Int} : ∀ l : List α, (l.map fun x => f x + g x).sum = (l.map f).sum + (l.map g).sum
  | [] => rfl
  | a :: r => by
    simp only [List.map_cons, List.sum_cons, sum_add r]
    omega
theorem sum_sub {α : Type} {f g : α → Int} : ∀ l : List α, (l.map fun x => f x - g x).sum = (l.map f).sum - (l.map g).sum
  | [] => rfl
  | a :: r => by
    simp only [List.map_cons, List.sum_cons, sum_sub r]
    omega
theorem sum_zero {α : Type} {f : α → Int} (l : List α) (h : ∀ x ∈ l, f x = 0) : (l.map f).sum = 0 := by
  induction l with
  | nil => rfl
  | cons a r ih =>
    rw [List.map_cons, List.sum_cons, h a List.mem_cons_self, ih fun x hx => h x (List.mem_cons_of_mem _ hx)]
    rfl
theorem out_sum {sp : List (Nat × Nat)} {nums : List Int} {lot : List Bool} : outOf sp nums lot = ((sp.zip nums).map fun p => if lot[p.1.1]? ≠ lot[p.1.2]? then p.2 else 0).sum := by
  unfold outOf outs
  rw [sum_filter]
  simp
theorem give_sum {ws : List Int} {lot : List Bool} : giveOf ws lot = ((ws.zip lot).map fun p => if p.2 then p.1 else 0).sum := by
  unfold giveOf
  rw [sum_filter]
theorem give_set : ∀ {ws : List Int} {lot : List Bool} {i : Nat} {v : Int}, i < ws.length → giveOf (ws.set i v) lot = giveOf ws lot + if lot[i]? = some true then v - (ws[i]?).getD 0 else 0
  | [], _, _, _, h => absurd h (Nat.not_lt_zero _)
  | w :: ws, [], i, v, h => by
    cases i <;> simp [give_sum]
  | w :: ws, x :: lot, 0, v, h => by
    cases x <;> simp [give_sum]
    omega
  | w :: ws, x :: lot, i + 1, v, h => by
    have := give_set (ws := ws) (lot := lot) (i := i) (v := v) (Nat.lt_of_succ_lt_succ h)
    rw [give_sum, give_sum] at this
    rw [give_sum, give_sum]
    simp only [List.set_cons_succ, List.zip_cons_cons, List.map_cons, List.sum_cons, List.getElem?_cons_succ, this]
    omega
theorem out_set : ∀ {sp : List (Nat × Nat)} {nums : List Int} {lot : List Bool} {a i j : Nat} {b v : Int}, sp[a]? = some (i, j) → nums[a]? = some b → outOf sp (nums.set a v) lot = outOf sp nums lot + if lot[i]? ≠ lot[j]? then v - b else 0
  | [], _, _, _, _, _, _, _, h, _ => by simp at h
  | _ :: _, [], _, _, _, _, _, _, _, h => by simp at h
  | p :: sp, x :: nums, lot, 0, i, j, b, v, h1, h2 => by
    simp only [List.getElem?_cons_zero, Option.some.injEq] at h1 h2
    subst h1 h2
    simp only [out_sum, List.set_cons_zero, List.zip_cons_cons, List.map_cons, List.sum_cons]
    split <;> omega
  | p :: sp, x :: nums, lot, a + 1, i, j, b, v, h1, h2 => by
    rw [List.getElem?_cons_succ] at h1 h2
    have := out_set (lot := lot) (v := v) h1 h2
    rw [out_sum, out_sum] at this
    rw [out_sum, out_sum]
    simp only [List.set_cons_succ, List.zip_cons_cons, List.map_cons, List.sum_cons, this]
    omega
theorem zeroAt_set {nums : List Int} {a : Nat} : zeroAt nums a = nums.set a 0 := by
  unfold zeroAt
  apply List.ext_getElem?
  intro k
  rw [List.getElem?_map, List.getElem?_zipIdx, List.getElem?_set]
  by_cases h : a = k
  · subst h
    by_cases h2 : a < nums.length
    · simp [h2]
    · simp [h2]
  · cases nums[k]? with
    | none => simp [h]
    | some y => simp [h]; omega
abbrev notL (l : List Bool) : List Bool := l.map (!·)
abbrev diffL (l r : List Bool) : List Bool := List.zipWith (fun a b => a && !b) l r
theorem getB {l : List Bool} {i : Nat} (h : i < l.length) : ∃ x, l[i]? = some x := ⟨_, List.getElem?_eq_getElem h⟩
theorem out_not {sp : List (Nat × Nat)} {nums : List Int} {lot : List Bool} (h : ∀ p ∈ sp, p.1 < lot.length ∧ p.2 < lot.length) : outOf sp nums (notL lot) = outOf sp nums lot := by
  rw [out_sum, out_sum]
  refine sum_eq _ ?_
  rintro ⟨⟨i, j⟩, c⟩ hp
  have hb := h _ (List.of_mem_zip hp).1
  obtain ⟨x, hx⟩ := getB hb.1
  obtain ⟨y, hy⟩ := getB hb.2
  simp only [List.getElem?_map, hx, hy, Option.map_some]
  cases x <;> cases y <;> rfl
theorem give_not : ∀ {ws : List Int} {lot : List Bool}, ws.length = lot.length → giveOf ws (notL lot) = ws.sum - giveOf ws lot
  | [], [], _ => rfl
  | w :: ws, x :: lot, h => by
    have := give_not (ws := ws) (lot := lot) (Nat.succ.inj h)
    rw [give_sum, give_sum] at this
    rw [give_sum, give_sum]
    simp only [notL, List.map_cons, List.zip_cons_cons, List.sum_cons] at this ⊢
    cases x <;> simp <;> omega
theorem give_diff : ∀ {ws : List Int} {l r : List Bool}, ws.length = l.length → ws.length = r.length → giveOf ws l - giveOf ws r = giveOf ws (diffL l r) - giveOf ws (diffL r l)
  | [], [], [], _, _ => rfl
  | w :: ws, x :: l, y :: r, h1, h2 => by
    have := give_diff (ws := ws) (l := l) (r := r) (Nat.succ.inj h1) (Nat.succ.inj h2)
    simp only [give_sum] at this
    simp only [give_sum]
    simp only [diffL, List.map_cons, List.zip_cons_cons, List.sum_cons, List.zipWith_cons_cons] at this ⊢
    cases x <;> cases y <;> simp <;> omega
theorem out_diff {sp : List (Nat × Nat)} {nums : List Int} {l r : List Bool} {n : Nat} (h : ∀ p ∈ sp, p.1 < n ∧ p.2 < n) (hl : l.length = n) (hr : r.length = n) (h0 : ∀ c ∈ nums, 0 ≤ c) : outOf sp nums (diffL l r) + outOf sp nums (diffL r l) ≤ outOf sp nums l + outOf sp nums r := by
  simp only [out_sum]
  rw [← sum_add, ← sum_add]
  refine sum_le _ ?_
  rintro ⟨⟨i, j⟩, c⟩ hp
  have hb := h _ (List.of_mem_zip hp).1
  have hc := h0 _ (List.of_mem_zip hp).2
  obtain ⟨x1, hx1⟩ := getB (l := l) (i := i) (by omega)
  obtain ⟨y1, hy1⟩ := getB (l := l) (i := j) (by omega)
  obtain ⟨x2, hx2⟩ := getB (l := r) (i := i) (by omega)
  obtain ⟨y2, hy2⟩ := getB (l := r) (i := j) (by omega)
  simp only [diffL, List.getElem?_zipWith, hx1, hx2, hy1, hy2]
  cases x1 <;> cases y1 <;> cases x2 <;> cases y2 <;> simp <;> omega
/-- a lot with one island and without another one -/
abbrev Cr (i j : Nat) (l : List Bool) : Prop := l[i]? = some true ∧ l[j]? = some false
theorem rng_spec {sp : List (Nat × Nat)} {nums ws : List Int} {b : Int} {i j : Nat} : ∀ (ls : List (List Bool)) (q : Int × Int),
    (q.1 ≤ (ls.foldl (rngStep sp nums ws b i j) q).1 ∧ (ls.foldl (rngStep sp nums ws b i j) q).2 ≤ q.2) ∧
    (∀ l ∈ ls, Cr i j l → giveOf ws l - (outOf sp nums l - b) ≤ (ls.foldl (rngStep sp nums ws b i j) q).1 ∧ (ls.foldl (rngStep sp nums ws b i j) q).2 ≤ giveOf ws l + (outOf sp nums l - b)) ∧
    ((ls.foldl (rngStep sp nums ws b i j) q).1 = q.1 ∨ ∃ l ∈ ls, Cr i j l ∧ (ls.foldl (rngStep sp nums ws b i j) q).1 = giveOf ws l - (outOf sp nums l - b)) ∧
    ((ls.foldl (rngStep sp nums ws b i j) q).2 = q.2 ∨ ∃ l ∈ ls, Cr i j l ∧ (ls.foldl (rngStep sp nums ws b i j) q).2 = giveOf ws l + (outOf sp nums l - b))
  | [], q => ⟨⟨Int.le_refl _, Int.le_refl _⟩, fun _ h => absurd h List.not_mem_nil, .inl rfl, .inl rfl⟩
  | l :: ls, q => by
    obtain ⟨⟨h1, h2⟩, h3, h4, h5⟩ := rng_spec (sp := sp) (nums := nums) (ws := ws) (b := b) (i := i) (j := j) ls (rngStep sp nums ws b i j q l)
    rw [List.foldl_cons]
    generalize List.foldl (rngStep sp nums ws b i j) (rngStep sp nums ws b i j q l) ls = Q at *
    by_cases hc : Cr i j l
    · have e : rngStep sp nums ws b i j q l = (if giveOf ws l - (outOf sp nums l - b) > q.1 then giveOf ws l - (outOf sp nums l - b) else q.1, if giveOf ws l + (outOf sp nums l - b) < q.2 then giveOf ws l + (outOf sp nums l - b) else q.2) := if_pos hc
      rw [e] at h1 h2 h4 h5
      simp only at h1 h2 h4 h5
      refine ⟨⟨?_, ?_⟩, ?_, ?_, ?_⟩
      · split at h1 <;> omega
      · split at h2 <;> omega
      · intro l' hl' hc'
        rcases List.mem_cons.mp hl' with rfl | hl'
        · constructor
          · split at h1 <;> omega
          · split at h2 <;> omega
        · exact h3 l' hl' hc'
      · rcases h4 with h4 | ⟨l', hl', hc', e'⟩
        · split at h4
          · exact .inr ⟨l, List.mem_cons_self, hc, h4⟩
          · exact .inl h4
        · exact .inr ⟨l', List.mem_cons_of_mem _ hl', hc', e'⟩
      · rcases h5 with h5 | ⟨l', hl', hc', e'⟩
        · split at h5
          · exact .inr ⟨l, List.mem_cons_self, hc, h5⟩
          · exact .inl h5
        · exact .inr ⟨l', List.mem_cons_of_mem _ hl', hc', e'⟩
    · have e : rngStep sp nums ws b i j q l = q := if_neg hc
      rw [e] at h1 h2 h4 h5
      refine ⟨⟨h1, h2⟩, ?_, ?_, ?_⟩
      · intro l' hl' hc'
        rcases List.mem_cons.mp hl' with rfl | hl'
        · exact absurd hc' hc
        · exact h3 l' hl' hc'
      · rcases h4 with h4 | ⟨l', hl', hc', e'⟩
        · exact .inl h4
        · exact .inr ⟨l', List.mem_cons_of_mem _ hl', hc', e'⟩
      · rcases h5 with h5 | ⟨l', hl', hc', e'⟩
        · exact .inl h5
        · exact .inr ⟨l', List.mem_cons_of_mem _ hl', hc', e'⟩
/-- what is kept while the numbers are found -/
structure FlowOk (n : Nat) (sp : List (Nat × Nat)) (nums ws : List Int) : Prop where
  ln : nums.length = sp.length
  lw : ws.length = n
  pos : ∀ c ∈ nums, 0 ≤ c
  sum : ws.sum = 0
  le : ∀ l : List Bool, l.length = n → giveOf ws l ≤ outOf sp nums l
  lt : ∀ p ∈ sp, p.1 < n ∧ p.2 < n
theorem FlowOk.ge {n : Nat} {sp : List (Nat × Nat)} {nums ws : List Int} (h : FlowOk n sp nums ws) (l : List Bool) (hl : l.length = n) : -(outOf sp nums l) ≤ giveOf ws l := by
  have h1 := h.le (notL l) (by simp [hl])
  rw [give_not (by rw [h.lw, hl]), h.sum, out_not (by rw [hl]; exact h.lt)] at h1
  omega
theorem Cr.mem {i j n : Nat} {l : List Bool} (h : Cr i j l) (hl : l.length = n) : l ∈ lotsOf n :=
  mem_lotsOf.mpr ⟨hl, List.mem_of_getElem? h.1, List.mem_of_getElem? h.2⟩
theorem flowX_spec {n : Nat} {sp : List (Nat × Nat)} {nums ws found : List Int} (h : FlowOk n sp nums ws) {a i j : Nat} {b : Int} (ha : sp[a]? = some (i, j)) (hb : nums[a]? = some b) :
    -b ≤ flowX sp (nums, ws, found) ((i, j), a) ∧ flowX sp (nums, ws, found) ((i, j), a) ≤ b ∧
    ∀ l : List Bool, l.length = n → Cr i j l → giveOf ws l - (outOf sp nums l - b) ≤ flowX sp (nums, ws, found) ((i, j), a) ∧ flowX sp (nums, ws, found) ((i, j), a) ≤ giveOf ws l + (outOf sp nums l - b) := by
  have hb0 : 0 ≤ b := h.pos _ (List.mem_of_getElem? hb)
  obtain ⟨⟨h1, h2⟩, h3, h4, h5⟩ := rng_spec (sp := sp) (nums := nums) (ws := ws) (b := b) (i := i) (j := j) (lotsOf ws.length) (-b, b)
  have hq : rngOf sp nums ws b i j = List.foldl (rngStep sp nums ws b i j) (-b, b) (lotsOf ws.length) := rfl
  rw [← hq] at h1 h2 h3 h4 h5
  have hx : flowX sp (nums, ws, found) ((i, j), a) = clampF (rngOf sp nums ws b i j) := by simp [flowX, hb]
  rw [hx]
  generalize rngOf sp nums ws b i j = q at *
  simp only at h1 h2 h4 h5
  have hle : q.1 ≤ q.2 := by
    rcases h4 with h4 | ⟨l, hl, hc, e⟩
    · rcases h5 with h5 | ⟨r, hr, hd, e'⟩
      · omega
      · have := h.ge r (by rw [(mem_lotsOf.mp hr).1, h.lw])
        omega
    · have hln : l.length = n := by rw [(mem_lotsOf.mp hl).1, h.lw]
      rcases h5 with h5 | ⟨r, hr, hd, e'⟩
      · have := h.le l hln
        omega
      · have hrn : r.length = n := by rw [(mem_lotsOf.mp hr).1, h.lw]
        have g := give_diff (ws := ws) (l := l) (r := r) (by rw [h.lw, hln]) (by rw [h.lw, hrn])
        have g1 := h.le (diffL l r) (by simp [diffL, hln, hrn])
        have g2 := h.ge (diffL r l) (by simp [diffL, hln, hrn])
        have o := out_diff (sp := sp) (nums := nums.set a 0) (l := l) (r := r) h.lt hln hrn (by
          intro c hc
          rcases List.mem_or_eq_of_mem_set hc with hc | rfl
          · exact h.pos c hc
          · exact Int.le_refl _)
        have ij := h.lt _ (List.mem_of_getElem? ha)
        rw [out_set ha hb, out_set ha hb, out_set ha hb, out_set ha hb] at o
        have c1 : (diffL l r)[i]? = some false := by simp [diffL, List.getElem?_zipWith, hc.1, hd.1]
        have c2 : (diffL l r)[j]? = some false := by simp [diffL, List.getElem?_zipWith, hc.2, hd.2]
        have c3 : (diffL r l)[i]? = some false := by simp [diffL, List.getElem?_zipWith, hc.1, hd.1]
        have c4 : (diffL r l)[j]? = some false := by simp [diffL, List.getElem?_zipWith, hc.2, hd.2]
        rw [c1, c2, c3, c4, hc.1, hc.2, hd.1, hd.2] at o
        simp only [ne_eq, not_true_eq_false, if_false, Option.some.injEq, Bool.true_eq_false, not_false_eq_true, if_true] at o
        omega
  have hcl : q.1 ≤ clampF q ∧ clampF q ≤ q.2 := by
    unfold clampF
    split <;> split at * <;> omega
  refine ⟨by omega, by omega, fun l hl hc => ?_⟩
  have := h3 l (by rw [h.lw]; exact hc.mem hl) hc
  omega
theorem flowStep_ok {n : Nat} {sp : List (Nat × Nat)} {nums ws found : List Int} (h : FlowOk n sp nums ws) {a i j : Nat} {b : Int} (ha : sp[a]? = some (i, j)) (hb : nums[a]? = some b) (hij : i ≠ j) :
    FlowOk n sp (flowStep sp (nums, ws, found) ((i, j), a)).1 (flowStep sp (nums, ws, found) ((i, j), a)).2.1 := by
  obtain ⟨x1, x2, x3⟩ := flowX_spec (found := found) h ha hb
  have hb0 : 0 ≤ b := h.pos _ (List.mem_of_getElem? hb)
  simp only [flowStep]
  generalize flowX sp (nums, ws, found) ((i, j), a) = x at *
  have ij := h.lt _ (List.mem_of_getElem? ha)
  simp only at ij
  have gi : ∀ l, giveOf (flowW ws i j x) l = giveOf ws l + (if l[i]? = some true then -x else 0) + (if l[j]? = some true then x else 0) := by
    intro l
    unfold flowW
    rw [give_set (by rw [List.length_set, h.lw]; exact ij.2), give_set (by rw [h.lw]; exact ij.1)]
    by_cases c1 : l[i]? = some true <;> by_cases c2 : l[j]? = some true <;> simp [c1, c2] <;> omega
  have hz : ∀ l, l.length = n → giveOf ws l ≤ outOf sp nums l := h.le
  refine ⟨by rw [zeroAt_len]; exact h.ln, by rw [flowW_len]; exact h.lw, ?_, ?_, ?_, h.lt⟩
  · intro c hc
    rw [zeroAt_set] at hc
    rcases List.mem_or_eq_of_mem_set hc with hc | rfl
    · exact h.pos c hc
    · exact Int.le_refl _
  · have hs : ∀ (w : List Int), w.sum = giveOf w (List.replicate w.length true) := by
      intro w
      rw [give_sum]
      induction w with
      | nil => rfl
      | cons y w ih => rw [List.length_cons, List.replicate_succ, List.zip_cons_cons, List.map_cons, List.sum_cons, List.sum_cons, ih]; simp
    have h0 := h.sum
    rw [hs] at h0 ⊢
    rw [flowW_len, gi, h0]
    rw [h.lw, List.getElem?_replicate, List.getElem?_replicate, if_pos ij.1, if_pos ij.2]
    simp
    omega
  · intro l hl
    rw [zeroAt_set, out_set ha hb, gi]
    obtain ⟨x, hx⟩ := getB (l := l) (i := i) (by omega)
    obtain ⟨y, hy⟩ := getB (l := l) (i := j) (by omega)
    have hh := h.le l hl
    cases x <;> cases y
    · rw [hx, hy]; simp; omega
    · have := x3 (notL l) (by simp [hl]) ⟨by simp [hx], by simp [hy]⟩
      rw [give_not (by rw [h.lw, hl]), h.sum, out_not (by rw [hl]; exact h.lt)] at this
      rw [hx, hy]; simp; omega
    · have := x3 l hl ⟨hx, hy⟩
      rw [hx, hy]; simp; omega
    · rw [hx, hy]; simp; omega
theorem flowW_get {ws : List Int} {i j : Nat} {x : Int} (hi : i < ws.length) (hj : j < ws.length) (hij : i ≠ j) (v : Nat) : ((flowW ws i j x)[v]?).getD 0 = (ws[v]?).getD 0 - (if v = i then x else 0) + (if v = j then x else 0) := by
  unfold flowW
  by_cases h1 : v = j
  · subst h1
    have h2 : ¬ v = i := fun e => hij e.symm
    rw [List.getElem?_set_self (by simpa using hj), List.getElem?_set_ne hij]
    simp [h2]
  · rw [List.getElem?_set_ne (fun e => h1 e.symm)]
    by_cases h2 : v = i
    · subst h2
      rw [List.getElem?_set_self hi]
      simp [h1]
    · rw [List.getElem?_set_ne (fun e => h2 e.symm)]
      simp [h1, h2]
/-- what is given by some bridges, told one by one -/
def outAcc (o : List Int) (l : List ((Nat × Nat) × Int)) : List Int := l.foldl (fun o p => flowW o p.1.1 p.1.2 (-p.2)) o
theorem outAcc_len : ∀ (l : List ((Nat × Nat) × Int)) (o : List Int), (outAcc o l).length = o.length
  | [], _ => rfl
  | p :: l, o => by
    unfold outAcc
    rw [List.foldl_cons]
    exact (outAcc_len l _).trans flowW_len
theorem zip_snoc {α β : Type} : ∀ {l : List α} {r : List β} {a : α} {b : β}, l[r.length]? = some a → l.zip (r ++ [b]) = l.zip r ++ [(a, b)]
  | [], _, _, _, h => by simp at h
  | c :: l, [], a, b, h => by
    simp at h
    simp [h]
  | c :: l, d :: r, a, b, h => by
    simp only [List.length_cons, List.getElem?_cons_succ] at h
    simp [zip_snoc h]
structure FlowAt (n : Nat) (nums w0 : List Int) (t : Nat) (s : FSt) : Prop where
  ok : FlowOk n (spans n) s.1 s.2.1
  rest : ∀ a : Nat, t ≤ a → s.1[a]? = nums[a]?
  gone : ∀ a : Nat, a < t → s.1[a]? = some 0
  len : s.2.2.length = t
  bnd : ∀ (a : Nat) (x : Int), s.2.2[a]? = some x → ∃ b : Int, nums[a]? = some b ∧ -b ≤ x ∧ x ≤ b
  acc : ∀ v : Nat, ((outAcc (List.replicate n 0) ((spans n).zip s.2.2))[v]?).getD 0 + (s.2.1[v]?).getD 0 = (w0[v]?).getD 0
theorem flow_inv {n : Nat} {nums w0 : List Int} (h0 : FlowOk n (spans n) nums w0) : ∀ t, t ≤ (spans n).length → FlowAt n nums w0 t (((spans n).zipIdx.take t).foldl (flowStep (spans n)) (nums, w0, []))
  | 0, _ => by
    refine ⟨h0, fun _ _ => rfl, fun a h => absurd h (Nat.not_lt_zero a), rfl, fun a x h => by simp at h, fun v => ?_⟩
    simp [outAcc, List.getElem?_replicate]
    by_cases hv : v < n <;> simp [hv]
  | t + 1, ht => by
    have ih := flow_inv h0 t (by omega)
    obtain ⟨⟨i, j⟩, hp⟩ : ∃ p, (spans n)[t]? = some p := ⟨_, List.getElem?_eq_getElem (by omega)⟩
    have hz : (spans n).zipIdx[t]? = some ((i, j), t) := by rw [List.getElem?_zipIdx, hp]; simp
    rw [List.take_succ, hz, List.foldl_append]
    generalize ((spans n).zipIdx.take t).foldl (flowStep (spans n)) (nums, w0, []) = s at ih
    obtain ⟨ns, ws, found⟩ := s
    obtain ⟨i1, i2, i3, i4, i5, i6⟩ := ih
    simp only at i1 i2 i3 i4 i5 i6
    obtain ⟨b, hb⟩ : ∃ b, nums[t]? = some b := ⟨_, List.getElem?_eq_getElem (by rw [h0.ln]; omega)⟩
    have hb' : ns[t]? = some b := by rw [i2 t (Nat.le_refl _), hb]
    have hij := spans_lt (List.mem_of_getElem? hp)
    have hne : i ≠ j := by simp only at hij; omega
    obtain ⟨x1, x2, x3⟩ := flowX_spec (found := found) i1 hp hb'
    have ok := flowStep_ok (found := found) i1 hp hb' hne
    show FlowAt n nums w0 (t + 1) (flowStep (spans n) (ns, ws, found) ((i, j), t))
    simp only [flowStep] at ok ⊢
    generalize flowX (spans n) (ns, ws, found) ((i, j), t) = x at *
    simp only at hij
    refine ⟨ok, ?_, ?_, ?_, ?_, ?_⟩
    · intro a ha
      simp only
      rw [zeroAt_set, List.getElem?_set_ne (by omega)]
      exact i2 a (by omega)
    · intro a ha
      simp only
      rw [zeroAt_set]
      by_cases h : a = t
      · subst h
        rw [List.getElem?_set_self (by rw [i1.ln]; omega)]
      · rw [List.getElem?_set_ne (by omega)]
        exact i3 a (by omega)
    · simp [i4]
    · intro a y hy
      simp only at hy
      by_cases h : a < t
      · rw [List.getElem?_append_left (by omega)] at hy
        exact i5 a y hy
      · rw [List.getElem?_append_right (by omega)] at hy
        have : a = t := by
          have := (List.getElem?_eq_some_iff.mp hy).1
          simp at this
          omega
        subst this
        rw [i4, Nat.sub_self] at hy
        simp at hy
        subst hy
        exact ⟨b, hb, x1, x2⟩
    · intro v
      simp only
      rw [zip_snoc (a := (i, j)) (by rw [i4]; exact hp)]
      unfold outAcc
      rw [List.foldl_append, List.foldl_cons, List.foldl_nil]
      have hl : (outAcc (List.replicate n 0) ((spans n).zip found)).length = n := by rw [outAcc_len, List.length_replicate]
      have := i6 v
      unfold outAcc at this hl
      rw [flowW_get (by rw [hl]; omega) (by rw [hl]; omega) hne, flowW_get (by rw [i1.lw]; omega) (by rw [i1.lw]; omega) hne]
      simp only
      split <;> split <;> omega
theorem single_give : ∀ {ws : List Int} {v : Nat}, v < ws.length → giveOf ws ((List.range ws.length).map fun k => decide (k = v)) = (ws[v]?).getD 0 := by
  intro ws v hv
  have key : ∀ (ws : List Int) (v k : Nat), (((ws.zip ((List.range' k ws.length).map fun a => decide (a = v))).map fun p => if p.2 then p.1 else 0).sum : Int) = if k ≤ v then (ws[v - k]?).getD 0 else 0 := by
    intro ws
    induction ws with
    | nil => intro v k; simp
    | cons w ws ih =>
      intro v k
      rw [List.length_cons, List.range'_succ, List.map_cons, List.zip_cons_cons, List.map_cons, List.sum_cons, ih v (k + 1)]
      by_cases h : k = v
      · subst h
        have h3 : ¬ k + 1 ≤ k := by omega
        simp [h3]
      · by_cases h2 : k ≤ v
        · have h3 : k + 1 ≤ v := by omega
          have e : v - k = (v - (k + 1)) + 1 := by omega
          simp only [h2, h3, if_true, h, decide_false, e, List.getElem?_cons_succ]
          simp
        · have h3 : ¬ k + 1 ≤ v := by omega
          simp [h2, h3, h]
  rw [give_sum, List.range_eq_range', key ws v 0]
  simp
theorem outs_nn {sp : List (Nat × Nat)} {nums : List Int} {lot : List Bool} (h : ∀ c ∈ nums, 0 ≤ c) : 0 ≤ outOf sp nums lot := by
  have := sum_le (f := fun _ => (0 : Int)) (g := fun p : (Nat × Nat) × Int => if lot[p.1.1]? ≠ lot[p.1.2]? then p.2 else 0) (sp.zip nums) (fun p hp => by
    have := h p.2 (List.of_mem_zip hp).2
    show (0 : Int) ≤ if _ then _ else _
    split <;> omega)
  rw [out_sum]
  rw [sum_zero (f := fun _ => (0 : Int)) _ (fun _ _ => rfl)] at this
  exact this
theorem wants0_len {n i j : Nat} {many : Int} : (wants0 n i j many).length = n := by simp [wants0]
theorem wants0_get {n i j v : Nat} {many : Int} (hv : v < n) : (wants0 n i j many)[v]? = some (if v = i then many else if v = j then -many else 0) := by
  unfold wants0
  rw [List.getElem?_map, List.getElem?_range hv]
  rfl
theorem wants0_eq {n i j : Nat} {many : Int} (hi : i < n) (hj : j < n) (hij : i ≠ j) : wants0 n i j many = flowW (List.replicate n 0) i j (-many) := by
  apply List.ext_getElem?
  intro v
  by_cases hv : v < n
  · have h := flowW_get (ws := List.replicate n 0) (i := i) (j := j) (x := -many) (by simpa using hi) (by simpa using hj) hij v
    rw [wants0_get hv]
    have hl : v < (flowW (List.replicate n 0) i j (-many)).length := by rw [flowW_len]; simpa using hv
    rw [List.getElem?_eq_getElem hl] at h ⊢
    simp only [Option.getD_some] at h
    rw [h, List.getElem?_replicate, if_pos hv]
    simp only [Option.getD_some, Option.some.injEq]
    split <;> split <;> omega
  · rw [List.getElem?_eq_none (by rw [wants0_len]; omega), List.getElem?_eq_none (by rw [flowW_len]; simp; omega)]
theorem give_zero : ∀ {n : Nat} {l : List Bool}, giveOf (List.replicate n 0) l = 0 := by
  intro n l
  rw [give_sum]
  refine sum_zero _ ?_
  rintro ⟨w, x⟩ hp
  have := (List.of_mem_zip hp).1
  rw [List.mem_replicate] at this
  simp [this.2]
theorem give_flowW {ws : List Int} {i j : Nat} {x : Int} {l : List Bool} (hi : i < ws.length) (hj : j < ws.length) (hij : i ≠ j) : giveOf (flowW ws i j x) l = giveOf ws l + (if l[i]? = some true then -x else 0) + (if l[j]? = some true then x else 0) := by
  unfold flowW
  rw [give_set (by rw [List.length_set]; exact hj), give_set hi]
  by_cases c1 : l[i]? = some true <;> by_cases c2 : l[j]? = some true <;> simp [c1, c2] <;> omega
theorem sum_give (w : List Int) : w.sum = giveOf w (List.replicate w.length true) := by
  rw [give_sum]
  induction w with
  | nil => rfl
  | cons y w ih => rw [List.length_cons, List.replicate_succ, List.zip_cons_cons, List.map_cons, List.sum_cons, List.sum_cons, ih]; simp
theorem flow_start {n i j : Nat} {nums : List Int} (hl : nums.length = (spans n).length) (h0 : ∀ c ∈ nums, 0 ≤ c) (hi : i < n) (hj : j < n) (hij : i ≠ j) : FlowOk n (spans n) nums (wants0 n i j (betw n nums i j)) := by
  obtain ⟨⟨l0, hl0, e0⟩, hb⟩ := betw_spec (nums := nums) hi hj hij
  have hb0 : 0 ≤ betw n nums i j := by rw [← e0]; exact outs_nn h0
  refine ⟨hl, wants0_len, h0, ?_, ?_, fun p hp => by have := spans_lt hp; omega⟩
  · rw [sum_give, wants0_eq hi hj hij, give_flowW (by simpa using hi) (by simpa using hj) hij, give_zero, flowW_len, List.length_replicate, List.getElem?_replicate, List.getElem?_replicate, if_pos hi, if_pos hj]
    simp
    omega
  · intro l hn
    rw [wants0_eq hi hj hij, give_flowW (by simpa using hi) (by simpa using hj) hij, give_zero]
    have := outs_nn (sp := spans n) (lot := l) h0
    by_cases c1 : l[i]? = some true
    · by_cases c2 : l[j]? = some true
      · rw [if_pos c1, if_pos c2]; omega
      · have c3 : l[j]? = some false := by
          obtain ⟨y, hy⟩ := getB (l := l) (i := j) (by omega)
          cases y
          · exact hy
          · exact absurd hy c2
        have := hb l (List.mem_filter.mpr ⟨Cr.mem ⟨c1, c3⟩ hn, by simp [c1, c3]⟩)
        rw [if_pos c1, if_neg c2]; omega
    · rw [if_neg c1]
      split <;> omega
/-- what flow_of finds leads as much as is wanted -/
theorem flow_right {n i j : Nat} {nums : List Int} (hl : nums.length = (spans n).length) (h0 : ∀ c ∈ nums, 0 ≤ c) (hi : i < n) (hj : j < n) (hij : i ≠ j) :
    (flowAll n nums i j (betw n nums i j)).2.2.length = (spans n).length ∧
    (∀ p ∈ nums.zip (flowAll n nums i j (betw n nums i j)).2.2, -p.1 ≤ p.2 ∧ p.2 ≤ p.1) ∧
    outAcc (List.replicate n 0) ((spans n).zip (flowAll n nums i j (betw n nums i j)).2.2) = wants0 n i j (betw n nums i j) := by
  have h := flow_inv (flow_start hl h0 hi hj hij) (spans n).length (Nat.le_refl _)
  rw [show (spans n).zipIdx.take (spans n).length = (spans n).zipIdx from List.take_of_length_le (by simp)] at h
  have e : ((spans n).zipIdx.foldl (flowStep (spans n)) (nums, wants0 n i j (betw n nums i j), [])) = flowAll n nums i j (betw n nums i j) := rfl
  rw [e] at h
  generalize flowAll n nums i j (betw n nums i j) = s at h
  obtain ⟨ns, ws, found⟩ := s
  obtain ⟨i1, i2, i3, i4, i5, i6⟩ := h
  simp only at i1 i2 i3 i4 i5 i6 ⊢
  have hz : ∀ c ∈ ns, c = 0 := by
    intro c hc
    obtain ⟨a, ha⟩ := List.mem_iff_getElem?.mp hc
    have hlt := (List.getElem?_eq_some_iff.mp ha).1
    rw [i3 a (by rw [← i1.ln]; exact hlt)] at ha
    exact (Option.some.inj ha).symm
  have ho : ∀ l, outOf (spans n) ns l = 0 := by
    intro l
    rw [out_sum]
    refine sum_zero _ ?_
    rintro ⟨p, c⟩ hp
    have := hz c (List.of_mem_zip hp).2
    simp [this]
  have hw : ∀ v : Nat, v < n → (ws[v]?).getD 0 = 0 := by
    intro v hv
    have hlv : ((List.range ws.length).map fun k => decide (k = v)).length = n := by simp [i1.lw]
    have a1 := i1.le _ hlv
    have a2 := i1.ge _ hlv
    rw [ho, single_give (by rw [i1.lw]; exact hv)] at a1 a2
    omega
  refine ⟨i4, ?_, ?_⟩
  · rintro ⟨b, x⟩ hp
    obtain ⟨a, ha⟩ := List.mem_iff_getElem?.mp hp
    rw [List.getElem?_zip_eq_some] at ha
    obtain ⟨b', hb', h1, h2⟩ := i5 a x ha.2
    rw [ha.1] at hb'
    cases hb'
    exact ⟨h1, h2⟩
  · apply List.ext_getElem?
    intro v
    have hlo : (outAcc (List.replicate n 0) ((spans n).zip found)).length = n := by rw [outAcc_len, List.length_replicate]
    by_cases hv : v < n
    · have h6 := i6 v
      rw [hw v hv] at h6
      rw [wants0_get hv] at h6 ⊢
      rw [List.getElem?_eq_getElem (by omega)] at h6 ⊢
      simp only [Option.getD_some] at h6
      rw [← h6]
      simp
    · rw [List.getElem?_eq_none (by omega), List.getElem?_eq_none (by rw [wants0_len]; omega)]
end K85

set_option Elab.async false
set_option linter.all false
set_option maxRecDepth 100000
set_option maxHeartbeats 4000000
namespace K85
open PySem PySem.Spec PyProof.Rows L2 Ev
/-! ### loops that may end early -/
def firstO {α : Type} (q : Nat → α → Option D) : List α → Nat → Option D
  | [], _ => none
  | a :: r, k => match q k a with
    | some x => some x
    | none => firstO q r (k + 1)
theorem forL_first {α : Type} {g : D → Ev.Env → Mem → R (Fl × Ev.Env)} {src : Src} {m : Mem} {e : α → D} (hs : srcOk src m = true) (P : Nat → Ev.Env → Prop) (q : Nat → α → Option D) : ∀ (l : List α) (k : Nat) (ρ : Ev.Env), P k ρ →
    (∀ (i : Nat) (a : α) (ρ : Ev.Env), l[i]? = some a → P (k + i) ρ → (∃ x ρ', q (k + i) a = some x ∧ g (e a) ρ m = .ok (.rt x, ρ') m) ∨ (q (k + i) a = none ∧ ∃ ρ', g (e a) ρ m = .ok (.nx, ρ') m ∧ P (k + i + 1) ρ')) →
    (∃ x ρ', firstO q l k = some x ∧ forL g src (l.map e) ρ m = .ok (.rt x, ρ') m) ∨ (firstO q l k = none ∧ ∃ ρ', forL g src (l.map e) ρ m = .ok (.nx, ρ') m ∧ P (k + l.length) ρ')
  | [], k, ρ, h0, _ => .inr ⟨rfl, ρ, by rw [List.map_nil]; exact forL_nil hs, by simpa using h0⟩
  | a :: r, k, ρ, h0, hstep => by
    rcases hstep 0 a ρ rfl (by simpa using h0) with ⟨x, ρ1, e1, e2⟩ | ⟨e1, ρ1, e2, p1⟩
    · rw [Nat.add_zero] at e1
      exact .inl ⟨x, ρ1, by simp [firstO, e1], by rw [List.map_cons]; exact forL_rt hs e2⟩
    · rw [Nat.add_zero] at e1
      rcases forL_first hs P q r (k + 1) ρ1 (by simpa using p1) (fun i b ρ hb hp => by
        have := hstep (i + 1) b ρ (by simpa using hb) (by rw [show k + (i + 1) = k + 1 + i by omega]; exact hp)
        rw [show k + (i + 1) = k + 1 + i by omega, show k + 1 + i + 1 = k + 1 + i + 1 from rfl] at this
        exact this) with ⟨x, ρ2, e3, e4⟩ | ⟨e3, ρ2, e4, p2⟩
      · exact .inl ⟨x, ρ2, by simp [firstO, e1, e3], by rw [List.map_cons, forL_nx hs e2]; exact e4⟩
      · refine .inr ⟨by simp [firstO, e1, e3], ρ2, by rw [List.map_cons, forL_nx hs e2]; exact e4, ?_⟩
        rw [List.length_cons, show k + (r.length + 1) = k + 1 + r.length by omega]
        exact p2
/-! ### names -/
def inS (a b : Str) : Bool := !(Builtin.Str.occurrences b a 0 b.length 1).isEmpty
theorem in_ss {a b : Str} {m : Mem} : opCmp .In (.str a) (.str b) m = some (inS a b) := rfl
theorem inS_one {c : Nat} {b : Str} : inS ⟨#[c]⟩ b = decide (c ∈ b.cps.toList) := by
  unfold inS
  rw [PyProof.Rows.empty_one, Bool.not_not]
abbrev abcS : Str := "abcdefghijklmnopqrstuvwxyz"
abbrev digS : Str := "0123456789"
def signOk (c : Nat) : Bool := inS ⟨#[c]⟩ abcS || inS ⟨#[c]⟩ digS
def headOk (x : Str) : Bool := match x.cps.toList with
  | [] => false
  | c :: _ => inS ⟨#[c]⟩ abcS
def nameOk (x : Str) : Bool := decide (1 ≤ x.length ∧ x.length ≤ 8) && (headOk x && x.cps.toList.all signOk)
theorem str_len (x : Str) : x.length = x.cps.toList.length := by simp [Str.length]
theorem e_is_name {x : Str} {m : Mem} (hx : x.length ≤ 1048576) (hm : memLt m.length m = true) : f_is_name [.str x] m = .ok (.bl (nameOk x)) m := by
  have hz : Ev.sizeOk x.length = true := sizeOk_pow (by omega)
  have hl : biD .len [.str x] m = some (.int x.length) := by simp [biD, deref, hz]
  refine run_rt rfl hm rfl rfl ?_
  unfold b_is_name
  simp only [List.map_cons, List.map_nil, List.length_cons, List.length_nil, List.reduceReplicate, Nat.reduceAdd, Nat.reduceSub, List.cons_append, List.nil_append]
  by_cases h : 1 ≤ x.length ∧ x.length ≤ 8
  · rw [evB_nx (ρ' := [some (.str x), none]) (m' := m) ?h1]
    case h1 =>
      rw [evS_F (m' := m) ?h2]
      · rfl
      case h2 =>
        have e1 : (1 : Int) ≤ (x.length : Nat) := by omega
        have e2 : ((x.length : Nat) : Int) ≤ 8 := by omega
        simp -implicitDefEqProofs only [evB, evS, evE, evL, evI, evC, evO, asT, asL, wipeD, walkD, walkS, deref, R.bind_ok, ofO_some, onB_true, onB_false, toB, TL.len, partI, setAll, List.getElem?_cons_zero, List.getElem?_cons_succ, List.set_cons_zero, List.set_cons_succ, List.length_cons, List.length_nil, if_true, Option.map_some, Bool.not_true, Bool.not_false, G_is_name, isiD, hl, le_ii, e1, e2, decide_true]
    rw [evB_rt (evS_ret (d := .bl (nameOk x)) (m' := m) ?h3)]
    · rfl
    case h3 =>
      have hc : ∃ c r, x.cps.toList = c :: r := by
        cases e : x.cps.toList with
        | nil => rw [str_len, e] at h; simp at h
        | cons c r => exact ⟨c, r, rfl⟩
      obtain ⟨c, r, hcr⟩ := hc
      have hix : ixD (.str x) (.int 0) m = some (.str ⟨#[c]⟩) := by
        simp only [ixD, deref, hz, if_true]
        have : atI x.cps.toList ((0 : Nat) : Int) = some c := by
          have := atI_at (l := x.cps.toList.map fun c => D.str ⟨#[c]⟩) (i := 0) (a := .str ⟨#[c]⟩) (by rw [hcr]; rfl)
          unfold atI at this ⊢
          rw [List.length_map] at this
          cases hi : ixN x.cps.toList.length ((0 : Nat) : Int) with
          | none => rw [hi] at this; cases this
          | some j =>
            have hj : j = 0 := by
              unfold ixN at hi
              rw [if_pos (by omega), if_pos (by rw [hcr]; simp)] at hi
              simpa using hi.symm
            subst hj
            rw [hcr]
            rfl
        rw [show (0 : Int) = ((0 : Nat) : Int) from rfl, this]
        rfl
      simp -implicitDefEqProofs only [evB, evS, evE, evL, evI, evC, evO, asT, asL, wipeD, walkD, walkS, deref, R.bind_ok, ofO_some, onB_true, onB_false, toB, TL.len, partI, setAll, List.getElem?_cons_zero, List.getElem?_cons_succ, List.set_cons_zero, List.set_cons_succ, List.length_cons, List.length_nil, if_true, Option.map_some, Bool.not_true, Bool.not_false, G_is_name, hix, in_ss]
      rw [lcL_all (o := fun c => .bl (signOk c)) rfl ?t]
      case t =>
        intro c _
        simp -implicitDefEqProofs only [evB, evS, evE, evL, evI, evC, evO, asT, asL, wipeD, walkD, walkS, deref, R.bind_ok, ofO_some, onB_true, onB_false, toB, TL.len, partI, setAll, List.getElem?_cons_zero, List.getElem?_cons_succ, List.set_cons_zero, List.set_cons_succ, List.length_cons, List.length_nil, if_true, Option.map_some, Bool.not_true, Bool.not_false, in_ss]
        unfold signOk
        cases inS ⟨#[c]⟩ "abcdefghijklmnopqrstuvwxyz" <;> rfl
      have hz2 : Ev.sizeOk x.cps.toList.length = true := by rw [← str_len]; exact hz
      have he : (x.cps.toList.map fun c => D.bl (signOk c)) = (x.cps.toList.map signOk).map D.bl := by simp
      rw [he]
      simp -implicitDefEqProofs only [evB, evS, evE, evL, evI, evC, evO, asT, asL, wipeD, walkD, walkS, deref, R.bind_ok, ofO_some, onB_true, onB_false, toB, TL.len, partI, setAll, List.getElem?_cons_zero, List.getElem?_cons_succ, List.set_cons_zero, List.set_cons_succ, List.length_cons, List.length_nil, if_true, Option.map_some, Bool.not_true, Bool.not_false, List.length_map, hz2, bi_all_l, blL_map]
      have hn : nameOk x = (inS ⟨#[c]⟩ abcS && x.cps.toList.all signOk) := by
        unfold nameOk headOk
        rw [decide_eq_true h, hcr]
        rfl
      rw [hn]
      cases inS ⟨#[c]⟩ abcS <;> simp
  · have hn : nameOk x = false := by
      unfold nameOk
      rw [decide_eq_false h]
      rfl
    rw [hn, evB_rt (d := .bl false) (ρ' := [some (.str x), none]) (m' := m) ?h1]
    · rfl
    case h1 =>
      rw [evS_T (m' := m) ?h2]
      · rfl
      case h2 =>
        by_cases e1 : (1 : Int) ≤ (x.length : Nat)
        · have e2 : ¬ ((x.length : Nat) : Int) ≤ 8 := by omega
          simp -implicitDefEqProofs only [evB, evS, evE, evL, evI, evC, evO, asT, asL, wipeD, walkD, walkS, deref, R.bind_ok, ofO_some, onB_true, onB_false, toB, TL.len, partI, setAll, List.getElem?_cons_zero, List.getElem?_cons_succ, List.set_cons_zero, List.set_cons_succ, List.length_cons, List.length_nil, if_true, Option.map_some, Bool.not_true, Bool.not_false, G_is_name, isiD, hl, le_ii, e1, e2, decide_true, decide_false, Bool.not_false]
        · simp -implicitDefEqProofs only [evB, evS, evE, evL, evI, evC, evO, asT, asL, wipeD, walkD, walkS, deref, R.bind_ok, ofO_some, onB_true, onB_false, toB, TL.len, partI, setAll, List.getElem?_cons_zero, List.getElem?_cons_succ, List.set_cons_zero, List.set_cons_succ, List.length_cons, List.length_nil, if_true, Option.map_some, Bool.not_true, Bool.not_false, G_is_name, isiD, hl, le_ii, e1, decide_false, Bool.not_false]
theorem nameOk_lay {x : Str} (h : nameOk x = true) : PyData.canLay0 (.str x) = true := by
  simp only [nameOk, Bool.and_eq_true, List.all_eq_true] at h
  simp only [PyData.canLay0, PyData.strOk, ← Array.all_toList, List.all_eq_true, decide_eq_true_eq]
  intro c hc
  have hs := h.2.2 c hc
  simp only [signOk, inS_one, Bool.or_eq_true, decide_eq_true_eq] at hs
  have a1 : ∀ c ∈ abcS.cps.toList, c < 1114112 := by decide
  have a2 : ∀ c ∈ digS.cps.toList, c < 1114112 := by decide
  rcases hs with hs | hs
  · exact a1 c hs
  · exact a2 c hs
theorem nameOk_len {x : Str} (h : nameOk x = true) : x.length ≤ 8 := by
  simp only [nameOk, Bool.and_eq_true, decide_eq_true_eq] at h
  exact h.1.2
theorem nameOk_space {x : Str} (h : nameOk x = true) : 32 ∉ x.cps.toList := by
  simp only [nameOk, Bool.and_eq_true, List.all_eq_true] at h
  intro hc
  have hs := h.2.2 32 hc
  simp only [signOk, inS_one, Bool.or_eq_true, decide_eq_true_eq] at hs
  exact absurd hs (by decide)
/-- islands of a sea -/
structure SeaOk (isles : List Str) : Prop where
  two : 2 ≤ isles.length
  five : isles.length ≤ 5
  nd : isles.Nodup
  nm : ∀ x ∈ isles, nameOk x = true
theorem SeaOk.lay {isles : List Str} (h : SeaOk isles) : okAll isles := fun x hx => nameOk_lay (h.nm x hx)
/-- the first wrong island -/
def wrongAt (isles : List Str) (k : Nat) (x : Str) : Bool := !nameOk x || (decide (x ∈ isles.take k) || decide (5 ≤ k))
def wrongIsl (isles : List Str) : Option D := firstO (fun k x => if wrongAt isles k x then some (.int (k : Nat)) else none) isles 0
theorem firstO_none {α : Type} {q : Nat → α → Option D} : ∀ {l : List α} {k : Nat}, firstO q l k = none ↔ ∀ i a, l[i]? = some a → q (k + i) a = none
  | [], k => by simp [firstO]
  | a :: r, k => by
    rw [firstO]
    constructor
    · intro h i b hb
      cases hq : q k a with
      | some x => rw [hq] at h; cases h
      | none =>
        rw [hq] at h
        cases i with
        | zero => simp at hb; subst hb; exact hq
        | succ i =>
          have := firstO_none.mp h i b (by simpa using hb)
          rw [show k + (i + 1) = k + 1 + i by omega]
          exact this
    · intro h
      have h0 := h 0 a rfl
      rw [Nat.add_zero] at h0
      rw [h0]
      show firstO q r (k + 1) = none
      exact firstO_none.mpr fun i b hb => by
        have := h (i + 1) b (by simpa using hb)
        rw [show k + (i + 1) = k + 1 + i by omega] at this
        exact this
theorem wrongIsl_none {isles : List Str} : wrongIsl isles = none ↔ isles.length ≤ 5 ∧ isles.Nodup ∧ ∀ x ∈ isles, nameOk x = true := by
  unfold wrongIsl
  rw [firstO_none]
  constructor
  · intro h
    have h' : ∀ i x, isles[i]? = some x → wrongAt isles i x = false := by
      intro i x hx
      have := h i x hx
      rw [Nat.zero_add] at this
      cases hw : wrongAt isles i x with
      | false => rfl
      | true => rw [hw] at this; cases this
    refine ⟨?_, ?_, ?_⟩
    · apply Nat.le_of_not_lt
      intro hl
      have := h' 5 _ (List.getElem?_eq_getElem hl)
      simp [wrongAt] at this
    · unfold List.Nodup
      rw [List.pairwise_iff_getElem]
      intro i j hi hj hij e
      have := h' j _ (List.getElem?_eq_getElem hj)
      simp only [wrongAt, Bool.or_eq_false_iff, decide_eq_false_iff_not] at this
      refine this.2.1 (List.mem_of_getElem? (i := i) ?_)
      rw [List.getElem?_take, if_pos hij, ← e, List.getElem?_eq_getElem hi]
    · intro x hx
      obtain ⟨i, hi⟩ := List.mem_iff_getElem?.mp hx
      have := h' i x hi
      simp only [wrongAt, Bool.or_eq_false_iff] at this
      simpa using this.1
  · rintro ⟨h1, h2, h3⟩ i x hx
    rw [Nat.zero_add]
    have hlt := (List.getElem?_eq_some_iff.mp hx).1
    have : wrongAt isles i x = false := by
      simp only [wrongAt, Bool.or_eq_false_iff, decide_eq_false_iff_not, h3 x (List.mem_of_getElem? hx), Bool.not_true, true_and]
      refine ⟨?_, by omega⟩
      intro hm
      obtain ⟨j, hj⟩ := List.mem_iff_getElem?.mp hm
      rw [List.getElem?_take] at hj
      split at hj
      · rename_i hji
        have := (List.getElem?_inj (i := i) (j := j) hlt h2).mp (hx.trans hj.symm)
        omega
      · cases hj
    rw [this]
    rfl
theorem wrong_ok {isles : List Str} (h : SeaOk isles) : wrongIsl isles = none := wrongIsl_none.mpr ⟨h.five, h.nd, h.nm⟩
theorem sl_hi {l : List Str} {k : Nat} {m : Mem} (hk : k ≤ l.length) : slD (.tup (l.map .str)) none (some (k : Nat)) m = some (.tup ((l.take k).map .str)) := by
  simp only [slD, deref, Ev.cutD]
  have e1 : HT.sIx (l.map D.str).length 0 none = 0 := rfl
  have e2 : HT.sIx (l.map D.str).length (l.map D.str).length (some (k : Nat)) = k := by
    rw [List.length_map, HT.sIx_nat]
    omega
  rw [e1, e2, List.drop_zero, Nat.sub_zero, List.map_take]
theorem e_wrong_island {isles : List Str} {m : Mem} (hl : okAll isles) (hs : ∀ x ∈ isles, x.length ≤ 1048576) (hm : memLt m.length m = true) : f_wrong_island [.tup (isles.map .str)] m = .ok ((wrongIsl isles).getD .non) m := by
  have hdn : ∀ d, wrongIsl isles = some d → ∃ k : Nat, d = .int k := by
    have : ∀ (l : List Str) (k : Nat) (d : D), firstO (fun k x => if wrongAt isles k x then some (D.int (k : Nat)) else none) l k = some d → ∃ k : Nat, d = .int k := by
      intro l
      induction l with
      | nil => intro k d h; cases h
      | cons a r ih =>
        intro k d h
        rw [firstO] at h
        split at h
        · rename_i x hx
          cases h
          split at hx
          · cases hx; exact ⟨k, rfl⟩
          · cases hx
        · exact ih _ _ h
    exact this isles 0
  have hlt : D.ltb m.length ((wrongIsl isles).getD .non) = true := by
    cases h : wrongIsl isles with
    | none => rfl
    | some d => obtain ⟨k, rfl⟩ := hdn d h; rfl
  have hf : finV m.length m ((wrongIsl isles).getD .non) = (wrongIsl isles).getD .non := by
    cases h : wrongIsl isles with
    | none => rfl
    | some d => obtain ⟨k, rfl⟩ := hdn d h; rfl
  refine run_rt rfl hm hlt hf ?_
  unfold b_wrong_island
  simp only [List.map_cons, List.map_nil, List.length_cons, List.length_nil, List.reduceReplicate, Nat.reduceAdd, Nat.reduceSub, List.cons_append, List.nil_append]
  have hgo := forL_first (α := Str × Nat) (m := m) (src := []) (e := fun p => D.tup [.int (p.2 : Nat), .str p.1]) (g := fun d ρ1 m2 => (asT (G_wrong_island [f_is_name]) (.tup (.cons (.nm 1) (.cons (.nm 2) .nil))) d ρ1 m2).bind fun ρ2 m3 => evB (G_wrong_island [f_is_name]) l_wrong_island_1 ρ2 m3) rfl
    (fun i ρ => ∃ a b, ρ = [some (D.tup (isles.map .str)), a, b]) (fun k p => if wrongAt isles p.2 p.1 then some (.int (p.2 : Nat)) else none) isles.zipIdx 0 [some (D.tup (isles.map .str)), none, none] ⟨none, none, rfl⟩ (by
      rintro i ⟨x, k⟩ ρ hi ⟨a, b, rfl⟩
      have hx : isles[k]? = some x := by
        have := List.mem_zipIdx_iff_getElem?.mp (List.mem_of_getElem? hi)
        simpa using this
      have hk : k < isles.length := (List.getElem?_eq_some_iff.mp hx).1
      have hxm := List.mem_of_getElem? hx
      have hE : evE (G_wrong_island [f_is_name]) (.or (.not (.call 0 (.cons (.v 2) .nil))) (.or (.cmp .In (.v 2) (.sl (.v 0) .no (.yes (.v 1)))) (.cmp .GtE (.v 1) (.g 0)))) [some (.tup (isles.map .str)), some (.int (k : Nat)), some (.str x)] m = .ok (.bl (wrongAt isles k x)) m := by
        have hsl := sl_hi (m := m) (Nat.le_of_lt hk)
        simp -implicitDefEqProofs only [evB, evS, evE, evL, evI, evC, evO, asT, asL, wipeD, walkD, walkS, deref, R.bind_ok, ofO_some, onB_true, onB_false, toB, TL.len, partI, setAll, List.getElem?_cons_zero, List.getElem?_cons_succ, List.set_cons_zero, List.set_cons_succ, List.length_cons, List.length_nil, if_true, Option.map_some, Bool.not_true, Bool.not_false, G_wrong_island, e_is_name (hs x hxm) hm, hsl, in_str (hl x hxm) (fun y hy => hl y (List.mem_of_mem_take hy)), ge_ii]
        unfold wrongAt
        have e5 : decide ((5 : Int) ≤ (k : Nat)) = decide (5 ≤ k) := by rw [Bool.eq_iff_iff]; simp; omega
        cases nameOk x <;> simp [e5]
        by_cases h : x ∈ isles.take k <;> simp [h]
      cases hw : wrongAt isles k x with
      | true =>
        left
        refine ⟨.int (k : Nat), [some (.tup (isles.map .str)), some (.int (k : Nat)), some (.str x)], by simp [hw], ?_⟩
        simp -implicitDefEqProofs only [asT, asL, TL.len, R.bind_ok, List.set_cons_succ, List.set_cons_zero, List.length_cons, List.length_nil, if_true]
        unfold l_wrong_island_1
        rw [hw] at hE
        rw [evB_rt (d := .int (k : Nat)) (ρ' := [some (.tup (isles.map .str)), some (.int (k : Nat)), some (.str x)]) (m' := m) ((evS_T hE).trans rfl)]
      | false =>
        right
        refine ⟨by simp [hw], [some (.tup (isles.map .str)), some (.int (k : Nat)), some (.str x)], ?_, _, _, rfl⟩
        simp -implicitDefEqProofs only [asT, asL, TL.len, R.bind_ok, List.set_cons_succ, List.set_cons_zero, List.length_cons, List.length_nil, if_true]
        unfold l_wrong_island_1
        rw [hw] at hE
        rw [evB_nx (ρ' := [some (.tup (isles.map .str)), some (.int (k : Nat)), some (.str x)]) (m' := m) ((evS_F hE).trans rfl)]
        rfl)
  have hfo : firstO (fun k (p : Str × Nat) => if wrongAt isles p.2 p.1 then some (D.int (p.2 : Nat)) else none) isles.zipIdx 0 = wrongIsl isles := by
    have : ∀ (l : List Str) (k : Nat), firstO (fun k (p : Str × Nat) => if wrongAt isles p.2 p.1 then some (D.int (p.2 : Nat)) else none) (l.zipIdx k) k = firstO (fun k x => if wrongAt isles k x then some (D.int (k : Nat)) else none) l k := by
      intro l
      induction l with
      | nil => intro k; rfl
      | cons a r ih => intro k; rw [List.zipIdx_cons, firstO, firstO, ih (k + 1)]
    exact this isles 0
  rw [hfo] at hgo
  have hI : evI (G_wrong_island [f_is_name]) (.enum (.v 0)) [some (.tup (isles.map .str)), none, none] m = .ok (isles.zipIdx.map fun p => D.tup [.int (p.2 : Nat), .str p.1], []) m := by
    simp -implicitDefEqProofs only [evB, evS, evE, evL, evI, evC, evO, asT, asL, wipeD, walkD, walkS, deref, R.bind_ok, ofO_some, onB_true, onB_false, toB, TL.len, partI, setAll, List.getElem?_cons_zero, List.getElem?_cons_succ, List.set_cons_zero, List.set_cons_succ, List.length_cons, List.length_nil, if_true, Option.map_some, Bool.not_true, Bool.not_false, enumI_map]
  rcases hgo with ⟨d, ρ', e1, e2⟩ | ⟨e1, ρ', e2, _⟩
  · rw [evB_rt (d := d) (ρ' := ρ') (m' := m) ?h1]
    · rw [e1]; rfl
    case h1 => rw [evS_for hI]; exact e2
  · rw [evB_nx (ρ' := ρ') (m' := m) ?h1]
    case h1 => rw [evS_for hI]; exact e2
    rw [evB_rt (evS_ret (d := .non) (m' := m) rfl), e1]
    rfl
end K85

set_option Elab.async false
set_option linter.all false
set_option maxRecDepth 100000
set_option maxHeartbeats 4000000
namespace K85
open PySem PySem.Spec PyProof.Rows L2 Ev
/-! ### texts of seas -/
theorem lay_of {x : Str} (h : x.cps.toList.all (fun c => decide (c < 1114112)) = true) : PyData.canLay0 (.str x) = true := by
  simp only [PyData.canLay0, PyData.strOk, ← Array.all_toList]
  exact h
theorem eq_ss {a b : Str} {m : Mem} (ha : PyData.canLay0 (.str a) = true) (hb : PyData.canLay0 (.str b) = true) : opCmp .Eq (.str a) (.str b) m = some (decide (a = b)) := by
  have h1 : SeqAt.shaped (PyData.str a) = true := kStr.sh (by decide) ⟨a, ha⟩
  have h2 : SeqAt.shaped (PyData.str b) = true := kStr.sh (by decide) ⟨b, hb⟩
  simp only [opCmp, eqD, deref, toP, h1, h2, Bool.and_self, if_true, PyData.eqv]
  congr 1
theorem ne_ss {a b : Str} {m : Mem} (ha : PyData.canLay0 (.str a) = true) (hb : PyData.canLay0 (.str b) = true) : opCmp .NotEq (.str a) (.str b) m = some (!decide (a = b)) := by
  have := eq_ss (m := m) ha hb
  simp only [opCmp] at this ⊢
  rw [this]; rfl
theorem e_read_sea {t w0 : Str} {isles : List Str} {m : Mem} (ht : t.length ≤ 1000000) (hw : Txt.split t " " = w0 :: isles) (h0 : PyData.canLay0 (.str w0) = true) (hl : okAll isles) (hs : ∀ x ∈ isles, x.length ≤ 1048576) (hm : memLt m.length m = true) :
    f_read_sea [.str t] m = .ok (if w0 = "islands" ∧ 1 < isles.length ∧ wrongIsl isles = none then .tup (isles.map .str) else .non) m := by
  generalize hX : (if w0 = "islands" ∧ 1 < isles.length ∧ wrongIsl isles = none then D.tup (isles.map .str) else .non) = X
  have hR1 : D.ltb m.length X = true := by subst hX; split <;> first | exact ltb_str | rfl
  have hR2 : finV m.length m X = X := by subst hX; split <;> rfl
  refine run_rt rfl hm hR1 hR2 ?_
  unfold b_read_sea
  simp only [List.map_cons, List.map_nil, List.length_cons, List.length_nil, List.reduceReplicate, Nat.reduceAdd, Nat.reduceSub, List.cons_append, List.nil_append]
  rw [evB_nx (ρ' := [some (.str t), none, none]) (m' := m) ?h1]
  case h1 =>
    rw [evS_F (m' := m) ?h2]
    · rfl
    case h2 => simp -implicitDefEqProofs only [evB, evS, evE, evL, evI, evC, evO, asT, asL, wipeD, walkD, walkS, deref, R.bind_ok, ofO_some, onB_true, onB_false, toB, TL.len, partI, setAll, List.getElem?_cons_zero, List.getElem?_cons_succ, List.set_cons_zero, List.set_cons_succ, List.length_cons, List.length_nil, if_true, Option.map_some, Bool.not_true, Bool.not_false, isiD]
  rw [evB_nx (evS_set (d := .lst ((w0 :: isles).map .str)) (m' := m) ?h3)]
  case h3 =>
    have hc : 0 < (" " : Str).length ∧ t.length + 2 ≤ lim := ⟨by decide, by unfold lim; omega⟩
    simp -implicitDefEqProofs only [evB, evS, evE, evL, evI, evC, evO, asT, asL, wipeD, walkD, walkS, deref, R.bind_ok, ofO_some, onB_true, onB_false, toB, TL.len, partI, setAll, List.getElem?_cons_zero, List.getElem?_cons_succ, List.set_cons_zero, List.set_cons_succ, List.length_cons, List.length_nil, if_true, Option.map_some, Bool.not_true, Bool.not_false, smK, smD, hc, and_self, hw]
  simp -implicitDefEqProofs only [List.set_cons_succ, List.set_cons_zero]
  rw [evB_nx (evS_set (d := .tup (isles.map .str)) (m' := m) ?h4)]
  case h4 =>
    have hsl : slD (.lst ((w0 :: isles).map .str)) (some 1) none m = some (.lst (isles.map .str)) := by
      simp only [slD, deref, Ev.cutD]
      have e1 : HT.sIx ((w0 :: isles).map D.str).length 0 (some 1) = 1 := by
        rw [List.length_map, show (some (1 : Int)) = some ((1 : Nat) : Int) from rfl, HT.sIx_nat, List.length_cons]
        simp
      have e2 : HT.sIx ((w0 :: isles).map D.str).length ((w0 :: isles).map D.str).length none = ((w0 :: isles).map D.str).length := rfl
      rw [e1, e2]
      simp only [List.map_cons, List.length_cons, List.length_map, List.drop_succ_cons, List.drop_zero, Nat.add_sub_cancel]
      rw [List.take_of_length_le (by simp)]
    simp -implicitDefEqProofs only [evB, evS, evE, evL, evI, evC, evO, asT, asL, wipeD, walkD, walkS, deref, R.bind_ok, ofO_some, onB_true, onB_false, toB, TL.len, partI, setAll, List.getElem?_cons_zero, List.getElem?_cons_succ, List.set_cons_zero, List.set_cons_succ, List.length_cons, List.length_nil, if_true, Option.map_some, Bool.not_true, Bool.not_false, hsl, bi_tuple_l]
  simp -implicitDefEqProofs only [List.set_cons_succ, List.set_cons_zero]
  rw [evB_rt (evS_ret (d := X) (m' := m) ?h5)]
  · rfl
  case h5 =>
    have hi0 : PyData.canLay0 (.str "islands") = true := lay_of (by decide)
    have hix : ixD (.lst ((w0 :: isles).map .str)) (.int 0) m = some (.str w0) := by
      rw [ix_l]
      exact atI_map (f := D.str) (l := w0 :: isles) (i := 0) rfl
    simp -implicitDefEqProofs only [evB, evS, evE, evL, evI, evC, evO, asT, asL, wipeD, walkD, walkS, deref, R.bind_ok, ofO_some, onB_true, onB_false, toB, TL.len, partI, setAll, List.getElem?_cons_zero, List.getElem?_cons_succ, List.set_cons_zero, List.set_cons_succ, List.length_cons, List.length_nil, if_true, Option.map_some, Bool.not_true, Bool.not_false, hix, eq_ss h0 hi0, G_read_sea, bi_len_t, List.length_map, gt_ii]
    by_cases c1 : w0 = "islands"
    · simp -implicitDefEqProofs only [c1, decide_true, evB, evS, evE, evL, evI, evC, evO, asT, asL, wipeD, walkD, walkS, deref, R.bind_ok, ofO_some, onB_true, onB_false, toB, TL.len, partI, setAll, List.getElem?_cons_zero, List.getElem?_cons_succ, List.set_cons_zero, List.set_cons_succ, List.length_cons, List.length_nil, if_true, Option.map_some, Bool.not_true, Bool.not_false]
      by_cases c2 : 1 < isles.length
      · have c2' : (1 : Int) < (isles.length : Nat) := by omega
        simp -implicitDefEqProofs only [c2', decide_true, evB, evS, evE, evL, evI, evC, evO, asT, asL, wipeD, walkD, walkS, deref, R.bind_ok, ofO_some, onB_true, onB_false, toB, TL.len, partI, setAll, List.getElem?_cons_zero, List.getElem?_cons_succ, List.set_cons_zero, List.set_cons_succ, List.length_cons, List.length_nil, if_true, Option.map_some, Bool.not_true, Bool.not_false, e_wrong_island hl hs hm, is_n]
        cases hw3 : wrongIsl isles with
        | none =>
          rw [← hX]
          simp [c1, c2, hw3]
        | some d =>
          have hd : d ≠ .non := by
            intro e
            subst e
            have : ∀ (l : List Str) (k : Nat), firstO (fun k x => if wrongAt isles k x then some (D.int (k : Nat)) else none) l k ≠ some .non := by
              intro l
              induction l with
              | nil => intro k h; cases h
              | cons a r ih =>
                intro k h
                rw [firstO] at h
                split at h
                · rename_i x hx
                  cases h
                  split at hx <;> cases hx
                · exact ih _ h
            exact this isles 0 hw3
          rw [← hX]
          simp [c1, c2, hw3, hd]
      · have c2' : ¬ (1 : Int) < (isles.length : Nat) := by omega
        simp -implicitDefEqProofs only [c2', decide_false, evB, evS, evE, evL, evI, evC, evO, asT, asL, wipeD, walkD, walkS, deref, R.bind_ok, ofO_some, onB_true, onB_false, toB, TL.len, partI, setAll, List.getElem?_cons_zero, List.getElem?_cons_succ, List.set_cons_zero, List.set_cons_succ, List.length_cons, List.length_nil, if_true, Option.map_some, Bool.not_true, Bool.not_false]
        rw [← hX]
        simp [c2]
    · simp -implicitDefEqProofs only [c1, decide_false, evB, evS, evE, evL, evI, evC, evO, asT, asL, wipeD, walkD, walkS, deref, R.bind_ok, ofO_some, onB_true, onB_false, toB, TL.len, partI, setAll, List.getElem?_cons_zero, List.getElem?_cons_succ, List.set_cons_zero, List.set_cons_succ, List.length_cons, List.length_nil, if_true, Option.map_some, Bool.not_true, Bool.not_false]
      rw [← hX]
      simp [c1]
def seaText (isles : List Str) : Str := Txt.join " " ("islands" :: isles)
theorem space_len : (" " : Str).length = 1 := by decide
theorem join_len (y : Str) : ∀ l : List Str, (Txt.join y l).length ≤ (l.map (·.length)).sum + l.length * y.length := by
  intro l
  rw [_root_.TL.join_eq, _root_.TL.len_tl, _root_.TL.tl_join]
  have : ∀ l : List Str, (_root_.TL.joinL (_root_.TL.tl y) (l.map _root_.TL.tl)).length ≤ (l.map (·.length)).sum + l.length * y.length := by
    intro l
    induction l with
    | nil => simp [_root_.TL.joinL]
    | cons a r ih =>
      cases r with
      | nil =>
        simp only [List.map_cons, List.map_nil, _root_.TL.joinL, List.sum_cons, List.sum_nil, ← _root_.TL.len_tl]
        omega
      | cons b r =>
        simp only [List.map_cons, _root_.TL.joinL, List.length_append, List.sum_cons, ← _root_.TL.len_tl, List.length_cons] at ih ⊢
        have : (r.length + 1 + 1) * y.length = (r.length + 1) * y.length + y.length := by rw [Nat.add_mul (r.length + 1) 1, Nat.one_mul]
        omega
  exact this l
theorem names_sum {l : List Str} (h : ∀ x ∈ l, nameOk x = true) : (l.map (·.length)).sum ≤ 8 * l.length := by
  induction l with
  | nil => simp
  | cons a r ih =>
    have := nameOk_len (h a List.mem_cons_self)
    have := ih fun x hx => h x (List.mem_cons_of_mem _ hx)
    simp only [List.map_cons, List.sum_cons, List.length_cons]
    omega
section
variable {isles : List Str} {m : Mem}
theorem seaText_size (h : SeaOk isles) : ((("islands" : Str) :: isles).map (·.length)).sum + (("islands" : Str) :: isles).length * (" " : Str).length ≤ 60 := by
  have h1 := names_sum h.nm
  have h2 := h.five
  have h3 : ("islands" : Str).length = 7 := by decide
  simp only [List.map_cons, List.sum_cons, List.length_cons, space_len, h3]
  omega
theorem seaText_len (h : SeaOk isles) : (seaText isles).length ≤ 60 := Nat.le_trans (join_len _ _) (seaText_size h)
theorem seaText_split (h : SeaOk isles) : Txt.split (seaText isles) " " = ("islands" : Str) :: isles := by
  unfold seaText
  refine _root_.TL.split_join (s := 32) (S := []) (by decide) (by rw [← Array.all_toList]; decide) (by simp) ?_
  intro p hp
  rcases List.mem_cons.mp hp with rfl | hp
  · decide
  · exact nameOk_space (h.nm p hp)
theorem e_read_text (h : SeaOk isles) (hm : memLt m.length m = true) : f_read_sea [.str (seaText isles)] m = .ok (.tup (isles.map .str)) m := by
  have h2 := h.two
  rw [e_read_sea (Nat.le_trans (seaText_len h) (by decide)) (seaText_split h) (lay_of (by decide)) h.lay (fun x hx => Nat.le_trans (nameOk_len (h.nm x hx)) (by decide)) hm, if_pos ⟨rfl, by omega, wrong_ok h⟩]
theorem e_str (h : SeaOk isles) (hm : memLt m.length m = true) : f_Sea___str__ [seaD isles] m = .ok (.str (seaText isles)) m := by
  refine run_rt rfl hm rfl rfl ?_
  unfold b_Sea___str__
  simp only [List.map_cons, List.map_nil, List.length_cons, List.length_nil, List.reduceReplicate, Nat.reduceAdd, Nat.reduceSub, List.cons_append, List.nil_append]
  rw [evB_rt (evS_ret (d := .str (seaText isles)) (m' := m) ?h)]
  · rfl
  case h =>
    have hz : Ev.sizeOk (isles.length + 1) = true := sizeOk_pow (by have := h.five; omega)
    have hz2 : ((("islands" : Str) :: isles).map (·.length)).sum + (("islands" : Str) :: isles).length * (" " : Str).length ≤ lim := Nat.le_trans (seaText_size h) (by decide)
    have hst : strL (.str "islands" :: isles.map .str) = some (("islands" : Str) :: isles) := strL_map (("islands" : Str) :: isles)
    rw [List.length_cons] at hz2
    simp -implicitDefEqProofs only [evB, evS, evE, evL, evI, evC, evO, asT, asL, wipeD, walkD, walkS, deref, R.bind_ok, ofO_some, onB_true, onB_false, toB, TL.len, partI, setAll, List.getElem?_cons_zero, List.getElem?_cons_succ, List.set_cons_zero, List.set_cons_succ, List.length_cons, List.length_nil, if_true, Option.map_some, Bool.not_true, Bool.not_false, fldD, smK, items, List.length_map, hz, smD, Option.bind_some, hst, hz2]
    rfl
/-! ### pairs -/
theorem pairs_step {n i : Nat} : (List.range (i + 1)).flatMap (fun i => (List.range (n - (i + 1))).map fun k => (i, i + 1 + k)) = (List.range i).flatMap (fun i => (List.range (n - (i + 1))).map fun k => (i, i + 1 + k)) ++ (List.range (n - (i + 1))).map fun k => (i, i + 1 + k) := by
  rw [List.range_succ, List.flatMap_append, List.flatMap_singleton]
def spansTo (n i : Nat) : List (Nat × Nat) := (List.range i).flatMap fun i => (List.range (n - (i + 1))).map fun k => (i, i + 1 + k)
theorem spansTo_len {n : Nat} (hn : n ≤ 5) : ∀ i, i ≤ n → (spansTo n i).length ≤ 5 * i
  | 0, _ => by simp [spansTo]
  | i + 1, h => by
    have := spansTo_len hn i (by omega)
    unfold spansTo at this ⊢
    rw [pairs_step, List.length_append, List.length_map, List.length_range]
    omega
abbrev pD (p : Nat × Nat) : D := .tup [.int (p.1 : Nat), .int (p.2 : Nat)]
theorem e_pairs_of {n : Nat} (hn : n ≤ 5) (hm : memLt m.length m = true) : f_pairs_of [.int n] m = .ok (spD (spans n)) m := by
  refine run_rt rfl hm ltb_sp rfl ?_
  unfold b_pairs_of
  simp only [List.map_cons, List.map_nil, List.length_cons, List.length_nil, List.reduceReplicate, Nat.reduceAdd, Nat.reduceSub, List.cons_append, List.nil_append]
  rw [evB_nx (evS_set (d := .lst []) (m' := m) (by simp -implicitDefEqProofs [evE, evL, Ev.sizeOk, lim]))]
  simp -implicitDefEqProofs only [List.set_cons_succ, List.set_cons_zero]
  obtain ⟨ρ', e, t, rfl⟩ := forL_go (m := m) (src := []) (e := fun k : Nat => D.int (k : Nat)) (g := fun d ρ1 m2 => (asT (G_pairs_of []) (.nm 2) d ρ1 m2).bind fun ρ2 m3 => evB (G_pairs_of []) l_pairs_of_1 ρ2 m3) rfl
    (fun i ρ => ∃ t, ρ = [some (.int n), some (.lst ((spansTo n i).map pD)), t, none]) (List.range n) 0 [some (.int n), some (.lst []), none, none] ⟨none, rfl⟩ (by
      rintro i a ρ hi ⟨t, rfl⟩
      have hin : i < n ∧ a = i := by
        have h1 := (List.getElem?_eq_some_iff.mp hi)
        obtain ⟨h1, h2⟩ := h1
        rw [List.getElem_range] at h2
        exact ⟨by simpa using h1, h2.symm⟩
      obtain ⟨hin, rfl⟩ := hin
      rw [Nat.zero_add]
      refine ⟨[some (.int n), some (.lst ((spansTo n (a + 1)).map pD)), some (.int a), none], ?_, _, rfl⟩
      unfold l_pairs_of_1
      simp -implicitDefEqProofs only [asT, R.bind_ok, List.set_cons_succ, List.set_cons_zero]
      rw [evB_nx (evS_set (d := .lst ((spansTo n (a + 1)).map pD)) (m' := m) ?h1)]
      case h1 =>
        have hr : rngI [D.int ((a : Nat) + 1), D.int (n : Nat)] = some ((List.range (n - (a + 1))).map fun k => D.int ((a + 1 + k : Nat) : Int)) := by
          unfold rngI
          simp only
          rw [if_pos (by omega)]
          have : ((n : Int) - ((a : Nat) + 1)).toNat = n - (a + 1) := by omega
          rw [this]
          congr 1
        simp -implicitDefEqProofs only [evB, evS, evE, evL, evI, evC, evO, asT, asL, wipeD, walkD, walkS, deref, R.bind_ok, ofO_some, onB_true, onB_false, toB, TL.len, partI, setAll, List.getElem?_cons_zero, List.getElem?_cons_succ, List.set_cons_zero, List.set_cons_succ, List.length_cons, List.length_nil, if_true, Option.map_some, Bool.not_true, Bool.not_false, opBin, hr]
        rw [lcL_all (o := fun k => pD (a, a + 1 + k)) rfl ?t]
        case t =>
          intro k hk
          simp -implicitDefEqProofs [evE, evL, asT, evC, wipeD, Ev.sizeOk, lim]
        have hz : Ev.sizeOk (n - (a + 1)) = true := sizeOk_pow (by omega)
        have hl := spansTo_len hn a (by omega)
        have hz2 : Ev.sizeOk ((spansTo n a).length + (n - (a + 1))) = true := sizeOk_pow (by omega)
        simp -implicitDefEqProofs only [evB, evS, evE, evL, evI, evC, evO, asT, asL, wipeD, walkD, walkS, deref, R.bind_ok, ofO_some, onB_true, onB_false, toB, TL.len, partI, setAll, List.getElem?_cons_zero, List.getElem?_cons_succ, List.set_cons_zero, List.set_cons_succ, List.length_cons, List.length_nil, if_true, Option.map_some, Bool.not_true, Bool.not_false, List.length_map, List.length_range, hz, opBin, hz2]
        unfold spansTo
        rw [pairs_step, List.map_append, List.map_map]
        rfl
      rfl)
  rw [evB_nx (ρ' := [some (.int n), some (.lst ((spans n).map pD)), t, none]) (m' := m) ?hf]
  case hf =>
    rw [evS_for (w := ((List.range n).map fun k => .int (k : Nat), [])) (m' := m) ?hi]
    case hi =>
      simp -implicitDefEqProofs only [evB, evS, evE, evL, evI, evC, evO, asT, asL, wipeD, walkD, walkS, deref, R.bind_ok, ofO_some, onB_true, onB_false, toB, TL.len, partI, setAll, List.getElem?_cons_zero, List.getElem?_cons_succ, List.set_cons_zero, List.set_cons_succ, List.length_cons, List.length_nil, if_true, Option.map_some, Bool.not_true, Bool.not_false, rngI]
      rw [if_pos (by omega)]
      simp
    rw [show (0 + (List.range n).length) = n by simp] at e
    exact e
  rw [evB_rt (evS_ret (d := spD (spans n)) (m' := m) ?h)]
  · rfl
  case h => simp -implicitDefEqProofs only [evB, evS, evE, evL, evI, evC, evO, asT, asL, wipeD, walkD, walkS, deref, R.bind_ok, ofO_some, onB_true, onB_false, toB, TL.len, partI, setAll, List.getElem?_cons_zero, List.getElem?_cons_succ, List.set_cons_zero, List.set_cons_succ, List.length_cons, List.length_nil, if_true, Option.map_some, Bool.not_true, Bool.not_false, bi_tuple_l]
end
end K85

set_option Elab.async false
set_option linter.all false
set_option maxRecDepth 100000
set_option maxHeartbeats 4000000
namespace K85
open PySem PySem.Spec PyProof.Rows L2 Ev
/-! ### a new sea -/
/-- a def that changes the store -/
theorem run_rtG {Γ : Gam} {k n : Nat} {b : SL} {args : List D} {m m1 : Mem} {d : D} (hn : args.length = n) (hd : D.ltb m.length (finV m.length m1 d) = true) (hm : memLt m.length (m1.take m.length) = true) (hl : m.length ≤ m1.length) (h : retV (evB Γ b (args.map some ++ List.replicate (k - args.length) none) m) = .ok d m1) : Ev.runN Γ false k n b args m = .ok (finV m.length m1 d) (m1.take m.length) := by
  have key : fin false m.length d m1 = .ok (finV m.length m1 d) (m1.take m.length) := by
    unfold fin
    rw [if_neg (by simp), if_pos (by simp [hm, hd, hl])]
  unfold Ev.runN Ev.run
  rw [if_pos hn]
  revert h
  cases evB Γ b (args.map some ++ List.replicate (k - args.length) none) m with
  | bad => intro h; cases h
  | exc c x m1 => intro h; cases h
  | ok p m2 =>
    obtain ⟨fl, ρ⟩ := p
    intro h
    cases fl <;> simp only [retV, R.bind_ok] at h <;> cases h
    · exact key
    · exact key
section
variable {isles : List Str} {m : Mem}
theorem ltb_sea {n : Nat} : D.ltb n (seaD isles) = true := by
  have h1 := ltb_str (n := n) (l := isles)
  have h2 := ltb_sp (n := n) (l := spans isles.length)
  simp only [D.ltb, D.ltbL, Bool.and_true, Bool.and_eq_true] at h1 h2 ⊢
  exact ⟨h1, h2⟩
theorem one_last {m : Mem} {x : MO} : (m ++ [x])[m.length]? = some x := by simp
theorem one_set {m : Mem} {x y : MO} : (m ++ [x]).set m.length y = m ++ [y] := by simp
theorem e_init (h : SeaOk isles) (hm : memLt m.length m = true) : f_Sea___init__ [.ref m.length, .tup (isles.map .str)] (m ++ [.ins 0 []]) = .ok .non (m ++ [.ins 0 [(1, spD (spans isles.length)), (0, .tup (isles.map .str))]]) := by
  have hM0 : memLt (m ++ [MO.ins 0 []]).length (m ++ [MO.ins 0 []]) = true := memLt_app hm fun mo hmo => by
    simp only [List.mem_singleton] at hmo
    subst hmo
    rfl
  have hM1 : memLt (m ++ [MO.ins 0 [(0, D.tup (isles.map .str))]]).length (m ++ [MO.ins 0 [(0, .tup (isles.map .str))]]) = true := memLt_app hm fun mo hmo => by
    simp only [List.mem_singleton] at hmo
    subst hmo
    simp only [MO.ltb, List.all_cons, List.all_nil, Bool.and_true]
    exact ltb_str
  have hM2 : memLt (m ++ [MO.ins 0 [(1, spD (spans isles.length)), (0, D.tup (isles.map .str))]]).length (m ++ [MO.ins 0 [(1, spD (spans isles.length)), (0, .tup (isles.map .str))]]) = true := memLt_app hm fun mo hmo => by
    simp only [List.mem_singleton] at hmo
    subst hmo
    simp only [MO.ltb, List.all_cons, List.all_nil, Bool.and_true, Bool.and_eq_true]
    exact ⟨ltb_sp, ltb_str⟩
  have h5 := h.five
  have key := run_rtG (Γ := G_Sea___init__ [f_pairs_of, f_wrong_island]) (k := 3) (n := 2) (b := b_Sea___init__) (args := [.ref m.length, .tup (isles.map .str)]) (m := m ++ [.ins 0 []]) (m1 := m ++ [.ins 0 [(1, spD (spans isles.length)), (0, .tup (isles.map .str))]]) (d := .non) rfl rfl (by
    rw [List.length_append, List.length_singleton, List.take_of_length_le (by simp)]
    rw [List.length_append, List.length_singleton] at hM2
    exact hM2) (by simp) (by
    unfold b_Sea___init__
    simp only [List.map_cons, List.map_nil, List.length_cons, List.length_nil, List.reduceReplicate, Nat.reduceAdd, Nat.reduceSub, List.cons_append, List.nil_append]
    rw [evB_nx (ρ' := [some (.ref m.length), some (.tup (isles.map .str)), none]) (m' := m ++ [.ins 0 []]) ?h1]
    case h1 =>
      have h2 := h.two
      have e : ¬ ((isles.length : Nat) : Int) < 2 := by omega
      rw [evS_F (m' := m ++ [.ins 0 []]) ?h2]
      · rfl
      case h2 => simp -implicitDefEqProofs only [evB, evS, evE, evL, evI, evC, evO, asT, asL, wipeD, walkD, walkS, deref, R.bind_ok, ofO_some, onB_true, onB_false, toB, TL.len, partI, setAll, List.getElem?_cons_zero, List.getElem?_cons_succ, List.set_cons_zero, List.set_cons_succ, List.length_cons, List.length_nil, if_true, Option.map_some, Bool.not_true, Bool.not_false, isiD, bi_len_t, List.length_map, lt_ii, e, decide_false]
    rw [evB_nx (evS_set (d := .non) (m' := m ++ [.ins 0 []]) ?h3)]
    case h3 =>
      have := e_wrong_island (isles := isles) (m := m ++ [.ins 0 []]) h.lay (fun x hx => Nat.le_trans (nameOk_len (h.nm x hx)) (by decide)) hM0
      rw [wrong_ok h] at this
      simp -implicitDefEqProofs only [evB, evS, evE, evL, evI, evC, evO, asT, asL, wipeD, walkD, walkS, deref, R.bind_ok, ofO_some, onB_true, onB_false, toB, TL.len, partI, setAll, List.getElem?_cons_zero, List.getElem?_cons_succ, List.set_cons_zero, List.set_cons_succ, List.length_cons, List.length_nil, if_true, Option.map_some, Bool.not_true, Bool.not_false, G_Sea___init__, this, Option.getD_none]
    simp -implicitDefEqProofs only [List.set_cons_succ, List.set_cons_zero]
    rw [evB_nx (ρ' := [some (.ref m.length), some (.tup (isles.map .str)), some .non]) (m' := m ++ [.ins 0 []]) ?h4]
    case h4 =>
      rw [evS_F (m' := m ++ [.ins 0 []]) ?h5]
      · rfl
      case h5 => simp -implicitDefEqProofs only [evB, evS, evE, evL, evI, evC, evO, asT, asL, wipeD, walkD, walkS, deref, R.bind_ok, ofO_some, onB_true, onB_false, toB, TL.len, partI, setAll, List.getElem?_cons_zero, List.getElem?_cons_succ, List.set_cons_zero, List.set_cons_succ, List.length_cons, List.length_nil, if_true, Option.map_some, Bool.not_true, Bool.not_false, isn_n, decide_true]
    rw [evB_nx (ρ' := [some (.ref m.length), some (.tup (isles.map .str)), some .non]) (m' := m ++ [.ins 0 [(0, .tup (isles.map .str))]]) ?h6]
    case h6 => simp -implicitDefEqProofs [evS, evE, Ev.setA, one_last, one_set]
    rw [evB_nx (ρ' := [some (.ref m.length), some (.tup (isles.map .str)), some .non]) (m' := m ++ [.ins 0 [(1, spD (spans isles.length)), (0, .tup (isles.map .str))]]) ?h7]
    case h7 =>
      have := e_pairs_of (n := isles.length) h5 hM1
      simp -implicitDefEqProofs [evS, evE, evL, Ev.setA, one_last, one_set, bi_len_t, G_Sea___init__, this]
    rfl)
  rw [List.length_append, List.length_singleton, List.take_of_length_le (by simp)] at key
  exact key
theorem e_mk (h : SeaOk isles) (hm : memLt m.length m = true) : mkD true 2 0 m.length (f_Sea___init__ [.ref m.length, .tup (isles.map .str)] (m ++ [.ins 0 []])) = .ok (seaD isles) m := by
  rw [e_init h hm]
  unfold mkD
  simp only [if_true, one_last]
  have hf : fieldsD [(1, spD (spans isles.length)), (0, D.tup (isles.map .str))] 2 = some [.tup (isles.map .str), spD (spans isles.length)] := by
    simp [fieldsD, List.lookup]
  rw [hf]
  have hb : D.ltbL m.length [.tup (isles.map .str), spD (spans isles.length)] = true := by
    simp only [D.ltbL, Bool.and_true, Bool.and_eq_true]
    exact ⟨ltb_str, ltb_sp⟩
  simp only [List.take_left']
  rw [if_pos ⟨trivial, by simp, hb, by simpa using hm⟩]
/-! ### checks -/
theorem e_check_sea (hm : memLt m.length m = true) : f_check_sea [seaD isles] m = .ok .non m := by
  refine run_rt rfl hm rfl rfl ?_
  unfold b_check_sea
  simp only [List.map_cons, List.map_nil, List.length_cons, List.length_nil, List.reduceReplicate, Nat.reduceAdd, Nat.reduceSub, List.cons_append, List.nil_append]
  rw [evB_nx (ρ' := [some (seaD isles)]) (m' := m) ?h1]
  case h1 =>
    rw [evS_F (m' := m) ?h2]
    · rfl
    case h2 => simp -implicitDefEqProofs only [evB, evS, evE, evL, evI, evC, evO, asT, asL, wipeD, walkD, walkS, deref, R.bind_ok, ofO_some, onB_true, onB_false, toB, TL.len, partI, setAll, List.getElem?_cons_zero, List.getElem?_cons_succ, List.set_cons_zero, List.set_cons_succ, List.length_cons, List.length_nil, if_true, Option.map_some, Bool.not_true, Bool.not_false, isiD, beq_self_eq_true]
  rfl
/-- bridges of a sea -/
structure NumsOk (n : Nat) (nums : List Int) : Prop where
  len : nums.length = (spans n).length
  in0 : ∀ c ∈ nums, 0 ≤ c
  le : ∀ c ∈ nums, c ≤ 10 ^ 30
theorem e_wrong_number {nums : List Int} {n : Nat} {lo hi : Int} (hn : nums.length = n) (hr : ∀ c ∈ nums, lo ≤ c ∧ c ≤ hi) (hm : memLt m.length m = true) : f_wrong_number [intT nums, .int n, .int lo, .int hi] m = .ok (.tup []) m := by
  refine run_rt rfl hm rfl rfl ?_
  unfold b_wrong_number
  simp only [List.map_cons, List.map_nil, List.length_cons, List.length_nil, List.reduceReplicate, Nat.reduceAdd, Nat.reduceSub, List.cons_append, List.nil_append]
  rw [evB_nx (ρ' := [some (intT nums), some (.int n), some (.int lo), some (.int hi), none, none]) (m' := m) ?h1]
  case h1 =>
    rw [evS_F (m' := m) ?h2]
    · rfl
    case h2 => simp -implicitDefEqProofs only [evB, evS, evE, evL, evI, evC, evO, asT, asL, wipeD, walkD, walkS, deref, R.bind_ok, ofO_some, onB_true, onB_false, toB, TL.len, partI, setAll, List.getElem?_cons_zero, List.getElem?_cons_succ, List.set_cons_zero, List.set_cons_succ, List.length_cons, List.length_nil, if_true, Option.map_some, Bool.not_true, Bool.not_false, isiD, bi_len_t, List.length_map, hn, ne_ii, decide_true]
  obtain ⟨ρ', e, a, b, rfl⟩ := forL_go (α := Int × Nat) (m := m) (src := []) (e := fun p => D.tup [.int (p.2 : Nat), .int p.1]) (g := fun d ρ1 m2 => (asT (G_wrong_number [f_is_within]) (.tup (.cons (.nm 4) (.cons (.nm 5) .nil))) d ρ1 m2).bind fun ρ2 m3 => evB (G_wrong_number [f_is_within]) l_wrong_number_1 ρ2 m3) rfl
    (fun i ρ => ∃ a b, ρ = [some (intT nums), some (.int n), some (.int lo), some (.int hi), a, b]) nums.zipIdx 0 [some (intT nums), some (.int n), some (.int lo), some (.int hi), none, none] ⟨none, none, rfl⟩ (by
      rintro i ⟨x, k⟩ ρ hi' ⟨a, b, rfl⟩
      have hx : nums[k]? = some x := by
        have := List.mem_zipIdx_iff_getElem?.mp (List.mem_of_getElem? hi')
        simpa using this
      have hr' := hr x (List.mem_of_getElem? hx)
      refine ⟨[some (intT nums), some (.int n), some (.int lo), some (.int hi), some (.int (k : Nat)), some (.int x)], ?_, _, _, rfl⟩
      simp -implicitDefEqProofs only [asT, asL, TL.len, R.bind_ok, List.set_cons_succ, List.set_cons_zero, List.length_cons, List.length_nil, if_true]
      unfold l_wrong_number_1
      rw [evB_nx (ρ' := [some (intT nums), some (.int n), some (.int lo), some (.int hi), some (.int (k : Nat)), some (.int x)]) (m' := m) ?g1]
      · rfl
      case g1 =>
        rw [evS_F (m' := m) ?g2]
        · rfl
        case g2 => simp -implicitDefEqProofs only [evB, evS, evE, evL, evI, evC, evO, asT, asL, wipeD, walkD, walkS, deref, R.bind_ok, ofO_some, onB_true, onB_false, toB, TL.len, partI, setAll, List.getElem?_cons_zero, List.getElem?_cons_succ, List.set_cons_zero, List.set_cons_succ, List.length_cons, List.length_nil, if_true, Option.map_some, Bool.not_true, Bool.not_false, G_wrong_number, e_is_within hm, hr'.1, hr'.2, decide_true, Bool.and_self])
  rw [evB_nx (ρ' := [some (intT nums), some (.int n), some (.int lo), some (.int hi), a, b]) (m' := m) ?h3]
  case h3 =>
    rw [evS_for (w := (nums.zipIdx.map fun p => D.tup [.int (p.2 : Nat), .int p.1], [])) (m' := m) ?h4]
    · exact e
    case h4 => simp -implicitDefEqProofs only [evB, evS, evE, evL, evI, evC, evO, asT, asL, wipeD, walkD, walkS, deref, R.bind_ok, ofO_some, onB_true, onB_false, toB, TL.len, partI, setAll, List.getElem?_cons_zero, List.getElem?_cons_succ, List.set_cons_zero, List.set_cons_succ, List.length_cons, List.length_nil, if_true, Option.map_some, Bool.not_true, Bool.not_false, intT, enumI_map]
  rw [evB_rt (evS_ret (d := .tup []) (m' := m) (by simp -implicitDefEqProofs [evE, evL, Ev.sizeOk, lim]))]
  rfl
theorem e_wrong_number_len {nums : List Int} {n : Nat} {lo hi : Int} (hn : nums.length ≠ n) (hm : memLt m.length m = true) : f_wrong_number [intT nums, .int n, .int lo, .int hi] m = .ok (.tup [.non]) m := by
  refine run_rt rfl hm rfl rfl ?_
  unfold b_wrong_number
  simp only [List.map_cons, List.map_nil, List.length_cons, List.length_nil, List.reduceReplicate, Nat.reduceAdd, Nat.reduceSub, List.cons_append, List.nil_append]
  have hn' : ¬ ((nums.length : Nat) : Int) = (n : Nat) := by omega
  rw [evB_rt (d := .tup [.non]) (ρ' := [some (intT nums), some (.int n), some (.int lo), some (.int hi), none, none]) (m' := m) ?h1]
  · rfl
  case h1 =>
    rw [evS_T (m' := m) ?h2]
    · simp -implicitDefEqProofs [evB, evS, evE, evL, Ev.sizeOk, lim]
    case h2 => simp -implicitDefEqProofs only [evB, evS, evE, evL, evI, evC, evO, asT, asL, wipeD, walkD, walkS, deref, R.bind_ok, ofO_some, onB_true, onB_false, toB, TL.len, partI, setAll, List.getElem?_cons_zero, List.getElem?_cons_succ, List.set_cons_zero, List.set_cons_succ, List.length_cons, List.length_nil, if_true, Option.map_some, Bool.not_true, Bool.not_false, isiD, bi_len_t, List.length_map, hn', ne_ii, decide_false]
theorem ne_t00 : opCmp .NotEq (.tup []) (.tup []) m = some false := rfl
theorem ne_tn0 : opCmp .NotEq (.tup [.non]) (.tup []) m = some true := rfl
theorem e_check_bridges {nums : List Int} (hN : NumsOk isles.length nums) (hm : memLt m.length m = true) : f_check_bridges [seaD isles, intT nums] m = .ok .non m := by
  show h_check_bridges [seaD isles, intT nums, .int (10 ^ 30)] m = _
  refine run_rt rfl hm rfl rfl ?_
  unfold b_check_bridges
  simp only [List.map_cons, List.map_nil, List.length_cons, List.length_nil, List.reduceReplicate, Nat.reduceAdd, Nat.reduceSub, List.cons_append, List.nil_append]
  rw [evB_nx (evS_set (d := .tup []) (m' := m) ?h1)]
  case h1 =>
    have := e_wrong_number (m := m) (lo := 0) (hi := 10 ^ 30) hN.len (fun c hc => ⟨hN.in0 c hc, hN.le c hc⟩) hm
    simp -implicitDefEqProofs only [evB, evS, evE, evL, evI, evC, evO, asT, asL, wipeD, walkD, walkS, deref, R.bind_ok, ofO_some, onB_true, onB_false, toB, TL.len, partI, setAll, List.getElem?_cons_zero, List.getElem?_cons_succ, List.set_cons_zero, List.set_cons_succ, List.length_cons, List.length_nil, if_true, Option.map_some, Bool.not_true, Bool.not_false, G_check_bridges, clsOf, e_spans hm, R.noexc_ok, bi_len_t, List.length_map, spD, this]
  simp -implicitDefEqProofs only [List.set_cons_succ, List.set_cons_zero]
  rw [evB_nx (ρ' := [some (seaD isles), some (intT nums), some (.int (10 ^ 30)), some (.tup [])]) (m' := m) ?h2]
  · rfl
  case h2 =>
    rw [evS_F (m' := m) ?h3]
    · rfl
    case h3 => simp -implicitDefEqProofs only [evB, evS, evE, evL, evI, evC, evO, asT, asL, wipeD, walkD, walkS, deref, R.bind_ok, ofO_some, onB_true, onB_false, toB, TL.len, partI, setAll, List.getElem?_cons_zero, List.getElem?_cons_succ, List.set_cons_zero, List.set_cons_succ, List.length_cons, List.length_nil, if_true, Option.map_some, Bool.not_true, Bool.not_false, ne_t00, Ev.sizeOk, lim, Nat.zero_le, decide_true]
theorem nin_str {x : Str} {l : List Str} (hx : PyData.canLay0 (.str x) = true) (hl : okAll l) : opCmp .NotIn (.str x) (.tup (l.map .str)) m = some (!decide (x ∈ l)) := by
  have := in_str (m := m) hx hl
  simp only [opCmp] at this ⊢
  rw [this]; rfl
theorem e_check_island {x : Str} (h : SeaOk isles) (hx : x ∈ isles) (hm : memLt m.length m = true) : f_check_island [seaD isles, .str x] m = .ok .non m := by
  refine run_rt rfl hm rfl rfl ?_
  unfold b_check_island
  simp only [List.map_cons, List.map_nil, List.length_cons, List.length_nil, List.reduceReplicate, Nat.reduceAdd, Nat.reduceSub, List.cons_append, List.nil_append]
  rw [evB_nx (ρ' := [some (seaD isles), some (.str x)]) (m' := m) ?h1]
  case h1 =>
    rw [evS_F (m' := m) ?h2]
    · rfl
    case h2 => simp -implicitDefEqProofs only [evB, evS, evE, evL, evI, evC, evO, asT, asL, wipeD, walkD, walkS, deref, R.bind_ok, ofO_some, onB_true, onB_false, toB, TL.len, partI, setAll, List.getElem?_cons_zero, List.getElem?_cons_succ, List.set_cons_zero, List.set_cons_succ, List.length_cons, List.length_nil, if_true, Option.map_some, Bool.not_true, Bool.not_false, G_check_island, clsOf, e_islands hm, R.noexc_ok, nin_str (h.lay x hx) h.lay, hx, decide_true]
  rfl
theorem e_check_pair {x y : Str} (h : SeaOk isles) (hx : x ∈ isles) (hy : y ∈ isles) (hne : x ≠ y) (hm : memLt m.length m = true) : f_check_pair [seaD isles, .str x, .str y] m = .ok .non m := by
  refine run_rt rfl hm rfl rfl ?_
  unfold b_check_pair
  simp only [List.map_cons, List.map_nil, List.length_cons, List.length_nil, List.reduceReplicate, Nat.reduceAdd, Nat.reduceSub, List.cons_append, List.nil_append]
  rw [evB_nx (evS_ex (d := .non) (m' := m) ?h1)]
  case h1 => simp -implicitDefEqProofs only [evB, evS, evE, evL, evI, evC, evO, asT, asL, wipeD, walkD, walkS, deref, R.bind_ok, ofO_some, onB_true, onB_false, toB, TL.len, partI, setAll, List.getElem?_cons_zero, List.getElem?_cons_succ, List.set_cons_zero, List.set_cons_succ, List.length_cons, List.length_nil, if_true, Option.map_some, Bool.not_true, Bool.not_false, G_check_pair, e_check_island h hx hm]
  rw [evB_nx (evS_ex (d := .non) (m' := m) ?h2)]
  case h2 => simp -implicitDefEqProofs only [evB, evS, evE, evL, evI, evC, evO, asT, asL, wipeD, walkD, walkS, deref, R.bind_ok, ofO_some, onB_true, onB_false, toB, TL.len, partI, setAll, List.getElem?_cons_zero, List.getElem?_cons_succ, List.set_cons_zero, List.set_cons_succ, List.length_cons, List.length_nil, if_true, Option.map_some, Bool.not_true, Bool.not_false, G_check_pair, e_check_island h hy hm]
  rw [evB_nx (ρ' := [some (seaD isles), some (.str x), some (.str y)]) (m' := m) ?h3]
  case h3 =>
    rw [evS_F (m' := m) ?h4]
    · rfl
    case h4 => simp -implicitDefEqProofs only [evB, evS, evE, evL, evI, evC, evO, asT, asL, wipeD, walkD, walkS, deref, R.bind_ok, ofO_some, onB_true, onB_false, toB, TL.len, partI, setAll, List.getElem?_cons_zero, List.getElem?_cons_succ, List.set_cons_zero, List.set_cons_succ, List.length_cons, List.length_nil, if_true, Option.map_some, Bool.not_true, Bool.not_false, eq_ss (h.lay x hx) (h.lay y hy), hne, decide_false]
  rfl
/-! ### the place of an island -/
theorem place_str {x : Str} : ∀ {l : List Str} {i k : Nat}, l.Nodup → l[i]? = some x → placeD (.str x) (l.map PyData.str) k = some (k + i)
  | [], _, _, _, h => by simp at h
  | a :: r, i, k, hn, h => by
    rw [List.map_cons, placeD]
    cases i with
    | zero =>
      simp at h
      subst h
      simp [PyData.eqv]
    | succ i =>
      rw [List.getElem?_cons_succ] at h
      have hne : a ≠ x := by
        intro e
        subst e
        exact (List.nodup_cons.mp hn).1 (List.mem_of_getElem? h)
      rw [if_neg (by simp [PyData.eqv, hne]), place_str (List.nodup_cons.mp hn).2 h]
      congr 1
      omega
theorem find_str {x : Str} {i : Nat} (h : SeaOk isles) (hi : isles[i]? = some x) : smD .index 2 (.tup (isles.map .str)) [.str x] m = some (.int (i : Nat)) := by
  have hx := List.mem_of_getElem? hi
  simp only [smD, deref, findD, toP]
  rw [go_map (f := D.str) (g := PyData.str) fun _ => rfl]
  simp only
  have h1 : SeqAt.shaped (PyData.str x) = true := kStr.sh (by decide) ⟨x, h.lay x hx⟩
  have h2 : SeqAt.shaped (.list (isles.map PyData.str)) = true := by
    obtain ⟨k, rfl⟩ := lift_ok h.lay
    rw [List.map_map]
    exact kStr.lst.sh (by decide) k
  rw [h1, h2, place_str h.nd hi]
  simp
/-- the claim and the paper -/
abbrev saidD (isles : List Str) (nums : List Int) (x y : Str) (c : Int) : D := .tup [.str "between", .str (seaText isles), intT nums, .str x, .str y, .int c]
abbrev paperD (isles : List Str) (nums : List Int) (i j : Nat) : D := .tup [.tup ((namesIn isles (cutOf isles.length nums i j)).map .str), intT (flowAll isles.length nums i j (betw isles.length nums i j)).2.2]
theorem e_certify {x y : Str} {i j : Nat} {nums : List Int} (h : SeaOk isles) (hN : NumsOk isles.length nums) (hx : isles[i]? = some x) (hy : isles[j]? = some y) (hij : i ≠ j) (hm : memLt m.length m = true) :
    f_certify_between [seaD isles, intT nums, .str x, .str y] m = .ok (.tup [saidD isles nums x y (betw isles.length nums i j), paperD isles nums i j]) m := by
  have hi := (List.getElem?_eq_some_iff.mp hx).1
  have hj := (List.getElem?_eq_some_iff.mp hy).1
  have h5 := h.five
  have hne : x ≠ y := by
    intro e
    subst e
    exact hij ((List.getElem?_inj hi h.nd).mp (hx.trans hy.symm))
  have hlt : D.ltb m.length (.tup [saidD isles nums x y (betw isles.length nums i j), paperD isles nums i j]) = true := by
    simp only [D.ltb, D.ltbL, Bool.and_true, Bool.true_and, Bool.and_eq_true]
    exact ⟨ltb_int, ltb_str, ltb_int⟩
  refine run_rt rfl hm hlt rfl ?_
  unfold b_certify_between
  simp only [List.map_cons, List.map_nil, List.length_cons, List.length_nil, List.reduceReplicate, Nat.reduceAdd, Nat.reduceSub, List.cons_append, List.nil_append]
  rw [evB_nx (evS_ex (d := .non) (m' := m) ?h1)]
  case h1 => simp -implicitDefEqProofs only [evB, evS, evE, evL, evI, evC, evO, asT, asL, wipeD, walkD, walkS, deref, R.bind_ok, ofO_some, onB_true, onB_false, toB, TL.len, partI, setAll, List.getElem?_cons_zero, List.getElem?_cons_succ, List.set_cons_zero, List.set_cons_succ, List.length_cons, List.length_nil, if_true, Option.map_some, Bool.not_true, Bool.not_false, G_certify_between, e_check_sea hm]
  rw [evB_nx (evS_ex (d := .non) (m' := m) ?h2)]
  case h2 => simp -implicitDefEqProofs only [evB, evS, evE, evL, evI, evC, evO, asT, asL, wipeD, walkD, walkS, deref, R.bind_ok, ofO_some, onB_true, onB_false, toB, TL.len, partI, setAll, List.getElem?_cons_zero, List.getElem?_cons_succ, List.set_cons_zero, List.set_cons_succ, List.length_cons, List.length_nil, if_true, Option.map_some, Bool.not_true, Bool.not_false, G_certify_between, e_check_bridges hN hm]
  rw [evB_nx (evS_ex (d := .non) (m' := m) ?h3)]
  case h3 => simp -implicitDefEqProofs only [evB, evS, evE, evL, evI, evC, evO, asT, asL, wipeD, walkD, walkS, deref, R.bind_ok, ofO_some, onB_true, onB_false, toB, TL.len, partI, setAll, List.getElem?_cons_zero, List.getElem?_cons_succ, List.set_cons_zero, List.set_cons_succ, List.length_cons, List.length_nil, if_true, Option.map_some, Bool.not_true, Bool.not_false, G_certify_between, e_check_pair h (List.mem_of_getElem? hx) (List.mem_of_getElem? hy) hne hm]
  rw [evB_nx (ρ' := [some (seaD isles), some (intT nums), some (.str x), some (.str y), some (.int (i : Nat)), some (.int (j : Nat)), none, none]) (m' := m) ?h4]
  case h4 => simp -implicitDefEqProofs only [evB, evS, evE, evL, evI, evC, evO, asT, asL, wipeD, walkD, walkS, deref, R.bind_ok, ofO_some, onB_true, onB_false, toB, TL.len, partI, setAll, List.getElem?_cons_zero, List.getElem?_cons_succ, List.set_cons_zero, List.set_cons_succ, List.length_cons, List.length_nil, if_true, Option.map_some, Bool.not_true, Bool.not_false, G_certify_between, clsOf, e_islands hm, R.noexc_ok, smK, find_str h hx, find_str h hy]
  rw [evB_nx (evS_set (d := .int (betw isles.length nums i j)) (m' := m) ?h5)]
  case h5 => simp -implicitDefEqProofs only [evB, evS, evE, evL, evI, evC, evO, asT, asL, wipeD, walkD, walkS, deref, R.bind_ok, ofO_some, onB_true, onB_false, toB, TL.len, partI, setAll, List.getElem?_cons_zero, List.getElem?_cons_succ, List.set_cons_zero, List.set_cons_succ, List.length_cons, List.length_nil, if_true, Option.map_some, Bool.not_true, Bool.not_false, G_certify_between, e_between_of h5 hi hj hij hm]
  simp -implicitDefEqProofs only [List.set_cons_succ, List.set_cons_zero]
  rw [evB_nx (evS_set (d := paperD isles nums i j) (m' := m) ?h6)]
  case h6 =>
    simp -implicitDefEqProofs only [evB, evS, evE, evL, evI, evC, evO, asT, asL, wipeD, walkD, walkS, deref, R.bind_ok, ofO_some, onB_true, onB_false, toB, TL.len, partI, setAll, List.getElem?_cons_zero, List.getElem?_cons_succ, List.set_cons_zero, List.set_cons_succ, List.length_cons, List.length_nil, if_true, Option.map_some, Bool.not_true, Bool.not_false, G_certify_between, e_cut_of h5 hi hj hij hm, e_names_in (lot := cutOf isles.length nums i j) (show isles.length ≤ 100 by omega) hm, e_flow_of h5 hm hN.len, Ev.sizeOk, lim, Nat.reduceAdd, Nat.reduceLeDiff, decide_true]
  simp -implicitDefEqProofs only [List.set_cons_succ, List.set_cons_zero]
  rw [evB_rt (evS_ret (d := .tup [saidD isles nums x y (betw isles.length nums i j), paperD isles nums i j]) (m' := m) ?h7)]
  · rfl
  case h7 =>
    simp -implicitDefEqProofs only [evB, evS, evE, evL, evI, evC, evO, asT, asL, wipeD, walkD, walkS, deref, R.bind_ok, ofO_some, onB_true, onB_false, toB, TL.len, partI, setAll, List.getElem?_cons_zero, List.getElem?_cons_succ, List.set_cons_zero, List.set_cons_succ, List.length_cons, List.length_nil, if_true, Option.map_some, Bool.not_true, Bool.not_false, G_certify_between, clsOf, e_str h hm, R.noexc_ok, Sq.ok, Ev.sizeOk, lim, Nat.reduceAdd, Nat.reduceLeDiff, decide_true]
end
end K85

set_option Elab.async false
set_option linter.all false
set_option maxRecDepth 100000
set_option maxHeartbeats 4000000
namespace K85
open PySem PySem.Spec PyProof.Rows L2 Ev
/-! ### the checker -/
section
variable {isles : List Str} {m : Mem}
theorem eq_strT {a b : List Str} (ha : okAll a) (hb : okAll b) : opCmp .Eq (.tup (a.map .str)) (.tup (b.map .str)) m = some (decide (a = b)) := by
  obtain ⟨k, rfl⟩ := lift_ok ha
  obtain ⟨l, rfl⟩ := lift_ok hb
  simp only [opCmp, eqD, deref, toP]
  rw [List.map_map, List.map_map, go_map (f := D.str ∘ fun x : OkS => x.1) (g := kStr.p) (fun _ => rfl) k, go_map (f := D.str ∘ fun x : OkS => x.1) (g := kStr.p) (fun _ => rfl) l]
  have h1 : SeqAt.shaped (.tuple (k.map kStr.p)) = true := kStr.tup.sh (by decide) k
  have h2 : SeqAt.shaped (.tuple (l.map kStr.p)) = true := kStr.tup.sh (by decide) l
  have h3 : PyData.eqv (.tuple (k.map kStr.p)) (.tuple (l.map kStr.p)) = decide (k = l) := kStr.tup.eq k l
  simp only [Option.map_some, h1, h2, Bool.and_self, if_true, h3]
  congr 1
  rw [Bool.eq_iff_iff]
  simp only [decide_eq_true_eq]
  constructor
  · intro e; rw [e]
  · intro e
    exact (List.map_inj_right (fun a b h => Subtype.ext h)).mp e
theorem eq_intL {a b : List Int} : opCmp .Eq (.lst (a.map .int)) (.lst (b.map .int)) m = some (decide (a = b)) := by
  simp only [opCmp, eqD, deref, toP]
  rw [go_map (f := D.int) (g := Kd.int.p) (fun _ => rfl) a, go_map (f := D.int) (g := Kd.int.p) (fun _ => rfl) b]
  have h1 : SeqAt.shaped (.list (a.map Kd.int.p)) = true := Kd.int.lst.sh (by decide) a
  have h2 : SeqAt.shaped (.list (b.map Kd.int.p)) = true := Kd.int.lst.sh (by decide) b
  have h3 : PyData.eqv (.list (a.map Kd.int.p)) (.list (b.map Kd.int.p)) = decide (a = b) := Kd.int.lst.eq a b
  simp only [Option.map_some, h1, h2, Bool.and_self, if_true, h3]
theorem eq_ref {k : Nat} {l : List D} {y : D} (hk : m[k]? = some (.lst l)) : opCmp .Eq (.ref k) y m = opCmp .Eq (.lst l) y m := by
  simp only [opCmp, eqD, deref, hk]
def isLot (isles names : List Str) : Bool := decide (0 < names.length ∧ names.length < isles.length) && decide (names = isles.filter fun x => decide (x ∈ names))
theorem e_is_lot {names : List Str} (hl : okAll isles) (hn : okAll names) (h5 : isles.length ≤ 20) (hm : memLt m.length m = true) : f_is_lot [seaD isles, .tup (names.map .str)] m = .ok (.bl (isLot isles names)) m := by
  refine run_rt rfl hm rfl rfl ?_
  unfold b_is_lot
  simp only [List.map_cons, List.map_nil, List.length_cons, List.length_nil, List.reduceReplicate, Nat.reduceAdd, Nat.reduceSub, List.cons_append, List.nil_append]
  by_cases h : 0 < names.length ∧ names.length < isles.length
  · rw [evB_nx (ρ' := [some (seaD isles), some (.tup (names.map .str)), none]) (m' := m) ?h1]
    case h1 =>
      rw [evS_F (m' := m) ?h2]
      · rfl
      case h2 =>
        have e1 : (0 : Int) < (names.length : Nat) := by omega
        have e2 : ((names.length : Nat) : Int) < (isles.length : Nat) := by omega
        simp -implicitDefEqProofs only [evB, evS, evE, evL, evI, evC, evO, asT, asL, wipeD, walkD, walkS, deref, R.bind_ok, ofO_some, onB_true, onB_false, toB, TL.len, partI, setAll, List.getElem?_cons_zero, List.getElem?_cons_succ, List.set_cons_zero, List.set_cons_succ, List.length_cons, List.length_nil, if_true, Option.map_some, Bool.not_true, Bool.not_false, isiD, bi_len_t, List.length_map, lt_ii, e1, e2, decide_true, G_is_lot, clsOf, e_len hm, R.noexc_ok, len_ok h5]
    rw [evB_rt (evS_ret (d := .bl (isLot isles names)) (m' := m) ?h3)]
    · rfl
    case h3 =>
      simp -implicitDefEqProofs only [evB, evS, evE, evL, evI, evC, evO, asT, asL, wipeD, walkD, walkS, deref, R.bind_ok, ofO_some, onB_true, onB_false, toB, TL.len, partI, setAll, List.getElem?_cons_zero, List.getElem?_cons_succ, List.set_cons_zero, List.set_cons_succ, List.length_cons, List.length_nil, if_true, Option.map_some, Bool.not_true, Bool.not_false, G_is_lot, clsOf, e_islands hm, R.noexc_ok]
      rw [lcL_if (p := fun x => decide (x ∈ names)) (o := .str) rfl ?t]
      case t =>
        intro x hx
        simp -implicitDefEqProofs only [evB, evS, evE, evL, evI, evC, evO, asT, asL, wipeD, walkD, walkS, deref, R.bind_ok, ofO_some, onB_true, onB_false, toB, TL.len, partI, setAll, List.getElem?_cons_zero, List.getElem?_cons_succ, List.set_cons_zero, List.set_cons_succ, List.length_cons, List.length_nil, if_true, Option.map_some, Bool.not_true, Bool.not_false, in_str (hl x hx) hn]
        cases decide (x ∈ names) <;> rfl
      have hz : Ev.sizeOk (isles.filter fun x => decide (x ∈ names)).length = true := by
        have := List.length_filter_le (fun x => decide (x ∈ names)) isles
        exact sizeOk_pow (by omega)
      have hf : okAll (isles.filter fun x => decide (x ∈ names)) := fun x hx => hl x (List.mem_filter.mp hx).1
      simp -implicitDefEqProofs only [evB, evS, evE, evL, evI, evC, evO, asT, asL, wipeD, walkD, walkS, deref, R.bind_ok, ofO_some, onB_true, onB_false, toB, TL.len, partI, setAll, List.getElem?_cons_zero, List.getElem?_cons_succ, List.set_cons_zero, List.set_cons_succ, List.length_cons, List.length_nil, if_true, Option.map_some, Bool.not_true, Bool.not_false, List.length_map, hz, bi_tuple_l, eq_strT hn hf]
      unfold isLot
      rw [decide_eq_true h, Bool.true_and]
  · have hn' : isLot isles names = false := by
      unfold isLot
      rw [decide_eq_false h, Bool.false_and]
    rw [hn', evB_rt (d := .bl false) (ρ' := [some (seaD isles), some (.tup (names.map .str)), none]) (m' := m) ?h1]
    · rfl
    case h1 =>
      rw [evS_T (m' := m) ?h2]
      · rfl
      case h2 =>
        by_cases e1 : (0 : Int) < (names.length : Nat)
        · have e2 : ¬ ((names.length : Nat) : Int) < (isles.length : Nat) := by omega
          simp -implicitDefEqProofs only [evB, evS, evE, evL, evI, evC, evO, asT, asL, wipeD, walkD, walkS, deref, R.bind_ok, ofO_some, onB_true, onB_false, toB, TL.len, partI, setAll, List.getElem?_cons_zero, List.getElem?_cons_succ, List.set_cons_zero, List.set_cons_succ, List.length_cons, List.length_nil, if_true, Option.map_some, Bool.not_true, Bool.not_false, isiD, bi_len_t, List.length_map, lt_ii, e1, e2, decide_true, decide_false, Bool.not_false, G_is_lot, clsOf, e_len hm, R.noexc_ok, len_ok h5]
        · simp -implicitDefEqProofs only [evB, evS, evE, evL, evI, evC, evO, asT, asL, wipeD, walkD, walkS, deref, R.bind_ok, ofO_some, onB_true, onB_false, toB, TL.len, partI, setAll, List.getElem?_cons_zero, List.getElem?_cons_succ, List.set_cons_zero, List.set_cons_succ, List.length_cons, List.length_nil, if_true, Option.map_some, Bool.not_true, Bool.not_false, isiD, bi_len_t, List.length_map, lt_ii, e1, decide_false, Bool.not_false]
theorem e_are_two {x y : Str} (hl : okAll isles) (hx : PyData.canLay0 (.str x) = true) (hy : PyData.canLay0 (.str y) = true) (hm : memLt m.length m = true) : f_are_two [seaD isles, .str x, .str y] m = .ok (.bl (decide (x ∈ isles) && (decide (y ∈ isles) && !decide (x = y)))) m := by
  refine run_rt rfl hm rfl rfl ?_
  unfold b_are_two
  simp only [List.map_cons, List.map_nil, List.length_cons, List.length_nil, List.reduceReplicate, Nat.reduceAdd, Nat.reduceSub, List.cons_append, List.nil_append]
  rw [evB_rt (evS_ret (d := .bl (decide (x ∈ isles) && (decide (y ∈ isles) && !decide (x = y)))) (m' := m) ?h)]
  · rfl
  case h =>
    simp -implicitDefEqProofs only [evB, evS, evE, evL, evI, evC, evO, asT, asL, wipeD, walkD, walkS, deref, R.bind_ok, ofO_some, onB_true, onB_false, toB, TL.len, partI, setAll, List.getElem?_cons_zero, List.getElem?_cons_succ, List.set_cons_zero, List.set_cons_succ, List.length_cons, List.length_nil, if_true, Option.map_some, Bool.not_true, Bool.not_false, G_are_two, clsOf, e_islands hm, R.noexc_ok, in_str hx hl, in_str hy hl, ne_ss hx hy]
    cases decide (x ∈ isles) <;> cases decide (y ∈ isles) <;> rfl
def dueOf (isles : List Str) (x y : Str) (c : Int) : List Int := isles.map fun w => if w = x then c else if w = y then -c else 0
def isFlow (isles : List Str) (nums : List Int) (x y : Str) (c : Int) (fl : List Int) : Bool :=
  decide (fl.length = nums.length) && (((fl.zip nums).all fun p => decide (-p.2 ≤ p.1) && decide (p.1 ≤ p.2)) && decide (outAcc (List.replicate isles.length 0) ((spans isles.length).zip fl) = dueOf isles x y c))
theorem outAcc_snoc {o : List Int} {l : List ((Nat × Nat) × Int)} {p : (Nat × Nat) × Int} : outAcc o (l ++ [p]) = flowW (outAcc o l) p.1.1 p.1.2 (-p.2) := by
  unfold outAcc
  rw [List.foldl_append]
  rfl
theorem e_is_flow {nums fl : List Int} {x y : Str} {c : Int} (hl : okAll isles) (hx : PyData.canLay0 (.str x) = true) (hy : PyData.canLay0 (.str y) = true) (h5 : isles.length ≤ 5) (hN : nums.length ≤ 1000) (hm : memLt m.length m = true) :
    f_is_flow [seaD isles, intT nums, .tup [.str x, .str y, .int c], intT fl] m = .ok (.bl (isFlow isles nums x y c fl)) m := by
  by_cases hA : fl.length = nums.length
  · cases hB : ((fl.zip nums).all fun p => decide (-p.2 ≤ p.1) && decide (p.1 ≤ p.2)) with
    | true =>
      have hres : isFlow isles nums x y c fl = decide (outAcc (List.replicate isles.length 0) ((spans isles.length).zip fl) = dueOf isles x y c) := by
        unfold isFlow
        rw [decide_eq_true hA, hB, Bool.true_and, Bool.true_and]
      have hs := spans_len_le h5
      refine run_rtM (m1 := m ++ [.lst ((outAcc (List.replicate isles.length 0) ((spans isles.length).zip fl)).map .int)]) rfl hm rfl rfl (by simp) ?_
      unfold b_is_flow
      simp only [List.map_cons, List.map_nil, List.length_cons, List.length_nil, List.reduceReplicate, Nat.reduceAdd, Nat.reduceSub, List.cons_append, List.nil_append]
      rw [evB_nx (ρ' := [some (seaD isles), some (intT nums), some (.tup [.str x, .str y, .int c]), some (intT fl), some (.str x), some (.str y), some (.int c), none, none, none, none, none, none, none]) (m' := m) ?h1]
      case h1 => simp -implicitDefEqProofs only [evB, evS, evE, evL, evI, evC, evO, asT, asL, wipeD, walkD, walkS, deref, R.bind_ok, ofO_some, onB_true, onB_false, toB, TL.len, partI, setAll, List.getElem?_cons_zero, List.getElem?_cons_succ, List.set_cons_zero, List.set_cons_succ, List.length_cons, List.length_nil, if_true, Option.map_some, Bool.not_true, Bool.not_false, asL]
      rw [evB_nx (ρ' := [some (seaD isles), some (intT nums), some (.tup [.str x, .str y, .int c]), some (intT fl), some (.str x), some (.str y), some (.int c), none, none, none, none, none, none, none]) (m' := m) ?h2]
      case h2 =>
        rw [evS_F (m' := m) ?h3]
        · rfl
        case h3 => simp -implicitDefEqProofs only [evB, evS, evE, evL, evI, evC, evO, asT, asL, wipeD, walkD, walkS, deref, R.bind_ok, ofO_some, onB_true, onB_false, toB, TL.len, partI, setAll, List.getElem?_cons_zero, List.getElem?_cons_succ, List.set_cons_zero, List.set_cons_succ, List.length_cons, List.length_nil, if_true, Option.map_some, Bool.not_true, Bool.not_false, isiD, bi_len_t, List.length_map, hA, ne_ii, decide_true]
      rw [evB_nx (ρ' := [some (seaD isles), some (intT nums), some (.tup [.str x, .str y, .int c]), some (intT fl), some (.str x), some (.str y), some (.int c), none, none, none, none, none, none, none]) (m' := m) ?h4]
      case h4 =>
        rw [evS_F (m' := m) ?h5]
        · rfl
        case h5 =>
          simp -implicitDefEqProofs only [evB, evS, evE, evL, evI, evC, evO, asT, asL, wipeD, walkD, walkS, deref, R.bind_ok, ofO_some, onB_true, onB_false, toB, TL.len, partI, setAll, List.getElem?_cons_zero, List.getElem?_cons_succ, List.set_cons_zero, List.set_cons_succ, List.length_cons, List.length_nil, if_true, Option.map_some, Bool.not_true, Bool.not_false, intT]
          rw [zip2_map, lcL_all (o := fun p => .bl (decide (-p.2 ≤ p.1) && decide (p.1 ≤ p.2))) rfl ?t]
          case t =>
            rintro ⟨a, b⟩ _
            simp -implicitDefEqProofs only [evB, evS, evE, evL, evI, evC, evO, asT, asL, wipeD, walkD, walkS, deref, R.bind_ok, ofO_some, onB_true, onB_false, toB, TL.len, partI, setAll, List.getElem?_cons_zero, List.getElem?_cons_succ, List.set_cons_zero, List.set_cons_succ, List.length_cons, List.length_nil, if_true, Option.map_some, Bool.not_true, Bool.not_false, G_is_flow, e_is_within hm]
          have hz : Ev.sizeOk (fl.zip nums).length = true := sizeOk_pow (by rw [List.length_zip]; omega)
          have he : ((fl.zip nums).map fun p => D.bl (decide (-p.2 ≤ p.1) && decide (p.1 ≤ p.2))) = ((fl.zip nums).map fun p => decide (-p.2 ≤ p.1) && decide (p.1 ≤ p.2)).map D.bl := by simp
          have hall : (((fl.zip nums).map fun p => decide (-p.2 ≤ p.1) && decide (p.1 ≤ p.2)).all id) = true := by rw [List.all_map]; exact hB
          rw [he]
          simp -implicitDefEqProofs only [evB, evS, evE, evL, evI, evC, evO, asT, asL, wipeD, walkD, walkS, deref, R.bind_ok, ofO_some, onB_true, onB_false, toB, TL.len, partI, setAll, List.getElem?_cons_zero, List.getElem?_cons_succ, List.set_cons_zero, List.set_cons_succ, List.length_cons, List.length_nil, if_true, Option.map_some, Bool.not_true, Bool.not_false, List.length_map, hz, bi_all_l, blL_map, hall]
      rw [evB_nx (evS_set (d := .ref m.length) (m' := m ++ [.lst ((List.replicate isles.length (0 : Int)).map .int)]) ?h6)]
      case h6 =>
        simp -implicitDefEqProofs only [evB, evS, evE, evL, evI, evC, evO, asT, asL, wipeD, walkD, walkS, deref, R.bind_ok, ofO_some, onB_true, onB_false, toB, TL.len, partI, setAll, List.getElem?_cons_zero, List.getElem?_cons_succ, List.set_cons_zero, List.set_cons_succ, List.length_cons, List.length_nil, if_true, Option.map_some, Bool.not_true, Bool.not_false, G_is_flow, clsOf, e_islands hm, R.noexc_ok]
        rw [lcL_all (o := fun _ => .int 0) rfl ?t]
        case t =>
          intro w _
          simp -implicitDefEqProofs only [evB, evS, evE, evL, evI, evC, evO, asT, asL, wipeD, walkD, walkS, deref, R.bind_ok, ofO_some, onB_true, onB_false, toB, TL.len, partI, setAll, List.getElem?_cons_zero, List.getElem?_cons_succ, List.set_cons_zero, List.set_cons_succ, List.length_cons, List.length_nil, if_true, Option.map_some, Bool.not_true, Bool.not_false]
        have hz : Ev.sizeOk isles.length = true := sizeOk_pow (by omega)
        have he : ∀ l : List Str, (l.map fun _ => D.int 0) = (List.replicate l.length (0 : Int)).map D.int := fun l => by
          induction l with
          | nil => rfl
          | cons a r ih => rw [List.map_cons, ih]; rfl
        rw [he]
        simp -implicitDefEqProofs only [evB, evS, evE, evL, evI, evC, evO, asT, asL, wipeD, walkD, walkS, deref, R.bind_ok, ofO_some, onB_true, onB_false, toB, TL.len, partI, setAll, List.getElem?_cons_zero, List.getElem?_cons_succ, List.set_cons_zero, List.set_cons_succ, List.length_cons, List.length_nil, if_true, Option.map_some, Bool.not_true, Bool.not_false, List.length_map, List.length_replicate, hz]
      simp -implicitDefEqProofs only [List.set_cons_succ, List.set_cons_zero]
      have hM0 : ∀ o : List Int, memLt (m ++ [MO.lst (o.map .int)]).length (m ++ [MO.lst (o.map .int)]) = true := fun o => memLt_app hm fun mo h => by
        simp only [List.mem_singleton] at h
        subst h
        exact ltbL_map fun _ _ => rfl
      obtain ⟨ρ', m', e, s8, s9, s10, rfl, rfl⟩ := forL_goM (src := []) (e := fun p : (Nat × Nat) × Int => D.tup [.tup [.int (p.1.1 : Nat), .int (p.1.2 : Nat)], .int p.2])
        (g := fun d ρ1 m2 => (asT (G_is_flow [f_Sea_islands, f_Sea_spans, f_is_within]) (.tup (.cons (.tup (.cons (.nm 8) (.cons (.nm 9) .nil))) (.cons (.nm 10) .nil))) d ρ1 m2).bind fun ρ2 m3 => evB (G_is_flow [f_Sea_islands, f_Sea_spans, f_is_within]) l_is_flow_1 ρ2 m3)
        (fun t ρ mm => ∃ s8 s9 s10, ρ = [some (seaD isles), some (intT nums), some (.tup [.str x, .str y, .int c]), some (intT fl), some (.str x), some (.str y), some (.int c), some (.ref m.length), s8, s9, s10, none, none, none] ∧ mm = m ++ [.lst ((outAcc (List.replicate isles.length 0) (((spans isles.length).zip fl).take t)).map .int)])
        (fun _ _ _ _ => rfl) ((spans isles.length).zip fl) 0 [some (seaD isles), some (intT nums), some (.tup [.str x, .str y, .int c]), some (intT fl), some (.str x), some (.str y), some (.int c), some (.ref m.length), none, none, none, none, none, none] (m ++ [.lst ((List.replicate isles.length (0 : Int)).map .int)]) ⟨none, none, none, rfl, rfl⟩ (by
          rintro t ⟨⟨i, j⟩, v⟩ ρ mm ht ⟨s8, s9, s10, rfl, rfl⟩
          rw [Nat.zero_add]
          have hp := spans_lt (List.of_mem_zip (List.mem_of_getElem? ht)).1
          simp only at hp
          have hstep : outAcc (List.replicate isles.length 0) (((spans isles.length).zip fl).take (t + 1)) = flowW (outAcc (List.replicate isles.length 0) (((spans isles.length).zip fl).take t)) i j (-v) := by
            rw [List.take_succ, ht, Option.toList_some, outAcc_snoc]
          rw [hstep]
          have hlo : (outAcc (List.replicate isles.length 0) (((spans isles.length).zip fl).take t)).length = isles.length := by rw [outAcc_len, List.length_replicate]
          generalize outAcc (List.replicate isles.length 0) (((spans isles.length).zip fl).take t) = ws at hlo ⊢
          refine ⟨[some (seaD isles), some (intT nums), some (.tup [.str x, .str y, .int c]), some (intT fl), some (.str x), some (.str y), some (.int c), some (.ref m.length), some (.int (i : Nat)), some (.int (j : Nat)), some (.int v), none, none, none], m ++ [.lst ((flowW ws i j (-v)).map .int)], ?_, _, _, _, rfl, rfl⟩
          simp -implicitDefEqProofs only [asT, asL, TL.len, R.bind_ok, List.set_cons_succ, List.set_cons_zero, List.length_cons, List.length_nil, if_true]
          unfold l_is_flow_1
          obtain ⟨w1, hw1⟩ : ∃ w1, ws[i]? = some w1 := ⟨_, List.getElem?_eq_getElem (by omega)⟩
          obtain ⟨w2, hw2⟩ : ∃ w2, (ws.set i (w1 + v))[j]? = some w2 := ⟨_, List.getElem?_eq_getElem (by rw [List.length_set]; omega)⟩
          have ea := atI_map (f := D.int) hw1
          have eb := atI_map (f := D.int) hw2
          have na : ixN (ws.map D.int).length (i : Int) = some i := ixN_nat (by rw [List.length_map]; omega)
          have nb : ixN ((ws.set i (w1 + v)).map D.int).length (j : Int) = some j := ixN_nat (by rw [List.length_map, List.length_set]; omega)
          rw [evB_nx (ρ' := [some (seaD isles), some (intT nums), some (.tup [.str x, .str y, .int c]), some (intT fl), some (.str x), some (.str y), some (.int c), some (.ref m.length), some (.int (i : Nat)), some (.int (j : Nat)), some (.int v), none, none, none]) (m' := m ++ [.lst ((ws.set i (w1 + v)).map .int)]) ?g3]
          case g3 =>
            simp -implicitDefEqProofs only [evS, evE, asT, R.bind_ok, List.getElem?_cons_zero, List.getElem?_cons_succ, ixD, deref, one_last, ea, ofO_some, opBin, setD, na, Option.map_some, one_set, List.map_set]
          rw [evB_nx (ρ' := [some (seaD isles), some (intT nums), some (.tup [.str x, .str y, .int c]), some (intT fl), some (.str x), some (.str y), some (.int c), some (.ref m.length), some (.int (i : Nat)), some (.int (j : Nat)), some (.int v), none, none, none]) (m' := m ++ [.lst (((ws.set i (w1 + v)).set j (w2 - v)).map .int)]) ?g4]
          case g4 =>
            generalize hv : ws.set i (w1 + v) = u at eb nb hw2 ⊢
            simp -implicitDefEqProofs only [evS, evE, asT, R.bind_ok, List.getElem?_cons_zero, List.getElem?_cons_succ, ixD, deref, one_last, eb, ofO_some, opBin, setD, nb, Option.map_some, one_set, List.map_set]
          have hW : (ws.set i (w1 + v)).set j (w2 - v) = flowW ws i j (-v) := by
            have e1 : w1 - -v = w1 + v := by omega
            have e2 : w2 + -v = w2 - v := by omega
            simp only [flowW, hw1, Option.getD_some, e1, hw2, e2]
          rw [hW, evB_nil])
      rw [Nat.zero_add, List.take_length] at e
      rw [evB_nx (m' := m ++ [.lst ((outAcc (List.replicate isles.length 0) ((spans isles.length).zip fl)).map .int)]) ((evS_for (w := (((spans isles.length).zip fl).map fun p => D.tup [.tup [.int (p.1.1 : Nat), .int (p.1.2 : Nat)], .int p.2], [])) (m' := m ++ [.lst ((List.replicate isles.length (0 : Int)).map .int)]) ?g3).trans e)]
      case g3 => simp -implicitDefEqProofs only [evB, evS, evE, evL, evI, evC, evO, asT, asL, wipeD, walkD, walkS, deref, R.bind_ok, ofO_some, onB_true, onB_false, toB, TL.len, partI, setAll, List.getElem?_cons_zero, List.getElem?_cons_succ, List.set_cons_zero, List.set_cons_succ, List.length_cons, List.length_nil, if_true, Option.map_some, Bool.not_true, Bool.not_false, G_is_flow, clsOf, e_spans (hM0 _), R.noexc_ok, spD, intT, zip2_map, List.append_nil]
      rw [evB_nx (evS_set (d := .lst ((dueOf isles x y c).map .int)) (m' := m ++ [.lst ((outAcc (List.replicate isles.length 0) ((spans isles.length).zip fl)).map .int)]) ?g4)]
      case g4 =>
        simp -implicitDefEqProofs only [evB, evS, evE, evL, evI, evC, evO, asT, asL, wipeD, walkD, walkS, deref, R.bind_ok, ofO_some, onB_true, onB_false, toB, TL.len, partI, setAll, List.getElem?_cons_zero, List.getElem?_cons_succ, List.set_cons_zero, List.set_cons_succ, List.length_cons, List.length_nil, if_true, Option.map_some, Bool.not_true, Bool.not_false, G_is_flow, clsOf, e_islands (hM0 _), R.noexc_ok]
        rw [lcL_all (o := fun w => .int (if w = x then c else if w = y then -c else 0)) rfl ?t]
        case t =>
          intro w hw
          simp -implicitDefEqProofs only [evB, evS, evE, evL, evI, evC, evO, asT, asL, wipeD, walkD, walkS, deref, R.bind_ok, ofO_some, onB_true, onB_false, toB, TL.len, partI, setAll, List.getElem?_cons_zero, List.getElem?_cons_succ, List.set_cons_zero, List.set_cons_succ, List.length_cons, List.length_nil, if_true, Option.map_some, Bool.not_true, Bool.not_false, eq_ss (hl w hw) hx, eq_ss (hl w hw) hy]
          by_cases e1 : w = x
          · simp [e1]
          · by_cases e2 : w = y
            · have e3 : ¬ y = x := fun e3 => e1 (e2.trans e3)
              simp [e2, e3, partI]
            · simp [e1, e2]
        have hz : Ev.sizeOk isles.length = true := sizeOk_pow (by omega)
        have he : (isles.map fun w => D.int (if w = x then c else if w = y then -c else 0)) = (dueOf isles x y c).map D.int := by simp [dueOf]
        rw [he]
        have hz2 : (dueOf isles x y c).length = isles.length := by simp [dueOf]
        simp -implicitDefEqProofs only [evB, evS, evE, evL, evI, evC, evO, asT, asL, wipeD, walkD, walkS, deref, R.bind_ok, ofO_some, onB_true, onB_false, toB, TL.len, partI, setAll, List.getElem?_cons_zero, List.getElem?_cons_succ, List.set_cons_zero, List.set_cons_succ, List.length_cons, List.length_nil, if_true, Option.map_some, Bool.not_true, Bool.not_false, List.length_map, hz2, hz]
      simp -implicitDefEqProofs only [List.set_cons_succ, List.set_cons_zero]
      rw [evB_rt (evS_ret (d := .bl (isFlow isles nums x y c fl)) (m' := m ++ [.lst ((outAcc (List.replicate isles.length 0) ((spans isles.length).zip fl)).map .int)]) ?g5)]
      · rfl
      case g5 =>
        simp -implicitDefEqProofs only [evE, R.bind_ok, List.getElem?_cons_zero, List.getElem?_cons_succ, eq_ref one_last, eq_intL, Option.map_some, ofO_some, hres]
    | false =>
      have hres : isFlow isles nums x y c fl = false := by
        unfold isFlow
        rw [hB, Bool.false_and, Bool.and_false]
      rw [hres]
      refine run_rt rfl hm rfl rfl ?_
      unfold b_is_flow
      simp only [List.map_cons, List.map_nil, List.length_cons, List.length_nil, List.reduceReplicate, Nat.reduceAdd, Nat.reduceSub, List.cons_append, List.nil_append]
      rw [evB_nx (ρ' := [some (seaD isles), some (intT nums), some (.tup [.str x, .str y, .int c]), some (intT fl), some (.str x), some (.str y), some (.int c), none, none, none, none, none, none, none]) (m' := m) ?h1]
      case h1 => simp -implicitDefEqProofs only [evB, evS, evE, evL, evI, evC, evO, asT, asL, wipeD, walkD, walkS, deref, R.bind_ok, ofO_some, onB_true, onB_false, toB, TL.len, partI, setAll, List.getElem?_cons_zero, List.getElem?_cons_succ, List.set_cons_zero, List.set_cons_succ, List.length_cons, List.length_nil, if_true, Option.map_some, Bool.not_true, Bool.not_false, asL]
      rw [evB_nx (ρ' := [some (seaD isles), some (intT nums), some (.tup [.str x, .str y, .int c]), some (intT fl), some (.str x), some (.str y), some (.int c), none, none, none, none, none, none, none]) (m' := m) ?h2]
      case h2 =>
        rw [evS_F (m' := m) ?h3]
        · rfl
        case h3 => simp -implicitDefEqProofs only [evB, evS, evE, evL, evI, evC, evO, asT, asL, wipeD, walkD, walkS, deref, R.bind_ok, ofO_some, onB_true, onB_false, toB, TL.len, partI, setAll, List.getElem?_cons_zero, List.getElem?_cons_succ, List.set_cons_zero, List.set_cons_succ, List.length_cons, List.length_nil, if_true, Option.map_some, Bool.not_true, Bool.not_false, isiD, bi_len_t, List.length_map, hA, ne_ii, decide_true]
      rw [evB_rt (d := .bl false) (ρ' := [some (seaD isles), some (intT nums), some (.tup [.str x, .str y, .int c]), some (intT fl), some (.str x), some (.str y), some (.int c), none, none, none, none, none, none, none]) (m' := m) ?h4]
      · rfl
      case h4 =>
        rw [evS_T (m' := m) ?h5]
        · rfl
        case h5 =>
          simp -implicitDefEqProofs only [evB, evS, evE, evL, evI, evC, evO, asT, asL, wipeD, walkD, walkS, deref, R.bind_ok, ofO_some, onB_true, onB_false, toB, TL.len, partI, setAll, List.getElem?_cons_zero, List.getElem?_cons_succ, List.set_cons_zero, List.set_cons_succ, List.length_cons, List.length_nil, if_true, Option.map_some, Bool.not_true, Bool.not_false, intT]
          rw [zip2_map, lcL_all (o := fun p => .bl (decide (-p.2 ≤ p.1) && decide (p.1 ≤ p.2))) rfl ?t]
          case t =>
            rintro ⟨a, b⟩ _
            simp -implicitDefEqProofs only [evB, evS, evE, evL, evI, evC, evO, asT, asL, wipeD, walkD, walkS, deref, R.bind_ok, ofO_some, onB_true, onB_false, toB, TL.len, partI, setAll, List.getElem?_cons_zero, List.getElem?_cons_succ, List.set_cons_zero, List.set_cons_succ, List.length_cons, List.length_nil, if_true, Option.map_some, Bool.not_true, Bool.not_false, G_is_flow, e_is_within hm]
          have hz : Ev.sizeOk (fl.zip nums).length = true := sizeOk_pow (by rw [List.length_zip]; omega)
          have he : ((fl.zip nums).map fun p => D.bl (decide (-p.2 ≤ p.1) && decide (p.1 ≤ p.2))) = ((fl.zip nums).map fun p => decide (-p.2 ≤ p.1) && decide (p.1 ≤ p.2)).map D.bl := by simp
          have hall : (((fl.zip nums).map fun p => decide (-p.2 ≤ p.1) && decide (p.1 ≤ p.2)).all id) = false := by rw [List.all_map]; exact hB
          rw [he]
          simp -implicitDefEqProofs only [evB, evS, evE, evL, evI, evC, evO, asT, asL, wipeD, walkD, walkS, deref, R.bind_ok, ofO_some, onB_true, onB_false, toB, TL.len, partI, setAll, List.getElem?_cons_zero, List.getElem?_cons_succ, List.set_cons_zero, List.set_cons_succ, List.length_cons, List.length_nil, if_true, Option.map_some, Bool.not_true, Bool.not_false, List.length_map, hz, bi_all_l, blL_map, hall]
  · have hres : isFlow isles nums x y c fl = false := by
      unfold isFlow
      rw [decide_eq_false hA, Bool.false_and]
    rw [hres]
    refine run_rt rfl hm rfl rfl ?_
    unfold b_is_flow
    simp only [List.map_cons, List.map_nil, List.length_cons, List.length_nil, List.reduceReplicate, Nat.reduceAdd, Nat.reduceSub, List.cons_append, List.nil_append]
    rw [evB_nx (ρ' := [some (seaD isles), some (intT nums), some (.tup [.str x, .str y, .int c]), some (intT fl), some (.str x), some (.str y), some (.int c), none, none, none, none, none, none, none]) (m' := m) ?h1]
    case h1 => simp -implicitDefEqProofs only [evB, evS, evE, evL, evI, evC, evO, asT, asL, wipeD, walkD, walkS, deref, R.bind_ok, ofO_some, onB_true, onB_false, toB, TL.len, partI, setAll, List.getElem?_cons_zero, List.getElem?_cons_succ, List.set_cons_zero, List.set_cons_succ, List.length_cons, List.length_nil, if_true, Option.map_some, Bool.not_true, Bool.not_false, asL]
    rw [evB_rt (d := .bl false) (ρ' := [some (seaD isles), some (intT nums), some (.tup [.str x, .str y, .int c]), some (intT fl), some (.str x), some (.str y), some (.int c), none, none, none, none, none, none, none]) (m' := m) ?h2]
    · rfl
    case h2 =>
      have hA' : ¬ ((fl.length : Nat) : Int) = (nums.length : Nat) := by omega
      rw [evS_T (m' := m) ?h3]
      · rfl
      case h3 => simp -implicitDefEqProofs only [evB, evS, evE, evL, evI, evC, evO, asT, asL, wipeD, walkD, walkS, deref, R.bind_ok, ofO_some, onB_true, onB_false, toB, TL.len, partI, setAll, List.getElem?_cons_zero, List.getElem?_cons_succ, List.set_cons_zero, List.set_cons_succ, List.length_cons, List.length_nil, if_true, Option.map_some, Bool.not_true, Bool.not_false, isiD, bi_len_t, List.length_map, hA', ne_ii, decide_false]
end
end K85

set_option Elab.async false
set_option linter.all false
set_option maxRecDepth 100000
set_option maxHeartbeats 4000000
namespace K85
open PySem PySem.Spec PyProof.Rows L2 Ev
theorem evB_guard {Γ : Gam} {e : E} {l : SL} {ρ : Ev.Env} {m m' : Mem} {b : Bool} (h : evE Γ e ρ m = .ok (.bl b) m') : evB Γ (.cons (.ife e (.cons (.ret (.bl false)) .nil) .nil) l) ρ m = if b then .ok (.rt (.bl false), ρ) m' else evB Γ l ρ m' := by
  cases b with
  | true => exact evB_rt ((evS_T h).trans rfl)
  | false => exact evB_nx ((evS_F h).trans rfl)
theorem retV_ite {b : Bool} {x y : R (Fl × Ev.Env)} : retV (if b then x else y) = if b then retV x else retV y := by cases b <;> rfl
section
variable {isles : List Str} {m : Mem}
abbrev maskOf (isles names : List Str) : List Bool := isles.map fun x => decide (x ∈ names)
def betwShown (isles : List Str) (nums : List Int) (x y : Str) (c : Int) (names : List Str) (fl : List Int) : Bool :=
  (decide (x ∈ isles) && (decide (y ∈ isles) && !decide (x = y))) && (decide (0 ≤ c) && (isLot isles names && (!decide (decide (x ∈ names) = decide (y ∈ names)) && (decide (outOf (spans isles.length) nums (maskOf isles names) = c) && isFlow isles nums x y c fl))))
theorem e_between_shown {nums fl : List Int} {x y : Str} {c : Int} {names : List Str} (hl : okAll isles) (hx : PyData.canLay0 (.str x) = true) (hy : PyData.canLay0 (.str y) = true) (hn : okAll names) (h5 : isles.length ≤ 5) (hN : nums.length ≤ 1000) (hm : memLt m.length m = true) :
    f_between_shown [seaD isles, intT nums, .tup [.str x, .str y, .int c], .tup [.tup (names.map .str), intT fl]] m = .ok (.bl (betwShown isles nums x y c names fl)) m := by
  refine run_rt rfl hm rfl rfl ?_
  unfold b_between_shown
  simp only [List.map_cons, List.map_nil, List.length_cons, List.length_nil, List.reduceReplicate, Nat.reduceAdd, Nat.reduceSub, List.cons_append, List.nil_append]
  rw [evB_nx (ρ' := [some (seaD isles), some (intT nums), some (.tup [.str x, .str y, .int c]), some (.tup [.tup (names.map .str), intT fl]), some (.str x), some (.str y), some (.int c)]) (m' := m) ?h1]
  case h1 => simp -implicitDefEqProofs only [evB, evS, evE, evL, evI, evC, evO, asT, asL, wipeD, walkD, walkS, deref, R.bind_ok, ofO_some, onB_true, onB_false, toB, TL.len, partI, setAll, List.getElem?_cons_zero, List.getElem?_cons_succ, List.set_cons_zero, List.set_cons_succ, List.length_cons, List.length_nil, if_true, Option.map_some, Bool.not_true, Bool.not_false, asL]
  have i0 : ixD (.tup [.tup (names.map .str), intT fl]) (.int 0) m = some (.tup (names.map .str)) := by
    rw [ix_t]; exact atI_at (i := 0) rfl
  have i1 : ixD (.tup [.tup (names.map .str), intT fl]) (.int 1) m = some (intT fl) := by
    rw [ix_t]; exact atI_at (i := 1) rfl
  rw [evB_guard (b := !((decide (x ∈ isles) && (decide (y ∈ isles) && !decide (x = y))) && decide (0 ≤ c))) (m' := m) ?h2]
  case h2 =>
    simp -implicitDefEqProofs only [evB, evS, evE, evL, evI, evC, evO, asT, asL, wipeD, walkD, walkS, deref, R.bind_ok, ofO_some, onB_true, onB_false, toB, TL.len, partI, setAll, List.getElem?_cons_zero, List.getElem?_cons_succ, List.set_cons_zero, List.set_cons_succ, List.length_cons, List.length_nil, if_true, Option.map_some, Bool.not_true, Bool.not_false, G_between_shown, e_are_two hl hx hy hm, e_is_count hm, e_is_pair hm]
    cases (decide (x ∈ isles) && (decide (y ∈ isles) && !decide (x = y))) <;> cases decide (0 ≤ c) <;> rfl
  rw [evB_guard (b := !(isLot isles names) || decide (decide (x ∈ names) = decide (y ∈ names))) (m' := m) ?h3]
  case h3 =>
    simp -implicitDefEqProofs only [evB, evS, evE, evL, evI, evC, evO, asT, asL, wipeD, walkD, walkS, deref, R.bind_ok, ofO_some, onB_true, onB_false, toB, TL.len, partI, setAll, List.getElem?_cons_zero, List.getElem?_cons_succ, List.set_cons_zero, List.set_cons_succ, List.length_cons, List.length_nil, if_true, Option.map_some, Bool.not_true, Bool.not_false, G_between_shown, i0, e_is_lot hl hn (show isles.length ≤ 20 by omega) hm, in_str hx hn, in_str hy hn, eq_bb]
    cases isLot isles names <;> rfl
  rw [evB_guard (b := !decide (outOf (spans isles.length) nums (maskOf isles names) = c)) (m' := m) ?h4]
  case h4 =>
    have ho := e_out_of (m := m) (sp := spans isles.length) (nums := nums) (lot := maskOf isles names) hm (fun p hp => by have := spans_lt hp; simp; omega) (spans_len_le h5)
    simp -implicitDefEqProofs only [evB, evS, evE, evL, evI, evC, evO, asT, asL, wipeD, walkD, walkS, deref, R.bind_ok, ofO_some, onB_true, onB_false, toB, TL.len, partI, setAll, List.getElem?_cons_zero, List.getElem?_cons_succ, List.set_cons_zero, List.set_cons_succ, List.length_cons, List.length_nil, if_true, Option.map_some, Bool.not_true, Bool.not_false, G_between_shown, clsOf, e_spans hm, R.noexc_ok, i0, e_lot_of (show isles.length ≤ 100 by omega) hl hn hm, ho, ne_ii]
  rw [evB_rt (evS_ret (d := .bl (isFlow isles nums x y c fl)) (m' := m) ?h5)]
  case h5 => simp -implicitDefEqProofs only [evB, evS, evE, evL, evI, evC, evO, asT, asL, wipeD, walkD, walkS, deref, R.bind_ok, ofO_some, onB_true, onB_false, toB, TL.len, partI, setAll, List.getElem?_cons_zero, List.getElem?_cons_succ, List.set_cons_zero, List.set_cons_succ, List.length_cons, List.length_nil, if_true, Option.map_some, Bool.not_true, Bool.not_false, G_between_shown, i1, e_is_flow hl hx hy h5 hN hm]
  unfold betwShown
  simp only [retV_ite]
  cases (decide (x ∈ isles) && (decide (y ∈ isles) && !decide (x = y))) <;> cases decide (0 ≤ c) <;> cases isLot isles names <;> cases decide (decide (x ∈ names) = decide (y ∈ names)) <;> cases decide (outOf (spans isles.length) nums (maskOf isles names) = c) <;> rfl
theorem sl_3 {a b c d e f : D} : slD (.tup [a, b, c, d, e, f]) (some 3) none m = some (.tup [d, e, f]) := rfl
theorem e_accepts {t : Str} {nums fl : List Int} {x y : Str} {c : Int} {names : List Str} (hS : SeaOk isles) (hr : f_read_sea [.str t] m = .ok (.tup (isles.map .str)) m) (hN : NumsOk isles.length nums) (hx : PyData.canLay0 (.str x) = true) (hy : PyData.canLay0 (.str y) = true) (hn : okAll names) (hm : memLt m.length m = true) :
    f_accepts [.tup [.str "between", .str t, intT nums, .str x, .str y, .int c], .tup [.tup (names.map .str), intT fl]] m = .ok (.bl (betwShown isles nums x y c names fl)) m := by
  refine run_rt rfl hm rfl rfl ?_
  unfold b_accepts
  simp only [List.map_cons, List.map_nil, List.length_cons, List.length_nil, List.reduceReplicate, Nat.reduceAdd, Nat.reduceSub, List.cons_append, List.nil_append]
  have i0 : ixD (.tup [.str "between", .str t, intT nums, .str x, .str y, .int c]) (.int 0) m = some (.str "between") := by
    rw [ix_t]; exact atI_at (i := 0) rfl
  have i1 : ixD (.tup [.str "between", .str t, intT nums, .str x, .str y, .int c]) (.int 1) m = some (.str t) := by
    rw [ix_t]; exact atI_at (i := 1) rfl
  have i2 : ixD (.tup [.str "between", .str t, intT nums, .str x, .str y, .int c]) (.int 2) m = some (intT nums) := by
    rw [ix_t]; exact atI_at (i := 2) rfl
  have h5 := hS.five
  have hs := spans_len_le h5
  have hb : PyData.canLay0 (.str "between") = true := lay_of (by decide)
  rw [evB_guard (b := false) (m' := m) ?h1]
  case h1 => simp -implicitDefEqProofs only [evB, evS, evE, evL, evI, evC, evO, asT, asL, wipeD, walkD, walkS, deref, R.bind_ok, ofO_some, onB_true, onB_false, toB, TL.len, partI, setAll, List.getElem?_cons_zero, List.getElem?_cons_succ, List.set_cons_zero, List.set_cons_succ, List.length_cons, List.length_nil, if_true, Option.map_some, Bool.not_true, Bool.not_false, isiD, bi_len_t, lt_ii]; rfl
  rw [if_neg (by decide)]
  rw [evB_nx (evS_set (d := .tup (isles.map .str)) (m' := m) ?h2)]
  case h2 => simp -implicitDefEqProofs only [evB, evS, evE, evL, evI, evC, evO, asT, asL, wipeD, walkD, walkS, deref, R.bind_ok, ofO_some, onB_true, onB_false, toB, TL.len, partI, setAll, List.getElem?_cons_zero, List.getElem?_cons_succ, List.set_cons_zero, List.set_cons_succ, List.length_cons, List.length_nil, if_true, Option.map_some, Bool.not_true, Bool.not_false, G_accepts, i1, hr]
  simp -implicitDefEqProofs only [List.set_cons_succ, List.set_cons_zero]
  rw [evB_nx (evS_set (d := seaD isles) (m' := m) ?h3)]
  case h3 =>
    simp -implicitDefEqProofs only [evB, evS, evE, evL, evI, evC, evO, asT, asL, wipeD, walkD, walkS, deref, R.bind_ok, ofO_some, onB_true, onB_false, toB, TL.len, partI, setAll, List.getElem?_cons_zero, List.getElem?_cons_succ, List.set_cons_zero, List.set_cons_succ, List.length_cons, List.length_nil, if_true, Option.map_some, Bool.not_true, Bool.not_false, G_accepts, is_n, reduceCtorEq, decide_false]
    exact e_mk hS hm
  simp -implicitDefEqProofs only [List.set_cons_succ, List.set_cons_zero]
  rw [evB_guard (b := false) (m' := m) ?h4]
  case h4 =>
    have hw := e_wrong_number (m := m) (lo := 0) (hi := 1000000000000000000000000000000) hN.len (fun c hc => ⟨hN.in0 c hc, hN.le c hc⟩) hm
    have hz : Ev.sizeOk 0 = true := sizeOk_pow (by decide)
    simp -implicitDefEqProofs only [evB, evS, evE, evL, evI, evC, evO, asT, asL, wipeD, walkD, walkS, deref, R.bind_ok, ofO_some, onB_true, onB_false, toB, TL.len, partI, setAll, List.getElem?_cons_zero, List.getElem?_cons_succ, List.set_cons_zero, List.set_cons_succ, List.length_cons, List.length_nil, if_true, Option.map_some, Bool.not_true, Bool.not_false, G_accepts, is_n, reduceCtorEq, decide_false, i2, clsOf, e_spans hm, R.noexc_ok, bi_len_t, List.length_map, spD, hw, hz, ne_t00]
  rw [if_neg (by decide)]
  rw [evB_rt (d := .bl (betwShown isles nums x y c names fl)) (ρ' := [some (.tup [.str "between", .str t, intT nums, .str x, .str y, .int c]), some (.tup [.tup (names.map .str), intT fl]), some (.tup (isles.map .str)), some (seaD isles)]) (m' := m) ?h6]
  · rfl
  case h6 =>
    rw [evS_T (m' := m) ?h7]
    case h7 => simp -implicitDefEqProofs only [evB, evS, evE, evL, evI, evC, evO, asT, asL, wipeD, walkD, walkS, deref, R.bind_ok, ofO_some, onB_true, onB_false, toB, TL.len, partI, setAll, List.getElem?_cons_zero, List.getElem?_cons_succ, List.set_cons_zero, List.set_cons_succ, List.length_cons, List.length_nil, if_true, Option.map_some, Bool.not_true, Bool.not_false, i0, eq_ss hb hb, decide_true]
    refine evB_rt (evS_ret ?_)
    have hlen : nums.length ≤ 1000 := by rw [hN.len]; omega
    simp -implicitDefEqProofs only [evB, evS, evE, evL, evI, evC, evO, asT, asL, wipeD, walkD, walkS, deref, R.bind_ok, ofO_some, onB_true, onB_false, toB, TL.len, partI, setAll, List.getElem?_cons_zero, List.getElem?_cons_succ, List.set_cons_zero, List.set_cons_succ, List.length_cons, List.length_nil, if_true, Option.map_some, Bool.not_true, Bool.not_false, bi_len_t, eq_ii, G_accepts, i2, sl_3, e_between_shown hS.lay hx hy hn h5 hlen hm]
    rfl
theorem e_accepts_no {t : Str} {d : D} {nums fl : List Int} {x y : Str} {c : Int} {names : List Str} (hr : f_read_sea [.str t] m = .ok .non m) (hm : memLt m.length m = true) :
    f_accepts [.tup [.str "between", .str t, intT nums, .str x, .str y, .int c], d] m = .ok (.bl false) m := by
  refine run_rt rfl hm rfl rfl ?_
  unfold b_accepts
  simp only [List.map_cons, List.map_nil, List.length_cons, List.length_nil, List.reduceReplicate, Nat.reduceAdd, Nat.reduceSub, List.cons_append, List.nil_append]
  have i1 : ixD (.tup [.str "between", .str t, intT nums, .str x, .str y, .int c]) (.int 1) m = some (.str t) := by
    rw [ix_t]; exact atI_at (i := 1) rfl
  rw [evB_guard (b := false) (m' := m) ?h1]
  case h1 => simp -implicitDefEqProofs only [evB, evS, evE, evL, evI, evC, evO, asT, asL, wipeD, walkD, walkS, deref, R.bind_ok, ofO_some, onB_true, onB_false, toB, TL.len, partI, setAll, List.getElem?_cons_zero, List.getElem?_cons_succ, List.set_cons_zero, List.set_cons_succ, List.length_cons, List.length_nil, if_true, Option.map_some, Bool.not_true, Bool.not_false, isiD, bi_len_t, lt_ii]; rfl
  rw [if_neg (by decide)]
  rw [evB_nx (evS_set (d := .non) (m' := m) ?h2)]
  case h2 => simp -implicitDefEqProofs only [evB, evS, evE, evL, evI, evC, evO, asT, asL, wipeD, walkD, walkS, deref, R.bind_ok, ofO_some, onB_true, onB_false, toB, TL.len, partI, setAll, List.getElem?_cons_zero, List.getElem?_cons_succ, List.set_cons_zero, List.set_cons_succ, List.length_cons, List.length_nil, if_true, Option.map_some, Bool.not_true, Bool.not_false, G_accepts, i1, hr]
  simp -implicitDefEqProofs only [List.set_cons_succ, List.set_cons_zero]
  rw [evB_nx (evS_set (d := .non) (m' := m) ?h3)]
  case h3 => simp -implicitDefEqProofs only [evB, evS, evE, evL, evI, evC, evO, asT, asL, wipeD, walkD, walkS, deref, R.bind_ok, ofO_some, onB_true, onB_false, toB, TL.len, partI, setAll, List.getElem?_cons_zero, List.getElem?_cons_succ, List.set_cons_zero, List.set_cons_succ, List.length_cons, List.length_nil, if_true, Option.map_some, Bool.not_true, Bool.not_false, is_n, decide_true]
  simp -implicitDefEqProofs only [List.set_cons_succ, List.set_cons_zero]
  rw [evB_guard (b := true) (m' := m) ?h4]
  case h4 => simp -implicitDefEqProofs only [evB, evS, evE, evL, evI, evC, evO, asT, asL, wipeD, walkD, walkS, deref, R.bind_ok, ofO_some, onB_true, onB_false, toB, TL.len, partI, setAll, List.getElem?_cons_zero, List.getElem?_cons_succ, List.set_cons_zero, List.set_cons_succ, List.length_cons, List.length_nil, if_true, Option.map_some, Bool.not_true, Bool.not_false, is_n, decide_true]
  rfl
theorem e_accepts_len {t : Str} {d : D} {nums fl : List Int} {x y : Str} {c : Int} {names : List Str} (hS : SeaOk isles) (hr : f_read_sea [.str t] m = .ok (.tup (isles.map .str)) m) (hN : nums.length ≠ (spans isles.length).length) (hm : memLt m.length m = true) :
    f_accepts [.tup [.str "between", .str t, intT nums, .str x, .str y, .int c], d] m = .ok (.bl false) m := by
  refine run_rt rfl hm rfl rfl ?_
  unfold b_accepts
  simp only [List.map_cons, List.map_nil, List.length_cons, List.length_nil, List.reduceReplicate, Nat.reduceAdd, Nat.reduceSub, List.cons_append, List.nil_append]
  have i1 : ixD (.tup [.str "between", .str t, intT nums, .str x, .str y, .int c]) (.int 1) m = some (.str t) := by
    rw [ix_t]; exact atI_at (i := 1) rfl
  have i2 : ixD (.tup [.str "between", .str t, intT nums, .str x, .str y, .int c]) (.int 2) m = some (intT nums) := by
    rw [ix_t]; exact atI_at (i := 2) rfl
  rw [evB_guard (b := false) (m' := m) ?h1]
  case h1 => simp -implicitDefEqProofs only [evB, evS, evE, evL, evI, evC, evO, asT, asL, wipeD, walkD, walkS, deref, R.bind_ok, ofO_some, onB_true, onB_false, toB, TL.len, partI, setAll, List.getElem?_cons_zero, List.getElem?_cons_succ, List.set_cons_zero, List.set_cons_succ, List.length_cons, List.length_nil, if_true, Option.map_some, Bool.not_true, Bool.not_false, isiD, bi_len_t, lt_ii]; rfl
  rw [if_neg (by decide)]
  rw [evB_nx (evS_set (d := .tup (isles.map .str)) (m' := m) ?h2)]
  case h2 => simp -implicitDefEqProofs only [evB, evS, evE, evL, evI, evC, evO, asT, asL, wipeD, walkD, walkS, deref, R.bind_ok, ofO_some, onB_true, onB_false, toB, TL.len, partI, setAll, List.getElem?_cons_zero, List.getElem?_cons_succ, List.set_cons_zero, List.set_cons_succ, List.length_cons, List.length_nil, if_true, Option.map_some, Bool.not_true, Bool.not_false, G_accepts, i1, hr]
  simp -implicitDefEqProofs only [List.set_cons_succ, List.set_cons_zero]
  rw [evB_nx (evS_set (d := seaD isles) (m' := m) ?h3)]
  case h3 =>
    simp -implicitDefEqProofs only [evB, evS, evE, evL, evI, evC, evO, asT, asL, wipeD, walkD, walkS, deref, R.bind_ok, ofO_some, onB_true, onB_false, toB, TL.len, partI, setAll, List.getElem?_cons_zero, List.getElem?_cons_succ, List.set_cons_zero, List.set_cons_succ, List.length_cons, List.length_nil, if_true, Option.map_some, Bool.not_true, Bool.not_false, G_accepts, is_n, reduceCtorEq, decide_false]
    exact e_mk hS hm
  simp -implicitDefEqProofs only [List.set_cons_succ, List.set_cons_zero]
  rw [evB_guard (b := true) (m' := m) ?h4]
  case h4 =>
    have hw := e_wrong_number_len (m := m) (lo := 0) (hi := 1000000000000000000000000000000) hN hm
    have hz : Ev.sizeOk 0 = true := sizeOk_pow (by decide)
    simp -implicitDefEqProofs only [evB, evS, evE, evL, evI, evC, evO, asT, asL, wipeD, walkD, walkS, deref, R.bind_ok, ofO_some, onB_true, onB_false, toB, TL.len, partI, setAll, List.getElem?_cons_zero, List.getElem?_cons_succ, List.set_cons_zero, List.set_cons_succ, List.length_cons, List.length_nil, if_true, Option.map_some, Bool.not_true, Bool.not_false, G_accepts, is_n, reduceCtorEq, decide_false, i2, clsOf, e_spans hm, R.noexc_ok, bi_len_t, List.length_map, spD, hw, hz, ne_tn0]
  rfl
/-! ### what is certified is accepted -/
theorem names_mask {lot : List Bool} (hd : isles.Nodup) (hl : lot.length = isles.length) : maskOf isles (namesIn isles lot) = lot := by
  apply List.ext_getElem?
  intro k
  rw [List.getElem?_map]
  by_cases hk : k < isles.length
  · rw [List.getElem?_eq_getElem hk, List.getElem?_eq_getElem (by omega), Option.map_some]
    congr 1
    rw [Bool.eq_iff_iff, decide_eq_true_eq]
    unfold namesIn
    rw [List.mem_map]
    constructor
    · rintro ⟨⟨w, b⟩, hp, e⟩
      obtain ⟨h1, h2⟩ := List.mem_filter.mp hp
      obtain ⟨i, hi⟩ := List.mem_iff_getElem?.mp h1
      rw [List.getElem?_zip_eq_some] at hi
      simp only at e hi h2
      have hik : i = k := (List.getElem?_inj (List.getElem?_eq_some_iff.mp hi.1).1 hd).mp (by rw [hi.1, List.getElem?_eq_getElem hk, e])
      subst hik
      have := (List.getElem?_eq_some_iff.mp hi.2).2
      rw [this]
      exact h2
    · intro hb
      refine ⟨(isles[k], lot[k]), List.mem_filter.mpr ⟨List.mem_iff_getElem?.mpr ⟨k, ?_⟩, hb⟩, rfl⟩
      rw [List.getElem?_zip_eq_some]
      exact ⟨List.getElem?_eq_getElem hk, List.getElem?_eq_getElem (by omega)⟩
  · rw [List.getElem?_eq_none (by omega), List.getElem?_eq_none (by omega)]
    rfl
theorem names_filter {lot : List Bool} (hd : isles.Nodup) (hl : lot.length = isles.length) : namesIn isles lot = isles.filter fun x => decide (x ∈ namesIn isles lot) := by
  have hm := names_mask hd hl
  have key : ∀ (l : List Str) (p : Str → Bool), namesIn l (l.map p) = l.filter p := by
    intro l p
    unfold namesIn
    induction l with
    | nil => rfl
    | cons a r ih =>
      rw [List.map_cons, List.zip_cons_cons, List.filter_cons, List.filter_cons]
      cases p a
      · simpa using ih
      · simpa using ih
  have := key isles fun x => decide (x ∈ namesIn isles lot)
  rw [← this]
  show namesIn isles lot = namesIn isles (maskOf isles (namesIn isles lot))
  rw [hm]
theorem names_mem {lot : List Bool} {k : Nat} {x : Str} (hd : isles.Nodup) (hl : lot.length = isles.length) (hk : isles[k]? = some x) : decide (x ∈ namesIn isles lot) = (lot[k]?).getD false := by
  have h := names_mask hd hl
  have : (maskOf isles (namesIn isles lot))[k]? = some (decide (x ∈ namesIn isles lot)) := by rw [List.getElem?_map, hk]; rfl
  rw [h] at this
  rw [this]
  rfl
theorem names_ok {lot : List Bool} (h : okAll isles) : okAll (namesIn isles lot) := by
  intro x hx
  unfold namesIn at hx
  obtain ⟨p, hp, rfl⟩ := List.mem_map.mp hx
  exact h _ (List.of_mem_zip (List.mem_filter.mp hp).1).1
theorem names_isLot {lot : List Bool} (hd : isles.Nodup) (hl : lot ∈ lotsOf isles.length) : isLot isles (namesIn isles lot) = true := by
  obtain ⟨h1, h2, h3⟩ := mem_lotsOf.mp hl
  unfold isLot
  rw [Bool.and_eq_true, decide_eq_true_eq, decide_eq_true_eq]
  refine ⟨⟨?_, ?_⟩, names_filter hd h1⟩
  · obtain ⟨k, hk⟩ := List.mem_iff_getElem?.mp h2
    have hlt := (List.getElem?_eq_some_iff.mp hk).1
    have := names_mem (k := k) (x := isles[k]) hd h1 (List.getElem?_eq_getElem (by omega))
    rw [hk] at this
    simp at this
    exact List.length_pos_of_mem this
  · obtain ⟨k, hk⟩ := List.mem_iff_getElem?.mp h3
    have hlt := (List.getElem?_eq_some_iff.mp hk).1
    have hn := names_mem (k := k) (x := isles[k]) hd h1 (List.getElem?_eq_getElem (by omega))
    rw [hk] at hn
    simp at hn
    have e := names_filter hd h1
    apply Nat.lt_of_le_of_ne
    · rw [e]; exact List.length_filter_le ..
    · intro he
      rw [e] at he
      have := List.length_filter_eq_length_iff.mp he isles[k] (List.getElem_mem _)
      simp at this
      exact hn this
theorem due_wants {x y : Str} {i j : Nat} {c : Int} (hd : isles.Nodup) (hx : isles[i]? = some x) (hy : isles[j]? = some y) : dueOf isles x y c = wants0 isles.length i j c := by
  apply List.ext_getElem?
  intro k
  by_cases hk : k < isles.length
  · rw [wants0_get hk]
    unfold dueOf
    rw [List.getElem?_map, List.getElem?_eq_getElem hk, Option.map_some]
    have h1 : (isles[k] = x) = (k = i) := by
      apply propext
      constructor
      · intro e
        exact (List.getElem?_inj hk hd).mp (by rw [List.getElem?_eq_getElem hk, hx, e])
      · intro e
        subst e
        rw [List.getElem?_eq_getElem hk] at hx
        exact Option.some.inj hx
    have h2 : (isles[k] = y) = (k = j) := by
      apply propext
      constructor
      · intro e
        exact (List.getElem?_inj hk hd).mp (by rw [List.getElem?_eq_getElem hk, hy, e])
      · intro e
        subst e
        rw [List.getElem?_eq_getElem hk] at hy
        exact Option.some.inj hy
    simp only [h1, h2]
  · rw [List.getElem?_eq_none (by simp [dueOf]; omega), List.getElem?_eq_none (by rw [wants0_len]; omega)]
theorem cut_parts {n i j : Nat} {nums : List Int} (hi : i < n) (hj : j < n) (hij : i ≠ j) : cutOf n nums i j ∈ lotsOf n ∧ (cutOf n nums i j)[i]? = some true ∧ (cutOf n nums i j)[j]? = some false ∧ outOf (spans n) nums (cutOf n nums i j) = betw n nums i j := by
  obtain ⟨_, h2, h3⟩ := cutOf_at (nums := nums) hi hj hij
  obtain ⟨h4, h5⟩ := List.mem_filter.mp h2
  simp only [Bool.and_eq_true, decide_eq_true_eq] at h5
  exact ⟨h4, h5.1, h5.2, h3⟩
theorem flow_fits {x y : Str} {i j : Nat} {nums : List Int} (h : SeaOk isles) (hN : NumsOk isles.length nums) (hx : isles[i]? = some x) (hy : isles[j]? = some y) (hij : i ≠ j) :
    isFlow isles nums x y (betw isles.length nums i j) (flowAll isles.length nums i j (betw isles.length nums i j)).2.2 = true := by
  have hi := (List.getElem?_eq_some_iff.mp hx).1
  have hj := (List.getElem?_eq_some_iff.mp hy).1
  obtain ⟨f1, f2, f3⟩ := flow_right hN.len hN.in0 hi hj hij
  unfold isFlow
  rw [due_wants h.nd hx hy, f3, decide_eq_true rfl, Bool.and_true, f1, hN.len, decide_eq_true rfl, Bool.true_and, List.all_eq_true]
  rintro ⟨a, b⟩ hp
  have := f2 (b, a) (by
    obtain ⟨k, hk⟩ := List.mem_iff_getElem?.mp hp
    rw [List.getElem?_zip_eq_some] at hk
    exact List.mem_iff_getElem?.mpr ⟨k, List.getElem?_zip_eq_some.mpr ⟨hk.2, hk.1⟩⟩)
  simp only [Bool.and_eq_true, decide_eq_true_eq]
  exact this
theorem shown_right {x y : Str} {i j : Nat} {nums : List Int} {c : Int} (h : SeaOk isles) (hN : NumsOk isles.length nums) (hx : isles[i]? = some x) (hy : isles[j]? = some y) (hij : i ≠ j) :
    betwShown isles nums x y c (namesIn isles (cutOf isles.length nums i j)) (flowAll isles.length nums i j (betw isles.length nums i j)).2.2 = decide (c = betw isles.length nums i j) := by
  have hi := (List.getElem?_eq_some_iff.mp hx).1
  have hj := (List.getElem?_eq_some_iff.mp hy).1
  obtain ⟨c1, c2, c3, c4⟩ := cut_parts (nums := nums) hi hj hij
  have hl := (mem_lotsOf.mp c1).1
  have m1 := names_mem h.nd hl hx
  have m2 := names_mem h.nd hl hy
  rw [c2] at m1
  rw [c3] at m2
  have hne : x ≠ y := by
    intro e
    subst e
    exact hij ((List.getElem?_inj hi h.nd).mp (hx.trans hy.symm))
  have h0 : 0 ≤ betw isles.length nums i j := by rw [← c4]; exact outs_nn hN.in0
  unfold betwShown
  rw [m1, m2, names_isLot h.nd c1, names_mask h.nd hl, c4, decide_eq_true (List.mem_of_getElem? hx), decide_eq_true (List.mem_of_getElem? hy), decide_eq_false hne]
  by_cases e : c = betw isles.length nums i j
  · subst e
    rw [flow_fits h hN hx hy hij, decide_eq_true h0]
    simp
  · rw [decide_eq_false (p := betw isles.length nums i j = c) (fun e' => e e'.symm), decide_eq_false e]
    simp
end
end K85

set_option Elab.async false
set_option linter.all false
set_option maxRecDepth 100000
set_option maxHeartbeats 4000000
namespace K85
open PySem PySem.Spec PyProof.Rows L2 Ev
/-! ### draws -/
abbrev bw (a b c : Int) : MO := .lst [.int a, .int b, .int c]
/-- a store with a bowl at k -/
structure St (k : Nat) (m : Mem) : Prop where
  bowl : ∃ a b c, m[k]? = some (bw a b c) ∧ 0 ≤ a
  lt : memLt m.length m = true
/-- draws were made -/
def Dr (k : Nat) (m m' : Mem) : Prop := ∃ a b c, m' = m.set k (bw a b c) ∧ 0 ≤ a
section
variable {k : Nat} {m m' m'' : Mem}
theorem St.klt (h : St k m) : k < m.length := by
  obtain ⟨a, b, c, e, _⟩ := h.bowl
  exact (List.getElem?_eq_some_iff.mp e).1
theorem Dr.refl (h : St k m) : Dr k m m := by
  obtain ⟨a, b, c, e, h0⟩ := h.bowl
  refine ⟨a, b, c, ?_, h0⟩
  apply List.ext_getElem?
  intro i
  by_cases hi : k = i
  · subst hi
    rw [List.getElem?_set_self h.klt, e]
  · rw [List.getElem?_set_ne hi]
theorem Dr.trans (h1 : Dr k m m') (h2 : Dr k m' m'') : Dr k m m'' := by
  obtain ⟨a, b, c, rfl, _⟩ := h1
  obtain ⟨a', b', c', rfl, h0⟩ := h2
  exact ⟨a', b', c', by rw [List.set_set], h0⟩
theorem Dr.len (h : Dr k m m') : m'.length = m.length := by
  obtain ⟨a, b, c, rfl, _⟩ := h
  rw [List.length_set]
theorem Dr.st (hs : St k m) (h : Dr k m m') : St k m' := by
  obtain ⟨a, b, c, rfl, h0⟩ := h
  refine ⟨⟨a, b, c, List.getElem?_set_self hs.klt, h0⟩, ?_⟩
  rw [List.length_set]
  unfold memLt
  rw [List.all_eq_true]
  intro mo hmo
  rcases List.mem_or_eq_of_mem_set hmo with hmo | rfl
  · exact List.all_eq_true.mp hs.lt mo hmo
  · rfl
theorem Dr.at_ne (h : Dr k m m') {i : Nat} (hi : k ≠ i) : m'[i]? = m[i]? := by
  obtain ⟨a, b, c, rfl, _⟩ := h
  rw [List.getElem?_set_ne hi]
theorem Dr.app (hs : St k m) (h : Dr k m m') (x : Mem) : Dr k (m ++ x) (m' ++ x) := by
  obtain ⟨a, b, c, rfl, h0⟩ := h
  exact ⟨a, b, c, by rw [List.set_append_left _ _ hs.klt], h0⟩
theorem Dr.unapp {x M : Mem} (hs : St k m) (h : Dr k (m ++ x) M) : ∃ m', M = m' ++ x ∧ Dr k m m' := by
  obtain ⟨a, b, c, rfl, h0⟩ := h
  exact ⟨m.set k (bw a b c), by rw [List.set_append_left _ _ hs.klt], a, b, c, rfl, h0⟩
theorem St.app (hs : St k m) {x : Mem} (hx : ∀ mo ∈ x, MO.ltb (m ++ x).length mo = true) : St k (m ++ x) := by
  obtain ⟨a, b, c, e, h0⟩ := hs.bowl
  exact ⟨⟨a, b, c, by rw [List.getElem?_append_left hs.klt]; exact e, h0⟩, memLt_app hs.lt hx⟩
theorem finV_lt {n : Nat} {d : D} (h : D.ltb n d = true) : finV n m d = d := by
  cases d <;> try rfl
  simp only [D.ltb, decide_eq_true_eq] at h
  simp only [finV]
  rw [if_neg (by omega)]
/-- a def that draws -/
theorem run_dr {Γ : Gam} {j n : Nat} {b : SL} {args : List D} {d : D} (hs : St k m) (hn : args.length = n) (hdr : Dr k m m') (hd : D.ltb m.length d = true) (h : retV (evB Γ b (args.map some ++ List.replicate (j - args.length) none) m) = .ok d m') : Ev.runN Γ false j n b args m = .ok d m' := by
  have hl := hdr.len
  have hst := hdr.st hs
  have ht : m'.take m.length = m' := List.take_of_length_le (by omega)
  have := run_rtG (Γ := Γ) (k := j) (n := n) (b := b) (args := args) (m := m) (m1 := m') (d := d) hn (by rw [finV_lt hd]; exact hd) (by rw [ht, ← hl]; exact hst.lt) (by omega) h
  rw [this, finV_lt hd, ht]
/-- .. with its own things of the store -/
theorem run_drM {Γ : Gam} {j n : Nat} {b : SL} {args : List D} {d d' : D} {x : Mem} (hs : St k m) (hn : args.length = n) (hdr : Dr k m m') (hd : D.ltb m.length d = true) (hf : finV m.length (m' ++ x) d' = d) (h : retV (evB Γ b (args.map some ++ List.replicate (j - args.length) none) m) = .ok d' (m' ++ x)) : Ev.runN Γ false j n b args m = .ok d m' := by
  have hl := hdr.len
  have hst := hdr.st hs
  have ht : (m' ++ x).take m.length = m' := by rw [← hl]; simp
  have := run_rtG (Γ := Γ) (k := j) (n := n) (b := b) (args := args) (m := m) (m1 := m' ++ x) (d := d') hn (by rw [hf]; exact hd) (by rw [ht, ← hl]; exact hst.lt) (by rw [List.length_append]; omega) h
  rw [this, hf, ht]
theorem e_pull {s : Int} (hs : St k m) (h0 : 0 < s) (h9 : s.natAbs.log2 < 9000) : ∃ d m', f__law_pull [.ref k, .int s] m = .ok (.int d) m' ∧ Dr k m m' ∧ 0 ≤ d ∧ d < s := by
  obtain ⟨a, b, c, e, ha⟩ := hs.bowl
  have hk := hs.klt
  have hdv : divOk s = true := decide_eq_true ⟨h0, h9⟩
  have hix : (ixN (0 + 1 + 1 + 1) 0 = some 0) ∧ (ixN (0 + 1 + 1 + 1) 1 = some 1) ∧ (ixN (0 + 1 + 1 + 1) 2 = some 2) := ⟨rfl, rfl, rfl⟩
  have hat : ∀ (x y z : Int), (atI [D.int x, D.int y, D.int z] 0 = some (.int x)) ∧ (atI [D.int x, D.int y, D.int z] 1 = some (.int y)) ∧ (atI [D.int x, D.int y, D.int z] 2 = some (.int z)) := fun x y z => ⟨rfl, rfl, rfl⟩
  have g1 : (m.set k (bw a b (c + 1)))[k]? = some (bw a b (c + 1)) := List.getElem?_set_self hk
  have first : evS (G__law_pull []) (.set (.ix (.v 0) (.int 2)) (.bin .Add (.ix (.v 0) (.int 2)) (.int 1))) [some (.ref k), some (.int s), none, none, none] m = .ok (.nx, [some (.ref k), some (.int s), none, none, none]) (m.set k (bw a b (c + 1))) := by
    simp -implicitDefEqProofs only [evB, evS, evE, evL, evI, evC, evO, asT, asL, wipeD, walkD, walkS, deref, R.bind_ok, ofO_some, onB_true, onB_false, toB, TL.len, partI, setAll, List.getElem?_cons_zero, List.getElem?_cons_succ, List.set_cons_zero, List.set_cons_succ, List.length_cons, List.length_nil, if_true, Option.map_some, Bool.not_true, Bool.not_false, ixD, e, (hat a b c).2.2, opBin, setD, hix.2.2]
  by_cases hpos : 0 < a
  · refine ⟨a % s, m.set k (bw (a / s) b (c + 1)), ?_, ⟨_, _, _, rfl, Int.ediv_nonneg ha (by omega)⟩, Int.emod_nonneg _ (by omega), Int.emod_lt_of_pos _ h0⟩
    refine run_dr hs rfl ⟨_, _, _, rfl, Int.ediv_nonneg ha (by omega)⟩ rfl ?_
    unfold b__law_pull
    simp only [List.map_cons, List.map_nil, List.length_cons, List.length_nil, List.reduceReplicate, Nat.reduceAdd, Nat.reduceSub, List.cons_append, List.nil_append]
    rw [evB_nx first]
    rw [evB_rt (d := .int (a % s)) (ρ' := [some (.ref k), some (.int s), some (.int (a % s)), none, none]) (m' := m.set k (bw (a / s) b (c + 1))) ?h1]
    · rfl
    case h1 =>
      rw [evS_T (m' := m.set k (bw a b (c + 1))) ?h2]
      case h2 => simp -implicitDefEqProofs only [evB, evS, evE, evL, evI, evC, evO, asT, asL, wipeD, walkD, walkS, deref, R.bind_ok, ofO_some, onB_true, onB_false, toB, TL.len, partI, setAll, List.getElem?_cons_zero, List.getElem?_cons_succ, List.set_cons_zero, List.set_cons_succ, List.length_cons, List.length_nil, if_true, Option.map_some, Bool.not_true, Bool.not_false, ixD, g1, (hat a b (c + 1)).1, gt_ii, hpos, decide_true]
      rw [evB_nx (ρ' := [some (.ref k), some (.int s), some (.int (a % s)), none, none]) (m' := m.set k (bw (a / s) b (c + 1))) ?h3]
      case h3 =>
        have : ((m.set k (bw a b (c + 1))).set k (.lst [.int (a / s), .int b, .int (c + 1)])) = m.set k (bw (a / s) b (c + 1)) := List.set_set ..
        simp -implicitDefEqProofs only [evB, evS, evE, evL, evI, evC, evO, asT, asL, wipeD, walkD, walkS, deref, R.bind_ok, ofO_some, onB_true, onB_false, toB, TL.len, partI, setAll, List.getElem?_cons_zero, List.getElem?_cons_succ, List.set_cons_zero, List.set_cons_succ, List.length_cons, List.length_nil, if_true, Option.map_some, Bool.not_true, Bool.not_false, ixD, g1, (hat a b (c + 1)).1, biD, hdv, asL, setD, hix.1, this]
      rw [evB_rt (evS_ret (d := .int (a % s)) (m' := m.set k (bw (a / s) b (c + 1))) rfl)]
  · have hm2 : (0 : Int) < 2147483399 := by decide
    have hm8 : (0 : Int) < 8999 := by decide
    generalize hst : (b * (40127 + 2 * (b % 8999)) + 907 * (c + 1) + 29) % 2147483399 = b'
    have hmul : mulOk b (40127 + 2 * (b % 8999)) = true := by
      have q1 := Int.emod_nonneg b (show (8999 : Int) ≠ 0 by decide)
      have q2 := Int.emod_lt_of_pos b (show (0 : Int) < 8999 by decide)
      unfold mulOk
      rw [Bool.or_eq_true]
      left
      rw [decide_eq_true_eq]
      right
      constructor <;> omega
    have hmul2 : ∀ x : Int, mulOk 2 x = true := fun x => by
      unfold mulOk
      rw [Bool.or_eq_true]
      left
      rw [decide_eq_true_eq]
      left
      constructor <;> decide
    have hmul3 : ∀ x : Int, mulOk 907 x = true := fun x => by
      unfold mulOk
      rw [Bool.or_eq_true]
      left
      rw [decide_eq_true_eq]
      left
      constructor <;> decide
    have hd89 : divOk 89 = true := by decide
    refine ⟨b' / 89 % s, m.set k (bw a b' (c + 1)), ?_, ⟨_, _, _, rfl, ha⟩, Int.emod_nonneg _ (by omega), Int.emod_lt_of_pos _ h0⟩
    refine run_dr hs rfl ⟨_, _, _, rfl, ha⟩ rfl ?_
    unfold b__law_pull
    simp only [List.map_cons, List.map_nil, List.length_cons, List.length_nil, List.reduceReplicate, Nat.reduceAdd, Nat.reduceSub, List.cons_append, List.nil_append]
    rw [evB_nx first]
    rw [evB_nx (ρ' := [some (.ref k), some (.int s), none, none, none]) (m' := m.set k (bw a b (c + 1))) ?h1]
    case h1 =>
      rw [evS_F (m' := m.set k (bw a b (c + 1))) ?h2]
      · rfl
      case h2 => simp -implicitDefEqProofs only [evB, evS, evE, evL, evI, evC, evO, asT, asL, wipeD, walkD, walkS, deref, R.bind_ok, ofO_some, onB_true, onB_false, toB, TL.len, partI, setAll, List.getElem?_cons_zero, List.getElem?_cons_succ, List.set_cons_zero, List.set_cons_succ, List.length_cons, List.length_nil, if_true, Option.map_some, Bool.not_true, Bool.not_false, ixD, g1, (hat a b (c + 1)).1, gt_ii, hpos, decide_false]
    rw [evB_nx (evS_set (d := .int b) (m' := m.set k (bw a b (c + 1))) ?h3)]
    case h3 => simp -implicitDefEqProofs only [evB, evS, evE, evL, evI, evC, evO, asT, asL, wipeD, walkD, walkS, deref, R.bind_ok, ofO_some, onB_true, onB_false, toB, TL.len, partI, setAll, List.getElem?_cons_zero, List.getElem?_cons_succ, List.set_cons_zero, List.set_cons_succ, List.length_cons, List.length_nil, if_true, Option.map_some, Bool.not_true, Bool.not_false, ixD, g1, (hat a b (c + 1)).2.1, bi_int_i]
    simp -implicitDefEqProofs only [List.set_cons_succ, List.set_cons_zero]
    rw [evB_nx (evS_set (d := .int (40127 + 2 * (b % 8999))) (m' := m.set k (bw a b (c + 1))) ?h4)]
    case h4 => simp -implicitDefEqProofs only [evB, evS, evE, evL, evI, evC, evO, asT, asL, wipeD, walkD, walkS, deref, R.bind_ok, ofO_some, onB_true, onB_false, toB, TL.len, partI, setAll, List.getElem?_cons_zero, List.getElem?_cons_succ, List.set_cons_zero, List.set_cons_succ, List.length_cons, List.length_nil, if_true, Option.map_some, Bool.not_true, Bool.not_false, bi_int_i, opBin, hm8, hmul2]
    simp -implicitDefEqProofs only [List.set_cons_succ, List.set_cons_zero]
    rw [evB_nx (ρ' := [some (.ref k), some (.int s), none, some (.int b), some (.int (40127 + 2 * (b % 8999)))]) (m' := m.set k (bw a b' (c + 1))) ?h5]
    case h5 =>
      have : ((m.set k (bw a b (c + 1))).set k (.lst [.int a, .int b', .int (c + 1)])) = m.set k (bw a b' (c + 1)) := List.set_set ..
      simp -implicitDefEqProofs only [evB, evS, evE, evL, evI, evC, evO, asT, asL, wipeD, walkD, walkS, deref, R.bind_ok, ofO_some, onB_true, onB_false, toB, TL.len, partI, setAll, List.getElem?_cons_zero, List.getElem?_cons_succ, List.set_cons_zero, List.set_cons_succ, List.length_cons, List.length_nil, if_true, Option.map_some, Bool.not_true, Bool.not_false, ixD, g1, (hat a b (c + 1)).2.2, opBin, hmul, hmul3, bi_int_i, hm2, hst, setD, hix.2.1, this]
    have g2 : (m.set k (bw a b' (c + 1)))[k]? = some (bw a b' (c + 1)) := List.getElem?_set_self hk
    rw [evB_rt (evS_ret (d := .int (b' / 89 % s)) (m' := m.set k (bw a b' (c + 1))) ?h6)]
    · rfl
    case h6 => simp -implicitDefEqProofs only [evB, evS, evE, evL, evI, evC, evO, asT, asL, wipeD, walkD, walkS, deref, R.bind_ok, ofO_some, onB_true, onB_false, toB, TL.len, partI, setAll, List.getElem?_cons_zero, List.getElem?_cons_succ, List.set_cons_zero, List.set_cons_succ, List.length_cons, List.length_nil, if_true, Option.map_some, Bool.not_true, Bool.not_false, ixD, g2, (hat a b' (c + 1)).2.1, opBin, hd89, bi_int_i, h0]
theorem log2_small {s : Int} (h0 : 0 ≤ s) (h : s ≤ 10 ^ 40) : s.natAbs.log2 < 9000 := by
  by_cases hz : s.natAbs = 0
  · rw [hz]; decide
  · rw [Nat.log2_lt hz]
    have h1 : s.natAbs ≤ 10 ^ 40 := by omega
    exact Nat.lt_of_le_of_lt h1 (Nat.lt_of_lt_of_le (show 10 ^ 40 < 2 ^ 150 by decide) (Nat.pow_le_pow_right (by decide) (by decide)))
theorem nat_of {d : Int} {n : Nat} (h0 : 0 ≤ d) (h : d < (n : Int)) : ∃ i : Nat, i < n ∧ d = (i : Int) := ⟨d.toNat, by omega, by omega⟩
theorem e_one {l : List D} (hs : St k m) (hne : 0 < l.length) (hl : l.length ≤ 1000000) (hlt : D.ltbL m.length l = true) : ∃ d m', d ∈ l ∧ f__law_one [.ref k, .lst l] m = .ok d m' ∧ Dr k m m' := by
  obtain ⟨x, m', e, hd, h0, h1⟩ := e_pull (s := (l.length : Nat)) hs (by omega) (log2_small (by omega) (by omega))
  obtain ⟨i, hi, rfl⟩ := nat_of h0 h1
  have hat := List.getElem?_eq_getElem hi
  refine ⟨l[i], m', List.getElem_mem hi, ?_, hd⟩
  have hlt' : D.ltb m.length l[i] = true := by
    have : ∀ l : List D, D.ltbL m.length l = true → ∀ d ∈ l, D.ltb m.length d = true := by
      intro l
      induction l with
      | nil => intro _ d h; cases h
      | cons a r ih =>
        intro h d hd
        simp only [D.ltbL, Bool.and_eq_true] at h
        rcases List.mem_cons.mp hd with rfl | hd
        · exact h.1
        · exact ih h.2 d hd
    exact this l hlt _ (List.getElem_mem hi)
  refine run_dr hs rfl hd hlt' ?_
  unfold b__law_one
  simp only [List.map_cons, List.map_nil, List.length_cons, List.length_nil, List.reduceReplicate, Nat.reduceAdd, Nat.reduceSub, List.cons_append, List.nil_append]
  rw [evB_rt (evS_ret (d := l[i]) (m' := m') ?h)]
  · rfl
  case h => simp -implicitDefEqProofs only [evB, evS, evE, evL, evI, evC, evO, asT, asL, wipeD, walkD, walkS, deref, R.bind_ok, ofO_some, onB_true, onB_false, toB, TL.len, partI, setAll, List.getElem?_cons_zero, List.getElem?_cons_succ, List.set_cons_zero, List.set_cons_succ, List.length_cons, List.length_nil, if_true, Option.map_some, Bool.not_true, Bool.not_false, bi_len_l, G__law_one, e, ix_l, atI_at hat]
theorem e_one_t {l : List D} (hs : St k m) (hne : 0 < l.length) (hl : l.length ≤ 1000000) (hlt : D.ltbL m.length l = true) : ∃ d m', d ∈ l ∧ f__law_one [.ref k, .tup l] m = .ok d m' ∧ Dr k m m' := by
  obtain ⟨x, m', e, hd, h0, h1⟩ := e_pull (s := (l.length : Nat)) hs (by omega) (log2_small (by omega) (by omega))
  obtain ⟨i, hi, rfl⟩ := nat_of h0 h1
  have hat := List.getElem?_eq_getElem hi
  refine ⟨l[i], m', List.getElem_mem hi, ?_, hd⟩
  have hlt' : D.ltb m.length l[i] = true := by
    have : ∀ l : List D, D.ltbL m.length l = true → ∀ d ∈ l, D.ltb m.length d = true := by
      intro l
      induction l with
      | nil => intro _ d h; cases h
      | cons a r ih =>
        intro h d hd
        simp only [D.ltbL, Bool.and_eq_true] at h
        rcases List.mem_cons.mp hd with rfl | hd
        · exact h.1
        · exact ih h.2 d hd
    exact this l hlt _ (List.getElem_mem hi)
  refine run_dr hs rfl hd hlt' ?_
  unfold b__law_one
  simp only [List.map_cons, List.map_nil, List.length_cons, List.length_nil, List.reduceReplicate, Nat.reduceAdd, Nat.reduceSub, List.cons_append, List.nil_append]
  rw [evB_rt (evS_ret (d := l[i]) (m' := m') ?h)]
  · rfl
  case h => simp -implicitDefEqProofs only [evB, evS, evE, evL, evI, evC, evO, asT, asL, wipeD, walkD, walkS, deref, R.bind_ok, ofO_some, onB_true, onB_false, toB, TL.len, partI, setAll, List.getElem?_cons_zero, List.getElem?_cons_succ, List.set_cons_zero, List.set_cons_succ, List.length_cons, List.length_nil, if_true, Option.map_some, Bool.not_true, Bool.not_false, bi_len_t, G__law_one, e, ix_t, atI_at hat]
theorem ix_str {s : Str} {i : Nat} {c : Nat} (hz : Ev.sizeOk s.length = true) (h : s.cps.toList[i]? = some c) : ixD (.str s) (.int (i : Nat)) m = some (.str ⟨#[c]⟩) := by
  simp only [ixD, deref, hz, if_true]
  have hi := (List.getElem?_eq_some_iff.mp h).1
  unfold atI
  rw [ixN_nat hi]
  rw [Option.bind_some, h]
  rfl
theorem e_one_s {s : Str} (hs : St k m) (hne : 0 < s.length) (hl : s.length ≤ 1000000) : ∃ c m', c ∈ s.cps.toList ∧ f__law_one [.ref k, .str s] m = .ok (.str ⟨#[c]⟩) m' ∧ Dr k m m' := by
  obtain ⟨x, m', e, hd, h0, h1⟩ := e_pull (s := (s.length : Nat)) hs (by omega) (log2_small (by omega) (by omega))
  obtain ⟨i, hi, rfl⟩ := nat_of h0 h1
  have hi' : i < s.cps.toList.length := by rw [← str_len]; exact hi
  have hat := List.getElem?_eq_getElem hi'
  have hz : Ev.sizeOk s.length = true := sizeOk_pow (by omega)
  have hb : biD .len [.str s] m = some (.int s.length) := by simp [biD, deref, hz]
  refine ⟨s.cps.toList[i], m', List.getElem_mem hi', ?_, hd⟩
  refine run_dr hs rfl hd rfl ?_
  unfold b__law_one
  simp only [List.map_cons, List.map_nil, List.length_cons, List.length_nil, List.reduceReplicate, Nat.reduceAdd, Nat.reduceSub, List.cons_append, List.nil_append]
  rw [evB_rt (evS_ret (d := .str ⟨#[s.cps.toList[i]]⟩) (m' := m') ?h)]
  · rfl
  case h => simp -implicitDefEqProofs only [evB, evS, evE, evL, evI, evC, evO, asT, asL, wipeD, walkD, walkS, deref, R.bind_ok, ofO_some, onB_true, onB_false, toB, TL.len, partI, setAll, List.getElem?_cons_zero, List.getElem?_cons_succ, List.set_cons_zero, List.set_cons_succ, List.length_cons, List.length_nil, if_true, Option.map_some, Bool.not_true, Bool.not_false, hb, G__law_one, e, ix_str hz hat]
/-- a comprehension that draws -/
theorem lcL_dr {α : Type} {g : D → Mem → R (Option D)} {e : α → D} (Q : D → Prop) : ∀ (l : List α) (m : Mem), St k m → (∀ a ∈ l, ∀ m1, St k m1 → Dr k m m1 → ∃ d m2, g (e a) m1 = .ok (some d) m2 ∧ Dr k m1 m2 ∧ Q d) → ∃ ds m', lcL g [] (l.map e) m = .ok ds m' ∧ Dr k m m' ∧ ds.length = l.length ∧ ∀ d ∈ ds, Q d
  | [], m, hs, _ => ⟨[], m, by unfold lcL; simp [srcOk], Dr.refl hs, rfl, fun d h => by cases h⟩
  | a :: l, m, hs, h => by
    obtain ⟨d, m1, e1, d1, q1⟩ := h a List.mem_cons_self m hs (Dr.refl hs)
    obtain ⟨ds, m2, e2, d2, l2, q2⟩ := lcL_dr Q l m1 (d1.st hs) fun b hb m3 s3 d3 => h b (List.mem_cons_of_mem _ hb) m3 s3 (d1.trans d3)
    refine ⟨d :: ds, m2, ?_, d1.trans d2, by simp [l2], ?_⟩
    · rw [List.map_cons]
      unfold lcL
      rw [if_pos (show srcOk [] m = true from rfl), e1, R.noexc_ok, R.bind_ok, e2]
      rfl
    · intro x hx
      rcases List.mem_cons.mp hx with rfl | hx
      · exact q1
      · exact q2 x hx
theorem ints_of : ∀ {ds : List D} {Q : Int → Prop}, (∀ d ∈ ds, ∃ i, d = .int i ∧ Q i) → ∃ l : List Int, ds = l.map .int ∧ ∀ i ∈ l, Q i
  | [], _, _ => ⟨[], rfl, fun i h => by cases h⟩
  | d :: ds, Q, h => by
    obtain ⟨i, rfl, q⟩ := h d List.mem_cons_self
    obtain ⟨l, rfl, ql⟩ := ints_of (Q := Q) fun x hx => h x (List.mem_cons_of_mem _ hx)
    exact ⟨i :: l, rfl, fun j hj => by
      rcases List.mem_cons.mp hj with rfl | hj
      · exact q
      · exact ql j hj⟩
end
end K85

set_option Elab.async false
set_option linter.all false
set_option maxRecDepth 100000
set_option maxHeartbeats 4000000
namespace K85
open PySem PySem.Spec PyProof.Rows L2 Ev
/-! ### the bowl -/
theorem run_keep {Γ : Gam} {j n : Nat} {b : SL} {args : List D} {d : D} {m m' : Mem} (hn : args.length = n) (h : retV (evB Γ b (args.map some ++ List.replicate (j - args.length) none) m) = .ok d m') : Ev.runN Γ true j n b args m = .ok d m' := by
  unfold Ev.runN Ev.run
  rw [if_pos hn]
  revert h
  cases evB Γ b (args.map some ++ List.replicate (j - args.length) none) m with
  | bad => intro h; cases h
  | exc c x m1 => intro h; cases h
  | ok p m2 =>
    obtain ⟨fl, ρ⟩ := p
    intro h
    cases fl <;> simp only [retV, R.bind_ok] at h <;> cases h <;> rfl
theorem mul_r {i j : Int} (h : -(2 ^ 64) < j ∧ j < 2 ^ 64) : mulOk i j = true := by
  unfold mulOk
  rw [Bool.or_eq_true]
  left
  rw [decide_eq_true_eq]
  exact .inr h
theorem mul_l {i j : Int} (h : -(2 ^ 64) < i ∧ i < 2 ^ 64) : mulOk i j = true := by
  unfold mulOk
  rw [Bool.or_eq_true]
  left
  rw [decide_eq_true_eq]
  exact .inl h
section
variable {k : Nat} {m m' m'' : Mem}
theorem e_bowl {ns : List Int} {t : Nat} : ∃ a b c, f__law_bowl [.scr (ns.map .int), .int t] m = .ok (.ref m.length) (m ++ [bw a b c]) ∧ 0 ≤ a := by
  have hmod : (0 : Int) < 2147483399 := by decide
  obtain ⟨ρ', e, x, s, rfl⟩ := forL_go (m := m) (src := []) (e := D.int) (g := fun d ρ1 m2 => (asT (G__law_bowl []) (.nm 3) d ρ1 m2).bind fun ρ2 m3 => evB (G__law_bowl []) l__law_bowl_1 ρ2 m3) rfl
    (fun i ρ => ∃ (x : Int) (s : Option D), ρ = [some (.scr (ns.map .int)), some (.int t), some (.int x), s, none]) (ns.take (HT.sIx ns.length ns.length (some 6))) 0 [some (.scr (ns.map .int)), some (.int t), some (.int (81001 + 2903 * t)), none, none] ⟨_, _, rfl⟩ (by
      rintro i a ρ hi ⟨x, s, rfl⟩
      refine ⟨[some (.scr (ns.map .int)), some (.int t), some (.int ((x * 50021 + a) % 2147483399)), some (.int a), none], ?_, _, _, rfl⟩
      unfold l__law_bowl_1
      have hm : mulOk x 50021 = true := mul_r (by decide)
      simp -implicitDefEqProofs only [evB, evS, evE, evL, evI, evC, evO, asT, asL, wipeD, walkD, walkS, deref, R.bind_ok, ofO_some, onB_true, onB_false, toB, TL.len, partI, setAll, List.getElem?_cons_zero, List.getElem?_cons_succ, List.set_cons_zero, List.set_cons_succ, List.length_cons, List.length_nil, if_true, Option.map_some, Bool.not_true, Bool.not_false, bi_int_i, opBin, hm, hmod])
  have key : ∀ here : Int, ∃ a b c, retV (evB (G__law_bowl []) (.cons (.ret (.mlst (.cons (.ife (.cmp .GtE (.bi .abs (.cons (.v 4) .nil)) (.bin .Pow (.int 10) (.int 18))) (.bi .abs (.cons (.v 4) .nil)) (.int 0)) (.cons (.bin .Mod (.bi .int (.cons (.bin .Add (.bin .Mult (.v 2) (.int 43013)) (.v 4)) .nil)) (.int 2147483399)) (.cons (.int 0) .nil))))) .nil) [some (.scr (ns.map .int)), some (.int t), some (.int x), s, some (.int here)] m) = .ok (.ref m.length) (m ++ [bw a b c]) ∧ 0 ≤ a := by
    intro here
    refine ⟨if (10 : Int) ^ 18 ≤ (if here < 0 then -here else here) then (if here < 0 then -here else here) else 0, (x * 43013 + here) % 2147483399, 0, ?_, by split <;> split <;> omega⟩
    have hm : mulOk x 43013 = true := mul_r (by decide)
    have hp : (0 : Int) ≤ 18 ∧ (18 : Int) ≤ 1000000 ∧ (10 : Int).natAbs < 2 ^ 64 := by decide
    rw [evB_rt (evS_ret (d := .ref m.length) (m' := m ++ [bw (if (10 : Int) ^ 18 ≤ (if here < 0 then -here else here) then (if here < 0 then -here else here) else 0) ((x * 43013 + here) % 2147483399) 0]) ?h)]
    · rfl
    case h =>
      simp -implicitDefEqProofs only [evB, evS, evE, evL, evI, evC, evO, asT, asL, wipeD, walkD, walkS, deref, R.bind_ok, ofO_some, onB_true, onB_false, toB, TL.len, partI, setAll, List.getElem?_cons_zero, List.getElem?_cons_succ, List.set_cons_zero, List.set_cons_succ, List.length_cons, List.length_nil, if_true, Option.map_some, Bool.not_true, Bool.not_false, bi_abs, opBin, hp, and_self, ge_ii, bi_int_i, hm, hmod]
      have h18 : (18 : Int).toNat = 18 := rfl
      rw [h18]
      by_cases hc : (10 : Int) ^ 18 ≤ (if here < 0 then -here else here)
      · simp -implicitDefEqProofs only [hc, decide_true, evB, evS, evE, evL, evI, evC, evO, asT, asL, wipeD, walkD, walkS, deref, R.bind_ok, ofO_some, onB_true, onB_false, toB, TL.len, partI, setAll, List.getElem?_cons_zero, List.getElem?_cons_succ, List.set_cons_zero, List.set_cons_succ, List.length_cons, List.length_nil, if_true, Option.map_some, Bool.not_true, Bool.not_false, Ev.sizeOk, lim]
        rfl
      · simp -implicitDefEqProofs only [hc, decide_false, evB, evS, evE, evL, evI, evC, evO, asT, asL, wipeD, walkD, walkS, deref, R.bind_ok, ofO_some, onB_true, onB_false, toB, TL.len, partI, setAll, List.getElem?_cons_zero, List.getElem?_cons_succ, List.set_cons_zero, List.set_cons_succ, List.length_cons, List.length_nil, if_true, Option.map_some, Bool.not_true, Bool.not_false, Ev.sizeOk, lim]
        rfl
  obtain ⟨a, b, c, hk, h0⟩ := key (if (t : Int) < (ns.length : Nat) then (ns[t]?).getD 0 else x)
  refine ⟨a, b, c, run_keep rfl ?_, h0⟩
  unfold b__law_bowl
  simp only [List.map_cons, List.map_nil, List.length_cons, List.length_nil, List.reduceReplicate, Nat.reduceAdd, Nat.reduceSub, List.cons_append, List.nil_append]
  rw [evB_nx (evS_set (d := .int (81001 + 2903 * t)) (m' := m) ?h1)]
  case h1 =>
    have hm : mulOk 2903 (t : Nat) = true := mul_l (by decide)
    simp -implicitDefEqProofs only [evB, evS, evE, evL, evI, evC, evO, asT, asL, wipeD, walkD, walkS, deref, R.bind_ok, ofO_some, onB_true, onB_false, toB, TL.len, partI, setAll, List.getElem?_cons_zero, List.getElem?_cons_succ, List.set_cons_zero, List.set_cons_succ, List.length_cons, List.length_nil, if_true, Option.map_some, Bool.not_true, Bool.not_false, opBin, hm]
  simp -implicitDefEqProofs only [List.set_cons_succ, List.set_cons_zero]
  rw [evB_nx (ρ' := [some (.scr (ns.map .int)), some (.int t), some (.int x), s, none]) (m' := m) ?h2]
  case h2 =>
    rw [evS_for (w := ((ns.take (HT.sIx ns.length ns.length (some 6))).map .int, [])) (m' := m) ?h3]
    · exact e
    case h3 =>
      have hsl : slD (.scr (ns.map .int)) none (some 6) m = some (.lst ((ns.take (HT.sIx ns.length ns.length (some 6))).map .int)) := by
        simp only [slD, deref, Ev.cutD, List.length_map]
        rw [show HT.sIx ns.length 0 none = 0 from rfl, List.drop_zero, Nat.sub_zero, List.map_take]
      simp -implicitDefEqProofs only [evB, evS, evE, evL, evI, evC, evO, asT, asL, wipeD, walkD, walkS, deref, R.bind_ok, ofO_some, onB_true, onB_false, toB, TL.len, partI, setAll, List.getElem?_cons_zero, List.getElem?_cons_succ, List.set_cons_zero, List.set_cons_succ, List.length_cons, List.length_nil, if_true, Option.map_some, Bool.not_true, Bool.not_false, hsl]
  rw [evB_nx (evS_set (d := .int (if (t : Int) < (ns.length : Nat) then (ns[t]?).getD 0 else x)) (m' := m) ?h4)]
  case h4 =>
    simp -implicitDefEqProofs only [evB, evS, evE, evL, evI, evC, evO, asT, asL, wipeD, walkD, walkS, deref, R.bind_ok, ofO_some, onB_true, onB_false, toB, TL.len, partI, setAll, List.getElem?_cons_zero, List.getElem?_cons_succ, List.set_cons_zero, List.set_cons_succ, List.length_cons, List.length_nil, if_true, Option.map_some, Bool.not_true, Bool.not_false, bi_len_s, List.length_map, lt_ii]
    by_cases hc : (t : Int) < (ns.length : Nat)
    · have hlt : t < ns.length := by omega
      have hat := atI_map (f := D.int) (List.getElem?_eq_getElem hlt)
      simp -implicitDefEqProofs only [hc, decide_true, evB, evS, evE, evL, evI, evC, evO, asT, asL, wipeD, walkD, walkS, deref, R.bind_ok, ofO_some, onB_true, onB_false, toB, TL.len, partI, setAll, List.getElem?_cons_zero, List.getElem?_cons_succ, List.set_cons_zero, List.set_cons_succ, List.length_cons, List.length_nil, if_true, Option.map_some, Bool.not_true, Bool.not_false, ix_s, hat, bi_int_i]
      simp [hlt]
    · simp -implicitDefEqProofs only [hc, decide_false, evB, evS, evE, evL, evI, evC, evO, asT, asL, wipeD, walkD, walkS, deref, R.bind_ok, ofO_some, onB_true, onB_false, toB, TL.len, partI, setAll, List.getElem?_cons_zero, List.getElem?_cons_succ, List.set_cons_zero, List.set_cons_succ, List.length_cons, List.length_nil, if_true, Option.map_some, Bool.not_true, Bool.not_false]
      simp [hc]
  simp -implicitDefEqProofs only [List.set_cons_succ, List.set_cons_zero]
  exact hk
/-! ### names drawn -/
abbrev abcL : List Nat := abcS.cps.toList
abbrev digL : List Nat := digS.cps.toList
def nameOk2 (x : Str) : Bool := decide (1 ≤ x.cps.toList.length ∧ x.cps.toList.length ≤ 8) && ((match x.cps.toList with | [] => false | c :: _ => decide (c ∈ abcL)) && x.cps.toList.all fun c => decide (c ∈ abcL) || decide (c ∈ digL))
theorem nameOk_eq {x : Str} : nameOk x = nameOk2 x := by
  unfold nameOk nameOk2 headOk signOk
  simp only [inS_one, str_len]
  all_goals rfl
structure WOk (x : Str) (n : Nat) : Prop where
  len : x.cps.toList.length = n
  hd : ∃ c r, x.cps.toList = c :: r ∧ c ∈ abcL
  all : ∀ c ∈ x.cps.toList, c ∈ abcL ∨ c ∈ digL
theorem WOk.name {x : Str} {n : Nat} (h : WOk x n) (hn : n ≤ 8) : nameOk x = true := by
  rw [nameOk_eq]
  obtain ⟨h1, ⟨c, r, h2, h3⟩, h4⟩ := h
  unfold nameOk2
  have hp : 1 ≤ x.cps.toList.length ∧ x.cps.toList.length ≤ 8 := by
    rw [h2] at h1 ⊢
    simp only [List.length_cons] at h1 ⊢
    omega
  rw [decide_eq_true hp, Bool.true_and, Bool.and_eq_true]
  refine ⟨?_, ?_⟩
  · rw [h2]; exact decide_eq_true h3
  · rw [List.all_eq_true]
    intro c hc
    simp only [Bool.or_eq_true, decide_eq_true_eq]
    exact h4 c hc
theorem cps_app {x y : Str} : (x ++ y).cps.toList = x.cps.toList ++ y.cps.toList := _root_.TL.tl_append x y
theorem WOk.snoc {x : Str} {n c : Nat} (h : WOk x n) (hc : c ∈ abcL ∨ c ∈ digL) : WOk (x ++ ⟨#[c]⟩) (n + 1) := by
  obtain ⟨h1, ⟨d, r, h2, h3⟩, h4⟩ := h
  refine ⟨?_, ⟨d, r ++ [c], ?_, h3⟩, ?_⟩
  · rw [cps_app, List.length_append, h1]; rfl
  · rw [cps_app, h2]; rfl
  · intro e he
    rw [cps_app] at he
    rcases List.mem_append.mp he with he | he
    · exact h4 e he
    · have : e = c := by simpa using he
      subst this
      exact hc
theorem WOk.one {c : Nat} (h : c ∈ abcL) : WOk ⟨#[c]⟩ 1 := by
  refine ⟨rfl, ⟨c, [], rfl, h⟩, fun e he => .inl ?_⟩
  have : e = c := by simpa using he
  rw [this]
  exact h
abbrev fixedW : List Str := ["islands", "needed", "ends", "ways", "in", "out"]
theorem fixed_ok : ∀ x ∈ fixedW, nameOk x = true := by
  intro x hx
  rw [nameOk_eq]
  revert x
  decide
def qn (i : Nat) : Str := ("q" : Str) ++ Str.ofString (toString ((i : Nat) : Int))
theorem tl_qn {i : Nat} (h : i < 10) : (qn i).cps.toList = [113, 48 + i] := by
  unfold qn
  rw [cps_app]
  have := _root_.TL.tl_num i
  rw [_root_.TL.numL_lt h] at this
  rw [show (Str.ofString (toString ((i : Nat) : Int))).cps.toList = [48 + i] from this]
  rfl
theorem qn_ok {i : Nat} (h : i < 5) : nameOk (qn i) = true := by
  rw [nameOk_eq]
  unfold nameOk2
  rw [tl_qn (by omega)]
  revert h
  revert i
  decide
theorem qn_inj {i j : Nat} (hi : i < 5) (hj : j < 5) (h : qn i = qn j) : i = j := by
  have h1 := tl_qn (i := i) (by omega)
  have h2 := tl_qn (i := j) (by omega)
  rw [h, h2] at h1
  simp at h1
  omega
theorem sub_len {α : Type} [DecidableEq α] : ∀ {a b : List α}, a.Nodup → (∀ x ∈ a, x ∈ b) → a.length ≤ b.length
  | [], _, _, _ => Nat.zero_le _
  | x :: a, b, hn, h => by
    have hx := h x List.mem_cons_self
    have := sub_len (a := a) (b := b.erase x) (List.nodup_cons.mp hn).2 (fun y hy => by
      have hne : y ≠ x := by
        intro e
        subst e
        exact (List.nodup_cons.mp hn).1 hy
      exact (List.mem_erase_of_ne hne).mpr (h y (List.mem_cons_of_mem _ hy)))
    rw [List.length_erase_of_mem hx] at this
    have hp := List.length_pos_of_mem hx
    rw [List.length_cons]
    omega
theorem new_word {l : List Str} {w : Str} {n : Nat} (hn : n ≤ 5) (hl : l.length < n) (hw : nameOk w = true) : ∃ x r, ((w :: (List.range n).map qn).filter fun x => !decide (x ∈ l)) = x :: r ∧ nameOk x = true ∧ x ∉ l := by
  cases h : (w :: (List.range n).map qn).filter fun x => !decide (x ∈ l) with
  | nil =>
    exfalso
    rw [List.filter_eq_nil_iff] at h
    have hnd : ((List.range n).map qn).Nodup := by
      unfold List.Nodup
      rw [List.pairwise_map]
      refine List.Pairwise.imp_of_mem ?_ (List.nodup_range (n := n))
      intro a b ha hb hab e
      rw [List.mem_range] at ha hb
      exact hab (qn_inj (by omega) (by omega) e)
    have := sub_len hnd (b := l) fun x hx => by
      have := h x (List.mem_cons_of_mem _ hx)
      simpa using this
    rw [List.length_map, List.length_range] at this
    omega
  | cons x r =>
    have hx : x ∈ (w :: (List.range n).map qn).filter fun x => !decide (x ∈ l) := by rw [h]; exact List.mem_cons_self
    obtain ⟨h1, h2⟩ := List.mem_filter.mp hx
    refine ⟨x, r, rfl, ?_, by simpa using h2⟩
    rcases List.mem_cons.mp h1 with rfl | h1
    · exact hw
    · obtain ⟨i, hi, rfl⟩ := List.mem_map.mp h1
      rw [List.mem_range] at hi
      exact qn_ok (by omega)
end
end K85

set_option Elab.async false
set_option linter.all false
set_option maxRecDepth 100000
set_option maxHeartbeats 4000000
namespace K85
open PySem PySem.Spec PyProof.Rows L2 Ev
theorem evS_app {Γ : Gam} {a e : E} {ρ : Ev.Env} {m m1 m2 m3 : Mem} {x y : D} (h1 : evE Γ a ρ m = .ok x m1) (h2 : isLst m1 x = true) (h3 : evE Γ e ρ m1 = .ok y m2) (h4 : appD x y m2 = some m3) : evS Γ (.app a e) ρ m = .ok (.nx, ρ) m3 := by
  simp only [evS, h1, R.bind_ok, h2, if_true, h3, h4]
section
variable {k : Nat} {m m' m'' : Mem}
abbrev one2 (x : MO) : Mem := [x]
theorem lst_ltb {n : Nat} {l : List Str} : MO.ltb n (.lst (l.map .str)) = true := ltbL_map fun _ _ => rfl
theorem strs_st (hs : St k m) (l : List Str) : St k (m ++ [MO.lst (l.map .str)]) := hs.app fun mo h => by
  simp only [List.mem_singleton] at h
  subst h
  exact lst_ltb
theorem nin_ref {x : Str} {l : List Str} {i : Nat} (hi : m[i]? = some (.lst (l.map .str))) (hx : PyData.canLay0 (.str x) = true) (hl : okAll l) : opCmp .NotIn (.str x) (.ref i) m = some (!decide (x ∈ l)) := by
  have := nin_str (m := m) hx hl
  simp only [opCmp, inD, deref, hi] at this ⊢
  exact this
/-- the words so far -/
structure Wds (n : Nat) (l : List Str) : Prop where
  len : l.length = n
  nd : l.Nodup
  ok : ∀ x ∈ l, nameOk x = true
theorem Wds.lay {n : Nat} {l : List Str} (h : Wds n l) : okAll l := fun x hx => nameOk_lay (h.ok x hx)
abbrev wρ (k n i : Nat) (a b c : Option D) : Ev.Env := [some (.ref k), some (.int n), some (.str abcS), some (.ref i), a, b, c, none, none]
/-- the signs behind the first one -/
theorem e_word_more {n j : Nat} {l : List Str} {w : Str} {a c : Option D} (hs : St k m) (hw : WOk w 1) (hj : j ≤ 7) :
    ∃ w' m' c', forL (fun d ρ1 m2 => (asT (G__law_words [f__law_pull, f__law_one]) (.nm 6) d ρ1 m2).bind fun ρ2 m3 => evB (G__law_words [f__law_pull, f__law_one]) l__law_words_2 ρ2 m3) [] ((List.range j).map fun i => .int (i : Nat)) (wρ k n m.length a (some (.str w)) c) (m ++ [.lst (l.map .str)]) = .ok (.nx, wρ k n m.length a (some (.str w')) c') (m' ++ [.lst (l.map .str)]) ∧ Dr k m m' ∧ WOk w' (1 + j) := by
  obtain ⟨ρ', mm, e, w', m', c', rfl, rfl, hd, hw'⟩ := forL_goM (src := []) (e := fun i : Nat => D.int (i : Nat)) (g := fun d ρ1 m2 => (asT (G__law_words [f__law_pull, f__law_one]) (.nm 6) d ρ1 m2).bind fun ρ2 m3 => evB (G__law_words [f__law_pull, f__law_one]) l__law_words_2 ρ2 m3)
    (fun t ρ mm => ∃ w' m' c', ρ = wρ k n m.length a (some (.str w')) c' ∧ mm = m' ++ [.lst (l.map .str)] ∧ Dr k m m' ∧ WOk w' (1 + t)) (fun _ _ _ _ => rfl) (List.range j) 0 (wρ k n m.length a (some (.str w)) c) (m ++ [.lst (l.map .str)]) ⟨w, m, c, rfl, rfl, Dr.refl hs, hw⟩ (by
      rintro t i ρ mm hi ⟨w', m', c', rfl, rfl, hd, hw'⟩
      rw [Nat.zero_add] at hw' ⊢
      have ht : t < j := by
        have := (List.getElem?_eq_some_iff.mp hi).1
        simpa using this
      have hs' := hd.st hs
      have hz : Ev.sizeOk (abcS.length + digS.length) = true := by decide
      obtain ⟨ch, m2, hch, e1, hd1⟩ := e_one_s (s := abcS ++ digS) (strs_st hs' l) (by decide) (by decide)
      obtain ⟨m3, rfl, hd3⟩ := hd1.unapp hs'
      have hz2 : Ev.sizeOk (w'.length + 1) = true := sizeOk_pow (by rw [str_len, hw'.len]; omega)
      refine ⟨wρ k n m.length a (some (.str (w' ++ ⟨#[ch]⟩))) (some (.int i)), m3 ++ [.lst (l.map .str)], ?_, w' ++ ⟨#[ch]⟩, m3, _, rfl, rfl, hd.trans hd3, ?_⟩
      · unfold l__law_words_2
        have hl1 : Ev.sizeOk (w'.length + (⟨#[ch]⟩ : Str).length) = true := hz2
        simp -implicitDefEqProofs only [evB, evS, evE, evL, evI, evC, evO, asT, asL, wipeD, walkD, walkS, deref, R.bind_ok, ofO_some, onB_true, onB_false, toB, TL.len, partI, setAll, List.getElem?_cons_zero, List.getElem?_cons_succ, List.set_cons_zero, List.set_cons_succ, List.length_cons, List.length_nil, if_true, Option.map_some, Bool.not_true, Bool.not_false, G__law_words, opBin, hz, e1, hl1]
      · have := hw'.snoc (c := ch) (by
          rw [cps_app] at hch
          exact List.mem_append.mp hch)
        rw [Nat.add_assoc] at this
        exact this)
  rw [Nat.zero_add, List.length_range] at hw'
  exact ⟨w', m', c', e, hd, hw'⟩
/-- a turn -/
theorem e_word_step {n t : Nat} {l : List Str} {b c : Option D} (hs : St k m) (hl : Wds t l) (ht : t < n) (hn : n ≤ 5) :
    ∀ a b c, ∃ x m' b' c', evB (G__law_words [f__law_pull, f__law_one]) l__law_words_1 (wρ k n m.length a b c) (m ++ [.lst (l.map .str)]) = .ok (.nx, wρ k n m.length a b' c') (m' ++ [.lst ((l ++ [x]).map .str)]) ∧ Dr k m m' ∧ Wds (t + 1) (l ++ [x]) := by
  intro a b c
  unfold l__law_words_1
  obtain ⟨ch, m1, hch, e1, hu1⟩ := e_one_s (s := abcS) (strs_st hs l) (by decide) (by decide)
  obtain ⟨m1, rfl, hd1⟩ := hu1.unapp hs
  have hs1 := hd1.st hs
  have h1l := hd1.len
  rw [evB_nx (evS_set (d := .str ⟨#[ch]⟩) (m' := m1 ++ [.lst (l.map .str)]) ?h1)]
  case h1 => simp -implicitDefEqProofs only [evB, evS, evE, evL, evI, evC, evO, asT, asL, wipeD, walkD, walkS, deref, R.bind_ok, ofO_some, onB_true, onB_false, toB, TL.len, partI, setAll, List.getElem?_cons_zero, List.getElem?_cons_succ, List.set_cons_zero, List.set_cons_succ, List.length_cons, List.length_nil, if_true, Option.map_some, Bool.not_true, Bool.not_false, G__law_words, e1]
  simp -implicitDefEqProofs only [List.set_cons_succ, List.set_cons_zero]
  obtain ⟨d2, m2, hd2m, e2, hu2⟩ := e_one (l := [.int 0, .int 0, .int 1, .int 7]) (strs_st hs1 l) (by decide) (by decide) rfl
  obtain ⟨m2, rfl, hd2⟩ := hu2.unapp hs1
  have hs2 := hd2.st hs1
  have h2l := hd2.len
  obtain ⟨j, hj, rfl⟩ : ∃ j : Nat, j ≤ 7 ∧ d2 = .int (j : Nat) := by
    simp only [List.mem_cons, List.not_mem_nil, or_false] at hd2m
    rcases hd2m with rfl | rfl | rfl | rfl
    · exact ⟨0, by decide, rfl⟩
    · exact ⟨0, by decide, rfl⟩
    · exact ⟨1, by decide, rfl⟩
    · exact ⟨7, by decide, rfl⟩
  obtain ⟨w, m3, c3, e3, hd3, hw⟩ := e_word_more (n := n) (l := l) (a := a) (c := c) hs2 (WOk.one hch) hj
  have hs3 := hd3.st hs2
  have h3l := hd3.len
  have hml : m2.length = m.length := by omega
  rw [hml] at e3
  rw [evB_nx ((evS_for (w := ((List.range j).map fun i => .int (i : Nat), [])) (m' := m2 ++ [.lst (l.map .str)]) ?h2).trans e3)]
  case h2 =>
    have hz : Ev.sizeOk (0 + 1 + 1 + 1 + 1) = true := by decide
    simp -implicitDefEqProofs only [evB, evS, evE, evL, evI, evC, evO, asT, asL, wipeD, walkD, walkS, deref, R.bind_ok, ofO_some, onB_true, onB_false, toB, TL.len, partI, setAll, List.getElem?_cons_zero, List.getElem?_cons_succ, List.set_cons_zero, List.set_cons_succ, List.length_cons, List.length_nil, if_true, Option.map_some, Bool.not_true, Bool.not_false, G__law_words, hz, e2, rngI]
    rw [if_pos (by omega)]
    simp
  obtain ⟨x6, m4, e4, hu4, h60, h66⟩ := e_pull (s := 6) (strs_st hs3 l) (by decide) (log2_small (by decide) (by decide))
  obtain ⟨m4, rfl, hd4⟩ := hu4.unapp hs3
  have hs4 := hd4.st hs3
  have h4l := hd4.len
  have step3 : ∃ w' m5, evS (G__law_words [f__law_pull, f__law_one]) (.ife (.cmp .Eq (.call 0 (.cons (.v 0) (.cons (.int 6) .nil))) (.int 0)) (.cons (.set (.nm 5) (.call 1 (.cons (.v 0) (.cons (.lst (.cons (.str "islands") (.cons (.str "needed") (.cons (.str "ends") (.cons (.str "ways") (.cons (.str "in") (.cons (.str "out") .nil))))))) .nil)))) .nil) .nil) (wρ k n m.length a (some (.str w)) c3) (m3 ++ [.lst (l.map .str)]) = .ok (.nx, wρ k n m.length a (some (.str w')) c3) (m5 ++ [.lst (l.map .str)]) ∧ Dr k m4 m5 ∧ nameOk w' = true := by
    by_cases h0 : x6 = 0
    · subst h0
      obtain ⟨d5, m5, hd5m, e5, hu5⟩ := e_one (l := fixedW.map .str) (strs_st hs4 l) (by decide) (by decide) (ltbL_map fun _ _ => rfl)
      obtain ⟨m5, rfl, hd5⟩ := hu5.unapp hs4
      obtain ⟨w', hw'm, rfl⟩ := List.mem_map.mp hd5m
      refine ⟨w', m5, ?_, hd5, fixed_ok w' hw'm⟩
      rw [evS_T (m' := m4 ++ [.lst (l.map .str)]) ?h3]
      case h3 => simp -implicitDefEqProofs only [evB, evS, evE, evL, evI, evC, evO, asT, asL, wipeD, walkD, walkS, deref, R.bind_ok, ofO_some, onB_true, onB_false, toB, TL.len, partI, setAll, List.getElem?_cons_zero, List.getElem?_cons_succ, List.set_cons_zero, List.set_cons_succ, List.length_cons, List.length_nil, if_true, Option.map_some, Bool.not_true, Bool.not_false, G__law_words, e4, eq_ii, decide_true]
      have hz : Ev.sizeOk (0 + 1 + 1 + 1 + 1 + 1 + 1) = true := by decide
      rw [evB_nx (evS_set (d := .str w') (m' := m5 ++ [.lst (l.map .str)]) ?h5)]
      · rfl
      case h5 =>
        simp only [fixedW, List.map_cons, List.map_nil] at e5
        simp -implicitDefEqProofs only [evB, evS, evE, evL, evI, evC, evO, asT, asL, wipeD, walkD, walkS, deref, R.bind_ok, ofO_some, onB_true, onB_false, toB, TL.len, partI, setAll, List.getElem?_cons_zero, List.getElem?_cons_succ, List.set_cons_zero, List.set_cons_succ, List.length_cons, List.length_nil, if_true, Option.map_some, Bool.not_true, Bool.not_false, G__law_words, hz, e5]
    · refine ⟨w, m4, ?_, Dr.refl hs4, hw.name (by omega)⟩
      rw [evS_F (m' := m4 ++ [.lst (l.map .str)]) ?h3]
      · rfl
      case h3 => simp -implicitDefEqProofs only [evB, evS, evE, evL, evI, evC, evO, asT, asL, wipeD, walkD, walkS, deref, R.bind_ok, ofO_some, onB_true, onB_false, toB, TL.len, partI, setAll, List.getElem?_cons_zero, List.getElem?_cons_succ, List.set_cons_zero, List.set_cons_succ, List.length_cons, List.length_nil, if_true, Option.map_some, Bool.not_true, Bool.not_false, G__law_words, e4, eq_ii, h0, decide_false]
  obtain ⟨w', m5, e5, hd5, hw'⟩ := step3
  have hs5 := hd5.st hs4
  have h5l := hd5.len
  rw [evB_nx e5]
  obtain ⟨x, r, hf, hxo, hxn⟩ := new_word hn (by rw [hl.len]; exact ht) hw'
  have h5m : m5.length = m.length := by omega
  have hg : (m5 ++ [MO.lst (l.map .str)])[m.length]? = some (.lst (l.map .str)) := by rw [← h5m]; exact one_last
  refine ⟨x, m5, some (.str w'), c3, ?_, (((hd1.trans hd2).trans hd3).trans hd4).trans hd5, ?_⟩
  · rw [evB_nx (ρ' := wρ k n m.length a (some (.str w')) c3) (m' := m5 ++ [.lst ((l ++ [x]).map .str)]) ?h6]
    · rfl
    case h6 =>
      have hE : evE (G__law_words [f__law_pull, f__law_one]) (.ix (.lc [8] (.v 8) (.nm 8) (.seq (.bin .Add (.lst (.cons (.v 5) .nil)) (.lc [7] (.bin .Add (.str "q") (.bi .str (.cons (.v 7) .nil))) (.nm 7) (.rng (.cons (.v 1) .nil)) .no))) (.yes (.cmp .NotIn (.v 8) (.v 3)))) (.int 0)) (wρ k n m.length a (some (.str w')) c3) (m5 ++ [.lst (l.map .str)]) = .ok (.str x) (m5 ++ [.lst (l.map .str)]) := by
        have hz1 : Ev.sizeOk 1 = true := by decide
        have hr : rngI [D.int (n : Nat)] = some ((List.range n).map fun i => D.int (i : Nat)) := by
          unfold rngI
          simp only
          rw [if_pos (by omega)]
          simp
        simp -implicitDefEqProofs only [evB, evS, evE, evL, evI, evC, evO, asT, asL, wipeD, walkD, walkS, deref, R.bind_ok, ofO_some, onB_true, onB_false, toB, TL.len, partI, setAll, List.getElem?_cons_zero, List.getElem?_cons_succ, List.set_cons_zero, List.set_cons_succ, List.length_cons, List.length_nil, if_true, Option.map_some, Bool.not_true, Bool.not_false, hz1, hr, Nat.zero_add]
        rw [lcL_all (o := fun i => .str (qn i)) rfl ?t1]
        case t1 =>
          intro i hi
          rw [List.mem_range] at hi
          have hb : biD .str [.int (i : Nat)] (m5 ++ [.lst (l.map .str)]) = some (.str (toString ((i : Nat) : Int))) := by
            have : ((i : Nat) : Int).natAbs.log2 < 1920 := by
              have hall : ∀ i : Nat, i < 5 → ((i : Nat) : Int).natAbs.log2 < 1920 := by decide
              exact hall i (by omega)
            simp only [biD, this, if_true]
          have hq : Ev.sizeOk (("q" : Str).length + (Str.ofString (toString ((i : Nat) : Int))).length) = true := by
            have h1 := tl_qn (i := i) (by omega)
            unfold qn at h1
            rw [cps_app] at h1
            have := congrArg List.length h1
            rw [List.length_append, ← str_len, ← str_len] at this
            rw [this]
            exact (show Ev.sizeOk 2 = true by decide)
          simp -implicitDefEqProofs only [evB, evS, evE, evL, evI, evC, evO, asT, asL, wipeD, walkD, walkS, deref, R.bind_ok, ofO_some, onB_true, onB_false, toB, TL.len, partI, setAll, List.getElem?_cons_zero, List.getElem?_cons_succ, List.set_cons_zero, List.set_cons_succ, List.length_cons, List.length_nil, if_true, Option.map_some, Bool.not_true, Bool.not_false, hb, opBin, hq]
          rfl
        have hz2 : Ev.sizeOk n = true := sizeOk_pow (by omega)
        have hz3 : Ev.sizeOk (1 + n) = true := sizeOk_pow (by omega)
        simp -implicitDefEqProofs only [evB, evS, evE, evL, evI, evC, evO, asT, asL, wipeD, walkD, walkS, deref, R.bind_ok, ofO_some, onB_true, onB_false, toB, TL.len, partI, setAll, List.getElem?_cons_zero, List.getElem?_cons_succ, List.set_cons_zero, List.set_cons_succ, List.length_cons, List.length_nil, if_true, Option.map_some, Bool.not_true, Bool.not_false, List.length_map, List.length_range, hz2, hz3, opBin, Nat.zero_add]
        have hcand : [D.str w'] ++ (List.range n).map (fun i => D.str (qn i)) = (w' :: (List.range n).map qn).map .str := by simp
        rw [hcand]
        rw [lcL_if (p := fun x => !decide (x ∈ l)) (o := .str) rfl ?t2]
        case t2 =>
          intro y hy
          have hyo : nameOk y = true := by
            rcases List.mem_cons.mp hy with rfl | hy
            · exact hw'
            · obtain ⟨i, hi, rfl⟩ := List.mem_map.mp hy
              rw [List.mem_range] at hi
              exact qn_ok (by omega)
          simp -implicitDefEqProofs only [evB, evS, evE, evL, evI, evC, evO, asT, asL, wipeD, walkD, walkS, deref, R.bind_ok, ofO_some, onB_true, onB_false, toB, TL.len, partI, setAll, List.getElem?_cons_zero, List.getElem?_cons_succ, List.set_cons_zero, List.set_cons_succ, List.length_cons, List.length_nil, if_true, Option.map_some, Bool.not_true, Bool.not_false, nin_ref hg (nameOk_lay hyo) hl.lay]
          cases decide (y ∈ l) <;> rfl
        rw [hf]
        have hz4 : Ev.sizeOk (r.length + 1) = true := by
          have h1 : ((w' :: (List.range n).map qn).filter fun x => !decide (x ∈ l)).length ≤ (w' :: (List.range n).map qn).length := List.length_filter_le ..
          rw [hf, List.length_cons, List.length_cons, List.length_map, List.length_range] at h1
          exact sizeOk_pow (by omega)
        have h0 : atI (D.str x :: r.map D.str) 0 = some (.str x) := atI_at (i := 0) rfl
        simp -implicitDefEqProofs only [evB, evS, evE, evL, evI, evC, evO, asT, asL, wipeD, walkD, walkS, deref, R.bind_ok, ofO_some, onB_true, onB_false, toB, TL.len, partI, setAll, List.getElem?_cons_zero, List.getElem?_cons_succ, List.set_cons_zero, List.set_cons_succ, List.length_cons, List.length_nil, if_true, Option.map_some, Bool.not_true, Bool.not_false, List.map_cons, List.length_map, hz4, ix_l, h0]
      have hlim : (l.map D.str).length < lim := by
        rw [List.length_map, hl.len]
        exact Nat.lt_of_lt_of_le (Nat.lt_of_lt_of_le ht hn) (show 5 ≤ 16777216 by decide)
      have hset : ∀ y : MO, (m5 ++ [MO.lst (l.map .str)]).set m.length y = m5 ++ [y] := fun y => by rw [← h5m]; exact one_set
      have hv : evE (G__law_words [f__law_pull, f__law_one]) (.v 3) (wρ k n m.length a (some (.str w')) c3) (m5 ++ [.lst (l.map .str)]) = .ok (.ref m.length) (m5 ++ [.lst (l.map .str)]) := by
        simp -implicitDefEqProofs only [evE, List.getElem?_cons_zero, List.getElem?_cons_succ]
      refine evS_app hv ?_ hE ?_
      · simp only [isLst, hg]
      · simp only [appD, hg, hlim, if_true, hset, List.map_append, List.map_cons, List.map_nil]
  · refine ⟨by rw [List.length_append, hl.len]; rfl, ?_, ?_⟩
    · rw [List.nodup_append]
      refine ⟨hl.nd, by simp, ?_⟩
      intro y hy z hz
      have : z = x := by simpa using hz
      subst this
      intro e
      subst e
      exact hxn hy
    · intro y hy
      rcases List.mem_append.mp hy with hy | hy
      · exact hl.ok y hy
      · have : y = x := by simpa using hy
        subst this
        exact hxo
theorem e_words {n : Nat} (hs : St k m) (hn : n ≤ 5) : ∃ l m', f__law_words [.ref k, .int n] m = .ok (.tup (l.map .str)) m' ∧ Dr k m m' ∧ Wds n l := by
  obtain ⟨ρ', mm, e, l, m', a, b, c, rfl, rfl, hd, hw⟩ := forL_goM (src := []) (e := fun i : Nat => D.int (i : Nat)) (g := fun d ρ1 m2 => (asT (G__law_words [f__law_pull, f__law_one]) (.nm 4) d ρ1 m2).bind fun ρ2 m3 => evB (G__law_words [f__law_pull, f__law_one]) l__law_words_1 ρ2 m3)
    (fun t ρ mm => ∃ l m' a b c, ρ = wρ k n m.length a b c ∧ mm = m' ++ [.lst (l.map .str)] ∧ Dr k m m' ∧ Wds t l) (fun _ _ _ _ => rfl) (List.range n) 0 (wρ k n m.length none none none) (m ++ [.lst (([] : List Str).map .str)]) ⟨[], m, none, none, none, rfl, rfl, Dr.refl hs, rfl, List.nodup_nil, fun x h => by cases h⟩ (by
      rintro t i ρ mm hi ⟨l, m', a, b, c, rfl, rfl, hd, hw⟩
      rw [Nat.zero_add] at hw ⊢
      have ht : t < n := by
        have := (List.getElem?_eq_some_iff.mp hi).1
        simpa using this
      obtain ⟨x, m2, b', c', e1, hd1, hw1⟩ := e_word_step (b := none) (c := none) (hd.st hs) hw ht hn (some (.int (i : Nat))) b c
      have hml : m'.length = m.length := hd.len
      rw [hml] at e1
      refine ⟨wρ k n m.length (some (.int (i : Nat))) b' c', m2 ++ [.lst ((l ++ [x]).map .str)], ?_, l ++ [x], m2, _, _, _, rfl, rfl, hd.trans hd1, hw1⟩
      rw [show (asT (G__law_words [f__law_pull, f__law_one]) (.nm 4) (D.int (i : Nat)) (wρ k n m.length a b c) (m' ++ [.lst (l.map .str)])) = .ok (wρ k n m.length (some (.int (i : Nat))) b c) (m' ++ [.lst (l.map .str)]) from rfl, R.bind_ok]
      exact e1)
  rw [Nat.zero_add, List.length_range] at hw
  refine ⟨l, m', ?_, hd, hw⟩
  have hl := hd.len
  refine run_drM (d' := .tup (l.map .str)) (x := [.lst (l.map .str)]) hs rfl hd ltb_str rfl ?_
  unfold b__law_words
  simp only [List.map_cons, List.map_nil, List.length_cons, List.length_nil, List.reduceReplicate, Nat.reduceAdd, Nat.reduceSub, List.cons_append, List.nil_append]
  rw [evB_nx (ρ' := wρ k n m.length none none none) (m' := m ++ [.lst (([] : List Str).map .str)]) ?h1]
  case h1 =>
    simp -implicitDefEqProofs only [evB, evS, evE, evL, evI, evC, evO, asT, asL, wipeD, walkD, walkS, deref, R.bind_ok, ofO_some, onB_true, onB_false, toB, TL.len, partI, setAll, List.getElem?_cons_zero, List.getElem?_cons_succ, List.set_cons_zero, List.set_cons_succ, List.length_cons, List.length_nil, if_true, Option.map_some, Bool.not_true, Bool.not_false, asL, Ev.sizeOk, lim]
    rfl
  rw [evB_nx ((evS_for (w := ((List.range n).map fun i => .int (i : Nat), [])) (m' := m ++ [.lst (([] : List Str).map .str)]) ?h2).trans e)]
  case h2 =>
    simp -implicitDefEqProofs only [evB, evS, evE, evL, evI, evC, evO, asT, asL, wipeD, walkD, walkS, deref, R.bind_ok, ofO_some, onB_true, onB_false, toB, TL.len, partI, setAll, List.getElem?_cons_zero, List.getElem?_cons_succ, List.set_cons_zero, List.set_cons_succ, List.length_cons, List.length_nil, if_true, Option.map_some, Bool.not_true, Bool.not_false, rngI]
    rw [if_pos (by omega)]
    simp
  have hg : (m' ++ [MO.lst (l.map .str)])[m.length]? = some (.lst (l.map .str)) := by rw [← hl]; exact one_last
  rw [evB_rt (evS_ret (d := .tup (l.map .str)) (m' := m' ++ [.lst (l.map .str)]) ?h3)]
  · rfl
  case h3 => simp -implicitDefEqProofs only [evB, evS, evE, evL, evI, evC, evO, asT, asL, wipeD, walkD, walkS, deref, R.bind_ok, ofO_some, onB_true, onB_false, toB, TL.len, partI, setAll, List.getElem?_cons_zero, List.getElem?_cons_succ, List.set_cons_zero, List.set_cons_succ, List.length_cons, List.length_nil, if_true, Option.map_some, Bool.not_true, Bool.not_false, biD, items, hg]
theorem e_isles (hs : St k m) : ∃ isles m', f__law_isles [.ref k, .int 5] m = .ok (.tup (isles.map .str)) m' ∧ Dr k m m' ∧ SeaOk isles := by
  obtain ⟨x, m1, e1, hd1, h0, h1⟩ := e_pull (s := 4) hs (by decide) (log2_small (by decide) (by decide))
  obtain ⟨i, hi, rfl⟩ := nat_of (n := 4) h0 h1
  obtain ⟨l, m2, e2, hd2, hw⟩ := e_words (n := 2 + i) (hd1.st hs) (by omega)
  refine ⟨l, m2, ?_, hd1.trans hd2, ⟨by rw [hw.len]; omega, by rw [hw.len]; omega, hw.nd, hw.ok⟩⟩
  refine run_dr hs rfl (hd1.trans hd2) ltb_str ?_
  unfold b__law_isles
  simp only [List.map_cons, List.map_nil, List.length_cons, List.length_nil, List.reduceReplicate, Nat.reduceAdd, Nat.reduceSub, List.cons_append, List.nil_append]
  rw [evB_rt (evS_ret (d := .tup (l.map .str)) (m' := m2) ?h)]
  · rfl
  case h =>
    have e4 : (5 : Int) - 1 = 4 := rfl
    have e5 : (2 : Int) + (i : Nat) = ((2 + i : Nat) : Int) := by omega
    simp -implicitDefEqProofs only [evB, evS, evE, evL, evI, evC, evO, asT, asL, wipeD, walkD, walkS, deref, R.bind_ok, ofO_some, onB_true, onB_false, toB, TL.len, partI, setAll, List.getElem?_cons_zero, List.getElem?_cons_succ, List.set_cons_zero, List.set_cons_succ, List.length_cons, List.length_nil, if_true, Option.map_some, Bool.not_true, Bool.not_false, G__law_isles, opBin, e4, e1, e5, e2]
end
end K85

set_option Elab.async false
set_option linter.all false
set_option maxRecDepth 100000
set_option maxHeartbeats 4000000
namespace K85
open PySem PySem.Spec PyProof.Rows L2 Ev
/-! ### numbers drawn -/
section
variable {k : Nat} {m m' m'' : Mem}
theorem evE_bi1 {Γ : Gam} {b : Bi} {e : E} {ρ : Ev.Env} {m1 : Mem} {d : D} (h : evE Γ e ρ m = .ok d m1) : evE Γ (.bi b (.cons e .nil)) ρ m = ofO (biD b [d] m1) m1 := by
  simp only [evE, evL, h, R.bind_ok]
theorem evE_lc {Γ : Gam} {own : List Nat} {e : E} {t : T} {i : I} {c : Op} {ρ : Ev.Env} {m1 m2 : Mem} {w : List D × Src} {ds : List D} (h1 : evI Γ i ρ m = .ok w m1)
    (h2 : lcL (fun d m2 => (asT Γ t d (wipeD ρ own) m2).bind fun ρ1 m3 => (evC Γ c ρ1 m3).bind fun b m4 => if b then (evE Γ e ρ1 m4).bind fun x m5 => .ok (some x) m5 else .ok none m4) w.2 w.1 m1 = .ok ds m2) (h3 : Ev.sizeOk ds.length = true) : evE Γ (.lc own e t i c) ρ m = .ok (.lst ds) m2 := by
  simp only [evE, h1, R.bind_ok, h2, h3, if_true]
/-- a comprehension that draws -/
theorem evE_lc_dr {α : Type} {Γ : Gam} {own : List Nat} {e : E} {t : T} {i : I} {c : Op} {ρ : Ev.Env} {m1 : Mem} {l : List α} {f : α → D} (Q : D → Prop) (h1 : evI Γ i ρ m = .ok (l.map f, []) m1) (hs : St k m1) (hl : l.length ≤ 1000000)
    (h : ∀ a ∈ l, ∀ m2, St k m2 → Dr k m1 m2 → ∃ d m3, ((asT Γ t (f a) (wipeD ρ own) m2).bind fun ρ1 m3 => (evC Γ c ρ1 m3).bind fun b m4 => if b then (evE Γ e ρ1 m4).bind fun x m5 => .ok (some x) m5 else .ok none m4) = .ok (some d) m3 ∧ Dr k m2 m3 ∧ Q d) :
    ∃ ds m', evE Γ (.lc own e t i c) ρ m = .ok (.lst ds) m' ∧ Dr k m1 m' ∧ ds.length = l.length ∧ ∀ d ∈ ds, Q d := by
  obtain ⟨ds, m', e1, hd, hlen, hq⟩ := lcL_dr (k := k) (e := f) (g := fun d m2 => (asT Γ t d (wipeD ρ own) m2).bind fun ρ1 m3 => (evC Γ c ρ1 m3).bind fun b m4 => if b then (evE Γ e ρ1 m4).bind fun x m5 => .ok (some x) m5 else .ok none m4) Q l m1 hs h
  exact ⟨ds, m', evE_lc h1 e1 (sizeOk_pow (by omega)), hd, hlen, hq⟩
theorem e_joints {n : Nat} (hn : n ≤ 5) (hm : memLt m.length m = true) : f__law_joints [.int n] m = .ok (.lst ((spans n).map pD)) m := by
  refine run_rt rfl hm (ltbL_map fun _ _ => rfl) rfl ?_
  unfold b__law_joints
  simp only [List.map_cons, List.map_nil, List.length_cons, List.length_nil, List.reduceReplicate, Nat.reduceAdd, Nat.reduceSub, List.cons_append, List.nil_append]
  rw [evB_nx (evS_set (d := .lst []) (m' := m) (by simp -implicitDefEqProofs [evE, evL, Ev.sizeOk, lim]))]
  simp -implicitDefEqProofs only [List.set_cons_succ, List.set_cons_zero]
  obtain ⟨ρ', e, t, rfl⟩ := forL_go (m := m) (src := []) (e := fun k : Nat => D.int (k : Nat)) (g := fun d ρ1 m2 => (asT (G__law_joints []) (.nm 2) d ρ1 m2).bind fun ρ2 m3 => evB (G__law_joints []) l__law_joints_1 ρ2 m3) rfl
    (fun i ρ => ∃ t, ρ = [some (.int n), some (.lst ((spansTo n i).map pD)), t, none]) (List.range n) 0 [some (.int n), some (.lst []), none, none] ⟨none, rfl⟩ (by
      rintro i a ρ hi ⟨t, rfl⟩
      have hin : i < n ∧ a = i := by
        obtain ⟨h1, h2⟩ := List.getElem?_eq_some_iff.mp hi
        rw [List.getElem_range] at h2
        exact ⟨by simpa using h1, h2.symm⟩
      obtain ⟨hin, rfl⟩ := hin
      rw [Nat.zero_add]
      refine ⟨[some (.int n), some (.lst ((spansTo n (a + 1)).map pD)), some (.int a), none], ?_, _, rfl⟩
      unfold l__law_joints_1
      simp -implicitDefEqProofs only [asT, R.bind_ok, List.set_cons_succ, List.set_cons_zero]
      rw [evB_nx (evS_set (d := .lst ((spansTo n (a + 1)).map pD)) (m' := m) ?h1)]
      case h1 =>
        have hr : rngI [D.int ((a : Nat) + 1), D.int (n : Nat)] = some ((List.range (n - (a + 1))).map fun k => D.int ((a + 1 + k : Nat) : Int)) := by
          unfold rngI
          simp only
          rw [if_pos (by omega)]
          have : ((n : Int) - ((a : Nat) + 1)).toNat = n - (a + 1) := by omega
          rw [this]
          congr 1
        simp -implicitDefEqProofs only [evB, evS, evE, evL, evI, evC, evO, asT, asL, wipeD, walkD, walkS, deref, R.bind_ok, ofO_some, onB_true, onB_false, toB, TL.len, partI, setAll, List.getElem?_cons_zero, List.getElem?_cons_succ, List.set_cons_zero, List.set_cons_succ, List.length_cons, List.length_nil, if_true, Option.map_some, Bool.not_true, Bool.not_false, opBin, hr]
        rw [lcL_all (o := fun k => pD (a, a + 1 + k)) rfl ?t]
        case t =>
          intro k hk
          simp -implicitDefEqProofs [evE, evL, asT, evC, wipeD, Ev.sizeOk, lim]
        have hz : Ev.sizeOk (n - (a + 1)) = true := sizeOk_pow (by omega)
        have hl := spansTo_len hn a (by omega)
        have hz2 : Ev.sizeOk ((spansTo n a).length + (n - (a + 1))) = true := sizeOk_pow (by omega)
        simp -implicitDefEqProofs only [evB, evS, evE, evL, evI, evC, evO, asT, asL, wipeD, walkD, walkS, deref, R.bind_ok, ofO_some, onB_true, onB_false, toB, TL.len, partI, setAll, List.getElem?_cons_zero, List.getElem?_cons_succ, List.set_cons_zero, List.set_cons_succ, List.length_cons, List.length_nil, if_true, Option.map_some, Bool.not_true, Bool.not_false, List.length_map, List.length_range, hz, opBin, hz2]
        unfold spansTo
        rw [pairs_step, List.map_append, List.map_map]
        rfl
      rfl)
  rw [evB_nx (ρ' := [some (.int n), some (.lst ((spans n).map pD)), t, none]) (m' := m) ?hf]
  case hf =>
    rw [evS_for (w := ((List.range n).map fun k => .int (k : Nat), [])) (m' := m) ?hi]
    case hi =>
      simp -implicitDefEqProofs only [evB, evS, evE, evL, evI, evC, evO, asT, asL, wipeD, walkD, walkS, deref, R.bind_ok, ofO_some, onB_true, onB_false, toB, TL.len, partI, setAll, List.getElem?_cons_zero, List.getElem?_cons_succ, List.set_cons_zero, List.set_cons_succ, List.length_cons, List.length_nil, if_true, Option.map_some, Bool.not_true, Bool.not_false, rngI]
      rw [if_pos (by omega)]
      simp
    rw [show (0 + (List.range n).length) = n by simp] at e
    exact e
  rw [evB_rt (evS_ret (d := .lst ((spans n).map pD)) (m' := m) rfl)]
  rfl
theorem nums_ok {n : Nat} {ds : List D} (hn : ds.length = (spans n).length) (h : ∀ d ∈ ds, ∃ i, d = .int i ∧ (0 ≤ i ∧ i ≤ (10 : Int) ^ 30)) : ∃ l : List Int, ds = l.map .int ∧ NumsOk n l := by
  obtain ⟨l, rfl, hl⟩ := ints_of (Q := fun i => 0 ≤ i ∧ i ≤ (10 : Int) ^ 30) h
  exact ⟨l, rfl, by simpa using hn, fun c hc => (hl c hc).1, fun c hc => (hl c hc).2⟩
theorem e_few {n : Nat} (hs : St k m) (hn : n ≤ 5) : ∃ nums m', f__law_few [.ref k, .int n, .int 9] m = .ok (intT nums) m' ∧ Dr k m m' ∧ NumsOk n nums := by
  obtain ⟨x, m1, e1, hd1, h0, h1⟩ := e_pull (s := 3) hs (by decide) (log2_small (by decide) (by decide))
  have hs1 := hd1.st hs
  have hI : evI (G__law_few [f__law_joints, f__law_pull]) (.seq (.call 0 (.cons (.v 1) .nil))) [some (.ref k), some (.int n), some (.int 9), some (.bl (decide (x = 0))), none] m1 = .ok ((spans n).map pD, []) m1 := by
    simp -implicitDefEqProofs only [evB, evS, evE, evL, evI, evC, evO, asT, asL, wipeD, walkD, walkS, deref, R.bind_ok, ofO_some, onB_true, onB_false, toB, TL.len, partI, setAll, List.getElem?_cons_zero, List.getElem?_cons_succ, List.set_cons_zero, List.set_cons_succ, List.length_cons, List.length_nil, if_true, Option.map_some, Bool.not_true, Bool.not_false, G__law_few, e_joints hn hs1.lt]
  obtain ⟨ds, m2, e2, hd2, hlen, hq⟩ := evE_lc_dr (own := [4]) (t := .nm 4) (c := .no) (e := .ife (.and (.v 3) (.cmp .Eq (.call 1 (.cons (.v 0) (.cons (.int 2) .nil))) (.int 0))) (.int 0) (.call 1 (.cons (.v 0) (.cons (.bin .Add (.v 2) (.int 1)) .nil))))
    (fun d => ∃ i, d = .int i ∧ (0 ≤ i ∧ i ≤ (10 : Int) ^ 30)) hI hs1 (by have := spans_len_le hn; omega) (by
      intro p _ m3 s3 d3
      have e10 : (9 : Int) + 1 = 10 := rfl
      by_cases hx : x = 0
      · obtain ⟨y, m4, e4, hd4, y0, y2⟩ := e_pull (s := 2) s3 (by decide) (log2_small (by decide) (by decide))
        by_cases hy : y = 0
        · refine ⟨.int 0, m4, ?_, hd4, 0, rfl, by decide⟩
          simp -implicitDefEqProofs only [evB, evS, evE, evL, evI, evC, evO, asT, asL, wipeD, walkD, walkS, deref, R.bind_ok, ofO_some, onB_true, onB_false, toB, TL.len, partI, setAll, List.getElem?_cons_zero, List.getElem?_cons_succ, List.set_cons_zero, List.set_cons_succ, List.length_cons, List.length_nil, if_true, Option.map_some, Bool.not_true, Bool.not_false, G__law_few, hx, decide_true, e4, hy, eq_ii]
        · obtain ⟨z, m5, e5, hd5, z0, z1⟩ := e_pull (s := 10) (hd4.st s3) (by decide) (log2_small (by decide) (by decide))
          refine ⟨.int z, m5, ?_, hd4.trans hd5, z, rfl, by omega⟩
          simp -implicitDefEqProofs only [evB, evS, evE, evL, evI, evC, evO, asT, asL, wipeD, walkD, walkS, deref, R.bind_ok, ofO_some, onB_true, onB_false, toB, TL.len, partI, setAll, List.getElem?_cons_zero, List.getElem?_cons_succ, List.set_cons_zero, List.set_cons_succ, List.length_cons, List.length_nil, if_true, Option.map_some, Bool.not_true, Bool.not_false, G__law_few, hx, decide_true, e4, hy, eq_ii, decide_false, opBin, e10, e5]
      · obtain ⟨z, m5, e5, hd5, z0, z1⟩ := e_pull (s := 10) s3 (by decide) (log2_small (by decide) (by decide))
        refine ⟨.int z, m5, ?_, hd5, z, rfl, by omega⟩
        simp -implicitDefEqProofs only [evB, evS, evE, evL, evI, evC, evO, asT, asL, wipeD, walkD, walkS, deref, R.bind_ok, ofO_some, onB_true, onB_false, toB, TL.len, partI, setAll, List.getElem?_cons_zero, List.getElem?_cons_succ, List.set_cons_zero, List.set_cons_succ, List.length_cons, List.length_nil, if_true, Option.map_some, Bool.not_true, Bool.not_false, G__law_few, hx, decide_false, opBin, e10, e5])
  obtain ⟨nums, rfl, hN⟩ := nums_ok hlen hq
  refine ⟨nums, m2, ?_, hd1.trans hd2, hN⟩
  refine run_dr hs rfl (hd1.trans hd2) ltb_int ?_
  unfold b__law_few
  simp only [List.map_cons, List.map_nil, List.length_cons, List.length_nil, List.reduceReplicate, Nat.reduceAdd, Nat.reduceSub, List.cons_append, List.nil_append]
  rw [evB_nx (evS_set (d := .bl (decide (x = 0))) (m' := m1) ?h1)]
  case h1 => simp -implicitDefEqProofs only [evB, evS, evE, evL, evI, evC, evO, asT, asL, wipeD, walkD, walkS, deref, R.bind_ok, ofO_some, onB_true, onB_false, toB, TL.len, partI, setAll, List.getElem?_cons_zero, List.getElem?_cons_succ, List.set_cons_zero, List.set_cons_succ, List.length_cons, List.length_nil, if_true, Option.map_some, Bool.not_true, Bool.not_false, G__law_few, e1, eq_ii]
  simp -implicitDefEqProofs only [List.set_cons_succ, List.set_cons_zero]
  rw [evB_rt (evS_ret (d := intT nums) (m' := m2) ?h)]
  · rfl
  case h =>
    simp -implicitDefEqProofs only [evE_bi1 e2, bi_tuple_l, ofO_some]
end
end K85

set_option Elab.async false
set_option linter.all false
set_option maxRecDepth 100000
set_option maxHeartbeats 4000000
namespace K85
open PySem PySem.Spec PyProof.Rows L2 Ev
/-! ### the law's own lots -/
section
variable {m : Mem}
theorem in_int {x : Int} {l : List Int} : opCmp .In (.int x) (intT l) m = some (decide (x ∈ l)) := by
  simp only [opCmp, inD, deref]
  rw [go_map (g := Kd.int.p) fun _ => rfl]
  have h1 := Kd.int.sh (by decide) x
  have h2 : SeqAt.shaped (.list (l.map Kd.int.p)) = true := Kd.int.lst.sh (by decide) l
  simp only [toP]
  rw [show (PyData.int x) = Kd.int.p x from rfl, h1, h2]
  simp only [Bool.and_self, if_true]
  rw [any_map Kd.int x l]
theorem in_intL {x : Int} {l : List Int} : opCmp .In (.int x) (.lst (l.map .int)) m = some (decide (x ∈ l)) := in_int (m := m)
abbrev natT (l : List Nat) : D := .tup (l.map fun i => .int (i : Nat))
abbrev natL (l : List Nat) : D := .lst (l.map fun i => .int (i : Nat))
theorem natT_int (l : List Nat) : (l.map fun i => D.int (i : Nat)) = (l.map fun i => ((i : Nat) : Int)).map D.int := by simp
theorem mem_cast {i : Nat} {l : List Nat} : decide (((i : Nat) : Int) ∈ l.map fun i => ((i : Nat) : Int)) = decide (i ∈ l) := by
  rw [Bool.eq_iff_iff, decide_eq_true_eq, decide_eq_true_eq, List.mem_map]
  constructor
  · rintro ⟨j, hj, e⟩
    have : j = i := by omega
    subst this
    exact hj
  · intro h
    exact ⟨i, h, rfl⟩
theorem in_natT {i : Nat} {l : List Nat} : opCmp .In (.int (i : Nat)) (natT l) m = some (decide (i ∈ l)) := by
  unfold natT
  rw [natT_int, in_int, mem_cast]
theorem in_natL {i : Nat} {l : List Nat} : opCmp .In (.int (i : Nat)) (natL l) m = some (decide (i ∈ l)) := by
  unfold natL
  rw [natT_int, in_intL, mem_cast]
theorem nin_natT {i : Nat} {l : List Nat} : opCmp .NotIn (.int (i : Nat)) (natT l) m = some (!decide (i ∈ l)) := by
  have := in_natT (m := m) (i := i) (l := l)
  simp only [opCmp] at this ⊢
  rw [this]; rfl
theorem ltb_nat {n : Nat} {l : List Nat} : D.ltb n (natT l) = true := ltbL_map fun _ _ => rfl
def lawAll : Nat → List (List Nat)
  | 0 => [[]]
  | n + 1 => lawAll n ++ (lawAll n).map (· ++ [n])
def lawSets (n : Nat) : List (List Nat) := (lawAll n).filter fun l => decide (0 < l.length) && decide (l.length < n)
theorem lawAll_len : ∀ n, (lawAll n).length = 2 ^ n
  | 0 => rfl
  | n + 1 => by
    rw [lawAll, List.length_append, List.length_map, lawAll_len n, Nat.pow_succ]
    omega
theorem lawAll_le : ∀ {n : Nat} {l : List Nat}, l ∈ lawAll n → l.length ≤ n
  | 0, l, h => by
    simp [lawAll] at h
    simp [h]
  | n + 1, l, h => by
    rw [lawAll, List.mem_append, List.mem_map] at h
    rcases h with h | ⟨r, h, rfl⟩
    · have := lawAll_le h
      omega
    · have := lawAll_le h
      simp
      omega
def nmask (n : Nat) (l : List Nat) : List Bool := (List.range n).map fun i => decide (i ∈ l)
theorem nmask_get {n i : Nat} {l : List Nat} (h : i < n) : (nmask n l)[i]? = some (decide (i ∈ l)) := by
  unfold nmask
  rw [List.getElem?_map, List.getElem?_range h]
  rfl
theorem nmask_len {n : Nat} {l : List Nat} : (nmask n l).length = n := by simp [nmask]
def ledTo (nums : List Int) (n : Nat) (l : List Nat) (t : Nat) : Int := ((((spans n).zip nums).take t).map fun p => if (nmask n l)[p.1.1]? ≠ (nmask n l)[p.1.2]? then p.2 else 0).sum
theorem e_leads {n : Nat} {nums : List Int} {l : List Nat} {d : D} (hn : n ≤ 5) (hin : ∀ i : Nat, opCmp .In (.int (i : Nat)) d m = some (decide (i ∈ l))) (hm : memLt m.length m = true) :
    f__law_leads [intT nums, .int n, d] m = .ok (.int (outOf (spans n) nums (nmask n l))) m := by
  refine run_rt rfl hm rfl rfl ?_
  unfold b__law_leads
  simp only [List.map_cons, List.map_nil, List.length_cons, List.length_nil, List.reduceReplicate, Nat.reduceAdd, Nat.reduceSub, List.cons_append, List.nil_append]
  rw [evB_nx (evS_set (d := .int 0) (m' := m) rfl)]
  simp -implicitDefEqProofs only [List.set_cons_succ, List.set_cons_zero]
  obtain ⟨ρ', e, a, b, c, rfl⟩ := forL_go (m := m) (src := []) (e := fun p : (Nat × Nat) × Int => D.tup [pD p.1, .int p.2]) (g := fun d ρ1 m2 => (asT (G__law_leads [f__law_joints]) (.tup (.cons (.tup (.cons (.nm 4) (.cons (.nm 5) .nil))) (.cons (.nm 6) .nil))) d ρ1 m2).bind fun ρ2 m3 => evB (G__law_leads [f__law_joints]) l__law_leads_1 ρ2 m3) rfl
    (fun t ρ => ∃ a b c, ρ = [some (intT nums), some (.int n), some d, some (.int (ledTo nums n l t)), a, b, c]) ((spans n).zip nums) 0 [some (intT nums), some (.int n), some d, some (.int 0), none, none, none] ⟨none, none, none, rfl⟩ (by
      rintro t ⟨⟨i, j⟩, v⟩ ρ ht ⟨a, b, c, rfl⟩
      rw [Nat.zero_add]
      have hp := spans_lt (List.of_mem_zip (List.mem_of_getElem? ht)).1
      simp only at hp
      refine ⟨[some (intT nums), some (.int n), some d, some (.int (ledTo nums n l (t + 1))), some (.int (i : Nat)), some (.int (j : Nat)), some (.int v)], ?_, _, _, _, rfl⟩
      have hstep : ledTo nums n l (t + 1) = ledTo nums n l t + if decide (i ∈ l) = decide (j ∈ l) then 0 else v := by
        unfold ledTo
        rw [List.take_succ, ht, Option.toList_some, List.map_append, List.sum_append, List.map_cons, List.map_nil, List.sum_cons, List.sum_nil, nmask_get (show i < n by omega), nmask_get hp.2]
        simp only [ne_eq, Option.some.injEq, Int.add_zero, ite_not]
      simp -implicitDefEqProofs only [asT, asL, TL.len, R.bind_ok, List.set_cons_succ, List.set_cons_zero, List.length_cons, List.length_nil, if_true]
      unfold l__law_leads_1
      by_cases hc : decide (i ∈ l) = decide (j ∈ l)
      · rw [evB_nx (ρ' := [some (intT nums), some (.int n), some d, some (.int (ledTo nums n l (t + 1))), some (.int (i : Nat)), some (.int (j : Nat)), some (.int v)]) (m' := m) ?g1]
        · rfl
        case g1 =>
          rw [evS_F (m' := m) ?g2]
          · rw [hstep, if_pos hc, Int.add_zero]; rfl
          case g2 => simp -implicitDefEqProofs only [evB, evS, evE, evL, evI, evC, evO, asT, asL, wipeD, walkD, walkS, deref, R.bind_ok, ofO_some, onB_true, onB_false, toB, TL.len, partI, setAll, List.getElem?_cons_zero, List.getElem?_cons_succ, List.set_cons_zero, List.set_cons_succ, List.length_cons, List.length_nil, if_true, Option.map_some, Bool.not_true, Bool.not_false, hin, ne_bb, hc, decide_true]
      · rw [evB_nx (ρ' := [some (intT nums), some (.int n), some d, some (.int (ledTo nums n l (t + 1))), some (.int (i : Nat)), some (.int (j : Nat)), some (.int v)]) (m' := m) ?g1]
        · rfl
        case g1 =>
          rw [evS_T (m' := m) ?g2]
          · simp -implicitDefEqProofs only [evB, evS, evE, evL, evI, evC, evO, asT, asL, wipeD, walkD, walkS, deref, R.bind_ok, ofO_some, onB_true, onB_false, toB, TL.len, partI, setAll, List.getElem?_cons_zero, List.getElem?_cons_succ, List.set_cons_zero, List.set_cons_succ, List.length_cons, List.length_nil, if_true, Option.map_some, Bool.not_true, Bool.not_false, opBin, hstep, if_neg hc]
          case g2 => simp -implicitDefEqProofs only [evB, evS, evE, evL, evI, evC, evO, asT, asL, wipeD, walkD, walkS, deref, R.bind_ok, ofO_some, onB_true, onB_false, toB, TL.len, partI, setAll, List.getElem?_cons_zero, List.getElem?_cons_succ, List.set_cons_zero, List.set_cons_succ, List.length_cons, List.length_nil, if_true, Option.map_some, Bool.not_true, Bool.not_false, hin, ne_bb, hc, decide_false])
  rw [Nat.zero_add] at e
  rw [evB_nx ((evS_for (w := (((spans n).zip nums).map fun p => D.tup [pD p.1, .int p.2], [])) (m' := m) ?h2).trans e)]
  case h2 => simp -implicitDefEqProofs only [evB, evS, evE, evL, evI, evC, evO, asT, asL, wipeD, walkD, walkS, deref, R.bind_ok, ofO_some, onB_true, onB_false, toB, TL.len, partI, setAll, List.getElem?_cons_zero, List.getElem?_cons_succ, List.set_cons_zero, List.set_cons_succ, List.length_cons, List.length_nil, if_true, Option.map_some, Bool.not_true, Bool.not_false, G__law_leads, e_joints hn hm, intT, zip2_map, List.append_nil]
  have hall : ledTo nums n l ((spans n).zip nums).length = outOf (spans n) nums (nmask n l) := by
    unfold ledTo
    rw [List.take_length, out_sum]
  rw [hall, evB_rt (evS_ret (d := .int (outOf (spans n) nums (nmask n l))) (m' := m) rfl)]
  rfl
theorem nmask_of_fun {n : Nat} {q : Nat → Bool} : ∀ {i : Nat}, i ≤ n → ∃ l ∈ lawAll i, ∀ j, decide (j ∈ l) = (decide (j < i) && q j)
  | 0, _ => ⟨[], by simp [lawAll], fun j => by simp⟩
  | i + 1, h => by
    obtain ⟨l, hl, e⟩ := nmask_of_fun (n := n) (q := q) (i := i) (by omega)
    cases hq : q i with
    | false =>
      refine ⟨l, by rw [lawAll, List.mem_append]; exact .inl hl, fun j => ?_⟩
      rw [e j]
      by_cases hj : j = i
      · subst hj
        simp [hq]
      · have : decide (j < i + 1) = decide (j < i) := by rw [Bool.eq_iff_iff]; simp; omega
        rw [this]
    | true =>
      refine ⟨l ++ [i], by rw [lawAll, List.mem_append, List.mem_map]; exact .inr ⟨l, hl, rfl⟩, fun j => ?_⟩
      have e1 := e j
      by_cases hj : j = i
      · subst hj
        simp [hq]
      · have h1 : decide (j < i + 1) = decide (j < i) := by rw [Bool.eq_iff_iff]; simp; omega
        rw [h1, ← e1]
        simp [hj]
theorem lawAll_lt : ∀ {n : Nat} {l : List Nat}, l ∈ lawAll n → l.Nodup ∧ ∀ i ∈ l, i < n
  | 0, l, h => by
    simp [lawAll] at h
    simp [h]
  | n + 1, l, h => by
    rw [lawAll, List.mem_append, List.mem_map] at h
    rcases h with h | ⟨r, h, rfl⟩
    · obtain ⟨h1, h2⟩ := lawAll_lt h
      exact ⟨h1, fun i hi => by have := h2 i hi; omega⟩
    · obtain ⟨h1, h2⟩ := lawAll_lt h
      refine ⟨?_, ?_⟩
      · rw [List.nodup_append]
        refine ⟨h1, by simp, ?_⟩
        intro a ha b hb e
        have hb' : b = n := by simpa using hb
        have := h2 a ha
        omega
      · intro i hi
        rcases List.mem_append.mp hi with hi | hi
        · have := h2 i hi
          omega
        · have : i = n := by simpa using hi
          omega
/-- the law's lots are the program's -/
theorem law_lots {n : Nat} {b : List Bool} : b ∈ lotsOf n ↔ ∃ l ∈ lawSets n, nmask n l = b := by
  rw [mem_lotsOf]
  constructor
  · rintro ⟨h1, h2, h3⟩
    obtain ⟨l, hl, e⟩ := nmask_of_fun (n := n) (q := fun i => (b[i]?).getD false) (Nat.le_refl n)
    have hb : nmask n l = b := by
      apply List.ext_getElem?
      intro k
      by_cases hk : k < n
      · rw [nmask_get hk, e k, List.getElem?_eq_getElem (by omega)]
        simp [hk]
      · rw [List.getElem?_eq_none (by rw [nmask_len]; omega), List.getElem?_eq_none (by omega)]
    refine ⟨l, List.mem_filter.mpr ⟨hl, ?_⟩, hb⟩
    obtain ⟨hnd, hlt⟩ := lawAll_lt hl
    have hmem : ∀ i : Nat, i < n → (i ∈ l ↔ b[i]? = some true) := by
      intro i hi
      rw [← hb, nmask_get hi]
      simp
    simp only [Bool.and_eq_true, decide_eq_true_eq]
    constructor
    · obtain ⟨k, hk⟩ := List.mem_iff_getElem?.mp h2
      have := (List.getElem?_eq_some_iff.mp hk).1
      exact List.length_pos_of_mem ((hmem k (by omega)).mpr hk)
    · obtain ⟨k, hk⟩ := List.mem_iff_getElem?.mp h3
      have hkn := (List.getElem?_eq_some_iff.mp hk).1
      have hnk : k ∉ l := fun hkl => by
        have := (hmem k (by omega)).mp hkl
        rw [hk] at this
        simp at this
      have := sub_len (a := k :: l) (b := List.range n) (List.nodup_cons.mpr ⟨hnk, hnd⟩) (fun x hx => by
        rw [List.mem_range]
        rcases List.mem_cons.mp hx with rfl | hx
        · omega
        · exact hlt x hx)
      rw [List.length_cons, List.length_range] at this
      omega
  · rintro ⟨l, hl, rfl⟩
    obtain ⟨hl, hc⟩ := List.mem_filter.mp hl
    simp only [Bool.and_eq_true, decide_eq_true_eq] at hc
    obtain ⟨hnd, hlt⟩ := lawAll_lt hl
    refine ⟨nmask_len, ?_, ?_⟩
    · cases l with
      | nil => simp at hc
      | cons a r =>
        have := hlt a List.mem_cons_self
        exact List.mem_of_getElem? ((nmask_get this).trans (by simp))
    · apply Classical.byContradiction
      intro hno
      have hall : ∀ i, i < n → i ∈ l := by
        intro i hi
        apply Classical.byContradiction
        intro hil
        exact hno (List.mem_of_getElem? ((nmask_get hi).trans (by simp [hil])))
      have := sub_len (a := List.range n) (b := l) List.nodup_range (fun x hx => hall x (List.mem_range.mp hx))
      rw [List.length_range] at this
      omega
theorem minI_ext {a b : List Int} {x : Int} (h : ∀ y, y ∈ a ↔ y ∈ b) (hb : minI b = some x) : minI a = some x := by
  obtain ⟨h1, h2⟩ := minI_mem hb
  cases ha : minI a with
  | none =>
    cases a with
    | nil => exact absurd ((h x).mpr h1) List.not_mem_nil
    | cons c r => cases ha
  | some z =>
    obtain ⟨h3, h4⟩ := minI_mem ha
    have h5 := h2 z ((h z).mp h3)
    have h6 := h4 x ((h x).mpr h1)
    congr 1
    omega
end
end K85

set_option Elab.async false
set_option linter.all false
set_option maxRecDepth 100000
set_option maxHeartbeats 4000000
namespace K85
open PySem PySem.Spec PyProof.Rows L2 Ev
/-! ### the law's own judge -/
theorem evE_cmp {Γ : Gam} {o : CmpOp} {a b : E} {ρ : Ev.Env} {m m1 m2 : Mem} {x y : D} (h1 : evE Γ a ρ m = .ok x m1) (h2 : evE Γ b ρ m1 = .ok y m2) : evE Γ (.cmp o a b) ρ m = ofO ((opCmp o x y m2).map .bl) m2 := by
  simp only [evE, h1, h2, R.bind_ok]
theorem evE_v {Γ : Gam} {ρ : Ev.Env} {m : Mem} {i : Nat} {d : D} (h : ρ[i]? = some (some d)) : evE Γ (.v i) ρ m = .ok d m := by
  simp only [evE, h]
section
variable {isles : List Str} {m : Mem}
theorem e_whole0 {v : Int} (hm : memLt m.length m = true) : f__law_is_whole [.int v, .int 0, .non] m = .ok (.bl (decide (0 ≤ v))) m := by
  refine run_rt rfl hm rfl rfl ?_
  unfold b__law_is_whole
  simp only [List.map_cons, List.map_nil, List.length_cons, List.length_nil, List.reduceReplicate, Nat.reduceAdd, Nat.reduceSub, List.cons_append, List.nil_append]
  rw [evB_guard (b := decide (v < 0)) (m' := m) ?h1]
  case h1 => simp -implicitDefEqProofs only [evB, evS, evE, evL, evI, evC, evO, asT, asL, wipeD, walkD, walkS, deref, R.bind_ok, ofO_some, onB_true, onB_false, toB, TL.len, partI, setAll, List.getElem?_cons_zero, List.getElem?_cons_succ, List.set_cons_zero, List.set_cons_succ, List.length_cons, List.length_nil, if_true, Option.map_some, Bool.not_true, Bool.not_false, isiD, lt_ii]
  rw [evB_rt (evS_ret (d := .bl true) (m' := m) ?h2)]
  case h2 => simp -implicitDefEqProofs only [evB, evS, evE, evL, evI, evC, evO, asT, asL, wipeD, walkD, walkS, deref, R.bind_ok, ofO_some, onB_true, onB_false, toB, TL.len, partI, setAll, List.getElem?_cons_zero, List.getElem?_cons_succ, List.set_cons_zero, List.set_cons_succ, List.length_cons, List.length_nil, if_true, Option.map_some, Bool.not_true, Bool.not_false, is_n, decide_true]
  have : decide (0 ≤ v) = !decide (v < 0) := by rw [Bool.eq_iff_iff]; simp
  rw [this, retV_ite]
  cases decide (v < 0) <;> rfl
theorem e_whole {v lo hi : Int} (hm : memLt m.length m = true) : f__law_is_whole [.int v, .int lo, .int hi] m = .ok (.bl (decide (lo ≤ v) && decide (v ≤ hi))) m := by
  refine run_rt rfl hm rfl rfl ?_
  unfold b__law_is_whole
  simp only [List.map_cons, List.map_nil, List.length_cons, List.length_nil, List.reduceReplicate, Nat.reduceAdd, Nat.reduceSub, List.cons_append, List.nil_append]
  rw [evB_guard (b := decide (v < lo)) (m' := m) ?h1]
  case h1 => simp -implicitDefEqProofs only [evB, evS, evE, evL, evI, evC, evO, asT, asL, wipeD, walkD, walkS, deref, R.bind_ok, ofO_some, onB_true, onB_false, toB, TL.len, partI, setAll, List.getElem?_cons_zero, List.getElem?_cons_succ, List.set_cons_zero, List.set_cons_succ, List.length_cons, List.length_nil, if_true, Option.map_some, Bool.not_true, Bool.not_false, isiD, lt_ii]
  rw [evB_rt (evS_ret (d := .bl (decide (v ≤ hi))) (m' := m) ?h2)]
  case h2 => simp -implicitDefEqProofs only [evB, evS, evE, evL, evI, evC, evO, asT, asL, wipeD, walkD, walkS, deref, R.bind_ok, ofO_some, onB_true, onB_false, toB, TL.len, partI, setAll, List.getElem?_cons_zero, List.getElem?_cons_succ, List.set_cons_zero, List.set_cons_succ, List.length_cons, List.length_nil, if_true, Option.map_some, Bool.not_true, Bool.not_false, is_n, reduceCtorEq, decide_false, le_ii]
  have : decide (lo ≤ v) = !decide (v < lo) := by rw [Bool.eq_iff_iff]; simp
  rw [this, retV_ite]
  cases decide (v < lo) <;> rfl
theorem e_lpair {a b : D} (hm : memLt m.length m = true) : f__law_is_pair [.tup [a, b]] m = .ok (.bl true) m := by
  refine run_rt rfl hm rfl rfl ?_
  unfold b__law_is_pair
  simp only [List.map_cons, List.map_nil, List.length_cons, List.length_nil, List.reduceReplicate, Nat.reduceAdd, Nat.reduceSub, List.cons_append, List.nil_append]
  rw [evB_rt (evS_ret (d := .bl true) (m' := m) ?h)]
  · rfl
  case h =>
    simp -implicitDefEqProofs only [evB, evS, evE, evL, evI, evC, evO, asT, asL, wipeD, walkD, walkS, deref, R.bind_ok, ofO_some, onB_true, onB_false, toB, TL.len, partI, setAll, List.getElem?_cons_zero, List.getElem?_cons_succ, List.set_cons_zero, List.set_cons_succ, List.length_cons, List.length_nil, if_true, Option.map_some, Bool.not_true, Bool.not_false, isiD, bi_len_t, eq_ii]
    simp
abbrev nmAt (l : List Str) (i : Nat) : Str := (l[i]?).getD (Str.ofString "")
theorem nmAt_lt {l : List Str} {i : Nat} (h : i < l.length) : nmAt l i = l[i] := by
  unfold nmAt
  rw [List.getElem?_eq_getElem h]
  rfl
def spotsOf (isles names : List Str) : List Nat := (List.range isles.length).filter fun i => decide (nmAt isles i ∈ names)
theorem spots_names {names : List Str} : (spotsOf isles names).map (fun i => nmAt isles i) = isles.filter fun x => decide (x ∈ names) := by
  have key : ∀ (pre l : List Str), (((List.range' pre.length l.length).filter fun i => decide (nmAt (pre ++ l) i ∈ names)).map fun i => nmAt (pre ++ l) i) = l.filter fun x => decide (x ∈ names) := by
    intro pre l
    induction l generalizing pre with
    | nil => rfl
    | cons a r ih =>
      have := ih (pre ++ [a])
      rw [List.length_append, List.length_singleton, List.append_assoc, List.singleton_append] at this
      rw [List.length_cons, List.range'_succ, List.filter_cons, List.filter_cons]
      have e : nmAt (pre ++ a :: r) pre.length = a := by simp [nmAt]
      rw [e]
      by_cases h : a ∈ names
      · rw [if_pos (decide_eq_true h), if_pos (decide_eq_true h), List.map_cons, e, this]
      · rw [if_neg (by simp [h]), if_neg (by simp [h]), this]
  have := key [] isles
  rw [List.nil_append, List.length_nil, ← List.range_eq_range'] at this
  exact this
theorem e_spots {names : List Str} (hl : okAll isles) (hn : okAll names) (h5 : isles.length ≤ 20) (hm : memLt m.length m = true) :
    f__law_spots [.tup (isles.map .str), .tup (names.map .str)] m = .ok (if isLot isles names then natL (spotsOf isles names) else .non) m := by
  have hlt : D.ltb m.length (if isLot isles names then natL (spotsOf isles names) else .non) = true := by
    split
    · exact ltbL_map fun _ _ => rfl
    · rfl
  have hfv : finV m.length m (if isLot isles names then natL (spotsOf isles names) else .non) = (if isLot isles names then natL (spotsOf isles names) else .non) := finV_lt hlt
  refine run_rt rfl hm hlt hfv ?_
  unfold b__law_spots
  simp only [List.map_cons, List.map_nil, List.length_cons, List.length_nil, List.reduceReplicate, Nat.reduceAdd, Nat.reduceSub, List.cons_append, List.nil_append]
  by_cases h : 0 < names.length ∧ names.length < isles.length
  · rw [evB_nx (ρ' := [some (.tup (isles.map .str)), some (.tup (names.map .str)), none, none]) (m' := m) ?h1]
    case h1 =>
      have e1 : (0 : Int) < (names.length : Nat) := by omega
      have e2 : ((names.length : Nat) : Int) < (isles.length : Nat) := by omega
      rw [evS_F (m' := m) ?h2]
      · rfl
      case h2 => simp -implicitDefEqProofs only [evB, evS, evE, evL, evI, evC, evO, asT, asL, wipeD, walkD, walkS, deref, R.bind_ok, ofO_some, onB_true, onB_false, toB, TL.len, partI, setAll, List.getElem?_cons_zero, List.getElem?_cons_succ, List.set_cons_zero, List.set_cons_succ, List.length_cons, List.length_nil, if_true, Option.map_some, Bool.not_true, Bool.not_false, isiD, bi_len_t, List.length_map, lt_ii, e1, e2, decide_true]
    have hsl : (spotsOf isles names).length ≤ isles.length := by
      have := List.length_filter_le (fun i => decide (nmAt isles i ∈ names)) (List.range isles.length)
      rw [List.length_range] at this
      exact this
    rw [evB_nx (evS_set (d := natL (spotsOf isles names)) (m' := m) ?h3)]
    case h3 =>
      have hr : rngI [D.int (isles.length : Nat)] = some ((List.range isles.length).map fun i => D.int (i : Nat)) := by
        unfold rngI
        simp only
        rw [if_pos (by omega)]
        simp
      refine evE_lc (w := ((List.range isles.length).map fun i => .int (i : Nat), [])) (m1 := m) ?_ ?_ ?_
      · simp -implicitDefEqProofs only [evB, evS, evE, evL, evI, evC, evO, asT, asL, wipeD, walkD, walkS, deref, R.bind_ok, ofO_some, onB_true, onB_false, toB, TL.len, partI, setAll, List.getElem?_cons_zero, List.getElem?_cons_succ, List.set_cons_zero, List.set_cons_succ, List.length_cons, List.length_nil, if_true, Option.map_some, Bool.not_true, Bool.not_false, bi_len_t, List.length_map, hr]
      · refine lcL_if (p := fun i => decide (nmAt isles i ∈ names)) (o := fun i => D.int (i : Nat)) rfl ?_
        intro i hi
        rw [List.mem_range] at hi
        have hat := List.getElem?_eq_getElem hi
        have ha := atI_map (f := D.str) hat
        simp -implicitDefEqProofs only [evB, evS, evE, evL, evI, evC, evO, asT, asL, wipeD, walkD, walkS, deref, R.bind_ok, ofO_some, onB_true, onB_false, toB, TL.len, partI, setAll, List.getElem?_cons_zero, List.getElem?_cons_succ, List.set_cons_zero, List.set_cons_succ, List.length_cons, List.length_nil, if_true, Option.map_some, Bool.not_true, Bool.not_false, ix_t, ha, in_str (hl _ (List.getElem_mem hi)) hn, nmAt_lt hi]
        cases decide (isles[i] ∈ names) <;> simp
      · rw [List.length_map]
        exact sizeOk_pow (Nat.le_trans hsl (by omega))
    simp -implicitDefEqProofs only [List.set_cons_succ, List.set_cons_zero]
    rw [evB_rt (evS_ret (d := if isLot isles names then natL (spotsOf isles names) else .non) (m' := m) ?h4)]
    · rfl
    case h4 =>
      have hE : evE (G__law_spots []) (.lc [3] (.ix (.v 0) (.v 3)) (.nm 3) (.seq (.v 2)) .no) [some (.tup (isles.map .str)), some (.tup (names.map .str)), some (natL (spotsOf isles names)), none] m = .ok (.lst ((isles.filter fun x => decide (x ∈ names)).map .str)) m := by
        rw [← spots_names, List.map_map]
        refine evE_lc (w := ((spotsOf isles names).map fun i => .int (i : Nat), [])) (m1 := m) ?_ ?_ ?_
        · simp -implicitDefEqProofs only [evB, evS, evE, evL, evI, evC, evO, asT, asL, wipeD, walkD, walkS, deref, R.bind_ok, ofO_some, onB_true, onB_false, toB, TL.len, partI, setAll, List.getElem?_cons_zero, List.getElem?_cons_succ, List.set_cons_zero, List.set_cons_succ, List.length_cons, List.length_nil, if_true, Option.map_some, Bool.not_true, Bool.not_false]
        · refine lcL_all rfl ?_
          intro i hi
          have hi' := (List.mem_filter.mp hi).1
          rw [List.mem_range] at hi'
          have hat := List.getElem?_eq_getElem hi'
          have ha := atI_map (f := D.str) hat
          simp -implicitDefEqProofs only [evB, evS, evE, evL, evI, evC, evO, asT, asL, wipeD, walkD, walkS, deref, R.bind_ok, ofO_some, onB_true, onB_false, toB, TL.len, partI, setAll, List.getElem?_cons_zero, List.getElem?_cons_succ, List.set_cons_zero, List.set_cons_succ, List.length_cons, List.length_nil, if_true, Option.map_some, Bool.not_true, Bool.not_false, ix_t, ha, Function.comp, nmAt_lt hi']
        · rw [List.length_map]
          exact sizeOk_pow (by omega)
      have hf : okAll (isles.filter fun x => decide (x ∈ names)) := fun x hx => hl x (List.mem_filter.mp hx).1
      have hres : isLot isles names = decide (names = isles.filter fun x => decide (x ∈ names)) := by
        unfold isLot
        rw [decide_eq_true h, Bool.true_and]
      have hE2 := evE_bi1 (b := .tuple) hE
      rw [bi_tuple_l, ofO_some] at hE2
      rw [hres]
      have hE3 : evE (G__law_spots []) (.cmp .Eq (.v 1) (.bi .tuple (.cons (.lc [3] (.ix (.v 0) (.v 3)) (.nm 3) (.seq (.v 2)) .no) .nil))) [some (.tup (isles.map .str)), some (.tup (names.map .str)), some (natL (spotsOf isles names)), none] m = .ok (.bl (decide (names = isles.filter fun x => decide (x ∈ names)))) m := by
        rw [evE_cmp (evE_v rfl) hE2, eq_strT hn hf]
        rfl
      rw [evE, hE3]
      cases decide (names = isles.filter fun x => decide (x ∈ names)) <;> simp -implicitDefEqProofs only [evB, evS, evE, evL, evI, evC, evO, asT, asL, wipeD, walkD, walkS, deref, R.bind_ok, ofO_some, onB_true, onB_false, toB, TL.len, partI, setAll, List.getElem?_cons_zero, List.getElem?_cons_succ, List.set_cons_zero, List.set_cons_succ, List.length_cons, List.length_nil, if_true, Option.map_some, Bool.not_true, Bool.not_false, Bool.false_eq_true, if_false]
  · have hn' : isLot isles names = false := by
      unfold isLot
      rw [decide_eq_false h, Bool.false_and]
    rw [hn', evB_rt (d := .non) (ρ' := [some (.tup (isles.map .str)), some (.tup (names.map .str)), none, none]) (m' := m) ?h1]
    · rfl
    case h1 =>
      rw [evS_T (m' := m) ?h2]
      · rfl
      case h2 =>
        by_cases e1 : (0 : Int) < (names.length : Nat)
        · have e2 : ¬ ((names.length : Nat) : Int) < (isles.length : Nat) := by omega
          simp -implicitDefEqProofs only [evB, evS, evE, evL, evI, evC, evO, asT, asL, wipeD, walkD, walkS, deref, R.bind_ok, ofO_some, onB_true, onB_false, toB, TL.len, partI, setAll, List.getElem?_cons_zero, List.getElem?_cons_succ, List.set_cons_zero, List.set_cons_succ, List.length_cons, List.length_nil, if_true, Option.map_some, Bool.not_true, Bool.not_false, isiD, bi_len_t, List.length_map, lt_ii, e1, e2, decide_true, decide_false, Bool.not_false]
        · simp -implicitDefEqProofs only [evB, evS, evE, evL, evI, evC, evO, asT, asL, wipeD, walkD, walkS, deref, R.bind_ok, ofO_some, onB_true, onB_false, toB, TL.len, partI, setAll, List.getElem?_cons_zero, List.getElem?_cons_succ, List.set_cons_zero, List.set_cons_succ, List.length_cons, List.length_nil, if_true, Option.map_some, Bool.not_true, Bool.not_false, isiD, bi_len_t, List.length_map, lt_ii, e1, decide_false, Bool.not_false]
theorem spots_mask {names : List Str} : nmask isles.length (spotsOf isles names) = maskOf isles names := by
  apply List.ext_getElem?
  intro k
  by_cases hk : k < isles.length
  · rw [nmask_get hk, List.getElem?_map, List.getElem?_eq_getElem hk, Option.map_some]
    congr 1
    rw [Bool.eq_iff_iff, decide_eq_true_eq, decide_eq_true_eq]
    unfold spotsOf
    rw [List.mem_filter, List.mem_range, nmAt_lt hk]
    simp [hk]
  · rw [List.getElem?_eq_none (by rw [nmask_len]; omega), List.getElem?_eq_none (by rw [List.length_map]; omega)]
theorem zeros_eq {n : Nat} : (List.replicate n [D.int 0]).flatten = (List.replicate n (0 : Int)).map D.int := by
  induction n with
  | zero => rfl
  | succ n ih => rw [List.replicate_succ, List.flatten_cons, ih]; rfl
theorem op_rep {n : Nat} (h : n ≤ 5) : opBin .Mult (.lst [.int 0]) (.int (n : Nat)) m = .ok (.lst ((List.replicate n (0 : Int)).map .int)) m := by
  have h1 : -(2 ^ 63) ≤ ((n : Nat) : Int) ∧ ((n : Nat) : Int) < 2 ^ 63 ∧ [D.int 0].length * ((n : Nat) : Int).toNat ≤ lim := by
    rw [Int.toNat_natCast]
    refine ⟨by omega, by omega, ?_⟩
    rw [List.length_singleton]
    unfold lim
    omega
  have h2 : opBin .Mult (.lst [.int 0]) (.int (n : Nat)) m = if -(2 ^ 63) ≤ ((n : Nat) : Int) ∧ ((n : Nat) : Int) < 2 ^ 63 ∧ [D.int 0].length * ((n : Nat) : Int).toNat ≤ lim then .ok (.lst (List.replicate ((n : Nat) : Int).toNat [D.int 0]).flatten) m else .bad := by
    simp -implicitDefEqProofs only [opBin, deref]
  rw [h2, if_pos h1, Int.toNat_natCast, zeros_eq]
abbrev fρ (isles : List Str) (nums fl : List Int) (x y : Str) (c : Int) (names : List Str) (s7 s8 s9 s10 s11 : Option D) : Ev.Env := [some (.tup (isles.map .str)), some (intT nums), some (.tup [.str x, .str y, .int c]), some (.tup [.tup (names.map .str), intT fl]), some (.str x), some (.str y), some (.int c), s7, s8, s9, s10, s11, none]
theorem e_fits {nums fl : List Int} {x y : Str} {c : Int} {names : List Str} (hl : okAll isles) (hx : PyData.canLay0 (.str x) = true) (hy : PyData.canLay0 (.str y) = true) (hn : okAll names) (h5 : isles.length ≤ 5) (hN : nums.length ≤ 1000) (hA : fl.length = nums.length) (hB : ((fl.zip nums).all fun p => decide (-p.2 ≤ p.1) && decide (p.1 ≤ p.2)) = true) (hm : memLt m.length m = true) :
    f__law_between_fits [.tup (isles.map .str), intT nums, .tup [.str x, .str y, .int c], .tup [.tup (names.map .str), intT fl]] m = .ok (.bl (betwShown isles nums x y c names fl)) m := by
  have i0 : ∀ m, ixD (.tup [.tup (names.map .str), intT fl]) (.int 0) m = some (.tup (names.map .str)) := fun m => by
    rw [ix_t]; exact atI_at (i := 0) rfl
  have i1 : ∀ m, ixD (.tup [.tup (names.map .str), intT fl]) (.int 1) m = some (intT fl) := fun m => by
    rw [ix_t]; exact atI_at (i := 1) rfl
  have first : evS (G__law_between_fits [f__law_is_whole, f__law_joints, f__law_leads, f__law_is_pair, f__law_spots]) (.set (.tup (.cons (.nm 4) (.cons (.nm 5) (.cons (.nm 6) .nil)))) (.v 2)) [some (.tup (isles.map .str)), some (intT nums), some (.tup [.str x, .str y, .int c]), some (.tup [.tup (names.map .str), intT fl]), none, none, none, none, none, none, none, none, none] m = .ok (.nx, fρ isles nums fl x y c names none none none none none) m := by
    simp -implicitDefEqProofs only [evB, evS, evE, evL, evI, evC, evO, asT, asL, wipeD, walkD, walkS, deref, R.bind_ok, ofO_some, onB_true, onB_false, toB, TL.len, partI, setAll, List.getElem?_cons_zero, List.getElem?_cons_succ, List.set_cons_zero, List.set_cons_succ, List.length_cons, List.length_nil, if_true, Option.map_some, Bool.not_true, Bool.not_false, asL]
  have g1 : evE (G__law_between_fits [f__law_is_whole, f__law_joints, f__law_leads, f__law_is_pair, f__law_spots]) (.or (.cmp .NotIn (.v 4) (.v 0)) (.or (.cmp .NotIn (.v 5) (.v 0)) (.or (.cmp .Eq (.v 4) (.v 5)) (.not (.call 0 (.cons (.v 6) (.cons (.int 0) (.cons .non .nil)))))))) (fρ isles nums fl x y c names none none none none none) m = .ok (.bl (!((decide (x ∈ isles) && (decide (y ∈ isles) && !decide (x = y))) && decide (0 ≤ c)))) m := by
    simp -implicitDefEqProofs only [evB, evS, evE, evL, evI, evC, evO, asT, asL, wipeD, walkD, walkS, deref, R.bind_ok, ofO_some, onB_true, onB_false, toB, TL.len, partI, setAll, List.getElem?_cons_zero, List.getElem?_cons_succ, List.set_cons_zero, List.set_cons_succ, List.length_cons, List.length_nil, if_true, Option.map_some, Bool.not_true, Bool.not_false, nin_str hx hl, nin_str hy hl, eq_ss hx hy, G__law_between_fits, e_whole0 hm]
    cases decide (x ∈ isles) <;> cases decide (y ∈ isles) <;> cases decide (x = y) <;> cases decide (0 ≤ c) <;> rfl
  have g2 : evE (G__law_between_fits [f__law_is_whole, f__law_joints, f__law_leads, f__law_is_pair, f__law_spots]) (.ife (.call 3 (.cons (.v 3) .nil)) (.call 4 (.cons (.v 0) (.cons (.ix (.v 3) (.int 0)) .nil))) .non) (fρ isles nums fl x y c names none none none none none) m = .ok (if isLot isles names then natL (spotsOf isles names) else .non) m := by
    simp -implicitDefEqProofs only [evB, evS, evE, evL, evI, evC, evO, asT, asL, wipeD, walkD, walkS, deref, R.bind_ok, ofO_some, onB_true, onB_false, toB, TL.len, partI, setAll, List.getElem?_cons_zero, List.getElem?_cons_succ, List.set_cons_zero, List.set_cons_succ, List.length_cons, List.length_nil, if_true, Option.map_some, Bool.not_true, Bool.not_false, G__law_between_fits, e_lpair hm, i0, e_spots hl hn (show isles.length ≤ 20 by omega) hm]
  have g3 : evE (G__law_between_fits [f__law_is_whole, f__law_joints, f__law_leads, f__law_is_pair, f__law_spots]) (.or (.cmp .Is (.v 7) .non) (.or (.cmp .Eq (.cmp .In (.v 4) (.ix (.v 3) (.int 0))) (.cmp .In (.v 5) (.ix (.v 3) (.int 0)))) (.cmp .NotEq (.call 2 (.cons (.v 1) (.cons (.bi .len (.cons (.v 0) .nil)) (.cons (.v 7) .nil)))) (.v 6)))) (fρ isles nums fl x y c names (some (if isLot isles names then natL (spotsOf isles names) else .non)) none none none none) m = .ok (.bl (!(isLot isles names && (!decide (decide (x ∈ names) = decide (y ∈ names)) && decide (outOf (spans isles.length) nums (maskOf isles names) = c))))) m := by
    cases hlot : isLot isles names with
    | false => simp -implicitDefEqProofs only [evB, evS, evE, evL, evI, evC, evO, asT, asL, wipeD, walkD, walkS, deref, R.bind_ok, ofO_some, onB_true, onB_false, toB, TL.len, partI, setAll, List.getElem?_cons_zero, List.getElem?_cons_succ, List.set_cons_zero, List.set_cons_succ, List.length_cons, List.length_nil, if_true, Option.map_some, Bool.not_true, Bool.not_false, is_n, Bool.false_eq_true, if_false, decide_true, Bool.false_and, Bool.not_false]
    | true =>
      have hle := e_leads (m := m) (nums := nums) (l := spotsOf isles names) (d := natL (spotsOf isles names)) h5 (fun i => in_natL) hm
      rw [spots_mask] at hle
      simp -implicitDefEqProofs only [evB, evS, evE, evL, evI, evC, evO, asT, asL, wipeD, walkD, walkS, deref, R.bind_ok, ofO_some, onB_true, onB_false, toB, TL.len, partI, setAll, List.getElem?_cons_zero, List.getElem?_cons_succ, List.set_cons_zero, List.set_cons_succ, List.length_cons, List.length_nil, if_true, Option.map_some, Bool.not_true, Bool.not_false, is_n, reduceCtorEq, decide_false, i0, in_str hx hn, in_str hy hn, eq_bb, bi_len_t, List.length_map, G__law_between_fits, hle, ne_ii]
      cases decide (decide (x ∈ names) = decide (y ∈ names)) <;> rfl
  have g4 : evE (G__law_between_fits [f__law_is_whole, f__law_joints, f__law_leads, f__law_is_pair, f__law_spots]) (.or (.not (.isi .tuple (.ix (.v 3) (.int 1)))) (.cmp .NotEq (.bi .len (.cons (.ix (.v 3) (.int 1)) .nil)) (.bi .len (.cons (.v 1) .nil)))) (fρ isles nums fl x y c names (some (if isLot isles names then natL (spotsOf isles names) else .non)) none none none none) m = .ok (.bl false) m := by
    simp -implicitDefEqProofs only [evB, evS, evE, evL, evI, evC, evO, asT, asL, wipeD, walkD, walkS, deref, R.bind_ok, ofO_some, onB_true, onB_false, toB, TL.len, partI, setAll, List.getElem?_cons_zero, List.getElem?_cons_succ, List.set_cons_zero, List.set_cons_succ, List.length_cons, List.length_nil, if_true, Option.map_some, Bool.not_true, Bool.not_false, i1, isiD, bi_len_t, List.length_map, hA, ne_ii, decide_true]
  by_cases c1 : ((decide (x ∈ isles) && (decide (y ∈ isles) && !decide (x = y))) && decide (0 ≤ c)) = true
  · by_cases c2 : (isLot isles names && (!decide (decide (x ∈ names) = decide (y ∈ names)) && decide (outOf (spans isles.length) nums (maskOf isles names) = c))) = true
    · have hxy : x ≠ y := by
        intro e
        subst e
        simp at c1
      have hlot : isLot isles names = true := by
        simp only [Bool.and_eq_true] at c2
        exact c2.1
      have hres : betwShown isles nums x y c names fl = decide (outAcc (List.replicate isles.length 0) ((spans isles.length).zip fl) = dueOf isles x y c) := by
        have : isFlow isles nums x y c fl = decide (outAcc (List.replicate isles.length 0) ((spans isles.length).zip fl) = dueOf isles x y c) := by
          unfold isFlow
          rw [decide_eq_true hA, hB, Bool.true_and, Bool.true_and]
        unfold betwShown
        rw [this]
        simp only [Bool.and_eq_true] at c1 c2
        rw [c1.1.1, c1.1.2.1, c1.1.2.2, c1.2, c2.1, c2.2.1, c2.2.2]
        simp
      have hs := spans_len_le h5
      refine run_rtM (m1 := m ++ [.lst ((outAcc (List.replicate isles.length 0) ((spans isles.length).zip fl)).map .int)]) rfl hm rfl rfl (by simp) ?_
      unfold b__law_between_fits
      simp only [List.map_cons, List.map_nil, List.length_cons, List.length_nil, List.reduceReplicate, Nat.reduceAdd, Nat.reduceSub, List.cons_append, List.nil_append]
      rw [evB_nx first, evB_guard g1, c1, Bool.not_true, if_neg (by decide), evB_nx (evS_set g2)]
      simp -implicitDefEqProofs only [List.set_cons_succ, List.set_cons_zero]
      rw [evB_guard g3, c2, Bool.not_true, if_neg (by decide), evB_guard g4, if_neg (by decide)]
      rw [evB_nx (evS_set (d := .ref m.length) (m' := m ++ [.lst ((List.replicate isles.length (0 : Int)).map .int)]) ?h6)]
      case h6 =>
        have hz1 : Ev.sizeOk (0 + 1) = true := by decide
        simp -implicitDefEqProofs only [evB, evS, evE, evL, evI, evC, evO, asT, asL, wipeD, walkD, walkS, deref, R.bind_ok, ofO_some, onB_true, onB_false, toB, TL.len, partI, setAll, List.getElem?_cons_zero, List.getElem?_cons_succ, List.set_cons_zero, List.set_cons_succ, List.length_cons, List.length_nil, if_true, Option.map_some, Bool.not_true, Bool.not_false, hz1, bi_len_t, List.length_map, op_rep h5, toM]
      simp -implicitDefEqProofs only [List.set_cons_succ, List.set_cons_zero]
      have hM0 : ∀ o : List Int, memLt (m ++ [MO.lst (o.map .int)]).length (m ++ [MO.lst (o.map .int)]) = true := fun o => memLt_app hm fun mo h => by
        simp only [List.mem_singleton] at h
        subst h
        exact ltbL_map fun _ _ => rfl
      obtain ⟨ρ', m', e, s9, s10, s11, rfl, rfl⟩ := forL_goM (src := []) (e := fun p : (Nat × Nat) × Int × Int => D.tup [pD p.1, .int p.2.1, .int p.2.2])
        (g := fun d ρ1 m2 => (asT (G__law_between_fits [f__law_is_whole, f__law_joints, f__law_leads, f__law_is_pair, f__law_spots]) (.tup (.cons (.nm 9) (.cons (.nm 10) (.cons (.nm 11) .nil)))) d ρ1 m2).bind fun ρ2 m3 => evB (G__law_between_fits [f__law_is_whole, f__law_joints, f__law_leads, f__law_is_pair, f__law_spots]) l__law_between_fits_1 ρ2 m3)
        (fun t ρ mm => ∃ s9 s10 s11, ρ = fρ isles nums fl x y c names (some (if isLot isles names then natL (spotsOf isles names) else .non)) (some (.ref m.length)) s9 s10 s11 ∧ mm = m ++ [.lst ((outAcc (List.replicate isles.length 0) (((spans isles.length).zip fl).take t)).map .int)])
        (fun _ _ _ _ => rfl) ((spans isles.length).zip (nums.zip fl)) 0 (fρ isles nums fl x y c names (some (if isLot isles names then natL (spotsOf isles names) else .non)) (some (.ref m.length)) none none none) (m ++ [.lst ((List.replicate isles.length (0 : Int)).map .int)]) ⟨none, none, none, rfl, rfl⟩ (by
          rintro t ⟨⟨i, j⟩, b, v⟩ ρ mm ht ⟨s9, s10, s11, rfl, rfl⟩
          rw [Nat.zero_add]
          rw [List.getElem?_zip_eq_some, List.getElem?_zip_eq_some] at ht
          obtain ⟨t1, t2, t3⟩ := ht
          simp only at t1 t2 t3
          have hp := spans_lt (List.mem_of_getElem? t1)
          simp only at hp
          have htz : ((spans isles.length).zip fl)[t]? = some ((i, j), v) := List.getElem?_zip_eq_some.mpr ⟨t1, t3⟩
          have hbv := List.all_eq_true.mp hB (v, b) (List.mem_of_getElem? (List.getElem?_zip_eq_some.mpr ⟨t3, t2⟩))
          simp only [Bool.and_eq_true, decide_eq_true_eq] at hbv
          have hstep : outAcc (List.replicate isles.length 0) (((spans isles.length).zip fl).take (t + 1)) = flowW (outAcc (List.replicate isles.length 0) (((spans isles.length).zip fl).take t)) i j (-v) := by
            rw [List.take_succ, htz, Option.toList_some, outAcc_snoc]
          rw [hstep]
          have hlo : (outAcc (List.replicate isles.length 0) (((spans isles.length).zip fl).take t)).length = isles.length := by rw [outAcc_len, List.length_replicate]
          generalize outAcc (List.replicate isles.length 0) (((spans isles.length).zip fl).take t) = ws at hlo ⊢
          refine ⟨fρ isles nums fl x y c names (some (if isLot isles names then natL (spotsOf isles names) else .non)) (some (.ref m.length)) (some (pD (i, j))) (some (.int b)) (some (.int v)), m ++ [.lst ((flowW ws i j (-v)).map .int)], ?_, _, _, _, rfl, rfl⟩
          simp -implicitDefEqProofs only [asT, asL, TL.len, R.bind_ok, List.set_cons_succ, List.set_cons_zero, List.length_cons, List.length_nil, if_true]
          unfold l__law_between_fits_1
          rw [evB_guard (b := false) (m' := m ++ [.lst (ws.map .int)]) ?q1]
          case q1 =>
            have e0 : (0 : Int) - b = -b := by omega
            simp -implicitDefEqProofs only [evB, evS, evE, evL, evI, evC, evO, asT, asL, wipeD, walkD, walkS, deref, R.bind_ok, ofO_some, onB_true, onB_false, toB, TL.len, partI, setAll, List.getElem?_cons_zero, List.getElem?_cons_succ, List.set_cons_zero, List.set_cons_succ, List.length_cons, List.length_nil, if_true, Option.map_some, Bool.not_true, Bool.not_false, G__law_between_fits, opBin, e0, e_whole (hM0 ws), hbv.1, hbv.2, decide_true, Bool.and_self]
          rw [if_neg (by decide)]
          obtain ⟨w1, hw1⟩ : ∃ w1, ws[i]? = some w1 := ⟨_, List.getElem?_eq_getElem (by omega)⟩
          obtain ⟨w2, hw2⟩ : ∃ w2, (ws.set i (w1 + v))[j]? = some w2 := ⟨_, List.getElem?_eq_getElem (by rw [List.length_set]; omega)⟩
          have ea := atI_map (f := D.int) hw1
          have eb := atI_map (f := D.int) hw2
          have na : ixN (ws.map D.int).length (i : Int) = some i := ixN_nat (by rw [List.length_map]; omega)
          have nb : ixN ((ws.set i (w1 + v)).map D.int).length (j : Int) = some j := ixN_nat (by rw [List.length_map, List.length_set]; omega)
          have p0 : ∀ a b : D, atI [a, b] 0 = some a := fun a b => rfl
          have p1 : ∀ a b : D, atI [a, b] 1 = some b := fun a b => rfl
          rw [evB_nx (ρ' := fρ isles nums fl x y c names (some (if isLot isles names then natL (spotsOf isles names) else .non)) (some (.ref m.length)) (some (pD (i, j))) (some (.int b)) (some (.int v))) (m' := m ++ [.lst ((ws.set i (w1 + v)).map .int)]) ?g3]
          case g3 =>
            simp -implicitDefEqProofs only [evS, evE, asT, R.bind_ok, List.getElem?_cons_zero, List.getElem?_cons_succ, ixD, deref, one_last, p0, ea, ofO_some, opBin, setD, na, Option.map_some, one_set, List.map_set]
          rw [evB_nx (ρ' := fρ isles nums fl x y c names (some (if isLot isles names then natL (spotsOf isles names) else .non)) (some (.ref m.length)) (some (pD (i, j))) (some (.int b)) (some (.int v))) (m' := m ++ [.lst (((ws.set i (w1 + v)).set j (w2 - v)).map .int)]) ?g4]
          case g4 =>
            generalize hv : ws.set i (w1 + v) = u at eb nb hw2 ⊢
            simp -implicitDefEqProofs only [evS, evE, asT, R.bind_ok, List.getElem?_cons_zero, List.getElem?_cons_succ, ixD, deref, one_last, p1, eb, ofO_some, opBin, setD, nb, Option.map_some, one_set, List.map_set]
          have hW : (ws.set i (w1 + v)).set j (w2 - v) = flowW ws i j (-v) := by
            have e1 : w1 - -v = w1 + v := by omega
            have e2 : w2 + -v = w2 - v := by omega
            simp only [flowW, hw1, Option.getD_some, e1, hw2, e2]
          rw [hW, evB_nil])
      have hlen : ((spans isles.length).zip (nums.zip fl)).length = ((spans isles.length).zip fl).length := by
        simp only [List.length_zip, hA, Nat.min_self]
      rw [Nat.zero_add, hlen, List.take_length] at e
      rw [evB_nx (m' := m ++ [.lst ((outAcc (List.replicate isles.length 0) ((spans isles.length).zip fl)).map .int)]) ((evS_for (w := (((spans isles.length).zip (nums.zip fl)).map fun p => D.tup [pD p.1, .int p.2.1, .int p.2.2], [])) (m' := m ++ [.lst ((List.replicate isles.length (0 : Int)).map .int)]) ?q3).trans e)]
      case q3 => simp -implicitDefEqProofs only [evB, evS, evE, evL, evI, evC, evO, asT, asL, wipeD, walkD, walkS, deref, R.bind_ok, ofO_some, onB_true, onB_false, toB, TL.len, partI, setAll, List.getElem?_cons_zero, List.getElem?_cons_succ, List.set_cons_zero, List.set_cons_succ, List.length_cons, List.length_nil, if_true, Option.map_some, Bool.not_true, Bool.not_false, G__law_between_fits, bi_len_t, List.length_map, e_joints h5 (hM0 _), i1, intT, zip3_map, List.append_nil]
      rw [evB_rt (evS_ret (d := .bl (betwShown isles nums x y c names fl)) (m' := m ++ [.lst ((outAcc (List.replicate isles.length 0) ((spans isles.length).zip fl)).map .int)]) ?q5)]
      · rfl
      case q5 =>
        have hE : evE (G__law_between_fits [f__law_is_whole, f__law_joints, f__law_leads, f__law_is_pair, f__law_spots]) (.lc [12] (.bin .Sub (.bin .Mult (.bi .int (.cons (.cmp .Eq (.v 12) (.v 4)) .nil)) (.v 6)) (.bin .Mult (.bi .int (.cons (.cmp .Eq (.v 12) (.v 5)) .nil)) (.v 6))) (.nm 12) (.seq (.v 0)) .no) (fρ isles nums fl x y c names (some (if isLot isles names then natL (spotsOf isles names) else .non)) (some (.ref m.length)) s9 s10 s11) (m ++ [.lst ((outAcc (List.replicate isles.length 0) ((spans isles.length).zip fl)).map .int)]) = .ok (.lst ((dueOf isles x y c).map .int)) (m ++ [.lst ((outAcc (List.replicate isles.length 0) ((spans isles.length).zip fl)).map .int)]) := by
          refine evE_lc (w := (isles.map .str, [])) (m1 := m ++ [.lst ((outAcc (List.replicate isles.length 0) ((spans isles.length).zip fl)).map .int)]) ?_ ?_ ?_
          · simp -implicitDefEqProofs only [evB, evS, evE, evL, evI, evC, evO, asT, asL, wipeD, walkD, walkS, deref, R.bind_ok, ofO_some, onB_true, onB_false, toB, TL.len, partI, setAll, List.getElem?_cons_zero, List.getElem?_cons_succ, List.set_cons_zero, List.set_cons_succ, List.length_cons, List.length_nil, if_true, Option.map_some, Bool.not_true, Bool.not_false]
          · unfold dueOf
            rw [List.map_map]
            refine lcL_all rfl ?_
            intro w hw
            have hm0 : mulOk 0 c = true := mul_l (by decide)
            have hm1 : mulOk 1 c = true := mul_l (by decide)
            simp -implicitDefEqProofs only [evB, evS, evE, evL, evI, evC, evO, asT, asL, wipeD, walkD, walkS, deref, R.bind_ok, ofO_some, onB_true, onB_false, toB, TL.len, partI, setAll, List.getElem?_cons_zero, List.getElem?_cons_succ, List.set_cons_zero, List.set_cons_succ, List.length_cons, List.length_nil, if_true, Option.map_some, Bool.not_true, Bool.not_false, eq_ss (hl w hw) hx, eq_ss (hl w hw) hy, bi_int_b, opBin]
            by_cases e1 : w = x
            · have e2 : ¬ w = y := fun e => hxy (e1.symm.trans e)
              simp [e1, hxy, hm0, hm1]
            · by_cases e2 : w = y
              · have e3 : ¬ y = x := fun e => hxy e.symm
                simp [e2, e3, hm0, hm1]
              · simp [e1, e2, hm0, hm1]
          · rw [List.length_map]
            exact sizeOk_pow (by simp [dueOf]; omega)
        rw [evE_cmp (evE_v rfl) hE, eq_ref one_last, eq_intL, hres]
        rfl
    · have hres : betwShown isles nums x y c names fl = false := by
        unfold betwShown
        simp only [Bool.not_eq_true] at c2
        revert c2
        cases isLot isles names <;> cases decide (decide (x ∈ names) = decide (y ∈ names)) <;> cases decide (outOf (spans isles.length) nums (maskOf isles names) = c) <;> simp
      simp only [Bool.not_eq_true] at c2
      refine run_rt rfl hm rfl rfl ?_
      unfold b__law_between_fits
      simp only [List.map_cons, List.map_nil, List.length_cons, List.length_nil, List.reduceReplicate, Nat.reduceAdd, Nat.reduceSub, List.cons_append, List.nil_append]
      rw [evB_nx first, evB_guard g1, c1, Bool.not_true, if_neg (by decide), evB_nx (evS_set g2)]
      simp -implicitDefEqProofs only [List.set_cons_succ, List.set_cons_zero]
      rw [evB_guard g3, c2, Bool.not_false, if_pos rfl, hres]
      rfl
  · have hres : betwShown isles nums x y c names fl = false := by
      unfold betwShown
      simp only [Bool.not_eq_true] at c1
      revert c1
      cases (decide (x ∈ isles) && (decide (y ∈ isles) && !decide (x = y))) <;> cases decide (0 ≤ c) <;> simp
    simp only [Bool.not_eq_true] at c1
    refine run_rt rfl hm rfl rfl ?_
    unfold b__law_between_fits
    simp only [List.map_cons, List.map_nil, List.length_cons, List.length_nil, List.reduceReplicate, Nat.reduceAdd, Nat.reduceSub, List.cons_append, List.nil_append]
    rw [evB_nx first, evB_guard g1, c1, Bool.not_false, if_pos rfl, hres]
    rfl
end
end K85

set_option Elab.async false
set_option linter.all false
set_option maxRecDepth 100000
set_option maxHeartbeats 4000000
namespace K85
open PySem PySem.Spec PyProof.Rows L2 Ev
/-! ### repr -/
abbrev cpOk (l : List Nat) : Prop := ∀ c ∈ l, c < 1114112
theorem strOk_iff {x : Str} : PyData.strOk x = true ↔ cpOk x.cps.toList := by
  simp only [PyData.strOk, ← Array.all_toList, List.all_eq_true, decide_eq_true_eq]
theorem cp_str (s : String) : cpOk (Str.ofString s).cps.toList := by
  intro c hc
  rw [PyProof.Rows.signs_ofString] at hc
  obtain ⟨ch, _, rfl⟩ := List.mem_map.mp hc
  have := ch.valid
  rcases this with h | h
  · exact Nat.lt_trans h (by decide)
  · exact h.2
theorem cp_app {x y : Str} (hx : cpOk x.cps.toList) (hy : cpOk y.cps.toList) : cpOk (x ++ y).cps.toList := by
  intro c hc
  rw [cps_app] at hc
  rcases List.mem_append.mp hc with hc | hc
  · exact hx c hc
  · exact hy c hc
theorem cp_char {q c : Nat} (hc : c < 1114112) : cpOk (Builtin.Str.reprChar q c) := by
  have hd : ∀ n : Nat, ∀ e ∈ (Nat.toDigits 16 n).map Char.toNat, e < 1114112 := by
    intro n e he
    obtain ⟨ch, _, rfl⟩ := List.mem_map.mp he
    rcases ch.valid with h | h
    · exact Nat.lt_trans h (by decide)
    · exact h.2
  have hh : ∀ w n : Nat, ∀ e ∈ List.replicate w 48 ++ (Nat.toDigits 16 n).map Char.toNat, e < 1114112 := by
    intro w n e he
    rcases List.mem_append.mp he with he | he
    · have := (List.mem_replicate.mp he).2
      omega
    · exact hd n e he
  intro e he
  unfold Builtin.Str.reprChar at he
  dsimp only at he
  repeat' split at he
  all_goals simp only [List.mem_append, List.mem_cons, List.not_mem_nil, or_false] at he
  all_goals first
    | omega
    | (rcases he with he | he
       · omega
       · rcases he with he | he
         · have := (List.mem_replicate.mp he).2
           omega
         · exact hd _ e he)
theorem cp_text {x : Str} (hx : cpOk x.cps.toList) : cpOk (reprText x).cps.toList := by
  have hq : reprQuote x < 1114112 := by
    unfold reprQuote
    split <;> decide
  have key : ∀ (q : Nat) (l : List Nat) (acc : Array Nat), cpOk l → cpOk acc.toList → cpOk (l.foldl (fun out c => out ++ (Builtin.Str.reprChar q c).toArray) acc).toList := by
    intro q l
    induction l with
    | nil => intro acc _ h; exact h
    | cons a r ih =>
      intro acc hl h
      rw [List.foldl_cons]
      refine ih _ (fun c hc => hl c (List.mem_cons_of_mem _ hc)) ?_
      intro c hc
      rw [Array.toList_append] at hc
      rcases List.mem_append.mp hc with hc | hc
      · exact h c hc
      · exact cp_char (hl a List.mem_cons_self) c hc
  intro c hc
  unfold reprText at hc
  simp only [Array.toList_push, List.mem_append, List.mem_singleton] at hc
  rcases hc with hc | hc
  · rw [← Array.foldl_toList] at hc
    refine key _ _ _ hx ?_ c hc
    intro e he
    have : e = reprQuote x := by simpa using he
    omega
  · omega
theorem cp_join {s : Str} (hs : cpOk s.cps.toList) : ∀ {l : List Str}, (∀ x ∈ l, cpOk x.cps.toList) → cpOk (Str.join s l).cps.toList
  | [], _ => by intro c hc; exact absurd hc (by simp [PyProof.Rows.join_nil, Str.empty])
  | [x], h => h x List.mem_cons_self
  | x :: y :: r, h => by
    rw [PyProof.Rows.join_cons_cons]
    exact cp_app (cp_app (h x List.mem_cons_self) hs) (cp_join hs fun z hz => h z (List.mem_cons_of_mem _ hz))
/-- data that can be shown, in so many signs -/
structure Shw (d : D) (p : PyData) (s e : Nat) : Prop where
  top : toP d = some p
  ok : p.showable = true
  len : p.shown.length ≤ s
  dep : p.depth ≤ e
  cp : cpOk p.shown.cps.toList
theorem Shw.int {i : Int} (h1 : -(10 ^ 35) < i) (h2 : i < 10 ^ 35) : Shw (.int i) (.int i) 40 0 := by
  have hn : i.natAbs < 10 ^ 35 := by omega
  refine ⟨rfl, ?_, ?_, Nat.le_refl _, ?_⟩
  · simp only [PyData.showable, decide_eq_true_eq]
    by_cases hz : i.natAbs = 0
    · rw [hz]; decide
    · rw [Nat.log2_lt hz]
      exact Nat.lt_trans hn (Nat.lt_of_lt_of_le (show 10 ^ 35 < 2 ^ 150 by decide) (Nat.pow_le_pow_right (by decide) (by decide)))
  · have := int_text_length_le10 (k := 35) (by decide) hn
    simp only [PyData.shown]
    rw [PySem.ofString_length]
    omega
  · simp only [PyData.shown]
    exact cp_str _
theorem Shw.str {x : Str} {n : Nat} (hx : PyData.canLay0 (.str x) = true) (hn : x.length ≤ n) : Shw (.str x) (.str x) (10 * n + 2) 0 := by
  have hc : cpOk x.cps.toList := strOk_iff.mp (by simpa only [PyData.canLay0] using hx)
  refine ⟨rfl, rfl, ?_, Nat.le_refl _, ?_⟩
  · simp only [PyData.shown]
    have := StrLaws.reprText_len x (fun c h => Nat.lt_trans (hc c h) (by decide))
    omega
  · simp only [PyData.shown]
    exact cp_text hc
structure ShwL (l : List D) (ps : List PyData) (s e : Nat) : Prop where
  top : toP.go l = some ps
  ok : PyData.showableAll ps = true
  len : ((PyData.shownAll ps).map (·.length)).sum + 2 * ps.length ≤ s
  dep : PyData.depthAll ps ≤ e
  cp : ∀ x ∈ PyData.shownAll ps, cpOk x.cps.toList
theorem ShwL.nil {e : Nat} : ShwL [] [] 0 e := ⟨rfl, rfl, Nat.le_refl _, Nat.zero_le _, fun x h => by cases h⟩
theorem ShwL.cons {d : D} {l : List D} {p : PyData} {ps : List PyData} {s t e : Nat} (h : Shw d p s e) (hl : ShwL l ps t e) : ShwL (d :: l) (p :: ps) (s + 2 + t) e := by
  refine ⟨?_, ?_, ?_, ?_, ?_⟩
  · simp [toP.go, h.top, hl.top]
  · simp [PyData.showableAll, h.ok, hl.ok]
  · have h1 := h.len
    have h2 := hl.len
    simp only [PyData.shownAll, List.map_cons, List.sum_cons, List.length_cons]
    omega
  · simp only [PyData.depthAll]
    exact Nat.max_le.mpr ⟨h.dep, hl.dep⟩
  · intro x hx
    rcases List.mem_cons.mp (by simpa only [PyData.shownAll] using hx) with rfl | hx
    · exact h.cp
    · exact hl.cp x hx
theorem ShwL.map {α : Type} {f : α → D} {s e : Nat} : ∀ {l : List α}, (∀ a ∈ l, ∃ p, Shw (f a) p s e) → ∃ ps, ShwL (l.map f) ps (l.length * (s + 2)) e
  | [], _ => ⟨[], by rw [List.length_nil, Nat.zero_mul]; exact ShwL.nil⟩
  | a :: l, h => by
    obtain ⟨p, hp⟩ := h a List.mem_cons_self
    obtain ⟨ps, hl⟩ := ShwL.map (l := l) fun b hb => h b (List.mem_cons_of_mem _ hb)
    refine ⟨p :: ps, ?_⟩
    have := ShwL.cons hp hl
    rw [List.length_cons, Nat.add_mul, Nat.one_mul, Nat.add_comm (l.length * (s + 2))]
    exact this
theorem Shw.tup {l : List D} {ps : List PyData} {s e : Nat} (h : ShwL l ps s e) : Shw (.tup l) (.tuple ps) (s + 3) (e + 1) := by
  refine ⟨by simp [toP, h.top], h.ok, ?_, ?_, ?_⟩
  · have h1 := tupleText_len_le (PyData.shownAll ps)
    have h2 := h.len
    have h3 := PyData.shownAll_length ps
    simp only [PyData.shown]
    omega
  · simp only [PyData.depth]
    have := h.dep
    omega
  · simp only [PyData.shown, tupleText]
    refine cp_app (cp_app (cp_str _) (cp_join (cp_str _) h.cp)) ?_
    split <;> exact cp_str _
theorem Shw.mono {d : D} {p : PyData} {s t e f : Nat} (h : Shw d p s e) (hs : s ≤ t) (he : e ≤ f) : Shw d p t f := ⟨h.top, h.ok, Nat.le_trans h.len hs, Nat.le_trans h.dep he, h.cp⟩
theorem e_repr {d : D} {p : PyData} {s e : Nat} {m : Mem} (h : Shw d p s e) (hs : s ≤ 10000000) (he : e ≤ 64) (hd : deref m d = d) : biD .repr [d] m = some (.str p.shown) := by
  have h1 : decide (p.shown.length ≤ lim) = true := decide_eq_true (Nat.le_trans h.len (Nat.le_trans hs (by decide)))
  have h2 : decide (p.depth ≤ 64) = true := decide_eq_true (Nat.le_trans h.dep he)
  simp only [biD, hd, h.top, Option.bind_some, h.ok, h1, h2, Bool.and_self, if_true]
theorem ne_repr {d : D} {p : PyData} {s e : Nat} {m : Mem} (h : Shw d p s e) : opCmp .NotEq (.str p.shown) (.str p.shown) m = some false := by
  have hc : PyData.canLay0 (.str p.shown) = true := by
    simp only [PyData.canLay0]
    exact strOk_iff.mpr h.cp
  rw [ne_ss hc hc, decide_eq_true rfl]
  rfl
section
variable {isles : List Str} {m : Mem}
theorem shw_said {nums : List Int} {x y : Str} {c : Int} (h : SeaOk isles) (hN : NumsOk isles.length nums) (hx : x ∈ isles) (hy : y ∈ isles) (hc1 : -(10 ^ 35) < c) (hc2 : c < 10 ^ 35) : ∃ p, Shw (saidD isles nums x y c) p 100000 5 := by
  have hs := spans_len_le h.five
  have hl := hN.len
  obtain ⟨pn, hn⟩ := ShwL.map (f := D.int) (s := 40) (e := 0) (l := nums) fun i hi => ⟨_, Shw.int (by have := hN.in0 i hi; omega) (by have := hN.le i hi; omega)⟩
  have hb : PyData.canLay0 (.str "between") = true := lay_of (by decide)
  have ht : PyData.canLay0 (.str (seaText isles)) = true := by
    simp only [PyData.canLay0]
    refine strOk_iff.mpr ?_
    unfold seaText
    rw [_root_.TL.join_eq]
    refine cp_join (cp_str _) ?_
    intro z hz
    rcases List.mem_cons.mp hz with rfl | hz
    · exact cp_str _
    · exact strOk_iff.mp (by simpa only [PyData.canLay0] using h.lay z hz)
  have e0 : ∀ {d p s}, Shw d p s 0 → Shw d p s 1 := fun q => q.mono (Nat.le_refl _) (by decide)
  refine ⟨_, (Shw.tup (ShwL.cons (e0 (Shw.str hb (show _ ≤ 7 by decide))) (ShwL.cons (e0 (Shw.str ht (seaText_len h))) (ShwL.cons (Shw.tup hn) (ShwL.cons (e0 (Shw.str (h.lay x hx) (nameOk_len (h.nm x hx)))) (ShwL.cons (e0 (Shw.str (h.lay y hy) (nameOk_len (h.nm y hy)))) (ShwL.cons (e0 (Shw.int hc1 (by omega))) ShwL.nil))))))).mono ?_ (by decide)⟩
  omega
theorem out_le {sp : List (Nat × Nat)} {nums : List Int} {lot : List Bool} (h0 : ∀ c ∈ nums, 0 ≤ c) (h : ∀ c ∈ nums, c ≤ 10 ^ 30) (hl : sp.length ≤ 100) : outOf sp nums lot ≤ 10 ^ 33 := by
  have h1 := sum_le (f := fun p : (Nat × Nat) × Int => if lot[p.1.1]? ≠ lot[p.1.2]? then p.2 else 0) (g := fun _ => (10 : Int) ^ 30) (sp.zip nums) (fun p hp => by
    have := h p.2 (List.of_mem_zip hp).2
    show (if _ then _ else (0 : Int)) ≤ _
    split <;> omega)
  rw [out_sum]
  have h2 : ∀ l : List ((Nat × Nat) × Int), (l.map fun _ => (10 : Int) ^ 30).sum = l.length * 10 ^ 30 := by
    intro l
    induction l with
    | nil => rfl
    | cons a r ih =>
      rw [List.map_cons, List.sum_cons, ih, List.length_cons]
      omega
  rw [h2] at h1
  have h3 : (sp.zip nums).length ≤ 100 := by rw [List.length_zip]; omega
  omega
theorem betw_range {n i j : Nat} {nums : List Int} (hn : n ≤ 5) (hN : NumsOk n nums) (hi : i < n) (hj : j < n) (hij : i ≠ j) : 0 ≤ betw n nums i j ∧ betw n nums i j ≤ 10 ^ 33 := by
  obtain ⟨⟨l, hl, e⟩, _⟩ := betw_spec (nums := nums) hi hj hij
  rw [← e]
  exact ⟨outs_nn hN.in0, out_le hN.in0 hN.le (spans_len_le hn)⟩
theorem betw_sym {n i j : Nat} {nums : List Int} (hi : i < n) (hj : j < n) (hij : i ≠ j) : betw n nums j i = betw n nums i j := by
  have h := betw_eq (nums := nums) hj hi (fun e => hij e.symm)
  have h2 := betw_eq (nums := nums) hi hj hij
  have h3 := minI_ext (a := (partLots n j i).map (outOf (spans n) nums)) (fun y => ?_) h2
  · rw [h] at h3
    exact Option.some.inj h3
  · have key : ∀ a b, a < n → b < n → ∀ y, y ∈ (partLots n a b).map (outOf (spans n) nums) → y ∈ (partLots n b a).map (outOf (spans n) nums) := by
      intro a b ha hb y hy
      obtain ⟨l, hl, rfl⟩ := List.mem_map.mp hy
      obtain ⟨h1, h2⟩ := List.mem_filter.mp hl
      obtain ⟨q1, q2, q3⟩ := mem_lotsOf.mp h1
      simp only [Bool.and_eq_true, decide_eq_true_eq] at h2
      refine List.mem_map.mpr ⟨notL l, List.mem_filter.mpr ⟨mem_lotsOf.mpr ⟨by simp [q1], ?_, ?_⟩, ?_⟩, out_not fun p hp => by have := spans_lt hp; omega⟩
      · exact List.mem_map.mpr ⟨false, q3, rfl⟩
      · exact List.mem_map.mpr ⟨true, q2, rfl⟩
      · simp [h2.1, h2.2]
    exact ⟨key j i hj hi y, key i j hi hj y⟩
theorem flow_bounds {n i j : Nat} {nums : List Int} (hN : NumsOk n nums) (hi : i < n) (hj : j < n) (hij : i ≠ j) : (flowAll n nums i j (betw n nums i j)).2.2.length = nums.length ∧ (((flowAll n nums i j (betw n nums i j)).2.2.zip nums).all fun p => decide (-p.2 ≤ p.1) && decide (p.1 ≤ p.2)) = true ∧ ∀ v ∈ (flowAll n nums i j (betw n nums i j)).2.2, -(10 ^ 30) ≤ v ∧ v ≤ 10 ^ 30 := by
  obtain ⟨f1, f2, f3⟩ := flow_right hN.len hN.in0 hi hj hij
  refine ⟨by rw [f1, hN.len], ?_, ?_⟩
  · rw [List.all_eq_true]
    rintro ⟨a, b⟩ hp
    have := f2 (b, a) (by
      obtain ⟨k, hk⟩ := List.mem_iff_getElem?.mp hp
      rw [List.getElem?_zip_eq_some] at hk
      exact List.mem_iff_getElem?.mpr ⟨k, List.getElem?_zip_eq_some.mpr ⟨hk.2, hk.1⟩⟩)
    simp only [Bool.and_eq_true, decide_eq_true_eq]
    exact this
  · intro v hv
    obtain ⟨k, hk⟩ := List.mem_iff_getElem?.mp hv
    have hlt := (List.getElem?_eq_some_iff.mp hk).1
    have hb := List.getElem?_eq_getElem (l := nums) (i := k) (by rw [hN.len, ← f1]; exact hlt)
    have h1 := f2 (nums[k]'(by rw [hN.len, ← f1]; exact hlt), v) (List.mem_iff_getElem?.mpr ⟨k, List.getElem?_zip_eq_some.mpr ⟨hb, hk⟩⟩)
    have h2 := hN.le _ (List.mem_of_getElem? hb)
    simp only at h1
    omega
theorem shw_paper {nums : List Int} {i j : Nat} (h : SeaOk isles) (hN : NumsOk isles.length nums) (hi : i < isles.length) (hj : j < isles.length) (hij : i ≠ j) : ∃ p, Shw (paperD isles nums i j) p 100000 5 := by
  have hs := spans_len_le h.five
  have hl := hN.len
  obtain ⟨c1, c2, c3⟩ := flow_bounds hN hi hj hij
  obtain ⟨pn, hn⟩ := ShwL.map (f := D.int) (s := 40) (e := 0) (l := (flowAll isles.length nums i j (betw isles.length nums i j)).2.2) fun v hv => ⟨_, Shw.int (by have := (c3 v hv).1; omega) (by have := (c3 v hv).2; omega)⟩
  have hsub : ∀ x ∈ namesIn isles (cutOf isles.length nums i j), x ∈ isles := by
    intro x hx
    unfold namesIn at hx
    obtain ⟨p, hp, rfl⟩ := List.mem_map.mp hx
    exact (List.of_mem_zip (List.mem_filter.mp hp).1).1
  obtain ⟨ps, hps⟩ := ShwL.map (f := D.str) (s := 82) (e := 0) (l := namesIn isles (cutOf isles.length nums i j)) fun x hx => ⟨_, (Shw.str (h.lay x (hsub x hx)) (nameOk_len (h.nm x (hsub x hx))))⟩
  have hnl : (namesIn isles (cutOf isles.length nums i j)).length ≤ 5 := by
    unfold namesIn
    rw [List.length_map]
    refine Nat.le_trans (List.length_filter_le ..) ?_
    rw [List.length_zip]
    have := h.five
    omega
  refine ⟨_, (Shw.tup (ShwL.cons (Shw.tup hps) (ShwL.cons (Shw.tup hn) ShwL.nil))).mono ?_ (by decide)⟩
  rw [c1, hl]
  omega
theorem shw_both {nums : List Int} {x y : Str} {i j : Nat} (h : SeaOk isles) (hN : NumsOk isles.length nums) (hx : isles[i]? = some x) (hy : isles[j]? = some y) (hij : i ≠ j) :
    ∃ p q, Shw (saidD isles nums x y (betw isles.length nums i j)) p 100000 5 ∧ Shw (.tup [saidD isles nums x y (betw isles.length nums i j), paperD isles nums i j]) q 300000 6 := by
  have hi := (List.getElem?_eq_some_iff.mp hx).1
  have hj := (List.getElem?_eq_some_iff.mp hy).1
  obtain ⟨b0, b1⟩ := betw_range h.five hN hi hj hij
  obtain ⟨p, hp⟩ := shw_said (c := betw isles.length nums i j) h hN (List.mem_of_getElem? hx) (List.mem_of_getElem? hy) (by omega) (by omega)
  obtain ⟨q, hq⟩ := shw_paper h hN hi hj hij
  exact ⟨p, _, hp, (Shw.tup (ShwL.cons hp (ShwL.cons hq ShwL.nil))).mono (by decide) (by decide)⟩
end
end K85

set_option Elab.async false
set_option linter.all false
set_option maxRecDepth 100000
set_option maxHeartbeats 4000000
namespace K85
open PySem PySem.Spec PyProof.Rows L2 Ev
/-! ### texts that are changed -/
structure TxtOk (t : Str) (n : Nat) : Prop where
  cp : cpOk t.cps.toList
  len : t.length ≤ n
theorem TxtOk.lay {t : Str} {n : Nat} (h : TxtOk t n) : PyData.canLay0 (.str t) = true := by
  simp only [PyData.canLay0]
  exact strOk_iff.mpr h.cp
theorem TxtOk.mono {t : Str} {n k : Nat} (h : TxtOk t n) (hk : n ≤ k) : TxtOk t k := ⟨h.cp, Nat.le_trans h.len hk⟩
theorem len_app {x y : Str} : (x ++ y).length = x.length + y.length := by rw [str_len, str_len, str_len, cps_app, List.length_append]
theorem TxtOk.app {x y : Str} {n k : Nat} (hx : TxtOk x n) (hy : TxtOk y k) : TxtOk (x ++ y) (n + k) := ⟨cp_app hx.cp hy.cp, by rw [len_app]; exact Nat.add_le_add hx.len hy.len⟩
theorem TxtOk.slice {t : Str} {n : Nat} {lo hi : Option Int} (h : TxtOk t n) : TxtOk (Txt.slice t lo hi) n := by
  refine ⟨?_, Nat.le_trans (Txt.slice_le t lo hi) h.len⟩
  intro c hc
  unfold Txt.slice at hc
  split at hc
  · exact h.cp c hc
  · obtain ⟨i, _, e⟩ := List.mem_filterMap.mp hc
    rw [← Array.getElem?_toList] at e
    exact h.cp c (List.mem_of_getElem? e)
theorem join_mem {s w : Str} : ∀ {l : List Str}, w ∈ l → (∀ c ∈ w.cps.toList, c ∈ (Str.join s l).cps.toList) ∧ w.length ≤ (Str.join s l).length
  | [], h => by cases h
  | [x], h => by
    have : w = x := by simpa using h
    subst this
    exact ⟨fun c hc => hc, Nat.le_refl _⟩
  | x :: y :: r, h => by
    rw [PyProof.Rows.join_cons_cons]
    rcases List.mem_cons.mp h with rfl | h
    · refine ⟨fun c hc => ?_, ?_⟩
      · rw [cps_app, cps_app]
        exact List.mem_append_left _ (List.mem_append_left _ hc)
      · rw [len_app, len_app]; omega
    · obtain ⟨h1, h2⟩ := join_mem (s := s) h
      refine ⟨fun c hc => ?_, ?_⟩
      · rw [cps_app]
        exact List.mem_append_right _ (h1 c hc)
      · rw [len_app]; omega
theorem space_is : (" " : Str) = ⟨#[32]⟩ := by decide
/-- the words of a text -/
theorem split_ok {t : Str} {n : Nat} (h : TxtOk t n) : (∃ w0 ws, Txt.split t " " = w0 :: ws) ∧ (∀ w ∈ Txt.split t " ", TxtOk w n) ∧ (Txt.split t " ").length ≤ n + 2 ∧ ((Txt.split t " ").map (·.length)).sum ≤ n * (n + 2) := by
  have hj := StrLaws.join_split t " "
  have hall : ∀ w ∈ Txt.split t " ", TxtOk w n := by
    intro w hw
    obtain ⟨h1, h2⟩ := join_mem (s := " ") hw
    rw [hj] at h1 h2
    exact ⟨fun c hc => h.cp c (h1 c hc), Nat.le_trans h2 h.len⟩
  have hlen : (Txt.split t " ").length ≤ n + 2 := Nat.le_trans (PyProof.Rows.split_le t " ") (by have := h.len; omega)
  refine ⟨?_, hall, hlen, ?_⟩
  · have hl := PyProof.Rows.split_len t 32
    rw [← space_is] at hl
    cases hs : Txt.split t " " with
    | nil =>
      have hc : ∀ (c : Nat) (l : List Nat), 0 ≤ PyProof.Rows.cnt c l := by
        intro c l
        induction l with
        | nil => rw [PyProof.Rows.cnt_nil]; exact Int.le_refl _
        | cons a r ih => rw [PyProof.Rows.cnt_cons]; split <;> omega
      have := hc 32 t.cps.toList
      rw [hs, List.length_nil] at hl
      omega
    | cons w0 ws => exact ⟨w0, ws, rfl⟩
  · have : ∀ l : List Str, (∀ w ∈ l, TxtOk w n) → (l.map (·.length)).sum ≤ n * l.length := by
      intro l
      induction l with
      | nil => intro _; simp
      | cons a r ih =>
        intro hr
        have h1 := (hr a List.mem_cons_self).len
        have h2 := ih fun w hw => hr w (List.mem_cons_of_mem _ hw)
        rw [List.map_cons, List.sum_cons, List.length_cons, Nat.mul_add, Nat.mul_one]
        omega
    exact Nat.le_trans (this _ hall) (Nat.mul_le_mul_left n hlen)
theorem join_ok {n k : Nat} {l : List Str} (h : ∀ w ∈ l, TxtOk w n) (hl : l.length ≤ k) : TxtOk (Txt.join " " l) (n * k + k) ∧ (l.map (·.length)).sum + l.length * (" " : Str).length ≤ n * k + k := by
  have hs : (l.map (·.length)).sum + l.length * (" " : Str).length ≤ n * k + k := by
    have : ∀ l : List Str, (∀ w ∈ l, TxtOk w n) → (l.map (·.length)).sum ≤ n * l.length := by
      intro l
      induction l with
      | nil => intro _; simp
      | cons a r ih =>
        intro hr
        have h1 := (hr a List.mem_cons_self).len
        have h2 := ih fun w hw => hr w (List.mem_cons_of_mem _ hw)
        rw [List.map_cons, List.sum_cons, List.length_cons, Nat.mul_add, Nat.mul_one]
        omega
    have h1 := this l h
    have h2 := Nat.mul_le_mul_left n hl
    rw [space_len]
    omega
  refine ⟨⟨?_, Nat.le_trans (join_len _ _) hs⟩, hs⟩
  rw [_root_.TL.join_eq]
  exact cp_join (cp_str _) fun w hw => (h w hw).cp
theorem seaText_ok {isles : List Str} (h : SeaOk isles) : TxtOk (seaText isles) 60 := by
  refine ⟨?_, seaText_len h⟩
  unfold seaText
  rw [_root_.TL.join_eq]
  refine cp_join (cp_str _) ?_
  intro z hz
  rcases List.mem_cons.mp hz with rfl | hz
  · exact cp_str _
  · exact strOk_iff.mp (by simpa only [PyData.canLay0] using h.lay z hz)
/-! ### the law's reader -/
theorem seen_sub {ys : List Str} : ∀ {i : Nat}, i ≤ ys.length → (seenD ys i).Nodup ∧ ∀ x, x ∈ seenD ys i ↔ x ∈ ys.take i
  | 0, _ => by simp [seenD]
  | i + 1, h => by
    obtain ⟨h1, h2⟩ := seen_sub (ys := ys) (i := i) (by omega)
    have hy : ys[i]? = some (ys.getD i Str.empty) := by
      rw [List.getD_eq_getElem?_getD, List.getElem?_eq_getElem (by omega)]
      rfl
    rw [seenD, List.take_succ, hy]
    generalize ys.getD i Str.empty = y at *
    by_cases c : y ∈ seenD ys i
    · rw [if_pos c]
      refine ⟨h1, fun x => ?_⟩
      rw [h2 x, List.mem_append]
      constructor
      · exact fun q => .inl q
      · rintro (q | q)
        · exact q
        · have : x = y := by simpa using q
          subst this
          exact (h2 x).mp c
    · rw [if_neg c]
      refine ⟨?_, fun x => ?_⟩
      · rw [List.nodup_append]
        refine ⟨h1, by simp, ?_⟩
        intro a ha b hb e
        have : b = y := by simpa using hb
        subst this
        subst e
        exact c ha
      · rw [List.mem_append, List.mem_append, h2 x]
        simp
theorem seen_full {ys : List Str} : (seenD ys ys.length).length ≤ ys.length ∧ ((seenD ys ys.length).length = ys.length ↔ ys.Nodup) := by
  obtain ⟨h1, h2⟩ := seen_sub (ys := ys) (Nat.le_refl _)
  rw [List.take_length] at h2
  have hle := sub_len h1 fun x hx => (h2 x).mp hx
  refine ⟨hle, ?_, ?_⟩
  · intro e
    apply Classical.byContradiction
    intro hn
    have : ∀ l : List Str, ¬ l.Nodup → ∃ l' : List Str, l'.length < l.length ∧ ∀ x ∈ l, x ∈ l' := by
      intro l
      induction l with
      | nil => intro h; exact absurd List.nodup_nil h
      | cons a r ih =>
        intro h
        by_cases ha : a ∈ r
        · exact ⟨r, by simp, fun x hx => by
            rcases List.mem_cons.mp hx with rfl | hx
            · exact ha
            · exact hx⟩
        · obtain ⟨l', h3, h4⟩ := ih fun hr => h (List.nodup_cons.mpr ⟨ha, hr⟩)
          refine ⟨a :: l', by simp; omega, fun x hx => ?_⟩
          rcases List.mem_cons.mp hx with rfl | hx
          · exact List.mem_cons_self
          · exact List.mem_cons_of_mem _ (h4 x hx)
    obtain ⟨l', h3, h4⟩ := this ys hn
    have := sub_len h1 (b := l') fun x hx => h4 x ((h2 x).mp hx)
    omega
  · intro hn
    have := sub_len hn fun x hx => (h2 x).mpr hx
    omega
end K85

set_option Elab.async false
set_option linter.all false
set_option maxRecDepth 100000
set_option maxHeartbeats 4000000
namespace K85
open PySem PySem.Spec PyProof.Rows L2 Ev
theorem evB_guardN {Γ : Gam} {e : E} {l : SL} {ρ : Ev.Env} {m m' : Mem} {b : Bool} (h : evE Γ e ρ m = .ok (.bl b) m') : evB Γ (.cons (.ife e (.cons (.ret .non) .nil) .nil) l) ρ m = if b then .ok (.rt .non, ρ) m' else evB Γ l ρ m' := by
  cases b with
  | true => exact evB_rt ((evS_T h).trans rfl)
  | false => exact evB_nx ((evS_F h).trans rfl)
section
variable {m : Mem}
theorem eq_strL {a b : List Str} (ha : okAll a) (hb : okAll b) : opCmp .Eq (.lst (a.map .str)) (.lst (b.map .str)) m = some (decide (a = b)) := by
  obtain ⟨k, rfl⟩ := lift_ok ha
  obtain ⟨l, rfl⟩ := lift_ok hb
  simp only [opCmp, eqD, deref, toP]
  rw [List.map_map, List.map_map, go_map (f := D.str ∘ fun x : OkS => x.1) (g := kStr.p) (fun _ => rfl) k, go_map (f := D.str ∘ fun x : OkS => x.1) (g := kStr.p) (fun _ => rfl) l]
  have h1 : SeqAt.shaped (.list (k.map kStr.p)) = true := kStr.lst.sh (by decide) k
  have h2 : SeqAt.shaped (.list (l.map kStr.p)) = true := kStr.lst.sh (by decide) l
  have h3 : PyData.eqv (.list (k.map kStr.p)) (.list (l.map kStr.p)) = decide (k = l) := kStr.lst.eq k l
  simp only [Option.map_some, h1, h2, Bool.and_self, if_true, h3]
  congr 1
  rw [Bool.eq_iff_iff]
  simp only [decide_eq_true_eq]
  constructor
  · intro e; rw [e]
  · intro e
    exact (List.map_inj_right (fun a b h => Subtype.ext h)).mp e
theorem ne_strL0 {a : List Str} (ha : okAll a) : opCmp .NotEq (.lst (a.map .str)) (.lst []) m = some (!decide (a = [])) := by
  have := eq_strL (m := m) (b := []) ha (fun x h => by cases h)
  simp only [opCmp, List.map_nil] at this ⊢
  rw [this]; rfl
theorem ne_strT {a b : List Str} (ha : okAll a) (hb : okAll b) : opCmp .NotEq (.tup (a.map .str)) (.tup (b.map .str)) m = some (!decide (a = b)) := by
  have := eq_strT (m := m) ha hb
  simp only [opCmp] at this ⊢
  rw [this]; rfl
theorem nin_ss {a b : Str} : opCmp .NotIn (.str a) (.str b) m = some (!inS a b) := rfl
theorem signOk_both {c : Nat} : inS ⟨#[c]⟩ (abcS ++ digS) = signOk c := by
  unfold signOk
  rw [inS_one, inS_one, inS_one, cps_app, Bool.eq_iff_iff]
  simp
def readRes (w0 : Str) (isles : List Str) : D := if w0 = "islands" ∧ 1 < isles.length ∧ wrongIsl isles = none then .tup (isles.map .str) else .non
theorem e_law_word {x : Str} {a b c : Option D} {s0 s1 s3 s4 : Option D} (hx : x.length ≤ 1048576) (a_cp : cpOk x.cps.toList) :
    (nameOk x = true → evB (G__law_read []) l__law_read_1 [s0, s1, some (.str abcS), s3, some (.str x), none] m = .ok (.nx, [s0, s1, some (.str abcS), s3, some (.str x), none]) m) ∧
    (nameOk x = false → evB (G__law_read []) l__law_read_1 [s0, s1, some (.str abcS), s3, some (.str x), none] m = .ok (.rt .non, [s0, s1, some (.str abcS), s3, some (.str x), none]) m) := by
  have hz : Ev.sizeOk x.length = true := sizeOk_pow (by omega)
  have hl : biD .len [.str x] m = some (.int x.length) := by simp [biD, deref, hz]
  unfold l__law_read_1
  by_cases h : 1 ≤ x.length ∧ x.length ≤ 8
  · have hc : ∃ c r, x.cps.toList = c :: r := by
      cases e : x.cps.toList with
      | nil => rw [str_len, e] at h; simp at h
      | cons c r => exact ⟨c, r, rfl⟩
    obtain ⟨c, r, hcr⟩ := hc
    have hix := ix_str (m := m) hz (show x.cps.toList[0]? = some c by rw [hcr]; rfl)
    have e1 : (1 : Int) ≤ (x.length : Nat) := by omega
    have e2 : ((x.length : Nat) : Int) ≤ 8 := by omega
    have hh : headOk x = inS ⟨#[c]⟩ abcS := by
      unfold headOk
      rw [hcr]
    have hn : nameOk x = (headOk x && x.cps.toList.all signOk) := by
      unfold nameOk
      rw [decide_eq_true h, Bool.true_and]
    have hix0 : ixD (.str x) (.int 0) m = some (.str ⟨#[c]⟩) := hix
    have hE : evE (G__law_read []) (.lc [5] (.v 5) (.nm 5) (.seq (.v 4)) (.yes (.cmp .NotIn (.v 5) (.bin .Add (.v 2) (.str "0123456789"))))) [s0, s1, some (.str abcS), s3, some (.str x), none] m = .ok (.lst (((x.cps.toList.filter fun c => !signOk c).map fun c => (⟨#[c]⟩ : Str)).map .str)) m := by
      rw [List.map_map]
      refine evE_lc (w := (x.cps.toList.map fun c => .str ⟨#[c]⟩, [])) (m1 := m) (by simp -implicitDefEqProofs only [evB, evS, evE, evL, evI, evC, evO, asT, asL, wipeD, walkD, walkS, deref, R.bind_ok, ofO_some, onB_true, onB_false, toB, TL.len, partI, setAll, List.getElem?_cons_zero, List.getElem?_cons_succ, List.set_cons_zero, List.set_cons_succ, List.length_cons, List.length_nil, if_true, Option.map_some, Bool.not_true, Bool.not_false]) ?_ ?_
      · refine lcL_if (p := fun c => !signOk c) (o := fun c => D.str ⟨#[c]⟩) rfl ?_
        intro c _
        have hzz : Ev.sizeOk (abcS.length + digS.length) = true := by decide
        simp -implicitDefEqProofs only [evB, evS, evE, evL, evI, evC, evO, asT, asL, wipeD, walkD, walkS, deref, R.bind_ok, ofO_some, onB_true, onB_false, toB, TL.len, partI, setAll, List.getElem?_cons_zero, List.getElem?_cons_succ, List.set_cons_zero, List.set_cons_succ, List.length_cons, List.length_nil, if_true, Option.map_some, Bool.not_true, Bool.not_false, opBin, hzz, nin_ss, signOk_both]
        cases signOk c <;> simp
      · rw [List.length_map]
        have := List.length_filter_le (fun c => !signOk c) x.cps.toList
        rw [← str_len] at this
        exact sizeOk_pow (by omega)
    have hbad : okAll ((x.cps.toList.filter fun c => !signOk c).map fun c => (⟨#[c]⟩ : Str)) ∨ True := .inr trivial
    have g1 : evE (G__law_read []) (.or (.not (.chain .LtE .LtE (.int 1) (.bi .len (.cons (.v 4) .nil)) (.int 8))) (.cmp .NotIn (.ix (.v 4) (.int 0)) (.v 2))) [s0, s1, some (.str abcS), s3, some (.str x), none] m = .ok (.bl (!headOk x)) m := by
      simp -implicitDefEqProofs only [evB, evS, evE, evL, evI, evC, evO, asT, asL, wipeD, walkD, walkS, deref, R.bind_ok, ofO_some, onB_true, onB_false, toB, TL.len, partI, setAll, List.getElem?_cons_zero, List.getElem?_cons_succ, List.set_cons_zero, List.set_cons_succ, List.length_cons, List.length_nil, if_true, Option.map_some, Bool.not_true, Bool.not_false, hl, le_ii, e1, e2, decide_true, hix0, nin_ss, hh]
    constructor
    · intro hno
      rw [hn, Bool.and_eq_true] at hno
      have hf : (x.cps.toList.filter fun c => !signOk c) = [] := by
        rw [List.filter_eq_nil_iff]
        intro c hc
        have := List.all_eq_true.mp hno.2 c hc
        simp [this]
      rw [evB_guardN g1, hno.1]
      simp only [Bool.not_true, Bool.false_eq_true, if_false]
      rw [hf] at hE
      rw [evB_guardN (b := false) (m' := m) ?h2]
      · rfl
      case h2 =>
        rw [evE_cmp hE (y := .lst []) (m2 := m) (by simp -implicitDefEqProofs [evE, evL, Ev.sizeOk, lim])]
        rfl
    · intro hno
      rw [evB_guardN g1]
      cases hhd : headOk x with
      | false => rfl
      | true =>
        rw [hn, hhd, Bool.true_and] at hno
        simp only [Bool.not_true, Bool.false_eq_true, if_false]
        rw [evB_guardN (b := true) (m' := m) ?h2]
        · rfl
        case h2 =>
          rw [evE_cmp hE (y := .lst []) (m2 := m) (by simp -implicitDefEqProofs [evE, evL, Ev.sizeOk, lim])]
          have hxl : ∀ c ∈ x.cps.toList, c < 1114112 := a_cp
          have hok : okAll ((x.cps.toList.filter fun c => !signOk c).map fun c => (⟨#[c]⟩ : Str)) := by
            intro y hy
            obtain ⟨c, hc, rfl⟩ := List.mem_map.mp hy
            have := hxl c (List.mem_filter.mp hc).1
            exact lay_of (by simp [this])
          rw [ne_strL0 hok]
          have hne : ((x.cps.toList.filter fun c => !signOk c).map fun c => (⟨#[c]⟩ : Str)) ≠ [] := by
            intro e
            rw [List.map_eq_nil_iff, List.filter_eq_nil_iff] at e
            have : x.cps.toList.all signOk = true := by
              rw [List.all_eq_true]
              intro c hc
              have := e c hc
              simpa using this
            rw [this] at hno
            cases hno
          rw [decide_eq_false hne]
          rfl
  · have hn : nameOk x = false := by
      unfold nameOk
      rw [decide_eq_false h]
      rfl
    refine ⟨fun e => absurd e (by rw [hn]; decide), fun _ => ?_⟩
    rw [evB_guardN (b := true) (m' := m) ?h1]
    · rfl
    case h1 =>
      by_cases e1 : (1 : Int) ≤ (x.length : Nat)
      · have e2 : ¬ ((x.length : Nat) : Int) ≤ 8 := by omega
        simp -implicitDefEqProofs only [evB, evS, evE, evL, evI, evC, evO, asT, asL, wipeD, walkD, walkS, deref, R.bind_ok, ofO_some, onB_true, onB_false, toB, TL.len, partI, setAll, List.getElem?_cons_zero, List.getElem?_cons_succ, List.set_cons_zero, List.set_cons_succ, List.length_cons, List.length_nil, if_true, Option.map_some, Bool.not_true, Bool.not_false, hl, le_ii, e1, e2, decide_true, decide_false, Bool.not_false]
      · simp -implicitDefEqProofs only [evB, evS, evE, evL, evI, evC, evO, asT, asL, wipeD, walkD, walkS, deref, R.bind_ok, ofO_some, onB_true, onB_false, toB, TL.len, partI, setAll, List.getElem?_cons_zero, List.getElem?_cons_succ, List.set_cons_zero, List.set_cons_succ, List.length_cons, List.length_nil, if_true, Option.map_some, Bool.not_true, Bool.not_false, hl, le_ii, e1, decide_false, Bool.not_false]
theorem e_law_read {t w0 : Str} {isles : List Str} {n : Nat} (hn : n ≤ 1000000) (ht : TxtOk t n) (hw : Txt.split t " " = w0 :: isles) (hm : memLt m.length m = true) :
    f__law_read [.str t] m = .ok (readRes w0 isles) m := by
  obtain ⟨_, hall, _, _⟩ := split_ok ht
  rw [hw] at hall
  have h0 := (hall w0 List.mem_cons_self).lay
  have hl : okAll isles := fun x hx => (hall x (List.mem_cons_of_mem _ hx)).lay
  have hs : ∀ x ∈ isles, TxtOk x n := fun x hx => hall x (List.mem_cons_of_mem _ hx)
  have hX1 : D.ltb m.length (readRes w0 isles) = true := by unfold readRes; split <;> first | exact ltb_str | rfl
  refine run_rt rfl hm hX1 (finV_lt hX1) ?_
  unfold b__law_read
  simp only [List.map_cons, List.map_nil, List.length_cons, List.length_nil, List.reduceReplicate, Nat.reduceAdd, Nat.reduceSub, List.cons_append, List.nil_append]
  have hi0 : PyData.canLay0 (.str "islands") = true := lay_of (by decide)
  rw [evB_nx (ρ' := [some (.str t), some (.lst ((w0 :: isles).map .str)), some (.str abcS), none, none, none]) (m' := m) ?h1]
  case h1 =>
    have hc : 0 < (" " : Str).length ∧ t.length + 2 ≤ lim := ⟨by decide, by have := ht.len; unfold lim; omega⟩
    have hz2 : Ev.sizeOk (0 + 1 + 1) = true := by decide
    simp -implicitDefEqProofs only [evB, evS, evE, evL, evI, evC, evO, asT, asL, wipeD, walkD, walkS, deref, R.bind_ok, ofO_some, onB_true, onB_false, toB, TL.len, partI, setAll, List.getElem?_cons_zero, List.getElem?_cons_succ, List.set_cons_zero, List.set_cons_succ, List.length_cons, List.length_nil, if_true, Option.map_some, Bool.not_true, Bool.not_false, smK, smD, hc, and_self, hw, hz2]
  rw [evB_nx (evS_set (d := .tup (isles.map .str)) (m' := m) ?h4)]
  case h4 =>
    have hsl : slD (.lst ((w0 :: isles).map .str)) (some 1) none m = some (.lst (isles.map .str)) := by
      simp only [slD, deref, Ev.cutD]
      have e1 : HT.sIx ((w0 :: isles).map D.str).length 0 (some 1) = 1 := by
        rw [List.length_map, show (some (1 : Int)) = some ((1 : Nat) : Int) from rfl, HT.sIx_nat, List.length_cons]
        simp
      have e2 : HT.sIx ((w0 :: isles).map D.str).length ((w0 :: isles).map D.str).length none = ((w0 :: isles).map D.str).length := rfl
      rw [e1, e2]
      simp only [List.map_cons, List.length_cons, List.length_map, List.drop_succ_cons, List.drop_zero, Nat.add_sub_cancel]
      rw [List.take_of_length_le (by simp)]
    simp -implicitDefEqProofs only [evB, evS, evE, evL, evI, evC, evO, asT, asL, wipeD, walkD, walkS, deref, R.bind_ok, ofO_some, onB_true, onB_false, toB, TL.len, partI, setAll, List.getElem?_cons_zero, List.getElem?_cons_succ, List.set_cons_zero, List.set_cons_succ, List.length_cons, List.length_nil, if_true, Option.map_some, Bool.not_true, Bool.not_false, hsl, bi_tuple_l]
  simp -implicitDefEqProofs only [List.set_cons_succ, List.set_cons_zero]
  have hix : ixD (.lst ((w0 :: isles).map .str)) (.int 0) m = some (.str w0) := by
    rw [ix_l]
    exact atI_map (f := D.str) (l := w0 :: isles) (i := 0) rfl
  rw [evB_guardN (b := !(decide (w0 = "islands") && (decide (2 ≤ isles.length ∧ isles.length ≤ 5) && decide isles.Nodup))) (m' := m) ?h5]
  case h5 =>
    simp -implicitDefEqProofs only [evB, evS, evE, evL, evI, evC, evO, asT, asL, wipeD, walkD, walkS, deref, R.bind_ok, ofO_some, onB_true, onB_false, toB, TL.len, partI, setAll, List.getElem?_cons_zero, List.getElem?_cons_succ, List.set_cons_zero, List.set_cons_succ, List.length_cons, List.length_nil, if_true, Option.map_some, Bool.not_true, Bool.not_false, hix, ne_ss h0 hi0, bi_len_t, List.length_map, le_ii]
    by_cases c1 : w0 = "islands"
    · simp -implicitDefEqProofs only [c1, decide_true, evB, evS, evE, evL, evI, evC, evO, asT, asL, wipeD, walkD, walkS, deref, R.bind_ok, ofO_some, onB_true, onB_false, toB, TL.len, partI, setAll, List.getElem?_cons_zero, List.getElem?_cons_succ, List.set_cons_zero, List.set_cons_succ, List.length_cons, List.length_nil, if_true, Option.map_some, Bool.not_true, Bool.not_false, Bool.true_and]
      by_cases c2 : 2 ≤ isles.length ∧ isles.length ≤ 5
      · have e1 : (2 : Int) ≤ (isles.length : Nat) := by omega
        have e2 : ((isles.length : Nat) : Int) ≤ 5 := by omega
        have hlt : isles.length < 60 := by omega
        obtain ⟨s1, s2⟩ := seen_full (ys := isles)
        have hb : decide ((((seenD isles isles.length).length : Nat) : Int) < (isles.length : Nat)) = !decide isles.Nodup := by
          rw [Bool.eq_iff_iff, Bool.not_eq_true', decide_eq_true_eq, decide_eq_false_iff_not, ← s2]
          omega
        simp -implicitDefEqProofs only [e1, e2, decide_true, evB, evS, evE, evL, evI, evC, evO, asT, asL, wipeD, walkD, walkS, deref, R.bind_ok, ofO_some, onB_true, onB_false, toB, TL.len, partI, setAll, List.getElem?_cons_zero, List.getElem?_cons_succ, List.set_cons_zero, List.set_cons_succ, List.length_cons, List.length_nil, if_true, Option.map_some, Bool.not_true, Bool.not_false, lensetD, strL_map, Option.bind_some, hlt, lt_ii, hb, c2, and_self, Bool.true_and]
      · rw [decide_eq_false c2]
        by_cases e1 : (2 : Int) ≤ (isles.length : Nat)
        · have e2 : ¬ ((isles.length : Nat) : Int) ≤ 5 := by omega
          simp -implicitDefEqProofs only [e1, e2, decide_true, decide_false, evB, evS, evE, evL, evI, evC, evO, asT, asL, wipeD, walkD, walkS, deref, R.bind_ok, ofO_some, onB_true, onB_false, toB, TL.len, partI, setAll, List.getElem?_cons_zero, List.getElem?_cons_succ, List.set_cons_zero, List.set_cons_succ, List.length_cons, List.length_nil, if_true, Option.map_some, Bool.not_true, Bool.not_false, Bool.false_and, Bool.not_false]
        · simp -implicitDefEqProofs only [e1, decide_false, evB, evS, evE, evL, evI, evC, evO, asT, asL, wipeD, walkD, walkS, deref, R.bind_ok, ofO_some, onB_true, onB_false, toB, TL.len, partI, setAll, List.getElem?_cons_zero, List.getElem?_cons_succ, List.set_cons_zero, List.set_cons_succ, List.length_cons, List.length_nil, if_true, Option.map_some, Bool.not_true, Bool.not_false, Bool.false_and, Bool.not_false]
    · simp -implicitDefEqProofs only [c1, decide_false, evB, evS, evE, evL, evI, evC, evO, asT, asL, wipeD, walkD, walkS, deref, R.bind_ok, ofO_some, onB_true, onB_false, toB, TL.len, partI, setAll, List.getElem?_cons_zero, List.getElem?_cons_succ, List.set_cons_zero, List.set_cons_succ, List.length_cons, List.length_nil, if_true, Option.map_some, Bool.not_true, Bool.not_false, Bool.false_and, Bool.not_false]
  by_cases hc : w0 = "islands" ∧ (2 ≤ isles.length ∧ isles.length ≤ 5) ∧ isles.Nodup
  · obtain ⟨c1, c2, c3⟩ := hc
    rw [decide_eq_true c1, decide_eq_true c2, decide_eq_true c3]
    simp only [Bool.and_self, Bool.not_true, Bool.false_eq_true, if_false]
    have hgo := forL_first (α := Str) (m := m) (src := []) (e := D.str) (g := fun d ρ1 m2 => (asT (G__law_read []) (.nm 4) d ρ1 m2).bind fun ρ2 m3 => evB (G__law_read []) l__law_read_1 ρ2 m3) rfl
      (fun i ρ => ∃ a, ρ = [some (.str t), some (.lst ((w0 :: isles).map .str)), some (.str abcS), some (.tup (isles.map .str)), a, none]) (fun _ x => if nameOk x then none else some .non) isles 0 [some (.str t), some (.lst ((w0 :: isles).map .str)), some (.str abcS), some (.tup (isles.map .str)), none, none] ⟨none, rfl⟩ (by
        rintro i x ρ hi ⟨a, rfl⟩
        have hxt := hs x (List.mem_of_getElem? hi)
        obtain ⟨w1, w2⟩ := e_law_word (m := m) (a := none) (b := none) (c := none) (s0 := some (.str t)) (s1 := some (.lst ((w0 :: isles).map .str))) (s3 := some (.tup (isles.map .str))) (s4 := none) (x := x) (by have := hxt.len; omega) hxt.cp
        cases hno : nameOk x with
        | true =>
          right
          refine ⟨by simp [hno], _, ?_, some (.str x), rfl⟩
          exact w1 hno
        | false =>
          left
          refine ⟨.non, [some (.str t), some (.lst ((w0 :: isles).map .str)), some (.str abcS), some (.tup (isles.map .str)), some (.str x), none], by simp [hno], ?_⟩
          exact w2 hno)
    have hI : evI (G__law_read []) (.seq (.v 3)) [some (.str t), some (.lst ((w0 :: isles).map .str)), some (.str abcS), some (.tup (isles.map .str)), none, none] m = .ok (isles.map .str, []) m := by
      simp -implicitDefEqProofs only [evB, evS, evE, evL, evI, evC, evO, asT, asL, wipeD, walkD, walkS, deref, R.bind_ok, ofO_some, onB_true, onB_false, toB, TL.len, partI, setAll, List.getElem?_cons_zero, List.getElem?_cons_succ, List.set_cons_zero, List.set_cons_succ, List.length_cons, List.length_nil, if_true, Option.map_some, Bool.not_true, Bool.not_false]
    rcases hgo with ⟨d, ρ', e1, e2⟩ | ⟨e1, ρ', e2, a, rfl⟩
    · have hd : d = .non ∧ ¬ ∀ x ∈ isles, nameOk x = true := by
        have : ∀ (l : List Str) (k : Nat), firstO (fun _ x => if nameOk x then none else some D.non) l k = some d → d = .non ∧ ¬ ∀ x ∈ l, nameOk x = true := by
          intro l
          induction l with
          | nil => intro k h; cases h
          | cons a r ih =>
            intro k h
            rw [firstO] at h
            split at h
            · rename_i x hx
              cases h
              split at hx
              · cases hx
              · rename_i hna
                cases hx
                exact ⟨rfl, fun hh => hna (hh a List.mem_cons_self)⟩
            · obtain ⟨h1, h2⟩ := ih _ h
              exact ⟨h1, fun hh => h2 fun x hx => hh x (List.mem_cons_of_mem _ hx)⟩
        exact this isles 0 e1
      obtain ⟨rfl, hd⟩ := hd
      rw [evB_rt (d := .non) (ρ' := ρ') (m' := m) ((evS_for hI).trans e2)]
      have : readRes w0 isles = .non := by
        unfold readRes
        rw [if_neg]
        rintro ⟨_, _, h3⟩
        exact hd (wrongIsl_none.mp h3).2.2
      rw [this]
      rfl
    · have hd : ∀ x ∈ isles, nameOk x = true := by
        rw [firstO_none] at e1
        intro x hx
        obtain ⟨i, hi⟩ := List.mem_iff_getElem?.mp hx
        have := e1 i x hi
        cases hno : nameOk x with
        | true => rfl
        | false => rw [hno] at this; cases this
      rw [evB_nx ((evS_for hI).trans e2)]
      have : readRes w0 isles = .tup (isles.map .str) := by
        unfold readRes
        rw [if_pos ⟨c1, by omega, wrongIsl_none.mpr ⟨c2.2, c3, hd⟩⟩]
      rw [this, evB_rt (evS_ret (d := .tup (isles.map .str)) (m' := m) rfl)]
      rfl
  · have hb : (!(decide (w0 = "islands") && (decide (2 ≤ isles.length ∧ isles.length ≤ 5) && decide isles.Nodup))) = true := by
      rw [Bool.not_eq_true', ← Bool.not_eq_true]
      intro h
      simp only [Bool.and_eq_true, decide_eq_true_eq] at h
      exact hc h
    have : readRes w0 isles = .non := by
      unfold readRes
      rw [if_neg]
      rintro ⟨h1, h2, h3⟩
      have := wrongIsl_none.mp h3
      exact hc ⟨h1, ⟨by omega, this.1⟩, this.2.1⟩
    rw [hb, if_pos rfl, this]
    rfl
end
end K85

set_option Elab.async false
set_option linter.all false
set_option maxRecDepth 100000
set_option maxHeartbeats 4000000
namespace K85
open PySem PySem.Spec PyProof.Rows L2 Ev
/-! ### weights of lists of words -/
def wt (l : List Str) : Nat := (l.map fun w => w.length + 1).sum
theorem wt_app {a b : List Str} : wt (a ++ b) = wt a + wt b := by
  unfold wt
  rw [List.map_append, List.sum_append]
theorem wt_sum (l : List Str) : (l.map (·.length)).sum + l.length * (" " : Str).length = wt l := by
  unfold wt
  rw [space_len]
  induction l with
  | nil => rfl
  | cons a r ih =>
    simp only [List.map_cons, List.sum_cons, List.length_cons]
    omega
theorem wt_take {l : List Str} {i : Nat} : wt (l.take i) ≤ wt l := by
  have := wt_app (a := l.take i) (b := l.drop i)
  rw [List.take_append_drop] at this
  omega
theorem wt_drop {l : List Str} {i : Nat} : wt (l.drop i) ≤ wt l := by
  have := wt_app (a := l.take i) (b := l.drop i)
  rw [List.take_append_drop] at this
  omega
theorem wt_mem {l : List Str} {w : Str} (h : w ∈ l) : w.length + 1 ≤ wt l := by
  unfold wt
  induction l with
  | nil => cases h
  | cons a r ih =>
    rw [List.map_cons, List.sum_cons]
    rcases List.mem_cons.mp h with rfl | h
    · omega
    · have := ih h
      omega
theorem wt_set {l : List Str} {i : Nat} {w : Str} : wt (l.set i w) ≤ wt l + (w.length + 1) := by
  unfold wt
  induction l generalizing i with
  | nil => simp
  | cons a r ih =>
    cases i with
    | zero => simp only [List.set_cons_zero, List.map_cons, List.sum_cons]; omega
    | succ i =>
      have := ih (i := i)
      simp only [List.set_cons_succ, List.map_cons, List.sum_cons]
      omega
theorem join_wt {s : Str} (hs : s.length = 1) : ∀ {l : List Str}, l ≠ [] → (Str.join s l).length + 1 = wt l
  | [], h => absurd rfl h
  | [x], _ => by simp [wt, PyProof.Rows.join_one]
  | x :: y :: r, _ => by
    have := join_wt hs (l := y :: r) (by simp)
    rw [PyProof.Rows.join_cons_cons, len_app, len_app, hs]
    unfold wt at this ⊢
    rw [List.map_cons, List.sum_cons]
    omega
structure WdsOk (l : List Str) (n : Nat) : Prop where
  cp : ∀ w ∈ l, cpOk w.cps.toList
  wt : wt l ≤ n
theorem split_wt {t : Str} {n : Nat} (h : TxtOk t n) : WdsOk (Txt.split t " ") (n + 1) ∧ 0 < (Txt.split t " ").length ∧ (Txt.split t " ").length ≤ n + 2 := by
  obtain ⟨⟨w0, ws, e⟩, h2, h3, _⟩ := split_ok h
  have hj := StrLaws.join_split t " "
  have hne : Txt.split t " " ≠ [] := by rw [e]; simp
  have := join_wt space_len hne
  rw [hj] at this
  refine ⟨⟨fun w hw => (h2 w hw).cp, by have := h.len; omega⟩, by rw [e]; simp, h3⟩
theorem WdsOk.app {a b : List Str} {n k : Nat} (ha : WdsOk a n) (hb : WdsOk b k) : WdsOk (a ++ b) (n + k) := by
  refine ⟨fun w hw => ?_, by rw [wt_app]; exact Nat.add_le_add ha.wt hb.wt⟩
  rcases List.mem_append.mp hw with hw | hw
  · exact ha.cp w hw
  · exact hb.cp w hw
theorem WdsOk.one {l : List Str} {n : Nat} {w : Str} (h : WdsOk l n) (hw : w ∈ l) : WdsOk [w] n := by
  refine ⟨fun v hv => ?_, ?_⟩
  · have : v = w := by simpa using hv
    subst this
    exact h.cp v hw
  · have := wt_mem hw
    have := h.wt
    simp only [K85.wt, List.map_cons, List.map_nil, List.sum_cons, List.sum_nil]
    omega
theorem WdsOk.join {l : List Str} {n : Nat} (h : WdsOk l n) : TxtOk (Txt.join " " l) n := by
  refine ⟨?_, Nat.le_trans (join_len _ _) (by rw [wt_sum]; exact h.wt)⟩
  rw [_root_.TL.join_eq]
  exact cp_join (cp_str _) h.cp
theorem cut_ok {l : List Str} {n : Nat} {lo hi : Option Int} (h : WdsOk l n) : ∃ l', Ev.cutD (l.map .str) lo hi = l'.map .str ∧ WdsOk l' n ∧ l'.length ≤ l.length := by
  refine ⟨(l.drop (HT.sIx l.length 0 lo)).take (HT.sIx l.length l.length hi - HT.sIx l.length 0 lo), ?_, ⟨fun w hw => ?_, ?_⟩, ?_⟩
  · unfold Ev.cutD
    rw [List.length_map, List.map_take, List.map_drop]
  · exact h.cp w (List.mem_of_mem_drop (List.mem_of_mem_take hw))
  · exact Nat.le_trans (Nat.le_trans wt_take wt_drop) h.wt
  · rw [List.length_take, List.length_drop]
    omega
section
variable {k : Nat} {m m' m'' : Mem}
theorem sl_s {t : Str} {lo hi : Option Int} (h : t.length ≤ 1000000) : slD (.str t) lo hi m = some (.str (Txt.slice t lo hi)) := by
  have hz : Ev.sizeOk t.length = true := sizeOk_pow (by omega)
  simp only [slD, deref, hz, if_true]
theorem sl_r {l : List Str} {i : Nat} {lo hi : Option Int} (hi' : m[i]? = some (.lst (l.map .str))) : slD (.ref i) lo hi m = some (.lst (Ev.cutD (l.map .str) lo hi)) := by
  simp only [slD, deref, hi']
theorem sm_join {l : List Str} (h : wt l ≤ 1000000) : smD .join 0 (.str " ") [.lst (l.map .str)] m = some (.str (Txt.join " " l)) := by
  have hs : (l.map (·.length)).sum + l.length * (" " : Str).length ≤ lim := by
    rw [wt_sum]
    exact Nat.le_trans h (by decide)
  simp only [smD, deref, items, Option.bind_some, strL_map, hs, if_true]
theorem sm_joinR {l : List Str} {i : Nat} (hi : m[i]? = some (.lst (l.map .str))) (h : wt l ≤ 1000000) : smD .join 0 (.str " ") [.ref i] m = some (.str (Txt.join " " l)) := by
  have hs : (l.map (·.length)).sum + l.length * (" " : Str).length ≤ lim := by
    rw [wt_sum]
    exact Nat.le_trans h (by decide)
  simp only [smD, deref, items, hi, Option.bind_some, strL_map, hs, if_true]
theorem wt_len {l : List Str} : l.length ≤ wt l := by
  have := wt_sum l
  rw [space_len] at this
  omega
abbrev cρ (k : Nat) (t : Str) (w a : Int) (sg : Str) (s5 s6 s7 : Option D) : Ev.Env := [some (.ref k), some (.str t), some (.int w), some (.int a), some (.str sg), s5, s6, s7]
abbrev GC : Gam := G__law_changed [f__law_pull, f__law_one]
theorem e_changed {t : Str} {n : Nat} (hs : St k m) (ht : TxtOk t n) (hn : n ≤ 1000) : ∃ t' m', f__law_changed [.ref k, .str t] m = .ok (.str t') m' ∧ Dr k m m' ∧ TxtOk t' (3 * n + 3) := by
  have htl := ht.len
  have hz : Ev.sizeOk t.length = true := sizeOk_pow (by omega)
  have hb : ∀ m, biD .len [.str t] m = some (.int t.length) := fun m => by simp [biD, deref, hz]
  obtain ⟨w, m1, e1, d1, w0, w6⟩ := e_pull (s := 6) hs (by decide) (log2_small (by decide) (by decide))
  have hs1 := d1.st hs
  obtain ⟨a, m2, e2, d2, a0, a1⟩ := e_pull (s := (t.length : Nat) + 1) hs1 (by omega) (log2_small (by omega) (by omega))
  have hs2 := d2.st hs1
  obtain ⟨c, m3, hc, e3, d3⟩ := e_one_s (s := "abcz0123456789 \n.AZ-_") hs2 (by decide) (by decide)
  have hs3 := d3.st hs2
  have d123 := (d1.trans d2).trans d3
  have st1 : evS GC (.par2 2 3 (.cons (.call 0 (.cons (.v 0) (.cons (.int 6) .nil))) (.cons (.call 0 (.cons (.v 0) (.cons (.bin .Add (.bi .len (.cons (.v 1) .nil)) (.int 1)) .nil))) .nil))) [some (.ref k), some (.str t), none, none, none, none, none, none] m = .ok (.nx, [some (.ref k), some (.str t), some (.int w), some (.int a), none, none, none, none]) m2 := by
    simp -implicitDefEqProofs only [evB, evS, evE, evL, evI, evC, evO, asT, asL, wipeD, walkD, walkS, deref, R.bind_ok, ofO_some, onB_true, onB_false, toB, TL.len, partI, setAll, List.getElem?_cons_zero, List.getElem?_cons_succ, List.set_cons_zero, List.set_cons_succ, List.length_cons, List.length_nil, if_true, Option.map_some, Bool.not_true, Bool.not_false, GC, G__law_changed, e1, hb, opBin, e2]
  have st2 : evS GC (.set (.nm 4) (.call 1 (.cons (.v 0) (.cons (.str "abcz0123456789 \n.AZ-_") .nil)))) [some (.ref k), some (.str t), some (.int w), some (.int a), none, none, none, none] m2 = .ok (.nx, cρ k t w a ⟨#[c]⟩ none none none) m3 := by
    simp -implicitDefEqProofs only [evB, evS, evE, evL, evI, evC, evO, asT, asL, wipeD, walkD, walkS, deref, R.bind_ok, ofO_some, onB_true, onB_false, toB, TL.len, partI, setAll, List.getElem?_cons_zero, List.getElem?_cons_succ, List.set_cons_zero, List.set_cons_succ, List.length_cons, List.length_nil, if_true, Option.map_some, Bool.not_true, Bool.not_false, GC, G__law_changed, e3]
  have hsg : TxtOk ⟨#[c]⟩ 1 := by
    refine ⟨?_, Nat.le_refl _⟩
    intro x hx
    have : x = c := by simpa using hx
    subst this
    have hall : ∀ x ∈ (("abcz0123456789 \n.AZ-_" : Str)).cps.toList, x < 1114112 := by decide
    exact hall x hc
  have hsl : ∀ lo hi, TxtOk (Txt.slice t lo hi) n := fun lo hi => ht.slice
  have hadd : ∀ {x y : Str}, x.length ≤ 5000 → y.length ≤ 5000 → Ev.sizeOk (x.length + y.length) = true := fun h1 h2 => sizeOk_pow (by omega)
  by_cases c0 : w = 0
  · have hT := ((hsl none (some a)).app hsg).app (hsl (some a) none)
    refine ⟨_, m3, ?_, d123, hT.mono (by omega)⟩
    refine run_dr hs rfl d123 rfl ?_
    unfold b__law_changed
    simp only [List.map_cons, List.map_nil, List.length_cons, List.length_nil, List.reduceReplicate, Nat.reduceAdd, Nat.reduceSub, List.cons_append, List.nil_append]
    rw [evB_nx st1, evB_nx st2]
    rw [evB_rt (d := .str (Txt.slice t none (some a) ++ ⟨#[c]⟩ ++ Txt.slice t (some a) none)) (ρ' := cρ k t w a ⟨#[c]⟩ none none none) (m' := m3) ?h1]
    · rfl
    case h1 =>
      rw [evS_T (m' := m3) ?h2]
      case h2 => simp -implicitDefEqProofs only [evB, evS, evE, evL, evI, evC, evO, asT, asL, wipeD, walkD, walkS, deref, R.bind_ok, ofO_some, onB_true, onB_false, toB, TL.len, partI, setAll, List.getElem?_cons_zero, List.getElem?_cons_succ, List.set_cons_zero, List.set_cons_succ, List.length_cons, List.length_nil, if_true, Option.map_some, Bool.not_true, Bool.not_false, eq_ii, c0, decide_true]
      refine evB_rt (evS_ret ?_)
      have q1 : Ev.sizeOk ((Txt.slice t none (some a)).length + (⟨#[c]⟩ : Str).length) = true := hadd (by have := (hsl none (some a)).len; omega) (by have := hsg.len; omega)
      have q2 : Ev.sizeOk ((Txt.slice t none (some a) ++ (⟨#[c]⟩ : Str)).length + (Txt.slice t (some a) none).length) = true := hadd (by have := ((hsl none (some a)).app hsg).len; omega) (by have := (hsl (some a) none).len; omega)
      simp -implicitDefEqProofs only [evB, evS, evE, evL, evI, evC, evO, asT, asL, wipeD, walkD, walkS, deref, R.bind_ok, ofO_some, onB_true, onB_false, toB, TL.len, partI, setAll, List.getElem?_cons_zero, List.getElem?_cons_succ, List.set_cons_zero, List.set_cons_succ, List.length_cons, List.length_nil, if_true, Option.map_some, Bool.not_true, Bool.not_false, sl_s (show t.length ≤ 1000000 by omega), opBin, q1, q2]
  by_cases c1 : w = 1
  · have hT := (hsl none (some a)).app (hsl (some (a + 1)) none)
    refine ⟨_, m3, ?_, d123, hT.mono (by omega)⟩
    refine run_dr hs rfl d123 rfl ?_
    unfold b__law_changed
    simp only [List.map_cons, List.map_nil, List.length_cons, List.length_nil, List.reduceReplicate, Nat.reduceAdd, Nat.reduceSub, List.cons_append, List.nil_append]
    rw [evB_nx st1, evB_nx st2]
    rw [evB_nx (ρ' := cρ k t w a ⟨#[c]⟩ none none none) (m' := m3) ?h0]
    case h0 =>
      rw [evS_F (m' := m3) ?h2]
      · rfl
      case h2 => simp -implicitDefEqProofs only [evB, evS, evE, evL, evI, evC, evO, asT, asL, wipeD, walkD, walkS, deref, R.bind_ok, ofO_some, onB_true, onB_false, toB, TL.len, partI, setAll, List.getElem?_cons_zero, List.getElem?_cons_succ, List.set_cons_zero, List.set_cons_succ, List.length_cons, List.length_nil, if_true, Option.map_some, Bool.not_true, Bool.not_false, eq_ii, c0, decide_false]
    rw [evB_rt (d := .str (Txt.slice t none (some a) ++ Txt.slice t (some (a + 1)) none)) (ρ' := cρ k t w a ⟨#[c]⟩ none none none) (m' := m3) ?h1]
    · rfl
    case h1 =>
      rw [evS_T (m' := m3) ?h2]
      case h2 => simp -implicitDefEqProofs only [evB, evS, evE, evL, evI, evC, evO, asT, asL, wipeD, walkD, walkS, deref, R.bind_ok, ofO_some, onB_true, onB_false, toB, TL.len, partI, setAll, List.getElem?_cons_zero, List.getElem?_cons_succ, List.set_cons_zero, List.set_cons_succ, List.length_cons, List.length_nil, if_true, Option.map_some, Bool.not_true, Bool.not_false, eq_ii, c1, decide_true]
      refine evB_rt (evS_ret ?_)
      have q1 : Ev.sizeOk ((Txt.slice t none (some a)).length + (Txt.slice t (some (a + 1)) none).length) = true := hadd (by have := (hsl none (some a)).len; omega) (by have := (hsl (some (a + 1)) none).len; omega)
      simp -implicitDefEqProofs only [evB, evS, evE, evL, evI, evC, evO, asT, asL, wipeD, walkD, walkS, deref, R.bind_ok, ofO_some, onB_true, onB_false, toB, TL.len, partI, setAll, List.getElem?_cons_zero, List.getElem?_cons_succ, List.set_cons_zero, List.set_cons_succ, List.length_cons, List.length_nil, if_true, Option.map_some, Bool.not_true, Bool.not_false, sl_s (show t.length ≤ 1000000 by omega), opBin, q1]
  by_cases c2 : w = 2
  · have hT := ((hsl none (some a)).app hsg).app (hsl (some (a + 1)) none)
    refine ⟨_, m3, ?_, d123, hT.mono (by omega)⟩
    refine run_dr hs rfl d123 rfl ?_
    unfold b__law_changed
    simp only [List.map_cons, List.map_nil, List.length_cons, List.length_nil, List.reduceReplicate, Nat.reduceAdd, Nat.reduceSub, List.cons_append, List.nil_append]
    rw [evB_nx st1, evB_nx st2]
    rw [evB_nx (ρ' := cρ k t w a ⟨#[c]⟩ none none none) (m' := m3) ?h0]
    case h0 =>
      rw [evS_F (m' := m3) ?h2]
      · rfl
      case h2 => simp -implicitDefEqProofs only [evB, evS, evE, evL, evI, evC, evO, asT, asL, wipeD, walkD, walkS, deref, R.bind_ok, ofO_some, onB_true, onB_false, toB, TL.len, partI, setAll, List.getElem?_cons_zero, List.getElem?_cons_succ, List.set_cons_zero, List.set_cons_succ, List.length_cons, List.length_nil, if_true, Option.map_some, Bool.not_true, Bool.not_false, eq_ii, c0, decide_false]
    rw [evB_nx (ρ' := cρ k t w a ⟨#[c]⟩ none none none) (m' := m3) ?h3]
    case h3 =>
      rw [evS_F (m' := m3) ?h4]
      · rfl
      case h4 => simp -implicitDefEqProofs only [evB, evS, evE, evL, evI, evC, evO, asT, asL, wipeD, walkD, walkS, deref, R.bind_ok, ofO_some, onB_true, onB_false, toB, TL.len, partI, setAll, List.getElem?_cons_zero, List.getElem?_cons_succ, List.set_cons_zero, List.set_cons_succ, List.length_cons, List.length_nil, if_true, Option.map_some, Bool.not_true, Bool.not_false, eq_ii, c1, decide_false]
    rw [evB_rt (d := .str (Txt.slice t none (some a) ++ ⟨#[c]⟩ ++ Txt.slice t (some (a + 1)) none)) (ρ' := cρ k t w a ⟨#[c]⟩ none none none) (m' := m3) ?h1]
    · rfl
    case h1 =>
      rw [evS_T (m' := m3) ?h2]
      case h2 => simp -implicitDefEqProofs only [evB, evS, evE, evL, evI, evC, evO, asT, asL, wipeD, walkD, walkS, deref, R.bind_ok, ofO_some, onB_true, onB_false, toB, TL.len, partI, setAll, List.getElem?_cons_zero, List.getElem?_cons_succ, List.set_cons_zero, List.set_cons_succ, List.length_cons, List.length_nil, if_true, Option.map_some, Bool.not_true, Bool.not_false, eq_ii, c2, decide_true]
      refine evB_rt (evS_ret ?_)
      have q1 : Ev.sizeOk ((Txt.slice t none (some a)).length + (⟨#[c]⟩ : Str).length) = true := hadd (by have := (hsl none (some a)).len; omega) (by have := hsg.len; omega)
      have q2 : Ev.sizeOk ((Txt.slice t none (some a) ++ (⟨#[c]⟩ : Str)).length + (Txt.slice t (some (a + 1)) none).length) = true := hadd (by have := ((hsl none (some a)).app hsg).len; omega) (by have := (hsl (some (a + 1)) none).len; omega)
      simp -implicitDefEqProofs only [evB, evS, evE, evL, evI, evC, evO, asT, asL, wipeD, walkD, walkS, deref, R.bind_ok, ofO_some, onB_true, onB_false, toB, TL.len, partI, setAll, List.getElem?_cons_zero, List.getElem?_cons_succ, List.set_cons_zero, List.set_cons_succ, List.length_cons, List.length_nil, if_true, Option.map_some, Bool.not_true, Bool.not_false, sl_s (show t.length ≤ 1000000 by omega), opBin, q1, q2]
  obtain ⟨hW, hpos, hcnt⟩ := split_wt ht
  generalize hwd : Txt.split t " " = ws at hW hpos hcnt
  have hwl : ws.length ≤ 10000 := by omega
  have hsw := strs_st hs3 ws
  obtain ⟨p, m4, e4, u4, p0, p1⟩ := e_pull (s := (ws.length : Nat)) hsw (by omega) (log2_small (by omega) (by omega))
  obtain ⟨m4, rfl, d4⟩ := u4.unapp hs3
  have hs4 := d4.st hs3
  obtain ⟨q, m5, e5, u5, q0, q1⟩ := e_pull (s := (ws.length : Nat)) (strs_st hs4 ws) (by omega) (log2_small (by omega) (by omega))
  obtain ⟨m5, rfl, d5⟩ := u5.unapp hs4
  have hs5 := d5.st hs4
  obtain ⟨i, hi, rfl⟩ := nat_of p0 p1
  obtain ⟨j, hj, rfl⟩ := nat_of q0 q1
  have dall := (d123.trans d4).trans d5
  have hml : m5.length = m3.length := by rw [d5.len, d4.len]
  have hm4 : m4.length = m3.length := d4.len
  have hg : ∀ y : MO, (m5 ++ [y])[m3.length]? = some y := fun y => by rw [← hml]; exact one_last
  have hg4 : ∀ y : MO, (m4 ++ [y])[m3.length]? = some y := fun y => by rw [← hm4]; exact one_last
  have stA : evS GC (.ife (.cmp .Eq (.v 2) (.int 0)) (.cons (.ret (.bin .Add (.bin .Add (.sl (.v 1) .no (.yes (.v 3))) (.v 4)) (.sl (.v 1) (.yes (.v 3)) .no))) .nil) .nil) (cρ k t w a ⟨#[c]⟩ none none none) m3 = .ok (.nx, cρ k t w a ⟨#[c]⟩ none none none) m3 := by
    rw [evS_F (m' := m3) ?h2]
    · rfl
    case h2 => simp -implicitDefEqProofs only [evB, evS, evE, evL, evI, evC, evO, asT, asL, wipeD, walkD, walkS, deref, R.bind_ok, ofO_some, onB_true, onB_false, toB, TL.len, partI, setAll, List.getElem?_cons_zero, List.getElem?_cons_succ, List.set_cons_zero, List.set_cons_succ, List.length_cons, List.length_nil, if_true, Option.map_some, Bool.not_true, Bool.not_false, eq_ii, c0, decide_false]
  have stB : evS GC (.ife (.cmp .Eq (.v 2) (.int 1)) (.cons (.ret (.bin .Add (.sl (.v 1) .no (.yes (.v 3))) (.sl (.v 1) (.yes (.bin .Add (.v 3) (.int 1))) .no))) .nil) .nil) (cρ k t w a ⟨#[c]⟩ none none none) m3 = .ok (.nx, cρ k t w a ⟨#[c]⟩ none none none) m3 := by
    rw [evS_F (m' := m3) ?h2]
    · rfl
    case h2 => simp -implicitDefEqProofs only [evB, evS, evE, evL, evI, evC, evO, asT, asL, wipeD, walkD, walkS, deref, R.bind_ok, ofO_some, onB_true, onB_false, toB, TL.len, partI, setAll, List.getElem?_cons_zero, List.getElem?_cons_succ, List.set_cons_zero, List.set_cons_succ, List.length_cons, List.length_nil, if_true, Option.map_some, Bool.not_true, Bool.not_false, eq_ii, c1, decide_false]
  have stC : evS GC (.ife (.cmp .Eq (.v 2) (.int 2)) (.cons (.ret (.bin .Add (.bin .Add (.sl (.v 1) .no (.yes (.v 3))) (.v 4)) (.sl (.v 1) (.yes (.bin .Add (.v 3) (.int 1))) .no))) .nil) .nil) (cρ k t w a ⟨#[c]⟩ none none none) m3 = .ok (.nx, cρ k t w a ⟨#[c]⟩ none none none) m3 := by
    rw [evS_F (m' := m3) ?h2]
    · rfl
    case h2 => simp -implicitDefEqProofs only [evB, evS, evE, evL, evI, evC, evO, asT, asL, wipeD, walkD, walkS, deref, R.bind_ok, ofO_some, onB_true, onB_false, toB, TL.len, partI, setAll, List.getElem?_cons_zero, List.getElem?_cons_succ, List.set_cons_zero, List.set_cons_succ, List.length_cons, List.length_nil, if_true, Option.map_some, Bool.not_true, Bool.not_false, eq_ii, c2, decide_false]
  have stD : evS GC (.set (.nm 5) (.msm .split (.v 1) (.cons (.str " ") .nil))) (cρ k t w a ⟨#[c]⟩ none none none) m3 = .ok (.nx, cρ k t w a ⟨#[c]⟩ (some (.ref m3.length)) none none) (m3 ++ [.lst (ws.map .str)]) := by
    have hcc : 0 < (" " : Str).length ∧ t.length + 2 ≤ lim := ⟨by decide, by unfold lim; omega⟩
    simp -implicitDefEqProofs only [evB, evS, evE, evL, evI, evC, evO, asT, asL, wipeD, walkD, walkS, deref, R.bind_ok, ofO_some, onB_true, onB_false, toB, TL.len, partI, setAll, List.getElem?_cons_zero, List.getElem?_cons_succ, List.set_cons_zero, List.set_cons_succ, List.length_cons, List.length_nil, if_true, Option.map_some, Bool.not_true, Bool.not_false, smK, smD, hcc, and_self, hwd, toM]
  have hlen3 : biD .len [.ref m3.length] (m3 ++ [.lst (ws.map .str)]) = some (.int (ws.length : Nat)) := by
    simp only [biD, deref, one_last, List.length_map]
  have hlen4 : biD .len [.ref m3.length] (m4 ++ [.lst (ws.map .str)]) = some (.int (ws.length : Nat)) := by
    simp only [biD, deref, hg4, List.length_map]
  have stE : evS GC (.par2 6 7 (.cons (.call 0 (.cons (.v 0) (.cons (.bi .len (.cons (.v 5) .nil)) .nil))) (.cons (.call 0 (.cons (.v 0) (.cons (.bi .len (.cons (.v 5) .nil)) .nil))) .nil))) (cρ k t w a ⟨#[c]⟩ (some (.ref m3.length)) none none) (m3 ++ [.lst (ws.map .str)]) = .ok (.nx, cρ k t w a ⟨#[c]⟩ (some (.ref m3.length)) (some (.int (i : Nat))) (some (.int (j : Nat)))) (m5 ++ [.lst (ws.map .str)]) := by
    simp -implicitDefEqProofs only [evS, evE, evL, setAll, R.bind_ok, List.getElem?_cons_zero, List.getElem?_cons_succ, List.set_cons_zero, List.set_cons_succ, ofO_some, GC, G__law_changed, hlen3, e4, hlen4, e5]
  obtain ⟨wi, hwi⟩ : ∃ wi, ws[i]? = some wi := ⟨_, List.getElem?_eq_getElem hi⟩
  obtain ⟨wj, hwj⟩ : ∃ wj, ws[j]? = some wj := ⟨_, List.getElem?_eq_getElem hj⟩
  have ai := atI_map (f := D.str) hwi
  have aj := atI_map (f := D.str) hwj
  have hlt5 : ∀ x : Str, D.ltb m.length (.str x) = true := fun _ => rfl
  have hwt := hW.wt
  by_cases c3 : w = 3
  · obtain ⟨l1, x1, o1, k1⟩ := cut_ok (lo := none) (hi := some ((i : Nat) : Int)) hW
    obtain ⟨l2, x2, o2, k2⟩ := cut_ok (lo := some ((i : Nat) : Int)) (hi := none) hW
    have hJ := (o1.app (hW.one (List.mem_of_getElem? hwj))).app o2
    refine ⟨Txt.join " " (l1 ++ [wj] ++ l2), m5, ?_, dall, hJ.join.mono (by omega)⟩
    refine run_drM (d' := .str (Txt.join " " (l1 ++ [wj] ++ l2))) (x := [.lst (ws.map .str)]) hs rfl dall rfl rfl ?_
    unfold b__law_changed
    simp only [List.map_cons, List.map_nil, List.length_cons, List.length_nil, List.reduceReplicate, Nat.reduceAdd, Nat.reduceSub, List.cons_append, List.nil_append]
    rw [evB_nx st1, evB_nx st2, evB_nx stA, evB_nx stB, evB_nx stC, evB_nx stD, evB_nx stE]
    rw [evB_rt (d := .str (Txt.join " " (l1 ++ [wj] ++ l2))) (ρ' := cρ k t w a ⟨#[c]⟩ (some (.ref m3.length)) (some (.int (i : Nat))) (some (.int (j : Nat)))) (m' := m5 ++ [.lst (ws.map .str)]) ?h1]
    · rfl
    case h1 =>
      rw [evS_T (m' := m5 ++ [.lst (ws.map .str)]) ?h2]
      case h2 => simp -implicitDefEqProofs only [evB, evS, evE, evL, evI, evC, evO, asT, asL, wipeD, walkD, walkS, deref, R.bind_ok, ofO_some, onB_true, onB_false, toB, TL.len, partI, setAll, List.getElem?_cons_zero, List.getElem?_cons_succ, List.set_cons_zero, List.set_cons_succ, List.length_cons, List.length_nil, if_true, Option.map_some, Bool.not_true, Bool.not_false, eq_ii, c3, decide_true]
      refine evB_rt (evS_ret ?_)
      have z1 : Ev.sizeOk (0 + 1) = true := by decide
      have z2 : Ev.sizeOk (l1.length + (0 + 1)) = true := sizeOk_pow (by omega)
      have z3 : Ev.sizeOk ((l1 ++ [wj]).length + l2.length) = true := sizeOk_pow (by rw [List.length_append, List.length_singleton]; omega)
      have j1 : ([D.str wj] : List D) = [wj].map .str := rfl
      have hjn := sm_join (m := m5 ++ [.lst (ws.map .str)]) (l := l1 ++ [wj] ++ l2) (by have := hJ.wt; omega)
      rw [List.map_append, List.map_append] at hjn
      have z4 : Ev.sizeOk ((l1.map D.str ++ [wj].map D.str).length + l2.length) = true := by rw [← List.map_append, List.length_map]; exact z3
      simp -implicitDefEqProofs only [evE, evL, evO, R.bind_ok, List.getElem?_cons_zero, List.getElem?_cons_succ, ofO_some, deref, smK, partI, Option.map_some, sl_r (hg _), x1, x2, ixD, hg, aj, List.length_cons, List.length_nil, z1, if_true, opBin, List.length_map, z2, j1, z4, hjn]
  have stF : evS GC (.ife (.cmp .Eq (.v 2) (.int 3)) (.cons (.ret (.sm .join (.str " ") (.cons (.bin .Add (.bin .Add (.sl (.v 5) .no (.yes (.v 6))) (.lst (.cons (.ix (.v 5) (.v 7)) .nil))) (.sl (.v 5) (.yes (.v 6)) .no)) .nil))) .nil) .nil) (cρ k t w a ⟨#[c]⟩ (some (.ref m3.length)) (some (.int (i : Nat))) (some (.int (j : Nat)))) (m5 ++ [.lst (ws.map .str)]) = .ok (.nx, cρ k t w a ⟨#[c]⟩ (some (.ref m3.length)) (some (.int (i : Nat))) (some (.int (j : Nat)))) (m5 ++ [.lst (ws.map .str)]) := by
    rw [evS_F (m' := m5 ++ [.lst (ws.map .str)]) ?h2]
    · rfl
    case h2 => simp -implicitDefEqProofs only [evB, evS, evE, evL, evI, evC, evO, asT, asL, wipeD, walkD, walkS, deref, R.bind_ok, ofO_some, onB_true, onB_false, toB, TL.len, partI, setAll, List.getElem?_cons_zero, List.getElem?_cons_succ, List.set_cons_zero, List.set_cons_succ, List.length_cons, List.length_nil, if_true, Option.map_some, Bool.not_true, Bool.not_false, eq_ii, c3, decide_false]
  by_cases c4 : w = 4
  · obtain ⟨l1, x1, o1, k1⟩ := cut_ok (lo := none) (hi := some ((i : Nat) : Int)) hW
    obtain ⟨l2, x2, o2, k2⟩ := cut_ok (lo := some (((i : Nat) : Int) + 1)) (hi := none) hW
    have hJ := o1.app o2
    refine ⟨Txt.join " " (l1 ++ l2), m5, ?_, dall, hJ.join.mono (by omega)⟩
    refine run_drM (d' := .str (Txt.join " " (l1 ++ l2))) (x := [.lst (ws.map .str)]) hs rfl dall rfl rfl ?_
    unfold b__law_changed
    simp only [List.map_cons, List.map_nil, List.length_cons, List.length_nil, List.reduceReplicate, Nat.reduceAdd, Nat.reduceSub, List.cons_append, List.nil_append]
    rw [evB_nx st1, evB_nx st2, evB_nx stA, evB_nx stB, evB_nx stC, evB_nx stD, evB_nx stE, evB_nx stF]
    rw [evB_rt (d := .str (Txt.join " " (l1 ++ l2))) (ρ' := cρ k t w a ⟨#[c]⟩ (some (.ref m3.length)) (some (.int (i : Nat))) (some (.int (j : Nat)))) (m' := m5 ++ [.lst (ws.map .str)]) ?h1]
    · rfl
    case h1 =>
      rw [evS_T (m' := m5 ++ [.lst (ws.map .str)]) ?h2]
      case h2 => simp -implicitDefEqProofs only [evB, evS, evE, evL, evI, evC, evO, asT, asL, wipeD, walkD, walkS, deref, R.bind_ok, ofO_some, onB_true, onB_false, toB, TL.len, partI, setAll, List.getElem?_cons_zero, List.getElem?_cons_succ, List.set_cons_zero, List.set_cons_succ, List.length_cons, List.length_nil, if_true, Option.map_some, Bool.not_true, Bool.not_false, eq_ii, c4, decide_true]
      refine evB_rt (evS_ret ?_)
      have z3 : Ev.sizeOk (l1.length + l2.length) = true := sizeOk_pow (by omega)
      have hjn := sm_join (m := m5 ++ [.lst (ws.map .str)]) (l := l1 ++ l2) (by have := hJ.wt; omega)
      rw [List.map_append] at hjn
      simp -implicitDefEqProofs only [evE, evL, evO, R.bind_ok, List.getElem?_cons_zero, List.getElem?_cons_succ, ofO_some, deref, smK, partI, Option.map_some, sl_r (hg _), x1, x2, if_true, opBin, List.length_map, z3, hjn]
  have stG : evS GC (.ife (.cmp .Eq (.v 2) (.int 4)) (.cons (.ret (.sm .join (.str " ") (.cons (.bin .Add (.sl (.v 5) .no (.yes (.v 6))) (.sl (.v 5) (.yes (.bin .Add (.v 6) (.int 1))) .no)) .nil))) .nil) .nil) (cρ k t w a ⟨#[c]⟩ (some (.ref m3.length)) (some (.int (i : Nat))) (some (.int (j : Nat)))) (m5 ++ [.lst (ws.map .str)]) = .ok (.nx, cρ k t w a ⟨#[c]⟩ (some (.ref m3.length)) (some (.int (i : Nat))) (some (.int (j : Nat)))) (m5 ++ [.lst (ws.map .str)]) := by
    rw [evS_F (m' := m5 ++ [.lst (ws.map .str)]) ?h2]
    · rfl
    case h2 => simp -implicitDefEqProofs only [evB, evS, evE, evL, evI, evC, evO, asT, asL, wipeD, walkD, walkS, deref, R.bind_ok, ofO_some, onB_true, onB_false, toB, TL.len, partI, setAll, List.getElem?_cons_zero, List.getElem?_cons_succ, List.set_cons_zero, List.set_cons_succ, List.length_cons, List.length_nil, if_true, Option.map_some, Bool.not_true, Bool.not_false, eq_ii, c4, decide_false]
  have hS : WdsOk ((ws.set i wj).set j wi) (3 * n + 3) := by
    refine ⟨fun x hx => ?_, ?_⟩
    · rcases List.mem_or_eq_of_mem_set hx with hx | rfl
      · rcases List.mem_or_eq_of_mem_set hx with hx | rfl
        · exact hW.cp x hx
        · exact hW.cp _ (List.mem_of_getElem? hwj)
      · exact hW.cp _ (List.mem_of_getElem? hwi)
    · have h1 := wt_set (l := ws.set i wj) (i := j) (w := wi)
      have h2 := wt_set (l := ws) (i := i) (w := wj)
      have h3 := wt_mem (List.mem_of_getElem? hwi)
      have h4 := wt_mem (List.mem_of_getElem? hwj)
      omega
  refine ⟨Txt.join " " ((ws.set i wj).set j wi), m5, ?_, dall, hS.join⟩
  refine run_drM (d' := .str (Txt.join " " ((ws.set i wj).set j wi))) (x := [.lst (((ws.set i wj).set j wi).map .str)]) hs rfl dall rfl rfl ?_
  unfold b__law_changed
  simp only [List.map_cons, List.map_nil, List.length_cons, List.length_nil, List.reduceReplicate, Nat.reduceAdd, Nat.reduceSub, List.cons_append, List.nil_append]
  rw [evB_nx st1, evB_nx st2, evB_nx stA, evB_nx stB, evB_nx stC, evB_nx stD, evB_nx stE, evB_nx stF, evB_nx stG]
  rw [evB_nx (ρ' := cρ k t w a ⟨#[c]⟩ (some (.ref m3.length)) (some (.int (i : Nat))) (some (.int (j : Nat)))) (m' := m5 ++ [.lst (((ws.set i wj).set j wi).map .str)]) ?h1]
  case h1 =>
    have ni : ixN (ws.map D.str).length ((i : Nat) : Int) = some i := ixN_nat (by rw [List.length_map]; omega)
    have nj : ixN ((ws.map D.str).set i (.str wj)).length ((j : Nat) : Int) = some j := ixN_nat (by rw [List.length_set, List.length_map]; omega)
    have z2 : Ev.sizeOk (0 + 1 + 1) = true := by decide
    have hset : ∀ y z : MO, (m5 ++ [y]).set m3.length z = m5 ++ [z] := fun y z => by rw [← hml]; exact one_set
    simp -implicitDefEqProofs only [evS, evE, evL, asT, asL, TL.len, R.bind_ok, List.getElem?_cons_zero, List.getElem?_cons_succ, ofO_some, ixD, deref, hg, ai, aj, List.length_cons, List.length_nil, z2, if_true, setD, ni, nj, Option.map_some, hset, List.map_set]
  rw [evB_rt (evS_ret (d := .str (Txt.join " " ((ws.set i wj).set j wi))) (m' := m5 ++ [.lst (((ws.set i wj).set j wi).map .str)]) ?h2)]
  · rfl
  case h2 =>
    have hjn := sm_joinR (m := m5 ++ [.lst (((ws.set i wj).set j wi).map .str)]) (i := m3.length) (l := (ws.set i wj).set j wi) (hg _) (by have := hS.wt; omega)
    simp -implicitDefEqProofs only [evE, evL, R.bind_ok, List.getElem?_cons_zero, List.getElem?_cons_succ, ofO_some, deref, smK, hjn]
end
end K85

set_option Elab.async false
set_option linter.all false
set_option maxRecDepth 100000
set_option maxHeartbeats 4000000
namespace K85
open PySem PySem.Spec PyProof.Rows L2 Ev
abbrev GR : Gam := G__law_right [f_accepts, f__law_between_fits, f__law_joints, f__law_read, f__law_pull, f__law_changed, f_certify_between, f_Sea___init__, f__law_few, f__law_isles]
section
variable {k : Nat} {m m' m'' : Mem}
theorem isn_bb {a b : Bool} : opCmp .IsNot (.bl a) (.bl b) m = some (!(a == b)) := rfl
theorem repr_bl {b : Bool} : biD .repr [.bl b] m = some (.str (if b then "True" else "False")) := by
  cases b <;> rfl
theorem ne_repr_bl {a b : Bool} : opCmp .NotEq (.str (if a then "True" else "False")) (.str (if b then "True" else "False")) m = some (!decide (a = b)) := by
  have h1 : PyData.canLay0 (.str "True") = true := lay_of (by decide)
  have h2 : PyData.canLay0 (.str "False") = true := lay_of (by decide)
  cases a <;> cases b
  · exact (ne_ss h2 h2).trans (by simp)
  · exact (ne_ss h2 h1).trans (by decide)
  · exact (ne_ss h1 h2).trans (by decide)
  · exact (ne_ss h1 h1).trans (by simp)
/-- the law's judgement of a text is the program's -/
structure Base (isles : List Str) (nums : List Int) (x y : Str) (i j : Nat) : Prop where
  sea : SeaOk isles
  num : NumsOk isles.length nums
  x : isles[i]? = some x
  y : isles[j]? = some y
  ne : i ≠ j
theorem due_ok {isles : List Str} {nums : List Int} {x y : Str} {i j : Nat} {t : Str} {n : Nat} (h : Base isles nums x y i j) (hn : n ≤ 1000000) (ht : TxtOk t n) (hm : memLt m.length m = true) :
    ∃ d b, f__law_read [.str t] m = .ok d m ∧
      (∀ ρ : Ev.Env, ρ[11]? = some (some d) → ρ[3]? = some (some (intT nums)) → evE GR (.and (.cmp .IsNot (.v 11) .non) (.cmp .Eq (.bi .len (.cons (.call 2 (.cons (.bi .len (.cons (.v 11) .nil)) .nil)) .nil)) (.bi .len (.cons (.v 3) .nil)))) ρ m = .ok (.bl b) m) ∧
      (b = true → ∃ c, f__law_between_fits [d, intT nums, .tup [.str x, .str y, .int (betw isles.length nums i j)], paperD isles nums i j] m = .ok (.bl c) m ∧ f_accepts [.tup [.str "between", .str t, intT nums, .str x, .str y, .int (betw isles.length nums i j)], paperD isles nums i j] m = .ok (.bl c) m) ∧
      (b = false → f_accepts [.tup [.str "between", .str t, intT nums, .str x, .str y, .int (betw isles.length nums i j)], paperD isles nums i j] m = .ok (.bl false) m) := by
  obtain ⟨hS, hN, hx, hy, hij⟩ := h
  have hi := (List.getElem?_eq_some_iff.mp hx).1
  have hj := (List.getElem?_eq_some_iff.mp hy).1
  have hxm := List.mem_of_getElem? hx
  have hym := List.mem_of_getElem? hy
  obtain ⟨⟨w0, ws, hw⟩, hall, hcnt, _⟩ := split_ok ht
  have hrd := e_law_read (m := m) hn ht hw hm
  rw [hw] at hall
  have h0 := (hall w0 List.mem_cons_self).lay
  have hl : okAll ws := fun x hx => (hall x (List.mem_cons_of_mem _ hx)).lay
  have hlen : ∀ x ∈ ws, x.length ≤ 1048576 := fun x hx => by have := (hall x (List.mem_cons_of_mem _ hx)).len; omega
  have hpr := e_read_sea (t := t) (m := m) (by have := ht.len; omega) hw h0 hl hlen hm
  have hnl : nums.length ≤ 1000 := by
    have := spans_len_le hS.five
    have := hN.len
    omega
  have hns : okAll (namesIn isles (cutOf isles.length nums i j)) := names_ok hS.lay
  obtain ⟨fb1, fb2, fb3⟩ := flow_bounds hN hi hj hij
  by_cases hc : w0 = "islands" ∧ 1 < ws.length ∧ wrongIsl ws = none
  · have hres : readRes w0 ws = .tup (ws.map .str) := by unfold readRes; rw [if_pos hc]
    rw [if_pos hc] at hpr
    rw [hres] at hrd
    obtain ⟨c1, c2, c3⟩ := hc
    obtain ⟨q1, q2, q3⟩ := wrongIsl_none.mp c3
    have hS2 : SeaOk ws := ⟨by omega, q1, q2, q3⟩
    have hj := e_joints (m := m) (n := ws.length) q1 hm
    refine ⟨_, decide ((((spans ws.length).length : Nat) : Int) = (nums.length : Nat)), hrd, ?_, ?_, ?_⟩
    · intro ρ r1 r2
      simp -implicitDefEqProofs only [evB, evS, evE, evL, evI, evC, evO, asT, asL, wipeD, walkD, walkS, deref, R.bind_ok, ofO_some, onB_true, onB_false, toB, TL.len, partI, setAll, List.getElem?_cons_zero, List.getElem?_cons_succ, List.set_cons_zero, List.set_cons_succ, List.length_cons, List.length_nil, if_true, Option.map_some, Bool.not_true, Bool.not_false, r1, r2, isn_n, reduceCtorEq, decide_false, GR, G__law_right, bi_len_t, List.length_map, hj, bi_len_l, eq_ii]
    · intro e
      have hlen2 : nums.length = (spans ws.length).length := by
        have := of_decide_eq_true e
        omega
      have hN2 : NumsOk ws.length nums := ⟨hlen2, hN.in0, hN.le⟩
      refine ⟨betwShown ws nums x y (betw isles.length nums i j) (namesIn isles (cutOf isles.length nums i j)) (flowAll isles.length nums i j (betw isles.length nums i j)).2.2, ?_, ?_⟩
      · exact e_fits hS2.lay (hS.lay x hxm) (hS.lay y hym) hns q1 hnl fb1 fb2 hm
      · exact e_accepts hS2 hpr hN2 (hS.lay x hxm) (hS.lay y hym) hns hm
    · intro e
      have hlen2 : nums.length ≠ (spans ws.length).length := by
        have := of_decide_eq_false e
        omega
      exact e_accepts_len (fl := []) (names := []) hS2 hpr hlen2 hm
  · have hres : readRes w0 ws = .non := by unfold readRes; rw [if_neg hc]
    rw [if_neg hc] at hpr
    rw [hres] at hrd
    refine ⟨_, false, hrd, ?_, fun e => absurd e (by decide), fun _ => e_accepts_no (fl := []) (names := []) hpr hm⟩
    intro ρ r1 r2
    simp -implicitDefEqProofs only [evB, evS, evE, evL, evI, evC, evO, asT, asL, wipeD, walkD, walkS, deref, R.bind_ok, ofO_some, onB_true, onB_false, toB, TL.len, partI, setAll, List.getElem?_cons_zero, List.getElem?_cons_succ, List.set_cons_zero, List.set_cons_succ, List.length_cons, List.length_nil, if_true, Option.map_some, Bool.not_true, Bool.not_false, r1, isn_n, decide_true]
abbrev rρ (k : Nat) (isles : List Str) (nums : List Int) (x y : Str) (i j : Nat) (s9 s10 s11 s12 s13 : Option D) : Ev.Env :=
  [some (.ref k), some (.tup (isles.map .str)), some (.int (isles.length : Nat)), some (intT nums), some (.int (i : Nat)), some (.int (j : Nat)), some (.str (seaText isles)), some (saidD isles nums x y (betw isles.length nums i j)), some (paperD isles nums i j), s9, s10, s11, s12, s13]
theorem sl_h1 {a b c d e f : D} : slD (.tup [a, b, c, d, e, f]) none (some 1) m = some (.tup [a]) := rfl
theorem sl_2h {a b c d e f : D} : slD (.tup [a, b, c, d, e, f]) (some 2) none m = some (.tup [c, d, e, f]) := rfl
theorem e_turn {isles : List Str} {nums : List Int} {x y : Str} {i j : Nat} {s9 s10 s11 s12 s13 : Option D} (h : Base isles nums x y i j) (hs : St k m) :
    ∃ m' s10' s11' s12' s13', evB GR l__law_right_1 (rρ k isles nums x y i j s9 s10 s11 s12 s13) m = .ok (.nx, rρ k isles nums x y i j s9 s10' s11' s12' s13') m' ∧ Dr k m m' := by
  obtain ⟨t1, m1, e1, d1, o1⟩ := e_changed hs (seaText_ok h.sea) (by decide)
  have hs1 := d1.st hs
  obtain ⟨p, m2, e2, d2, p0, p4⟩ := e_pull (s := 4) hs1 (by decide) (log2_small (by decide) (by decide))
  have hs2 := d2.st hs1
  have st2 : ∃ t m3, evS GR (.ife (.cmp .Eq (.call 4 (.cons (.v 0) (.cons (.int 4) .nil))) (.int 0)) (.cons (.set (.nm 10) (.call 5 (.cons (.v 0) (.cons (.v 10) .nil)))) .nil) .nil) (rρ k isles nums x y i j s9 (some (.str t1)) s11 s12 s13) m1 = .ok (.nx, rρ k isles nums x y i j s9 (some (.str t)) s11 s12 s13) m3 ∧ Dr k m1 m3 ∧ TxtOk t 10000 := by
    by_cases hp : p = 0
    · obtain ⟨t2, m3, e3, d3, o3⟩ := e_changed hs2 o1 (by decide)
      refine ⟨t2, m3, ?_, d2.trans d3, o3.mono (by decide)⟩
      rw [evS_T (m' := m2) ?h1]
      case h1 => simp -implicitDefEqProofs only [evB, evS, evE, evL, evI, evC, evO, asT, asL, wipeD, walkD, walkS, deref, R.bind_ok, ofO_some, onB_true, onB_false, toB, TL.len, partI, setAll, List.getElem?_cons_zero, List.getElem?_cons_succ, List.set_cons_zero, List.set_cons_succ, List.length_cons, List.length_nil, if_true, Option.map_some, Bool.not_true, Bool.not_false, GR, G__law_right, e2, eq_ii, hp, decide_true]
      rw [evB_nx (evS_set (d := .str t2) (m' := m3) ?h2)]
      · rfl
      case h2 => simp -implicitDefEqProofs only [evB, evS, evE, evL, evI, evC, evO, asT, asL, wipeD, walkD, walkS, deref, R.bind_ok, ofO_some, onB_true, onB_false, toB, TL.len, partI, setAll, List.getElem?_cons_zero, List.getElem?_cons_succ, List.set_cons_zero, List.set_cons_succ, List.length_cons, List.length_nil, if_true, Option.map_some, Bool.not_true, Bool.not_false, GR, G__law_right, e3]
    · refine ⟨t1, m2, ?_, d2, o1.mono (by decide)⟩
      rw [evS_F (m' := m2) ?h1]
      · rfl
      case h1 => simp -implicitDefEqProofs only [evB, evS, evE, evL, evI, evC, evO, asT, asL, wipeD, walkD, walkS, deref, R.bind_ok, ofO_some, onB_true, onB_false, toB, TL.len, partI, setAll, List.getElem?_cons_zero, List.getElem?_cons_succ, List.set_cons_zero, List.set_cons_succ, List.length_cons, List.length_nil, if_true, Option.map_some, Bool.not_true, Bool.not_false, GR, G__law_right, e2, eq_ii, hp, decide_false]
  obtain ⟨t, m3, e3, d3, ot⟩ := st2
  have hs3 := d3.st hs1
  have hm := hs3.lt
  obtain ⟨d, b, r1, r2, r3, r4⟩ := due_ok h (by decide) ot hm
  unfold l__law_right_1
  rw [evB_nx (evS_set (d := .str t1) (m' := m1) ?h1)]
  case h1 => simp -implicitDefEqProofs only [evB, evS, evE, evL, evI, evC, evO, asT, asL, wipeD, walkD, walkS, deref, R.bind_ok, ofO_some, onB_true, onB_false, toB, TL.len, partI, setAll, List.getElem?_cons_zero, List.getElem?_cons_succ, List.set_cons_zero, List.set_cons_succ, List.length_cons, List.length_nil, if_true, Option.map_some, Bool.not_true, Bool.not_false, GR, G__law_right, e1]
  simp -implicitDefEqProofs only [List.set_cons_succ, List.set_cons_zero]
  rw [evB_nx e3]
  rw [evB_nx (ρ' := rρ k isles nums x y i j s9 (some (.str t)) (some d) (some (.tup [.str "between", .str t, intT nums, .str x, .str y, .int (betw isles.length nums i j)])) s13) (m' := m3) ?h2]
  case h2 =>
    have z1 : Ev.sizeOk (0 + 1) = true := by decide
    have z2 : Ev.sizeOk (0 + 1 + (0 + 1)) = true := by decide
    have z3 : Ev.sizeOk (0 + 1 + 1 + (0 + 1 + 1 + 1 + 1)) = true := by decide
    have c1 : ∀ a b : D, [a] ++ [b] = [a, b] := fun a b => rfl
    have c2 : ∀ a b c d e f : D, [a, b] ++ [c, d, e, f] = [a, b, c, d, e, f] := fun a b c d e f => rfl
    simp -implicitDefEqProofs only [evB, evS, evE, evL, evI, evC, evO, asT, asL, wipeD, walkD, walkS, deref, R.bind_ok, ofO_some, onB_true, onB_false, toB, TL.len, partI, setAll, List.getElem?_cons_zero, List.getElem?_cons_succ, List.set_cons_zero, List.set_cons_succ, List.length_cons, List.length_nil, if_true, Option.map_some, Bool.not_true, Bool.not_false, GR, G__law_right, r1, sl_h1, sl_2h, z1, opBin, z2, c1, z3, c2]
  rw [evB_nx (evS_set (r2 _ rfl rfl))]
  simp -implicitDefEqProofs only [List.set_cons_succ, List.set_cons_zero]
  have hfin : ∃ c, evE GR (.and (.v 13) (.call 1 (.cons (.v 11) (.cons (.v 3) (.cons (.sl (.v 7) (.yes (.int 3)) .no) (.cons (.v 8) .nil)))))) (rρ k isles nums x y i j s9 (some (.str t)) (some d) (some (.tup [.str "between", .str t, intT nums, .str x, .str y, .int (betw isles.length nums i j)])) (some (.bl b))) m3 = .ok (.bl c) m3 ∧ f_accepts [.tup [.str "between", .str t, intT nums, .str x, .str y, .int (betw isles.length nums i j)], paperD isles nums i j] m3 = .ok (.bl c) m3 := by
    cases b with
    | true =>
      obtain ⟨c, q1, q2⟩ := r3 rfl
      refine ⟨c, ?_, q2⟩
      simp -implicitDefEqProofs only [evB, evS, evE, evL, evI, evC, evO, asT, asL, wipeD, walkD, walkS, deref, R.bind_ok, ofO_some, onB_true, onB_false, toB, TL.len, partI, setAll, List.getElem?_cons_zero, List.getElem?_cons_succ, List.set_cons_zero, List.set_cons_succ, List.length_cons, List.length_nil, if_true, Option.map_some, Bool.not_true, Bool.not_false, GR, G__law_right, sl_3, q1]
    | false =>
      refine ⟨false, ?_, r4 rfl⟩
      simp -implicitDefEqProofs only [evB, evS, evE, evL, evI, evC, evO, asT, asL, wipeD, walkD, walkS, deref, R.bind_ok, ofO_some, onB_true, onB_false, toB, TL.len, partI, setAll, List.getElem?_cons_zero, List.getElem?_cons_succ, List.set_cons_zero, List.set_cons_succ, List.length_cons, List.length_nil, if_true, Option.map_some, Bool.not_true, Bool.not_false]
  obtain ⟨c, f1, f2⟩ := hfin
  rw [evB_nx (evS_set f1)]
  simp -implicitDefEqProofs only [List.set_cons_succ, List.set_cons_zero]
  rw [evB_guard (b := false) (m' := m3) ?h5]
  case h5 =>
    simp -implicitDefEqProofs only [evB, evS, evE, evL, evI, evC, evO, asT, asL, wipeD, walkD, walkS, deref, R.bind_ok, ofO_some, onB_true, onB_false, toB, TL.len, partI, setAll, List.getElem?_cons_zero, List.getElem?_cons_succ, List.set_cons_zero, List.set_cons_succ, List.length_cons, List.length_nil, if_true, Option.map_some, Bool.not_true, Bool.not_false, GR, G__law_right, f2, repr_bl, ne_repr_bl, decide_true]
  exact ⟨m3, _, _, _, _, rfl, d1.trans d3⟩
theorem e_right (hs : St k m) : ∃ m', f__law_right [.ref k] m = .ok (.bl true) m' ∧ Dr k m m' := by
  obtain ⟨isles, m1, e1, d1, hS⟩ := e_isles hs
  have hs1 := d1.st hs
  have h5 := hS.five
  have h2 := hS.two
  obtain ⟨nums, m2, e2, d2, hN⟩ := e_few (n := isles.length) hs1 h5
  have hs2 := d2.st hs1
  obtain ⟨x, m3, e3, d3, x0, x1⟩ := e_pull (s := (isles.length : Nat)) hs2 (by omega) (log2_small (by omega) (by omega))
  have hs3 := d3.st hs2
  obtain ⟨i, hi, rfl⟩ := nat_of x0 x1
  obtain ⟨y, m4, e4, d4, y0, y1⟩ := e_pull (s := (isles.length : Nat) - 1) hs3 (by omega) (log2_small (by omega) (by omega))
  have hs4 := d4.st hs3
  have d14 := ((d1.trans d2).trans d3).trans d4
  have hj : ∃ j : Nat, j < isles.length ∧ i ≠ j ∧ (((i : Nat) : Int) + 1 + y) % (isles.length : Nat) = (j : Nat) := by
    obtain ⟨u, hu, rfl⟩ := nat_of (n := isles.length - 1) y0 (by omega)
    refine ⟨(i + 1 + u) % isles.length, Nat.mod_lt _ (by omega), ?_, by rw [Int.natCast_emod]; rfl⟩
    intro e
    by_cases hlt : i + 1 + u < isles.length
    · rw [Nat.mod_eq_of_lt hlt] at e
      omega
    · rw [Nat.mod_eq_sub_mod (by omega), Nat.mod_eq_of_lt (by omega)] at e
      omega
  obtain ⟨j, hj, hij, ej⟩ := hj
  have hx := List.getElem?_eq_getElem hi
  have hy := List.getElem?_eq_getElem hj
  generalize isles[i] = wx at hx
  generalize isles[j] = wy at hy
  have hB : Base isles nums wx wy i j := ⟨hS, hN, hx, hy, hij⟩
  have hm := hs4.lt
  have ax : atI (isles.map D.str) ((i : Nat) : Int) = some (.str wx) := atI_map hx
  have ay : atI (isles.map D.str) ((j : Nat) : Int) = some (.str wy) := atI_map hy
  have hcert := e_certify hS hN hx hy hij hm
  have hmk := e_mk hS hm
  have hsp := seaText_split hS
  have hrd := e_law_read (m := m4) (by decide) (seaText_ok hS) hsp hm
  have hrr : readRes "islands" isles = .tup (isles.map .str) := by
    unfold readRes
    rw [if_pos ⟨rfl, by omega, wrong_ok hS⟩]
  rw [hrr] at hrd
  have hacc : f_accepts [saidD isles nums wx wy (betw isles.length nums i j), paperD isles nums i j] m4 = .ok (.bl true) m4 := by
    have := e_accepts (t := seaText isles) (x := wx) (y := wy) (c := betw isles.length nums i j) (names := namesIn isles (cutOf isles.length nums i j)) (fl := (flowAll isles.length nums i j (betw isles.length nums i j)).2.2) hS (e_read_text hS hm) hN (hS.lay wx (List.mem_of_getElem? hx)) (hS.lay wy (List.mem_of_getElem? hy)) (names_ok hS.lay) hm
    rw [shown_right hS hN hx hy hij, decide_eq_true rfl] at this
    exact this
  obtain ⟨ρ', m', e, ⟨s9, s10, s11, s12, s13, rfl⟩, hd⟩ := forL_goM (src := []) (e := fun i : Nat => D.int (i : Nat)) (g := fun d ρ1 m2 => (asT GR (.nm 9) d ρ1 m2).bind fun ρ2 m3 => evB GR l__law_right_1 ρ2 m3)
    (fun _ ρ mm => (∃ s9 s10 s11 s12 s13, ρ = rρ k isles nums wx wy i j s9 s10 s11 s12 s13) ∧ Dr k m4 mm) (fun _ _ _ _ => rfl) (List.range 16) 0 (rρ k isles nums wx wy i j none none none none none) m4 ⟨⟨_, _, _, _, _, rfl⟩, Dr.refl hs4⟩ (by
      rintro t a ρ mm ht ⟨⟨s9, s10, s11, s12, s13, rfl⟩, hd⟩
      obtain ⟨m6, s10', s11', s12', s13', e6, d6⟩ := e_turn (s9 := some (.int (a : Nat))) (s10 := s10) (s11 := s11) (s12 := s12) (s13 := s13) hB (hd.st hs4)
      exact ⟨_, m6, e6, ⟨_, _, _, _, _, rfl⟩, hd.trans d6⟩)
  refine ⟨m', ?_, d14.trans hd⟩
  refine run_dr hs rfl (d14.trans hd) rfl ?_
  unfold b__law_right
  simp only [List.map_cons, List.map_nil, List.length_cons, List.length_nil, List.reduceReplicate, Nat.reduceAdd, Nat.reduceSub, List.cons_append, List.nil_append]
  rw [evB_nx (evS_set (d := .tup (isles.map .str)) (m' := m1) ?h1)]
  case h1 => simp -implicitDefEqProofs only [evB, evS, evE, evL, evI, evC, evO, asT, asL, wipeD, walkD, walkS, deref, R.bind_ok, ofO_some, onB_true, onB_false, toB, TL.len, partI, setAll, List.getElem?_cons_zero, List.getElem?_cons_succ, List.set_cons_zero, List.set_cons_succ, List.length_cons, List.length_nil, if_true, Option.map_some, Bool.not_true, Bool.not_false, GR, G__law_right, e1]
  simp -implicitDefEqProofs only [List.set_cons_succ, List.set_cons_zero]
  rw [evB_nx (evS_set (d := .int (isles.length : Nat)) (m' := m1) ?h2)]
  case h2 => simp -implicitDefEqProofs only [evB, evS, evE, evL, evI, evC, evO, asT, asL, wipeD, walkD, walkS, deref, R.bind_ok, ofO_some, onB_true, onB_false, toB, TL.len, partI, setAll, List.getElem?_cons_zero, List.getElem?_cons_succ, List.set_cons_zero, List.set_cons_succ, List.length_cons, List.length_nil, if_true, Option.map_some, Bool.not_true, Bool.not_false, bi_len_t, List.length_map]
  simp -implicitDefEqProofs only [List.set_cons_succ, List.set_cons_zero]
  rw [evB_nx (ρ' := [some (.ref k), some (.tup (isles.map .str)), some (.int (isles.length : Nat)), some (intT nums), some (.int (i : Nat)), none, none, none, none, none, none, none, none, none]) (m' := m3) ?h3]
  case h3 => simp -implicitDefEqProofs only [evB, evS, evE, evL, evI, evC, evO, asT, asL, wipeD, walkD, walkS, deref, R.bind_ok, ofO_some, onB_true, onB_false, toB, TL.len, partI, setAll, List.getElem?_cons_zero, List.getElem?_cons_succ, List.set_cons_zero, List.set_cons_succ, List.length_cons, List.length_nil, if_true, Option.map_some, Bool.not_true, Bool.not_false, GR, G__law_right, e2, e3]
  rw [evB_nx (evS_set (d := .int (j : Nat)) (m' := m4) ?h4)]
  case h4 =>
    have hpos : (0 : Int) < (isles.length : Nat) := by omega
    simp -implicitDefEqProofs only [evB, evS, evE, evL, evI, evC, evO, asT, asL, wipeD, walkD, walkS, deref, R.bind_ok, ofO_some, onB_true, onB_false, toB, TL.len, partI, setAll, List.getElem?_cons_zero, List.getElem?_cons_succ, List.set_cons_zero, List.set_cons_succ, List.length_cons, List.length_nil, if_true, Option.map_some, Bool.not_true, Bool.not_false, GR, G__law_right, opBin, e4, bi_int_i, hpos, ej]
  simp -implicitDefEqProofs only [List.set_cons_succ, List.set_cons_zero]
  rw [evB_nx (evS_set (d := .str (seaText isles)) (m' := m4) ?h5)]
  case h5 =>
    have hz1 : Ev.sizeOk (0 + 1) = true := by decide
    have hz2 : Ev.sizeOk (0 + 1 + isles.length) = true := sizeOk_pow (by omega)
    have hst : strL ([D.str "islands"] ++ isles.map .str) = some (("islands" : Str) :: isles) := strL_map (("islands" : Str) :: isles)
    have hsz : ((("islands" : Str) :: isles).map (·.length)).sum + (("islands" : Str) :: isles).length * (" " : Str).length ≤ lim := Nat.le_trans (seaText_size hS) (by decide)
    rw [List.length_cons] at hsz
    simp -implicitDefEqProofs only [evB, evS, evE, evL, evI, evC, evO, asT, asL, wipeD, walkD, walkS, deref, R.bind_ok, ofO_some, onB_true, onB_false, toB, TL.len, partI, setAll, List.getElem?_cons_zero, List.getElem?_cons_succ, List.set_cons_zero, List.set_cons_succ, List.length_cons, List.length_nil, if_true, Option.map_some, Bool.not_true, Bool.not_false, smK, hz1, opBin, List.length_map, hz2, smD, items, Option.bind_some, hst, hsz]
    rfl
  simp -implicitDefEqProofs only [List.set_cons_succ, List.set_cons_zero]
  rw [evB_nx (ρ' := rρ k isles nums wx wy i j none none none none none) (m' := m4) ?h6]
  case h6 =>
    simp -implicitDefEqProofs only [evB, evS, evE, evL, evI, evC, evO, asT, asL, wipeD, walkD, walkS, deref, R.bind_ok, ofO_some, onB_true, onB_false, toB, TL.len, partI, setAll, List.getElem?_cons_zero, List.getElem?_cons_succ, List.set_cons_zero, List.set_cons_succ, List.length_cons, List.length_nil, if_true, Option.map_some, Bool.not_true, Bool.not_false, GR, G__law_right, hmk, ix_t, ax, ay, hcert, asL]
  have t1 : atI [D.str "between", D.str (seaText isles), intT nums, D.str wx, D.str wy, D.int (betw isles.length nums i j)] 1 = some (.str (seaText isles)) := rfl
  have hlay := (seaText_ok hS).lay
  rw [evB_guard (b := false) (m' := m4) ?h7]
  case h7 =>
    simp -implicitDefEqProofs only [evB, evS, evE, evL, evI, evC, evO, asT, asL, wipeD, walkD, walkS, deref, R.bind_ok, ofO_some, onB_true, onB_false, toB, TL.len, partI, setAll, List.getElem?_cons_zero, List.getElem?_cons_succ, List.set_cons_zero, List.set_cons_succ, List.length_cons, List.length_nil, if_true, Option.map_some, Bool.not_true, Bool.not_false, GR, G__law_right, ix_t, t1, ne_ss hlay hlay, decide_true, hrd, ne_strT hS.lay hS.lay, hacc, isn_bb, beq_self_eq_true]
  rw [if_neg (by decide), evB_nx ((evS_for (w := ((List.range 16).map fun i => .int (i : Nat), [])) (m' := m4) ?h8).trans e)]
  case h8 => rfl
  rfl
theorem lt_app {a b c : Int} (hm : memLt m.length m = true) : memLt (m ++ [bw a b c]).length (m ++ [bw a b c]) = true := memLt_app hm fun mo h => by
  simp only [List.mem_singleton] at h
  subst h
  rfl
theorem hlaw (ns : List Int) (h63 : ns.length ≤ 63) : ∃ m', f_law [.scr (ns.map D.int)] [] = .ok (.bl true) m' := by
  have hstep : ∀ (l : List Nat) (m : Mem), memLt m.length m = true → ∃ m', lcL (fun d m2 => (asT (G_law [f__law_right, f__law_bowl]) (.nm 1) d (wipeD [some (.scr (ns.map D.int)), none] [1]) m2).bind fun ρ1 m3 => (evC (G_law [f__law_right, f__law_bowl]) .no ρ1 m3).bind fun b m4 => if b then (evE (G_law [f__law_right, f__law_bowl]) (.call 0 (.cons (.call 1 (.cons (.v 0) (.cons (.v 1) .nil))) .nil)) ρ1 m4).bind fun x m5 => .ok (some x) m5 else .ok none m4) [] (l.map fun i => .int (i : Nat)) m = .ok (l.map fun _ => .bl true) m' := by
    intro l
    induction l with
    | nil => intro m _; exact ⟨m, by unfold lcL; simp [srcOk]⟩
    | cons t l ih =>
      intro m hm
      obtain ⟨a, b, c, eb, h0⟩ := e_bowl (ns := ns) (t := t) (m := m)
      have hs : St m.length (m ++ [bw a b c]) := ⟨⟨a, b, c, one_last, h0⟩, lt_app hm⟩
      obtain ⟨m1, e1, d1⟩ := e_right hs
      obtain ⟨m2, e2⟩ := ih m1 (d1.st hs).lt
      refine ⟨m2, ?_⟩
      rw [List.map_cons]
      unfold lcL
      rw [if_pos (show srcOk [] m = true from rfl)]
      simp -implicitDefEqProofs only [evB, evS, evE, evL, evI, evC, evO, asT, asL, wipeD, walkD, walkS, deref, R.bind_ok, ofO_some, onB_true, onB_false, toB, TL.len, partI, setAll, List.getElem?_cons_zero, List.getElem?_cons_succ, List.set_cons_zero, List.set_cons_succ, List.length_cons, List.length_nil, if_true, Option.map_some, Bool.not_true, Bool.not_false, G_law, eb, e1, R.noexc_ok]
      simp -implicitDefEqProofs only [evB, evS, evE, evL, evI, evC, evO, asT, asL, wipeD, walkD, walkS, deref, R.bind_ok, ofO_some, onB_true, onB_false, toB, TL.len, partI, setAll, List.getElem?_cons_zero, List.getElem?_cons_succ, List.set_cons_zero, List.set_cons_succ, List.length_cons, List.length_nil, if_true, Option.map_some, Bool.not_true, Bool.not_false, G_law] at e2
      rw [e2]
      rfl
  generalize hn : (if (if (4 : Int) < (ns.length : Nat) then (4 : Int) else (ns.length : Nat)) > 2 then (if (4 : Int) < (ns.length : Nat) then (4 : Int) else (ns.length : Nat)) else 2) = q
  have hq : ∃ n : Nat, q = n ∧ n ≤ 4 := by
    refine ⟨q.toNat, ?_, ?_⟩
    · subst hn
      split <;> split <;> omega
    · subst hn
      split <;> split <;> omega
  obtain ⟨n, rfl, hn4⟩ := hq
  obtain ⟨m', e⟩ := hstep (List.range n) [] rfl
  have hE : evE (G_law [f__law_right, f__law_bowl]) (.lc [1] (.call 0 (.cons (.call 1 (.cons (.v 0) (.cons (.v 1) .nil))) .nil)) (.nm 1) (.rng (.cons (.bi .max (.cons (.int 2) (.cons (.bi .min (.cons (.bi .len (.cons (.v 0) .nil)) (.cons (.int 4) .nil))) .nil))) .nil)) .no) [some (.scr (ns.map D.int)), none] [] = .ok (.lst ((List.range n).map fun _ => .bl true)) m' := by
    refine evE_lc (w := ((List.range n).map fun i => .int (i : Nat), [])) (m1 := []) ?_ e ?_
    · have hr : rngI [D.int (n : Nat)] = some ((List.range n).map fun i => D.int (i : Nat)) := by
        unfold rngI
        simp only
        rw [if_pos (by omega)]
        simp
      simp -implicitDefEqProofs only [evB, evS, evE, evL, evI, evC, evO, asT, asL, wipeD, walkD, walkS, deref, R.bind_ok, ofO_some, onB_true, onB_false, toB, TL.len, partI, setAll, List.getElem?_cons_zero, List.getElem?_cons_succ, List.set_cons_zero, List.set_cons_succ, List.length_cons, List.length_nil, if_true, Option.map_some, Bool.not_true, Bool.not_false, bi_len_s, List.length_map, bi_min2, bi_max2, hn, hr]
    · rw [List.length_map, List.length_range]
      exact sizeOk_pow (by omega)
  refine ⟨[], ?_⟩
  have hb : (List.range n).map (fun _ => D.bl true) = ((List.range n).map fun _ => true).map D.bl := by simp
  have hret : retV (evB (G_law [f__law_right, f__law_bowl]) b_law [some (.scr (ns.map D.int)), none] []) = .ok (.bl true) m' := by
    unfold b_law
    rw [evB_rt (evS_ret (d := .bl true) (m' := m') ?h)]
    · rfl
    case h =>
      rw [evE_bi1 hE, bi_all_l, hb, blL_map]
      simp
  exact run_rtG (Γ := G_law [f__law_right, f__law_bowl]) (k := 2) (n := 1) (b := b_law) (args := [.scr (ns.map D.int)]) (m := []) (m1 := m') (d := .bl true) rfl rfl rfl (Nat.zero_le _) hret
end
end K85

set_option Elab.async false
set_option linter.all false
set_option maxRecDepth 100000
set_option maxHeartbeats 4000000
namespace K85
open PySem PySem.Spec PyProof.Rows L2 Ev
theorem c_sets_of : chkB C_sets_of false (defScope s_sets_of) b_sets_of (defBody s_sets_of) = true := by decide +kernel
theorem S_sets_of : C8.scC N_sets_of ["many"] (defScope s_sets_of) = true := by decide +kernel
theorem c_lots_of : chkB C_lots_of false (defScope s_lots_of) b_lots_of (defBody s_lots_of) = true := by decide +kernel
theorem S_lots_of : C8.scC N_lots_of ["many"] (defScope s_lots_of) = true := by decide +kernel
theorem c_out_of : chkB C_out_of false (defScope s_out_of) b_out_of (defBody s_out_of) = true := by decide +kernel
theorem S_out_of : C8.scC N_out_of ["spans", "numbers", "lot"] (defScope s_out_of) = true := by decide +kernel
theorem c_Sea_islands : chkB C_Sea_islands false (defScope s_Sea_islands) b_Sea_islands (defBody s_Sea_islands) = true := by decide +kernel
theorem S_Sea_islands : C8.scC N_Sea_islands ["self"] (defScope s_Sea_islands) = true := by decide +kernel
theorem c_names_in : chkB C_names_in false (defScope s_names_in) b_names_in (defBody s_names_in) = true := by decide +kernel
theorem S_names_in : C8.scC N_names_in ["sea", "lot"] (defScope s_names_in) = true := by decide +kernel
theorem c_lot_of : chkB C_lot_of false (defScope s_lot_of) b_lot_of (defBody s_lot_of) = true := by decide +kernel
theorem S_lot_of : C8.scC N_lot_of ["sea", "names"] (defScope s_lot_of) = true := by decide +kernel
theorem c_is_integer : chkB C_is_integer false (defScope s_is_integer) b_is_integer (defBody s_is_integer) = true := by decide +kernel
theorem S_is_integer : C8.scC N_is_integer ["value"] (defScope s_is_integer) = true := by decide +kernel
theorem c_is_within : chkB C_is_within false (defScope s_is_within) b_is_within (defBody s_is_within) = true := by decide +kernel
theorem S_is_within : C8.scC N_is_within ["value", "least", "most"] (defScope s_is_within) = true := by decide +kernel
theorem c_is_name : chkB C_is_name false (defScope s_is_name) b_is_name (defBody s_is_name) = true := by decide +kernel
theorem S_is_name : C8.scC N_is_name ["value"] (defScope s_is_name) = true := by decide +kernel
theorem c_wrong_island : chkB C_wrong_island false (defScope s_wrong_island) b_wrong_island (defBody s_wrong_island) = true := by decide +kernel
theorem S_wrong_island : C8.scC N_wrong_island ["islands"] (defScope s_wrong_island) = true := by decide +kernel
theorem c_read_sea : chkB C_read_sea false (defScope s_read_sea) b_read_sea (defBody s_read_sea) = true := by decide +kernel
theorem S_read_sea : C8.scC N_read_sea ["text"] (defScope s_read_sea) = true := by decide +kernel
theorem c_pairs_of : chkB C_pairs_of false (defScope s_pairs_of) b_pairs_of (defBody s_pairs_of) = true := by decide +kernel
theorem S_pairs_of : C8.scC N_pairs_of ["many"] (defScope s_pairs_of) = true := by decide +kernel
theorem c_Sea___init__ : chkB C_Sea___init__ false (defScope s_Sea___init__) b_Sea___init__ (defBody s_Sea___init__) = true := by decide +kernel
theorem S_Sea___init__ : C8.scC N_Sea___init__ ["self", "islands"] (defScope s_Sea___init__) = true := by decide +kernel
theorem c_Sea_spans : chkB C_Sea_spans false (defScope s_Sea_spans) b_Sea_spans (defBody s_Sea_spans) = true := by decide +kernel
theorem S_Sea_spans : C8.scC N_Sea_spans ["self"] (defScope s_Sea_spans) = true := by decide +kernel
theorem c_Sea___len__ : chkB C_Sea___len__ false (defScope s_Sea___len__) b_Sea___len__ (defBody s_Sea___len__) = true := by decide +kernel
theorem S_Sea___len__ : C8.scC N_Sea___len__ ["self"] (defScope s_Sea___len__) = true := by decide +kernel
theorem c_Sea___str__ : chkB C_Sea___str__ false (defScope s_Sea___str__) b_Sea___str__ (defBody s_Sea___str__) = true := by decide +kernel
theorem S_Sea___str__ : C8.scC N_Sea___str__ ["self"] (defScope s_Sea___str__) = true := by decide +kernel
theorem c_check_sea : chkB C_check_sea false (defScope s_check_sea) b_check_sea (defBody s_check_sea) = true := by decide +kernel
theorem S_check_sea : C8.scC N_check_sea ["value"] (defScope s_check_sea) = true := by decide +kernel
theorem c_wrong_number : chkB C_wrong_number false (defScope s_wrong_number) b_wrong_number (defBody s_wrong_number) = true := by decide +kernel
theorem S_wrong_number : C8.scC N_wrong_number ["value", "many", "least", "most"] (defScope s_wrong_number) = true := by decide +kernel
theorem c_check_bridges : chkB C_check_bridges false (defScope s_check_bridges) b_check_bridges (defBody s_check_bridges) = true := by decide +kernel
theorem S_check_bridges : C8.scC N_check_bridges ["sea", "bridges", "most"] (defScope s_check_bridges) = true := by decide +kernel
theorem c_check_island : chkB C_check_island false (defScope s_check_island) b_check_island (defBody s_check_island) = true := by decide +kernel
theorem S_check_island : C8.scC N_check_island ["sea", "value"] (defScope s_check_island) = true := by decide +kernel
theorem c_check_pair : chkB C_check_pair false (defScope s_check_pair) b_check_pair (defBody s_check_pair) = true := by decide +kernel
theorem S_check_pair : C8.scC N_check_pair ["sea", "one", "other"] (defScope s_check_pair) = true := by decide +kernel
theorem c_parting_lots : chkB C_parting_lots false (defScope s_parting_lots) b_parting_lots (defBody s_parting_lots) = true := by decide +kernel
theorem S_parting_lots : C8.scC N_parting_lots ["sea", "here", "there"] (defScope s_parting_lots) = true := by decide +kernel
theorem c_between_of : chkB C_between_of false (defScope s_between_of) b_between_of (defBody s_between_of) = true := by decide +kernel
theorem S_between_of : C8.scC N_between_of ["sea", "bridges", "here", "there"] (defScope s_between_of) = true := by decide +kernel
theorem c_cut_of : chkB C_cut_of false (defScope s_cut_of) b_cut_of (defBody s_cut_of) = true := by decide +kernel
theorem S_cut_of : C8.scC N_cut_of ["sea", "bridges", "here", "there"] (defScope s_cut_of) = true := by decide +kernel
theorem c_flow_range : chkB C_flow_range false (defScope s_flow_range) b_flow_range (defBody s_flow_range) = true := by decide +kernel
theorem S_flow_range : C8.scC N_flow_range ["spans", "bridges", "wants", "at"] (defScope s_flow_range) = true := by decide +kernel
theorem c_flow_of : chkB C_flow_of false (defScope s_flow_of) b_flow_of (defBody s_flow_of) = true := by decide +kernel
theorem S_flow_of : C8.scC N_flow_of ["sea", "bridges", "here", "there", "many"] (defScope s_flow_of) = true := by decide +kernel
theorem c_certify_between : chkB C_certify_between false (defScope s_certify_between) b_certify_between (defBody s_certify_between) = true := by decide +kernel
theorem S_certify_between : C8.scC N_certify_between ["sea", "bridges", "one", "other"] (defScope s_certify_between) = true := by decide +kernel
theorem c_is_count : chkB C_is_count false (defScope s_is_count) b_is_count (defBody s_is_count) = true := by decide +kernel
theorem S_is_count : C8.scC N_is_count ["value"] (defScope s_is_count) = true := by decide +kernel
theorem c_is_pair : chkB C_is_pair false (defScope s_is_pair) b_is_pair (defBody s_is_pair) = true := by decide +kernel
theorem S_is_pair : C8.scC N_is_pair ["value"] (defScope s_is_pair) = true := by decide +kernel
theorem c_is_lot : chkB C_is_lot false (defScope s_is_lot) b_is_lot (defBody s_is_lot) = true := by decide +kernel
theorem S_is_lot : C8.scC N_is_lot ["sea", "value"] (defScope s_is_lot) = true := by decide +kernel
theorem c_are_two : chkB C_are_two false (defScope s_are_two) b_are_two (defBody s_are_two) = true := by decide +kernel
theorem S_are_two : C8.scC N_are_two ["sea", "one", "other"] (defScope s_are_two) = true := by decide +kernel
theorem c_is_flow : chkB C_is_flow false (defScope s_is_flow) b_is_flow (defBody s_is_flow) = true := by decide +kernel
theorem S_is_flow : C8.scC N_is_flow ["sea", "bridges", "claim", "value"] (defScope s_is_flow) = true := by decide +kernel
theorem c_between_shown : chkB C_between_shown false (defScope s_between_shown) b_between_shown (defBody s_between_shown) = true := by decide +kernel
theorem S_between_shown : C8.scC N_between_shown ["sea", "bridges", "claim", "certificate"] (defScope s_between_shown) = true := by decide +kernel
theorem c_accepts : chkB C_accepts false (defScope s_accepts) b_accepts (defBody s_accepts) = true := by decide +kernel
theorem S_accepts : C8.scC N_accepts ["claim", "certificate"] (defScope s_accepts) = true := by decide +kernel
theorem c__law_bowl : chkB C__law_bowl false (defScope s__law_bowl) b__law_bowl (defBody s__law_bowl) = true := by decide +kernel
theorem S__law_bowl : C8.scC N__law_bowl ["cells", "turn"] (defScope s__law_bowl) = true := by decide +kernel
theorem c__law_pull : chkB C__law_pull false (defScope s__law_pull) b__law_pull (defBody s__law_pull) = true := by decide +kernel
theorem S__law_pull : C8.scC N__law_pull ["bowl", "size"] (defScope s__law_pull) = true := by decide +kernel
theorem c__law_one : chkB C__law_one false (defScope s__law_one) b__law_one (defBody s__law_one) = true := by decide +kernel
theorem S__law_one : C8.scC N__law_one ["bowl", "some"] (defScope s__law_one) = true := by decide +kernel
theorem c__law_words : chkB C__law_words false (defScope s__law_words) b__law_words (defBody s__law_words) = true := by decide +kernel
theorem S__law_words : C8.scC N__law_words ["bowl", "count"] (defScope s__law_words) = true := by decide +kernel
theorem c__law_isles : chkB C__law_isles false (defScope s__law_isles) b__law_isles (defBody s__law_isles) = true := by decide +kernel
theorem S__law_isles : C8.scC N__law_isles ["bowl", "most"] (defScope s__law_isles) = true := by decide +kernel
theorem c__law_joints : chkB C__law_joints false (defScope s__law_joints) b__law_joints (defBody s__law_joints) = true := by decide +kernel
theorem S__law_joints : C8.scC N__law_joints ["size"] (defScope s__law_joints) = true := by decide +kernel
theorem c__law_few : chkB C__law_few false (defScope s__law_few) b__law_few (defBody s__law_few) = true := by decide +kernel
theorem S__law_few : C8.scC N__law_few ["bowl", "size", "most"] (defScope s__law_few) = true := by decide +kernel
theorem c__law_leads : chkB C__law_leads false (defScope s__law_leads) b__law_leads (defBody s__law_leads) = true := by decide +kernel
theorem S__law_leads : C8.scC N__law_leads ["nums", "size", "lot"] (defScope s__law_leads) = true := by decide +kernel
theorem c__law_is_whole : chkB C__law_is_whole false (defScope s__law_is_whole) b__law_is_whole (defBody s__law_is_whole) = true := by decide +kernel
theorem S__law_is_whole : C8.scC N__law_is_whole ["thing", "low", "high"] (defScope s__law_is_whole) = true := by decide +kernel
theorem c__law_spots : chkB C__law_spots false (defScope s__law_spots) b__law_spots (defBody s__law_spots) = true := by decide +kernel
theorem S__law_spots : C8.scC N__law_spots ["isles", "thing"] (defScope s__law_spots) = true := by decide +kernel
theorem c__law_is_pair : chkB C__law_is_pair false (defScope s__law_is_pair) b__law_is_pair (defBody s__law_is_pair) = true := by decide +kernel
theorem S__law_is_pair : C8.scC N__law_is_pair ["thing"] (defScope s__law_is_pair) = true := by decide +kernel
theorem c__law_between_fits : chkB C__law_between_fits false (defScope s__law_between_fits) b__law_between_fits (defBody s__law_between_fits) = true := by decide +kernel
theorem S__law_between_fits : C8.scC N__law_between_fits ["isles", "nums", "said", "paper"] (defScope s__law_between_fits) = true := by decide +kernel
theorem c__law_read : chkB C__law_read false (defScope s__law_read) b__law_read (defBody s__law_read) = true := by decide +kernel
theorem S__law_read : C8.scC N__law_read ["page"] (defScope s__law_read) = true := by decide +kernel
theorem c__law_changed : chkB C__law_changed false (defScope s__law_changed) b__law_changed (defBody s__law_changed) = true := by decide +kernel
theorem S__law_changed : C8.scC N__law_changed ["bowl", "page"] (defScope s__law_changed) = true := by decide +kernel
theorem c__law_right : chkB C__law_right true (defScope s__law_right) b__law_right (defBody s__law_right) = true := by decide +kernel
theorem S__law_right : C8.scC N__law_right ["bowl"] (defScope s__law_right) = true := by decide +kernel
theorem c_law : chkB C_law true (defScope s_law) b_law (defBody s_law) = true := by decide +kernel
theorem S_law : C8.scC N_law ["script"] (defScope s_law) = true := by decide +kernel
def d_sets_of : He5.DefA := ⟨fun K => He.fAd K ("sets_of", none), "sets_of", "sets_of", defArgs s_sets_of, defBody s_sets_of, defScope s_sets_of, [], []⟩
def d_lots_of : He5.DefA := ⟨fun K => He.fAd K ("lots_of", none), "lots_of", "lots_of", defArgs s_lots_of, defBody s_lots_of, defScope s_lots_of, [], []⟩
def d_out_of : He5.DefA := ⟨fun K => He.fAd K ("out_of", none), "out_of", "out_of", defArgs s_out_of, defBody s_out_of, defScope s_out_of, [], []⟩
def d_Sea_islands : He5.DefA := ⟨fun K => propA K (He.ga K "Sea") "islands", "islands", "Sea.islands", defArgs s_Sea_islands, defBody s_Sea_islands, defScope s_Sea_islands, [], []⟩
def d_names_in : He5.DefA := ⟨fun K => He.fAd K ("names_in", none), "names_in", "names_in", defArgs s_names_in, defBody s_names_in, defScope s_names_in, [], []⟩
def d_lot_of : He5.DefA := ⟨fun K => He.fAd K ("lot_of", none), "lot_of", "lot_of", defArgs s_lot_of, defBody s_lot_of, defScope s_lot_of, [], []⟩
def d_is_integer : He5.DefA := ⟨fun K => He.fAd K ("is_integer", none), "is_integer", "is_integer", defArgs s_is_integer, defBody s_is_integer, defScope s_is_integer, [], []⟩
def d_is_within : He5.DefA := ⟨fun K => He.fAd K ("is_within", none), "is_within", "is_within", defArgs s_is_within, defBody s_is_within, defScope s_is_within, [], []⟩
def d_is_name : He5.DefA := ⟨fun K => He.fAd K ("is_name", none), "is_name", "is_name", defArgs s_is_name, defBody s_is_name, defScope s_is_name, [], []⟩
def d_wrong_island : He5.DefA := ⟨fun K => He.fAd K ("wrong_island", none), "wrong_island", "wrong_island", defArgs s_wrong_island, defBody s_wrong_island, defScope s_wrong_island, [], []⟩
def d_read_sea : He5.DefA := ⟨fun K => He.fAd K ("read_sea", none), "read_sea", "read_sea", defArgs s_read_sea, defBody s_read_sea, defScope s_read_sea, [], []⟩
def d_pairs_of : He5.DefA := ⟨fun K => He.fAd K ("pairs_of", none), "pairs_of", "pairs_of", defArgs s_pairs_of, defBody s_pairs_of, defScope s_pairs_of, [], []⟩
def d_Sea___init__ : He5.DefA := ⟨fun K => He.ma K (He.ga K "Sea") "__init__", "__init__", "Sea.__init__", defArgs s_Sea___init__, defBody s_Sea___init__, defScope s_Sea___init__, [], []⟩
def d_Sea_spans : He5.DefA := ⟨fun K => propA K (He.ga K "Sea") "spans", "spans", "Sea.spans", defArgs s_Sea_spans, defBody s_Sea_spans, defScope s_Sea_spans, [], []⟩
def d_Sea___len__ : He5.DefA := ⟨fun K => He.ma K (He.ga K "Sea") "__len__", "__len__", "Sea.__len__", defArgs s_Sea___len__, defBody s_Sea___len__, defScope s_Sea___len__, [], []⟩
def d_Sea___str__ : He5.DefA := ⟨fun K => He.ma K (He.ga K "Sea") "__str__", "__str__", "Sea.__str__", defArgs s_Sea___str__, defBody s_Sea___str__, defScope s_Sea___str__, [], []⟩
def d_check_sea : He5.DefA := ⟨fun K => He.fAd K ("check_sea", none), "check_sea", "check_sea", defArgs s_check_sea, defBody s_check_sea, defScope s_check_sea, [], []⟩
def d_wrong_number : He5.DefA := ⟨fun K => He.fAd K ("wrong_number", none), "wrong_number", "wrong_number", defArgs s_wrong_number, defBody s_wrong_number, defScope s_wrong_number, [], []⟩
def d_check_bridges : He5.DefA := ⟨fun K => He.fAd K ("check_bridges", none), "check_bridges", "check_bridges", defArgs s_check_bridges, defBody s_check_bridges, defScope s_check_bridges, [.int (10 ^ 30)], []⟩
def d_check_island : He5.DefA := ⟨fun K => He.fAd K ("check_island", none), "check_island", "check_island", defArgs s_check_island, defBody s_check_island, defScope s_check_island, [], []⟩
def d_check_pair : He5.DefA := ⟨fun K => He.fAd K ("check_pair", none), "check_pair", "check_pair", defArgs s_check_pair, defBody s_check_pair, defScope s_check_pair, [], []⟩
def d_parting_lots : He5.DefA := ⟨fun K => He.fAd K ("parting_lots", none), "parting_lots", "parting_lots", defArgs s_parting_lots, defBody s_parting_lots, defScope s_parting_lots, [], []⟩
def d_between_of : He5.DefA := ⟨fun K => He.fAd K ("between_of", none), "between_of", "between_of", defArgs s_between_of, defBody s_between_of, defScope s_between_of, [], []⟩
def d_cut_of : He5.DefA := ⟨fun K => He.fAd K ("cut_of", none), "cut_of", "cut_of", defArgs s_cut_of, defBody s_cut_of, defScope s_cut_of, [], []⟩
def d_flow_range : He5.DefA := ⟨fun K => He.fAd K ("flow_range", none), "flow_range", "flow_range", defArgs s_flow_range, defBody s_flow_range, defScope s_flow_range, [], []⟩
def d_flow_of : He5.DefA := ⟨fun K => He.fAd K ("flow_of", none), "flow_of", "flow_of", defArgs s_flow_of, defBody s_flow_of, defScope s_flow_of, [], []⟩
def d_certify_between : He5.DefA := ⟨fun K => He.fAd K ("certify_between", none), "certify_between", "certify_between", defArgs s_certify_between, defBody s_certify_between, defScope s_certify_between, [], []⟩
def d_is_count : He5.DefA := ⟨fun K => He.fAd K ("is_count", none), "is_count", "is_count", defArgs s_is_count, defBody s_is_count, defScope s_is_count, [], []⟩
def d_is_pair : He5.DefA := ⟨fun K => He.fAd K ("is_pair", none), "is_pair", "is_pair", defArgs s_is_pair, defBody s_is_pair, defScope s_is_pair, [], []⟩
def d_is_lot : He5.DefA := ⟨fun K => He.fAd K ("is_lot", none), "is_lot", "is_lot", defArgs s_is_lot, defBody s_is_lot, defScope s_is_lot, [], []⟩
def d_are_two : He5.DefA := ⟨fun K => He.fAd K ("are_two", none), "are_two", "are_two", defArgs s_are_two, defBody s_are_two, defScope s_are_two, [], []⟩
def d_is_flow : He5.DefA := ⟨fun K => He.fAd K ("is_flow", none), "is_flow", "is_flow", defArgs s_is_flow, defBody s_is_flow, defScope s_is_flow, [], []⟩
def d_between_shown : He5.DefA := ⟨fun K => He.fAd K ("between_shown", none), "between_shown", "between_shown", defArgs s_between_shown, defBody s_between_shown, defScope s_between_shown, [], []⟩
def d_accepts : He5.DefA := ⟨fun K => He.fAd K ("accepts", none), "accepts", "accepts", defArgs s_accepts, defBody s_accepts, defScope s_accepts, [], []⟩
def d__law_bowl : He5.DefA := ⟨fun K => He.fAd K ("_law_bowl", none), "_law_bowl", "_law_bowl", defArgs s__law_bowl, defBody s__law_bowl, defScope s__law_bowl, [], []⟩
def d__law_pull : He5.DefA := ⟨fun K => He.fAd K ("_law_pull", none), "_law_pull", "_law_pull", defArgs s__law_pull, defBody s__law_pull, defScope s__law_pull, [], []⟩
def d__law_one : He5.DefA := ⟨fun K => He.fAd K ("_law_one", none), "_law_one", "_law_one", defArgs s__law_one, defBody s__law_one, defScope s__law_one, [], []⟩
def d__law_words : He5.DefA := ⟨fun K => He.fAd K ("_law_words", none), "_law_words", "_law_words", defArgs s__law_words, defBody s__law_words, defScope s__law_words, [], []⟩
def d__law_isles : He5.DefA := ⟨fun K => He.fAd K ("_law_isles", none), "_law_isles", "_law_isles", defArgs s__law_isles, defBody s__law_isles, defScope s__law_isles, [], []⟩
def d__law_joints : He5.DefA := ⟨fun K => He.fAd K ("_law_joints", none), "_law_joints", "_law_joints", defArgs s__law_joints, defBody s__law_joints, defScope s__law_joints, [], []⟩
def d__law_few : He5.DefA := ⟨fun K => He.fAd K ("_law_few", none), "_law_few", "_law_few", defArgs s__law_few, defBody s__law_few, defScope s__law_few, [], []⟩
def d__law_leads : He5.DefA := ⟨fun K => He.fAd K ("_law_leads", none), "_law_leads", "_law_leads", defArgs s__law_leads, defBody s__law_leads, defScope s__law_leads, [], []⟩
def d__law_is_whole : He5.DefA := ⟨fun K => He.fAd K ("_law_is_whole", none), "_law_is_whole", "_law_is_whole", defArgs s__law_is_whole, defBody s__law_is_whole, defScope s__law_is_whole, [], []⟩
def d__law_spots : He5.DefA := ⟨fun K => He.fAd K ("_law_spots", none), "_law_spots", "_law_spots", defArgs s__law_spots, defBody s__law_spots, defScope s__law_spots, [], []⟩
def d__law_is_pair : He5.DefA := ⟨fun K => He.fAd K ("_law_is_pair", none), "_law_is_pair", "_law_is_pair", defArgs s__law_is_pair, defBody s__law_is_pair, defScope s__law_is_pair, [], []⟩
def d__law_between_fits : He5.DefA := ⟨fun K => He.fAd K ("_law_between_fits", none), "_law_between_fits", "_law_between_fits", defArgs s__law_between_fits, defBody s__law_between_fits, defScope s__law_between_fits, [], []⟩
def d__law_read : He5.DefA := ⟨fun K => He.fAd K ("_law_read", none), "_law_read", "_law_read", defArgs s__law_read, defBody s__law_read, defScope s__law_read, [], []⟩
def d__law_changed : He5.DefA := ⟨fun K => He.fAd K ("_law_changed", none), "_law_changed", "_law_changed", defArgs s__law_changed, defBody s__law_changed, defScope s__law_changed, [], []⟩
def d__law_right : He5.DefA := ⟨fun K => He.fAd K ("_law_right", none), "_law_right", "_law_right", defArgs s__law_right, defBody s__law_right, defScope s__law_right, [], []⟩
def d_law : He5.DefA := ⟨fun K => He.fAd K ("law", none), "law", "law", defArgs s_law, defBody s_law, defScope s_law, [], []⟩
def fxs : List Fx := [.mkr "Sea", .glo "sets_of", .glo "lots_of", .glo "out_of", .prop "Sea" "islands", .glo "names_in", .glo "lot_of", .glo "is_integer", .glo "is_within", .val "LONGEST_NAME" (.int 8), .val "LETTERS" (.str "abcdefghijklmnopqrstuvwxyz"), .val "DIGITS" (.str "0123456789"), .glo "is_name", .val "MOST_ISLANDS" (.int 5), .glo "wrong_island", .glo "read_sea", .glo "pairs_of", .glo "check_sea", .glo "wrong_number", .prop "Sea" "spans", .glo "check_bridges", .glo "check_island", .glo "check_pair", .spec "Sea" "__len__", .glo "parting_lots", .glo "between_of", .glo "cut_of", .glo "flow_range", .glo "flow_of", .spec "Sea" "__str__", .glo "certify_between", .glo "is_count", .glo "is_pair", .glo "is_lot", .glo "are_two", .glo "is_flow", .glo "between_shown", .val "MOST_BRIDGES" (.int 1000000000000000000000000000000), .glo "accepts", .glo "_law_bowl", .glo "_law_pull", .glo "_law_one", .glo "_law_words", .glo "_law_isles", .glo "_law_joints", .glo "_law_few", .glo "_law_leads", .glo "_law_is_whole", .glo "_law_spots", .glo "_law_is_pair", .glo "_law_between_fits", .glo "_law_read", .glo "_law_changed", .glo "_law_right", .glo "law"]
def fns0 : List He5.DefA := [d_sets_of, d_lots_of, d_out_of, d_Sea_islands, d_names_in, d_lot_of, d_is_integer, d_is_within, d_is_name, d_wrong_island, d_read_sea, d_pairs_of, d_Sea___init__, d_Sea_spans, d_Sea___len__, d_Sea___str__, d_check_sea, d_wrong_number, d_check_bridges, d_check_island]
def fns1 : List He5.DefA := [d_check_pair, d_parting_lots, d_between_of, d_cut_of, d_flow_range, d_flow_of, d_certify_between, d_is_count, d_is_pair, d_is_lot, d_are_two, d_is_flow, d_between_shown, d_accepts, d__law_bowl, d__law_pull, d__law_one, d__law_words, d__law_isles, d__law_joints]
def fns2 : List He5.DefA := [d__law_few, d__law_leads, d__law_is_whole, d__law_spots, d__law_is_pair, d__law_between_fits, d__law_read, d__law_changed, d__law_right, d_law]
def fns : List He5.DefA := fns0 ++ (fns1 ++ (fns2))
section
variable {K : PySem.W.Frag} {h : Heap} {mg : Str → Option Value}
theorem o_sets_of (c : Says cl fxs fns K) (X : K.In h) (G : h.Ns mainGlobals mg) : GivF K mg (Yof K cl) false 1 "sets_of" (He.fAd K ("sets_of", none)) ["many"] f_sets_of := by
  obtain ⟨fd, F⟩ := c.def_ 0 (d := d_sets_of) rfl
  exact ⟨fd, c.glo X G 1 rfl, F.kp, F.bindsN fun _ _ _ _ _ _ us hl => match us, hl with | [_], _ => rfl, runN_ar, giv_of F (fun P w base => c.okM X G rfl rfl .nil .nil) S_sets_of c_sets_of s_sets_of rfl rfl rfl⟩
theorem o_lots_of (c : Says cl fxs fns K) (X : K.In h) (G : h.Ns mainGlobals mg) : GivF K mg (Yof K cl) false 2 "lots_of" (He.fAd K ("lots_of", none)) ["many"] f_lots_of := by
  obtain ⟨fd, F⟩ := c.def_ 1 (d := d_lots_of) rfl
  exact ⟨fd, c.glo X G 2 rfl, F.kp, F.bindsN fun _ _ _ _ _ _ us hl => match us, hl with | [_], _ => rfl, runN_ar, giv_of F (fun P w base => c.okM X G rfl rfl (.cons ((o_sets_of c X G).fm (by decide)) .nil) .nil) S_lots_of c_lots_of s_lots_of rfl rfl rfl⟩
theorem o_out_of (c : Says cl fxs fns K) (X : K.In h) (G : h.Ns mainGlobals mg) : GivF K mg (Yof K cl) false 1 "out_of" (He.fAd K ("out_of", none)) ["spans", "numbers", "lot"] f_out_of := by
  obtain ⟨fd, F⟩ := c.def_ 2 (d := d_out_of) rfl
  exact ⟨fd, c.glo X G 3 rfl, F.kp, F.bindsN fun _ _ _ _ _ _ us hl => match us, hl with | [_, _, _], _ => rfl, runN_ar, giv_of F (fun P w base => c.okM X G rfl rfl .nil .nil) S_out_of c_out_of s_out_of rfl rfl rfl⟩
theorem o_Sea_islands (c : Says cl fxs fns K) (X : K.In h) (G : h.Ns mainGlobals mg) : GivM K mg (Yof K cl) 1 (propA K (He.ga K "Sea") "islands") ["self"] f_Sea_islands := by
  obtain ⟨fd, F⟩ := c.def_ 3 (d := d_Sea_islands) rfl
  exact ⟨fd, F.bindsN fun _ _ _ _ _ _ us hl => match us, hl with | [_], _ => rfl, runN_ar, giv_of F (fun P w base => c.okM X G rfl rfl .nil .nil) S_Sea_islands c_Sea_islands s_Sea_islands rfl rfl rfl⟩
theorem o_names_in (c : Says cl fxs fns K) (X : K.In h) (G : h.Ns mainGlobals mg) : GivF K mg (Yof K cl) false 3 "names_in" (He.fAd K ("names_in", none)) ["sea", "lot"] f_names_in := by
  obtain ⟨fd, F⟩ := c.def_ 4 (d := d_names_in) rfl
  exact ⟨fd, c.glo X G 5 rfl, F.kp, F.bindsN fun _ _ _ _ _ _ us hl => match us, hl with | [_, _], _ => rfl, runN_ar, giv_of F (fun P w base => c.okM X G rfl rfl (.cons ((o_Sea_islands c X G).prop c 4 rfl rfl (by decide)) .nil) .nil) S_names_in c_names_in s_names_in rfl rfl rfl⟩
theorem o_lot_of (c : Says cl fxs fns K) (X : K.In h) (G : h.Ns mainGlobals mg) : GivF K mg (Yof K cl) false 3 "lot_of" (He.fAd K ("lot_of", none)) ["sea", "names"] f_lot_of := by
  obtain ⟨fd, F⟩ := c.def_ 5 (d := d_lot_of) rfl
  exact ⟨fd, c.glo X G 6 rfl, F.kp, F.bindsN fun _ _ _ _ _ _ us hl => match us, hl with | [_, _], _ => rfl, runN_ar, giv_of F (fun P w base => c.okM X G rfl rfl (.cons ((o_Sea_islands c X G).prop c 4 rfl rfl (by decide)) .nil) .nil) S_lot_of c_lot_of s_lot_of rfl rfl rfl⟩
theorem o_is_integer (c : Says cl fxs fns K) (X : K.In h) (G : h.Ns mainGlobals mg) : GivF K mg (Yof K cl) false 1 "is_integer" (He.fAd K ("is_integer", none)) ["value"] f_is_integer := by
  obtain ⟨fd, F⟩ := c.def_ 6 (d := d_is_integer) rfl
  exact ⟨fd, c.glo X G 7 rfl, F.kp, F.bindsN fun _ _ _ _ _ _ us hl => match us, hl with | [_], _ => rfl, runN_ar, giv_of F (fun P w base => c.okM X G rfl rfl .nil .nil) S_is_integer c_is_integer s_is_integer rfl rfl rfl⟩
theorem o_is_within (c : Says cl fxs fns K) (X : K.In h) (G : h.Ns mainGlobals mg) : GivF K mg (Yof K cl) false 2 "is_within" (He.fAd K ("is_within", none)) ["value", "least", "most"] f_is_within := by
  obtain ⟨fd, F⟩ := c.def_ 7 (d := d_is_within) rfl
  exact ⟨fd, c.glo X G 8 rfl, F.kp, F.bindsN fun _ _ _ _ _ _ us hl => match us, hl with | [_, _, _], _ => rfl, runN_ar, giv_of F (fun P w base => c.okM X G rfl rfl (.cons ((o_is_integer c X G).fm (by decide)) .nil) .nil) S_is_within c_is_within s_is_within rfl rfl rfl⟩
theorem o_is_name (c : Says cl fxs fns K) (X : K.In h) (G : h.Ns mainGlobals mg) : GivF K mg (Yof K cl) false 1 "is_name" (He.fAd K ("is_name", none)) ["value"] f_is_name := by
  obtain ⟨fd, F⟩ := c.def_ 8 (d := d_is_name) rfl
  exact ⟨fd, c.glo X G 12 rfl, F.kp, F.bindsN fun _ _ _ _ _ _ us hl => match us, hl with | [_], _ => rfl, runN_ar, giv_of F (fun P w base => c.okM X G rfl rfl .nil (.cons (c.gStr X G 11 rfl) (.cons (c.gStr X G 10 rfl) (.cons (c.gInt X G 9 rfl) .nil)))) S_is_name c_is_name s_is_name rfl rfl rfl⟩
theorem o_wrong_island (c : Says cl fxs fns K) (X : K.In h) (G : h.Ns mainGlobals mg) : GivF K mg (Yof K cl) false 2 "wrong_island" (He.fAd K ("wrong_island", none)) ["islands"] f_wrong_island := by
  obtain ⟨fd, F⟩ := c.def_ 9 (d := d_wrong_island) rfl
  exact ⟨fd, c.glo X G 14 rfl, F.kp, F.bindsN fun _ _ _ _ _ _ us hl => match us, hl with | [_], _ => rfl, runN_ar, giv_of F (fun P w base => c.okM X G rfl rfl (.cons ((o_is_name c X G).fm (by decide)) .nil) (.cons (c.gInt X G 13 rfl) .nil)) S_wrong_island c_wrong_island s_wrong_island rfl rfl rfl⟩
theorem o_read_sea (c : Says cl fxs fns K) (X : K.In h) (G : h.Ns mainGlobals mg) : GivF K mg (Yof K cl) false 3 "read_sea" (He.fAd K ("read_sea", none)) ["text"] f_read_sea := by
  obtain ⟨fd, F⟩ := c.def_ 10 (d := d_read_sea) rfl
  exact ⟨fd, c.glo X G 15 rfl, F.kp, F.bindsN fun _ _ _ _ _ _ us hl => match us, hl with | [_], _ => rfl, runN_ar, giv_of F (fun P w base => c.okM X G rfl rfl (.cons ((o_wrong_island c X G).fm (by decide)) .nil) .nil) S_read_sea c_read_sea s_read_sea rfl rfl rfl⟩
theorem o_pairs_of (c : Says cl fxs fns K) (X : K.In h) (G : h.Ns mainGlobals mg) : GivF K mg (Yof K cl) false 1 "pairs_of" (He.fAd K ("pairs_of", none)) ["many"] f_pairs_of := by
  obtain ⟨fd, F⟩ := c.def_ 11 (d := d_pairs_of) rfl
  exact ⟨fd, c.glo X G 16 rfl, F.kp, F.bindsN fun _ _ _ _ _ _ us hl => match us, hl with | [_], _ => rfl, runN_ar, giv_of F (fun P w base => c.okM X G rfl rfl .nil .nil) S_pairs_of c_pairs_of s_pairs_of rfl rfl rfl⟩
theorem o_Sea___init__ (c : Says cl fxs fns K) (X : K.In h) (G : h.Ns mainGlobals mg) : GivM K mg (Yof K cl) 3 (He.ma K (He.ga K "Sea") "__init__") ["self", "islands"] f_Sea___init__ := by
  obtain ⟨fd, F⟩ := c.def_ 12 (d := d_Sea___init__) rfl
  exact ⟨fd, F.bindsN fun _ _ _ _ _ _ us hl => match us, hl with | [_, _], _ => rfl, runN_ar, giv_of F (fun P w base => c.okM X G rfl rfl (.cons ((o_pairs_of c X G).fm (by decide)) (.cons ((o_wrong_island c X G).fm (by decide)) .nil)) .nil) S_Sea___init__ c_Sea___init__ s_Sea___init__ rfl rfl rfl⟩
theorem o_Sea_spans (c : Says cl fxs fns K) (X : K.In h) (G : h.Ns mainGlobals mg) : GivM K mg (Yof K cl) 1 (propA K (He.ga K "Sea") "spans") ["self"] f_Sea_spans := by
  obtain ⟨fd, F⟩ := c.def_ 13 (d := d_Sea_spans) rfl
  exact ⟨fd, F.bindsN fun _ _ _ _ _ _ us hl => match us, hl with | [_], _ => rfl, runN_ar, giv_of F (fun P w base => c.okM X G rfl rfl .nil .nil) S_Sea_spans c_Sea_spans s_Sea_spans rfl rfl rfl⟩
theorem o_Sea___len__ (c : Says cl fxs fns K) (X : K.In h) (G : h.Ns mainGlobals mg) : GivM K mg (Yof K cl) 1 (He.ma K (He.ga K "Sea") "__len__") ["self"] f_Sea___len__ := by
  obtain ⟨fd, F⟩ := c.def_ 14 (d := d_Sea___len__) rfl
  exact ⟨fd, F.bindsN fun _ _ _ _ _ _ us hl => match us, hl with | [_], _ => rfl, runN_ar, giv_of F (fun P w base => c.okM X G rfl rfl .nil .nil) S_Sea___len__ c_Sea___len__ s_Sea___len__ rfl rfl rfl⟩
theorem o_Sea___str__ (c : Says cl fxs fns K) (X : K.In h) (G : h.Ns mainGlobals mg) : GivM K mg (Yof K cl) 1 (He.ma K (He.ga K "Sea") "__str__") ["self"] f_Sea___str__ := by
  obtain ⟨fd, F⟩ := c.def_ 15 (d := d_Sea___str__) rfl
  exact ⟨fd, F.bindsN fun _ _ _ _ _ _ us hl => match us, hl with | [_], _ => rfl, runN_ar, giv_of F (fun P w base => c.okM X G rfl rfl .nil .nil) S_Sea___str__ c_Sea___str__ s_Sea___str__ rfl rfl rfl⟩
theorem o_check_sea (c : Says cl fxs fns K) (X : K.In h) (G : h.Ns mainGlobals mg) : GivF K mg (Yof K cl) false 1 "check_sea" (He.fAd K ("check_sea", none)) ["value"] f_check_sea := by
  obtain ⟨fd, F⟩ := c.def_ 16 (d := d_check_sea) rfl
  exact ⟨fd, c.glo X G 17 rfl, F.kp, F.bindsN fun _ _ _ _ _ _ us hl => match us, hl with | [_], _ => rfl, runN_ar, giv_of F (fun P w base => c.okM X G rfl rfl .nil .nil) S_check_sea c_check_sea s_check_sea rfl rfl rfl⟩
theorem o_wrong_number (c : Says cl fxs fns K) (X : K.In h) (G : h.Ns mainGlobals mg) : GivF K mg (Yof K cl) false 3 "wrong_number" (He.fAd K ("wrong_number", none)) ["value", "many", "least", "most"] f_wrong_number := by
  obtain ⟨fd, F⟩ := c.def_ 17 (d := d_wrong_number) rfl
  exact ⟨fd, c.glo X G 18 rfl, F.kp, F.bindsN fun _ _ _ _ _ _ us hl => match us, hl with | [_, _, _, _], _ => rfl, runN_ar, giv_of F (fun P w base => c.okM X G rfl rfl (.cons ((o_is_within c X G).fm (by decide)) .nil) .nil) S_wrong_number c_wrong_number s_wrong_number rfl rfl rfl⟩
theorem o_check_bridges (c : Says cl fxs fns K) (X : K.In h) (G : h.Ns mainGlobals mg) : GivD K mg (Yof K cl) 4 "check_bridges" (He.fAd K ("check_bridges", none)) ["sea", "bridges", "most"] h_check_bridges [(.int (10 ^ 30))] := by
  obtain ⟨fd, F⟩ := c.def_ 18 (d := d_check_bridges) rfl
  obtain ⟨ds, r, b⟩ := bd_of (ps := ["sea", "bridges", "most"]) F (by intro z; cases z) 2 rfl fun _ _ _ _ _ _ _ us its hl hi => match us, hl, its, hi with | [_, _], _, [_], _ => ⟨_, rfl, rfl⟩
  exact ⟨fd, _, ds, c.glo X G 20 rfl, F.kp, b, r, fun _ _ => .cons (.int _) .nil, runN_ar, giv_ofD F (fun P w base => c.okM X G rfl rfl (.cons ((o_wrong_number c X G).fm (by decide)) (.cons ((o_Sea_spans c X G).prop c 19 rfl rfl (by decide)) .nil)) .nil) S_check_bridges c_check_bridges⟩
theorem o_check_island (c : Says cl fxs fns K) (X : K.In h) (G : h.Ns mainGlobals mg) : GivF K mg (Yof K cl) false 3 "check_island" (He.fAd K ("check_island", none)) ["sea", "value"] f_check_island := by
  obtain ⟨fd, F⟩ := c.def_ 19 (d := d_check_island) rfl
  exact ⟨fd, c.glo X G 21 rfl, F.kp, F.bindsN fun _ _ _ _ _ _ us hl => match us, hl with | [_, _], _ => rfl, runN_ar, giv_of F (fun P w base => c.okM X G rfl rfl (.cons ((o_Sea_islands c X G).prop c 4 rfl rfl (by decide)) .nil) .nil) S_check_island c_check_island s_check_island rfl rfl rfl⟩
theorem o_check_pair (c : Says cl fxs fns K) (X : K.In h) (G : h.Ns mainGlobals mg) : GivF K mg (Yof K cl) false 4 "check_pair" (He.fAd K ("check_pair", none)) ["sea", "one", "other"] f_check_pair := by
  obtain ⟨fd, F⟩ := c.def_ 20 (d := d_check_pair) rfl
  exact ⟨fd, c.glo X G 22 rfl, F.kp, F.bindsN fun _ _ _ _ _ _ us hl => match us, hl with | [_, _, _], _ => rfl, runN_ar, giv_of F (fun P w base => c.okM X G rfl rfl (.cons ((o_check_island c X G).fm (by decide)) .nil) .nil) S_check_pair c_check_pair s_check_pair rfl rfl rfl⟩
theorem o_parting_lots (c : Says cl fxs fns K) (X : K.In h) (G : h.Ns mainGlobals mg) : GivF K mg (Yof K cl) false 3 "parting_lots" (He.fAd K ("parting_lots", none)) ["sea", "here", "there"] f_parting_lots := by
  obtain ⟨fd, F⟩ := c.def_ 21 (d := d_parting_lots) rfl
  exact ⟨fd, c.glo X G 24 rfl, F.kp, F.bindsN fun _ _ _ _ _ _ us hl => match us, hl with | [_, _, _], _ => rfl, runN_ar, giv_of F (fun P w base => c.okM X G rfl rfl (.cons ((o_lots_of c X G).fm (by decide)) (.cons ((o_Sea___len__ c X G).len c 23 rfl rfl (by decide)) .nil)) .nil) S_parting_lots c_parting_lots s_parting_lots rfl rfl rfl⟩
theorem o_between_of (c : Says cl fxs fns K) (X : K.In h) (G : h.Ns mainGlobals mg) : GivF K mg (Yof K cl) false 4 "between_of" (He.fAd K ("between_of", none)) ["sea", "bridges", "here", "there"] f_between_of := by
  obtain ⟨fd, F⟩ := c.def_ 22 (d := d_between_of) rfl
  exact ⟨fd, c.glo X G 25 rfl, F.kp, F.bindsN fun _ _ _ _ _ _ us hl => match us, hl with | [_, _, _, _], _ => rfl, runN_ar, giv_of F (fun P w base => c.okM X G rfl rfl (.cons ((o_parting_lots c X G).fm (by decide)) (.cons ((o_out_of c X G).fm (by decide)) (.cons ((o_Sea_spans c X G).prop c 19 rfl rfl (by decide)) .nil))) .nil) S_between_of c_between_of s_between_of rfl rfl rfl⟩
theorem o_cut_of (c : Says cl fxs fns K) (X : K.In h) (G : h.Ns mainGlobals mg) : GivF K mg (Yof K cl) false 5 "cut_of" (He.fAd K ("cut_of", none)) ["sea", "bridges", "here", "there"] f_cut_of := by
  obtain ⟨fd, F⟩ := c.def_ 23 (d := d_cut_of) rfl
  exact ⟨fd, c.glo X G 26 rfl, F.kp, F.bindsN fun _ _ _ _ _ _ us hl => match us, hl with | [_, _, _, _], _ => rfl, runN_ar, giv_of F (fun P w base => c.okM X G rfl rfl (.cons ((o_parting_lots c X G).fm (by decide)) (.cons ((o_out_of c X G).fm (by decide)) (.cons ((o_Sea_spans c X G).prop c 19 rfl rfl (by decide)) (.cons ((o_between_of c X G).fm (by decide)) .nil)))) .nil) S_cut_of c_cut_of s_cut_of rfl rfl rfl⟩
theorem o_flow_range (c : Says cl fxs fns K) (X : K.In h) (G : h.Ns mainGlobals mg) : GivF K mg (Yof K cl) false 3 "flow_range" (He.fAd K ("flow_range", none)) ["spans", "bridges", "wants", "at"] f_flow_range := by
  obtain ⟨fd, F⟩ := c.def_ 24 (d := d_flow_range) rfl
  exact ⟨fd, c.glo X G 27 rfl, F.kp, F.bindsN fun _ _ _ _ _ _ us hl => match us, hl with | [_, _, _, _], _ => rfl, runN_ar, giv_of F (fun P w base => c.okM X G rfl rfl (.cons ((o_out_of c X G).fm (by decide)) (.cons ((o_lots_of c X G).fm (by decide)) .nil)) .nil) S_flow_range c_flow_range s_flow_range rfl rfl rfl⟩
theorem o_flow_of (c : Says cl fxs fns K) (X : K.In h) (G : h.Ns mainGlobals mg) : GivF K mg (Yof K cl) false 4 "flow_of" (He.fAd K ("flow_of", none)) ["sea", "bridges", "here", "there", "many"] f_flow_of := by
  obtain ⟨fd, F⟩ := c.def_ 25 (d := d_flow_of) rfl
  exact ⟨fd, c.glo X G 28 rfl, F.kp, F.bindsN fun _ _ _ _ _ _ us hl => match us, hl with | [_, _, _, _, _], _ => rfl, runN_ar, giv_of F (fun P w base => c.okM X G rfl rfl (.cons ((o_flow_range c X G).fm (by decide)) (.cons ((o_Sea_spans c X G).prop c 19 rfl rfl (by decide)) (.cons ((o_Sea___len__ c X G).len c 23 rfl rfl (by decide)) .nil))) .nil) S_flow_of c_flow_of s_flow_of rfl rfl rfl⟩
theorem o_certify_between (c : Says cl fxs fns K) (X : K.In h) (G : h.Ns mainGlobals mg) : GivF K mg (Yof K cl) false 6 "certify_between" (He.fAd K ("certify_between", none)) ["sea", "bridges", "one", "other"] f_certify_between := by
  obtain ⟨fd, F⟩ := c.def_ 26 (d := d_certify_between) rfl
  exact ⟨fd, c.glo X G 30 rfl, F.kp, F.bindsN fun _ _ _ _ _ _ us hl => match us, hl with | [_, _, _, _], _ => rfl, runN_ar, giv_of F (fun P w base => c.okM X G rfl rfl (.cons ((o_Sea___str__ c X G).str c 29 rfl rfl (by decide)) (.cons ((o_flow_of c X G).fm (by decide)) (.cons ((o_names_in c X G).fm (by decide)) (.cons ((o_cut_of c X G).fm (by decide)) (.cons ((o_between_of c X G).fm (by decide)) (.cons ((o_Sea_islands c X G).prop c 4 rfl rfl (by decide)) (.cons ((o_check_pair c X G).fm (by decide)) (.cons ((o_check_bridges c X G).fm (by decide)) (.cons ((o_check_sea c X G).fm (by decide)) .nil))))))))) .nil) S_certify_between c_certify_between s_certify_between rfl rfl rfl⟩
theorem o_is_count (c : Says cl fxs fns K) (X : K.In h) (G : h.Ns mainGlobals mg) : GivF K mg (Yof K cl) false 2 "is_count" (He.fAd K ("is_count", none)) ["value"] f_is_count := by
  obtain ⟨fd, F⟩ := c.def_ 27 (d := d_is_count) rfl
  exact ⟨fd, c.glo X G 31 rfl, F.kp, F.bindsN fun _ _ _ _ _ _ us hl => match us, hl with | [_], _ => rfl, runN_ar, giv_of F (fun P w base => c.okM X G rfl rfl (.cons ((o_is_integer c X G).fm (by decide)) .nil) .nil) S_is_count c_is_count s_is_count rfl rfl rfl⟩
theorem o_is_pair (c : Says cl fxs fns K) (X : K.In h) (G : h.Ns mainGlobals mg) : GivF K mg (Yof K cl) false 1 "is_pair" (He.fAd K ("is_pair", none)) ["value"] f_is_pair := by
  obtain ⟨fd, F⟩ := c.def_ 28 (d := d_is_pair) rfl
  exact ⟨fd, c.glo X G 32 rfl, F.kp, F.bindsN fun _ _ _ _ _ _ us hl => match us, hl with | [_], _ => rfl, runN_ar, giv_of F (fun P w base => c.okM X G rfl rfl .nil .nil) S_is_pair c_is_pair s_is_pair rfl rfl rfl⟩
theorem o_is_lot (c : Says cl fxs fns K) (X : K.In h) (G : h.Ns mainGlobals mg) : GivF K mg (Yof K cl) false 3 "is_lot" (He.fAd K ("is_lot", none)) ["sea", "value"] f_is_lot := by
  obtain ⟨fd, F⟩ := c.def_ 29 (d := d_is_lot) rfl
  exact ⟨fd, c.glo X G 33 rfl, F.kp, F.bindsN fun _ _ _ _ _ _ us hl => match us, hl with | [_, _], _ => rfl, runN_ar, giv_of F (fun P w base => c.okM X G rfl rfl (.cons ((o_Sea_islands c X G).prop c 4 rfl rfl (by decide)) (.cons ((o_Sea___len__ c X G).len c 23 rfl rfl (by decide)) .nil)) .nil) S_is_lot c_is_lot s_is_lot rfl rfl rfl⟩
theorem o_are_two (c : Says cl fxs fns K) (X : K.In h) (G : h.Ns mainGlobals mg) : GivF K mg (Yof K cl) false 3 "are_two" (He.fAd K ("are_two", none)) ["sea", "one", "other"] f_are_two := by
  obtain ⟨fd, F⟩ := c.def_ 30 (d := d_are_two) rfl
  exact ⟨fd, c.glo X G 34 rfl, F.kp, F.bindsN fun _ _ _ _ _ _ us hl => match us, hl with | [_, _, _], _ => rfl, runN_ar, giv_of F (fun P w base => c.okM X G rfl rfl (.cons ((o_Sea_islands c X G).prop c 4 rfl rfl (by decide)) .nil) .nil) S_are_two c_are_two s_are_two rfl rfl rfl⟩
theorem o_is_flow (c : Says cl fxs fns K) (X : K.In h) (G : h.Ns mainGlobals mg) : GivF K mg (Yof K cl) false 3 "is_flow" (He.fAd K ("is_flow", none)) ["sea", "bridges", "claim", "value"] f_is_flow := by
  obtain ⟨fd, F⟩ := c.def_ 31 (d := d_is_flow) rfl
  exact ⟨fd, c.glo X G 35 rfl, F.kp, F.bindsN fun _ _ _ _ _ _ us hl => match us, hl with | [_, _, _, _], _ => rfl, runN_ar, giv_of F (fun P w base => c.okM X G rfl rfl (.cons ((o_Sea_islands c X G).prop c 4 rfl rfl (by decide)) (.cons ((o_Sea_spans c X G).prop c 19 rfl rfl (by decide)) (.cons ((o_is_within c X G).fm (by decide)) .nil))) .nil) S_is_flow c_is_flow s_is_flow rfl rfl rfl⟩
theorem o_between_shown (c : Says cl fxs fns K) (X : K.In h) (G : h.Ns mainGlobals mg) : GivF K mg (Yof K cl) false 4 "between_shown" (He.fAd K ("between_shown", none)) ["sea", "bridges", "claim", "certificate"] f_between_shown := by
  obtain ⟨fd, F⟩ := c.def_ 32 (d := d_between_shown) rfl
  exact ⟨fd, c.glo X G 36 rfl, F.kp, F.bindsN fun _ _ _ _ _ _ us hl => match us, hl with | [_, _, _, _], _ => rfl, runN_ar, giv_of F (fun P w base => c.okM X G rfl rfl (.cons ((o_is_flow c X G).fm (by decide)) (.cons ((o_out_of c X G).fm (by decide)) (.cons ((o_lot_of c X G).fm (by decide)) (.cons ((o_Sea_spans c X G).prop c 19 rfl rfl (by decide)) (.cons ((o_is_lot c X G).fm (by decide)) (.cons ((o_is_pair c X G).fm (by decide)) (.cons ((o_is_count c X G).fm (by decide)) (.cons ((o_are_two c X G).fm (by decide)) .nil)))))))) .nil) S_between_shown c_between_shown s_between_shown rfl rfl rfl⟩
theorem o_accepts (c : Says cl fxs fns K) (X : K.In h) (G : h.Ns mainGlobals mg) : GivF K mg (Yof K cl) false 5 "accepts" (He.fAd K ("accepts", none)) ["claim", "certificate"] f_accepts := by
  obtain ⟨fd, F⟩ := c.def_ 33 (d := d_accepts) rfl
  exact ⟨fd, c.glo X G 38 rfl, F.kp, F.bindsN fun _ _ _ _ _ _ us hl => match us, hl with | [_, _], _ => rfl, runN_ar, giv_of F (fun P w base => c.okM X G rfl rfl (.cons ((o_between_shown c X G).fm (by decide)) (.cons ((o_wrong_number c X G).fm (by decide)) (.cons ((o_Sea_spans c X G).prop c 19 rfl rfl (by decide)) (.cons ((o_Sea___init__ c X G).init c 0 rfl rfl (by decide)) (.cons ((o_read_sea c X G).fm (by decide)) .nil))))) (.cons (c.gInt X G 37 rfl) .nil)) S_accepts c_accepts s_accepts rfl rfl rfl⟩
theorem o__law_bowl (c : Says cl fxs fns K) (X : K.In h) (G : h.Ns mainGlobals mg) : GivF K mg (Yof K cl) false 1 "_law_bowl" (He.fAd K ("_law_bowl", none)) ["cells", "turn"] f__law_bowl := by
  obtain ⟨fd, F⟩ := c.def_ 34 (d := d__law_bowl) rfl
  exact ⟨fd, c.glo X G 39 rfl, F.kp, F.bindsN fun _ _ _ _ _ _ us hl => match us, hl with | [_, _], _ => rfl, runN_ar, giv_of F (fun P w base => c.okM X G rfl rfl .nil .nil) S__law_bowl c__law_bowl s__law_bowl rfl rfl rfl⟩
theorem o__law_pull (c : Says cl fxs fns K) (X : K.In h) (G : h.Ns mainGlobals mg) : GivF K mg (Yof K cl) false 1 "_law_pull" (He.fAd K ("_law_pull", none)) ["bowl", "size"] f__law_pull := by
  obtain ⟨fd, F⟩ := c.def_ 35 (d := d__law_pull) rfl
  exact ⟨fd, c.glo X G 40 rfl, F.kp, F.bindsN fun _ _ _ _ _ _ us hl => match us, hl with | [_, _], _ => rfl, runN_ar, giv_of F (fun P w base => c.okM X G rfl rfl .nil .nil) S__law_pull c__law_pull s__law_pull rfl rfl rfl⟩
theorem o__law_one (c : Says cl fxs fns K) (X : K.In h) (G : h.Ns mainGlobals mg) : GivF K mg (Yof K cl) false 2 "_law_one" (He.fAd K ("_law_one", none)) ["bowl", "some"] f__law_one := by
  obtain ⟨fd, F⟩ := c.def_ 36 (d := d__law_one) rfl
  exact ⟨fd, c.glo X G 41 rfl, F.kp, F.bindsN fun _ _ _ _ _ _ us hl => match us, hl with | [_, _], _ => rfl, runN_ar, giv_of F (fun P w base => c.okM X G rfl rfl (.cons ((o__law_pull c X G).fm (by decide)) .nil) .nil) S__law_one c__law_one s__law_one rfl rfl rfl⟩
theorem o__law_words (c : Says cl fxs fns K) (X : K.In h) (G : h.Ns mainGlobals mg) : GivF K mg (Yof K cl) false 3 "_law_words" (He.fAd K ("_law_words", none)) ["bowl", "count"] f__law_words := by
  obtain ⟨fd, F⟩ := c.def_ 37 (d := d__law_words) rfl
  exact ⟨fd, c.glo X G 42 rfl, F.kp, F.bindsN fun _ _ _ _ _ _ us hl => match us, hl with | [_, _], _ => rfl, runN_ar, giv_of F (fun P w base => c.okM X G rfl rfl (.cons ((o__law_pull c X G).fm (by decide)) (.cons ((o__law_one c X G).fm (by decide)) .nil)) .nil) S__law_words c__law_words s__law_words rfl rfl rfl⟩
theorem o__law_isles (c : Says cl fxs fns K) (X : K.In h) (G : h.Ns mainGlobals mg) : GivF K mg (Yof K cl) false 4 "_law_isles" (He.fAd K ("_law_isles", none)) ["bowl", "most"] f__law_isles := by
  obtain ⟨fd, F⟩ := c.def_ 38 (d := d__law_isles) rfl
  exact ⟨fd, c.glo X G 43 rfl, F.kp, F.bindsN fun _ _ _ _ _ _ us hl => match us, hl with | [_, _], _ => rfl, runN_ar, giv_of F (fun P w base => c.okM X G rfl rfl (.cons ((o__law_words c X G).fm (by decide)) (.cons ((o__law_pull c X G).fm (by decide)) .nil)) .nil) S__law_isles c__law_isles s__law_isles rfl rfl rfl⟩
theorem o__law_joints (c : Says cl fxs fns K) (X : K.In h) (G : h.Ns mainGlobals mg) : GivF K mg (Yof K cl) false 1 "_law_joints" (He.fAd K ("_law_joints", none)) ["size"] f__law_joints := by
  obtain ⟨fd, F⟩ := c.def_ 39 (d := d__law_joints) rfl
  exact ⟨fd, c.glo X G 44 rfl, F.kp, F.bindsN fun _ _ _ _ _ _ us hl => match us, hl with | [_], _ => rfl, runN_ar, giv_of F (fun P w base => c.okM X G rfl rfl .nil .nil) S__law_joints c__law_joints s__law_joints rfl rfl rfl⟩
theorem o__law_few (c : Says cl fxs fns K) (X : K.In h) (G : h.Ns mainGlobals mg) : GivF K mg (Yof K cl) false 2 "_law_few" (He.fAd K ("_law_few", none)) ["bowl", "size", "most"] f__law_few := by
  obtain ⟨fd, F⟩ := c.def_ 40 (d := d__law_few) rfl
  exact ⟨fd, c.glo X G 45 rfl, F.kp, F.bindsN fun _ _ _ _ _ _ us hl => match us, hl with | [_, _, _], _ => rfl, runN_ar, giv_of F (fun P w base => c.okM X G rfl rfl (.cons ((o__law_joints c X G).fm (by decide)) (.cons ((o__law_pull c X G).fm (by decide)) .nil)) .nil) S__law_few c__law_few s__law_few rfl rfl rfl⟩
theorem o__law_leads (c : Says cl fxs fns K) (X : K.In h) (G : h.Ns mainGlobals mg) : GivF K mg (Yof K cl) false 2 "_law_leads" (He.fAd K ("_law_leads", none)) ["nums", "size", "lot"] f__law_leads := by
  obtain ⟨fd, F⟩ := c.def_ 41 (d := d__law_leads) rfl
  exact ⟨fd, c.glo X G 46 rfl, F.kp, F.bindsN fun _ _ _ _ _ _ us hl => match us, hl with | [_, _, _], _ => rfl, runN_ar, giv_of F (fun P w base => c.okM X G rfl rfl (.cons ((o__law_joints c X G).fm (by decide)) .nil) .nil) S__law_leads c__law_leads s__law_leads rfl rfl rfl⟩
theorem o__law_is_whole (c : Says cl fxs fns K) (X : K.In h) (G : h.Ns mainGlobals mg) : GivF K mg (Yof K cl) false 1 "_law_is_whole" (He.fAd K ("_law_is_whole", none)) ["thing", "low", "high"] f__law_is_whole := by
  obtain ⟨fd, F⟩ := c.def_ 42 (d := d__law_is_whole) rfl
  exact ⟨fd, c.glo X G 47 rfl, F.kp, F.bindsN fun _ _ _ _ _ _ us hl => match us, hl with | [_, _, _], _ => rfl, runN_ar, giv_of F (fun P w base => c.okM X G rfl rfl .nil .nil) S__law_is_whole c__law_is_whole s__law_is_whole rfl rfl rfl⟩
theorem o__law_spots (c : Says cl fxs fns K) (X : K.In h) (G : h.Ns mainGlobals mg) : GivF K mg (Yof K cl) false 1 "_law_spots" (He.fAd K ("_law_spots", none)) ["isles", "thing"] f__law_spots := by
  obtain ⟨fd, F⟩ := c.def_ 43 (d := d__law_spots) rfl
  exact ⟨fd, c.glo X G 48 rfl, F.kp, F.bindsN fun _ _ _ _ _ _ us hl => match us, hl with | [_, _], _ => rfl, runN_ar, giv_of F (fun P w base => c.okM X G rfl rfl .nil .nil) S__law_spots c__law_spots s__law_spots rfl rfl rfl⟩
theorem o__law_is_pair (c : Says cl fxs fns K) (X : K.In h) (G : h.Ns mainGlobals mg) : GivF K mg (Yof K cl) false 1 "_law_is_pair" (He.fAd K ("_law_is_pair", none)) ["thing"] f__law_is_pair := by
  obtain ⟨fd, F⟩ := c.def_ 44 (d := d__law_is_pair) rfl
  exact ⟨fd, c.glo X G 49 rfl, F.kp, F.bindsN fun _ _ _ _ _ _ us hl => match us, hl with | [_], _ => rfl, runN_ar, giv_of F (fun P w base => c.okM X G rfl rfl .nil .nil) S__law_is_pair c__law_is_pair s__law_is_pair rfl rfl rfl⟩
theorem o__law_between_fits (c : Says cl fxs fns K) (X : K.In h) (G : h.Ns mainGlobals mg) : GivF K mg (Yof K cl) false 3 "_law_between_fits" (He.fAd K ("_law_between_fits", none)) ["isles", "nums", "said", "paper"] f__law_between_fits := by
  obtain ⟨fd, F⟩ := c.def_ 45 (d := d__law_between_fits) rfl
  exact ⟨fd, c.glo X G 50 rfl, F.kp, F.bindsN fun _ _ _ _ _ _ us hl => match us, hl with | [_, _, _, _], _ => rfl, runN_ar, giv_of F (fun P w base => c.okM X G rfl rfl (.cons ((o__law_is_whole c X G).fm (by decide)) (.cons ((o__law_joints c X G).fm (by decide)) (.cons ((o__law_leads c X G).fm (by decide)) (.cons ((o__law_is_pair c X G).fm (by decide)) (.cons ((o__law_spots c X G).fm (by decide)) .nil))))) .nil) S__law_between_fits c__law_between_fits s__law_between_fits rfl rfl rfl⟩
theorem o__law_read (c : Says cl fxs fns K) (X : K.In h) (G : h.Ns mainGlobals mg) : GivF K mg (Yof K cl) false 1 "_law_read" (He.fAd K ("_law_read", none)) ["page"] f__law_read := by
  obtain ⟨fd, F⟩ := c.def_ 46 (d := d__law_read) rfl
  exact ⟨fd, c.glo X G 51 rfl, F.kp, F.bindsN fun _ _ _ _ _ _ us hl => match us, hl with | [_], _ => rfl, runN_ar, giv_of F (fun P w base => c.okM X G rfl rfl .nil .nil) S__law_read c__law_read s__law_read rfl rfl rfl⟩
theorem o__law_changed (c : Says cl fxs fns K) (X : K.In h) (G : h.Ns mainGlobals mg) : GivF K mg (Yof K cl) false 3 "_law_changed" (He.fAd K ("_law_changed", none)) ["bowl", "page"] f__law_changed := by
  obtain ⟨fd, F⟩ := c.def_ 47 (d := d__law_changed) rfl
  exact ⟨fd, c.glo X G 52 rfl, F.kp, F.bindsN fun _ _ _ _ _ _ us hl => match us, hl with | [_, _], _ => rfl, runN_ar, giv_of F (fun P w base => c.okM X G rfl rfl (.cons ((o__law_pull c X G).fm (by decide)) (.cons ((o__law_one c X G).fm (by decide)) .nil)) .nil) S__law_changed c__law_changed s__law_changed rfl rfl rfl⟩
theorem o__law_right (c : Says cl fxs fns K) (X : K.In h) (G : h.Ns mainGlobals mg) : GivF K mg (Yof K cl) true 7 "_law_right" (He.fAd K ("_law_right", none)) ["bowl"] f__law_right := by
  obtain ⟨fd, F⟩ := c.def_ 48 (d := d__law_right) rfl
  exact ⟨fd, c.glo X G 53 rfl, F.kp, F.bindsN fun _ _ _ _ _ _ us hl => match us, hl with | [_], _ => rfl, runN_ar, giv_of F (fun P w base => c.okM X G rfl rfl (.cons ((o_accepts c X G).fm (by decide)) (.cons ((o__law_between_fits c X G).fm (by decide)) (.cons ((o__law_joints c X G).fm (by decide)) (.cons ((o__law_read c X G).fm (by decide)) (.cons ((o__law_pull c X G).fm (by decide)) (.cons ((o__law_changed c X G).fm (by decide)) (.cons ((o_certify_between c X G).fm (by decide)) (.cons ((o_Sea___init__ c X G).init c 0 rfl rfl (by decide)) (.cons ((o__law_few c X G).fm (by decide)) (.cons ((o__law_isles c X G).fm (by decide)) .nil)))))))))) .nil) S__law_right c__law_right s__law_right rfl rfl rfl⟩
theorem o_law (c : Says cl fxs fns K) (X : K.In h) (G : h.Ns mainGlobals mg) : ∃ fd, mg "law" = some (.ref (He.fAd K ("law", none))) ∧ (∀ (s : Shared) (u : Value), BindsTo s fd ⟨[u], []⟩ [("script", u)]) ∧ ∀ base P w, Giv1 K mg base (Yof K cl) true 8 (He.fAd K ("law", none)) fd ["script"] 1 f_law P w := by
  obtain ⟨fd, F⟩ := c.def_ 49 (d := d_law) rfl
  have b := FunD.bindsA (ps := ["script"]) F fun _ _ _ _ _ _ us hl => match us, hl with | [_], _ => rfl
  exact ⟨fd, c.glo X G 54 rfl, fun s u => b s [u] rfl, fun base P w => giv_of F (fun P w base => c.okM X G rfl rfl (.cons ((o__law_right c X G).fmG (by decide)) (.cons ((o__law_bowl c X G).fm (by decide)) .nil)) .nil) S_law c_law s_law rfl rfl rfl base P w⟩
end
def names0 : List Str := ["MOST_ISLANDS", "MOST_BRIDGES", "sets_of", "lots_of", "out_of", "are_apart", "wished_of", "lack_of", "names_in", "lot_of", "WrongValue", "InvalidText", "NotASea", "InvalidIslands", "InvalidBridges", "WrongName", "UnknownName", "LETTERS", "DIGITS", "LONGEST_NAME", "is_integer", "is_within", "is_name", "LEAST_WISH", "wrong_island", "read_sea", "pairs_of", "Sea", "check_sea", "wrong_number"]
def names1 : List Str := ["check_bridges", "check_island", "check_pair", "parting_lots", "between_of", "cut_of", "are_fulfilled", "into_lot", "ways_in", "is_count", "is_pair", "is_lot", "are_lots", "are_two", "are_counts", "is_flow", "between_shown", "sum_of_lacks", "needed_shown", "ends_shown", "is_table", "ways_shown", "are_arrows", "into_with", "side_sum", "arrows_shown", "wished_shown", "accepts", "flow_range", "flow_of"]
def names2 : List Str := ["certify_between", "_law_bowl", "_law_pull", "_law_one", "_law_words", "_law_isles", "_law_joints", "_law_few", "_law_leads", "_law_is_whole", "_law_spots", "_law_is_pair", "_law_between_fits", "_law_read", "_law_changed", "_law_right"]
def names : List Str := names0 ++ (names1 ++ (names2))
abbrev R : PySem.W.OpenRow := PySem.W.OpenLaw.row PySem.Challenge.rw_sparebridges_k85_whole_texts_in_claims
abbrev hk : PySem.W.Hook := hookR 1000 cl fxs fns
def ob (s : PySem.W.SharedT) : AlE := obsR 1000 cl fxs fns (HandSHeadRun.getT s) s.n
theorem ob_eq (s : PySem.W.SharedT) : ob s = hk.obs s.abs := obsR_eq s
end K85

set_option Elab.async false
set_option linter.all false
set_option maxRecDepth 100000
set_option maxHeartbeats 4000000
namespace K85
open PySem PySem.Spec PyProof.Rows L2 Ev
set_option maxHeartbeats 0 in
open PySem PySem.W PySem.Calls PyProof.Rows HandSHeadRun in
theorem run_l (w : World) (os : OsState) : (HandSHeadRun.endF (HandSHeadRun.stepQ (HandSHeadRun.denQ HandSHeadRun.tabQ) R.prog w) 12000 R.prog w os).map (fun s => HandSHeadRun.looksF R.prog (boot_heap w.params) s.abs) = some (true) := by
  kernel_rfl
set_option maxHeartbeats 0 in
open PySem PySem.W PySem.Calls PyProof.Rows HandSHeadRun in
theorem run_s (w : World) (os : OsState) : (HandSHeadRun.endF (HandSHeadRun.stepQ (HandSHeadRun.denQ HandSHeadRun.tabQ) R.prog w) 12000 R.prog w os).map (fun s => HandSHeadRun.seenQ (PySem.W.view R.prog [85]) names (importedModules R.prog.main.body) (fun s => xlAt (PySem.W.view R.prog [85]) [] s && recOk R.toRowW.records s) s.abs) = some (openGood (PySem.W.view R.prog [85]) names) := by
  kernel_rfl
set_option maxHeartbeats 0 in
open PySem PySem.W PySem.Calls PyProof.Rows HandSHeadRun in
theorem run_e (w : World) (os : OsState) : (HandSHeadRun.endF (HandSHeadRun.stepQ (HandSHeadRun.denQ HandSHeadRun.tabQ) R.prog w) 12000 R.prog w os).map (fun s => obsR 1000 cl fxs [] (HandSHeadRun.getT s) s.n) = some (valE []) := by
  kernel_rfl
set_option maxHeartbeats 0 in
open PySem PySem.W PySem.Calls PyProof.Rows HandSHeadRun in
theorem run_0 (w : World) (os : OsState) : (HandSHeadRun.endF (HandSHeadRun.stepQ (HandSHeadRun.denQ HandSHeadRun.tabQ) R.prog w) 12000 R.prog w os).map (fun s => obsR 1000 [] [] fns0 (HandSHeadRun.getT s) s.n) = some (valE fns0) := by
  kernel_rfl
set_option maxHeartbeats 0 in
open PySem PySem.W PySem.Calls PyProof.Rows HandSHeadRun in
theorem run_1 (w : World) (os : OsState) : (HandSHeadRun.endF (HandSHeadRun.stepQ (HandSHeadRun.denQ HandSHeadRun.tabQ) R.prog w) 12000 R.prog w os).map (fun s => obsR 1000 [] [] fns1 (HandSHeadRun.getT s) s.n) = some (valE fns1) := by
  kernel_rfl
set_option maxHeartbeats 0 in
open PySem PySem.W PySem.Calls PyProof.Rows HandSHeadRun in
theorem run_2 (w : World) (os : OsState) : (HandSHeadRun.endF (HandSHeadRun.stepQ (HandSHeadRun.denQ HandSHeadRun.tabQ) R.prog w) 12000 R.prog w os).map (fun s => obsR 1000 [] [] fns2 (HandSHeadRun.getT s) s.n) = some (valE fns2) := by
  kernel_rfl
theorem fns_eq : fns = fns0 ++ (fns1 ++ (fns2)) := rfl
theorem ob_val (w : World) (os : OsState) (s : PySem.W.SharedT) (e : HandSHeadRun.endF (HandSHeadRun.stepQ (HandSHeadRun.denQ HandSHeadRun.tabQ) R.prog w) 12000 R.prog w os = some s) : ob s = hk.val w := by
  show obsR 1000 cl fxs fns (HandSHeadRun.getT s) s.n = valE fns
  have he := map_at (run_e w os) e
  have h0 := map_at (run_0 w os) e
  have h1 := map_at (run_1 w os) e
  have h2 := map_at (run_2 w os) e

  rw [fns_eq]
  exact obsR_nil he (obsR_join h0 (obsR_join h1 h2))
theorem run (w : World) : HandSHeadRun.RunEq R (PySem.W.view R.prog [85]) hk ob 12000 names w := fun os =>
  run_join (run_l w os) (run_s w os) (ob_val w os)
open PySem PySem.W PySem.Calls PyProof.Rows in
theorem holds_of (hlaw : ∀ ns : List Int, ns.length ≤ 63 → ∃ m', f_law [.scr (ns.map D.int)] [] = .ok (.bl true) m') : PySem.Challenge.rw_sparebridges_k85_whole_texts_in_claims.Holds := by
  w_on; o_law
  refine HandSHeadRun.head_any (r := OpenLaw.row PySem.Challenge.rw_sparebridges_k85_whole_texts_in_claims) (q := view (OpenLaw.row PySem.Challenge.rw_sparebridges_k85_whole_texts_in_claims).prog [85]) (H := hk) (ob := ob) (M := 12000) (loose := names) (d := HandSHeadRun.topDef (OpenLaw.row PySem.Challenge.rw_sparebridges_k85_whole_texts_in_claims).prog 85) (kwd := []) ob_eq
    (by kernel_rfl) (fun s => by kernel_rfl) run (by kernel_rfl) (by kernel_rfl) (by kernel_rfl) (by rfl) (by first | assumption | decide +kernel) (by decide +kernel) ⟨rfl, rfl, rfl, rfl, rfl, by decide +kernel⟩ ?hw ?hc
  case hw => w_witness2
  case hc =>
    refine walk_g (l := PySem.Challenge.rw_sparebridges_k85_whole_texts_in_claims) (n := 63) (k := 8) (x := "script") rfl (by decide) (by kernel_rfl) ⟨rfl, by decide, by decide⟩ ?F
    intro w mg fa h Y G hmg0
    obtain ⟨K, KX, c⟩ := Y
    have hmg : mg ("law" : PySem.Str) = some (.ref fa) := by
      have e : (HandSHeadRun.topDef (OpenLaw.row PySem.Challenge.rw_sparebridges_k85_whole_texts_in_claims).prog 85).name = ("law" : PySem.Str) := by kernel_rfl
      rw [← e]
      exact hmg0
    obtain ⟨fd, h1, h2, h3⟩ := o_law c KX G
    have e := hmg.symm.trans h1
    cases e
    refine ⟨K, fd, spOf (Yof K cl) 1 f_law, KX, h2, fun H a ns hl hS => ?_, fun base _ _ => (h3 base _ w).g⟩
    obtain ⟨m', e⟩ := hlaw ns hl
    exact law_sp hS e
end K85

theorem PySem.Challenge.cw_sparebridges_k85_whole_texts_in_claims_holds : PySem.Challenge.rw_sparebridges_k85_whole_texts_in_claims.Holds :=
  K85.holds_of K85.hlaw
