import PyProof.Rows.All
import Wide.All
import OpenK.AllK
import Wide.FinOn
import HandS.ForMost
import HandS.ForExc
import HandS.Wide
import HandS.Deep
import HandS.Flow
import HandS.Style
import HandS.Conv
import HandS.Zip
import HandS.TupAny
import HandS.TupMul
import HandS.SortRule
import HandS.CallSlots
import HandS.IsInst
import KE.SortData
import KE.GoesNew
import HandS.Words
import HandS.TupLen
import HandS.Small
import HandS.SetFor
import HandS.RaiseMore
import PySem.Challenge.RW_wholetokens_k92_whole_beginnings_as_runs
set_option Elab.async false
set_option linter.all false
set_option maxRecDepth 100000
/-! WT0: a small pure Python: values with a store, programs over slots, what they give. -/
namespace WT
open PySem L2

/-- a value: immutable things are themselves; a list that nobody writes any more is itself; a list or dict that is written is a place of the store; scr: a list that is read alone (the script) -/
inductive D where
  | non | bl (b : Bool) | int (i : Int) | str (x : Str)
  | tup (xs : List D) | lst (xs : List D) | scr (xs : List D) | loc (n : Nat)
instance : Inhabited D := ⟨.non⟩
mutual
def D.same : D → D → Bool
  | .non, .non => true | .bl a, .bl b => a == b | .int i, .int j => i == j | .str x, .str y => decide (x = y)
  | .tup xs, .tup ys => D.sameL xs ys | .lst xs, .lst ys => D.sameL xs ys | .scr xs, .scr ys => D.sameL xs ys
  | .loc a, .loc b => a == b
  | _, _ => false
def D.sameL : List D → List D → Bool
  | [], [] => true | x :: xs, y :: ys => D.same x y && D.sameL xs ys | _, _ => false
end
mutual
theorem D.same_refl : ∀ a : D, D.same a a = true
  | .non => rfl | .bl b => by simp [D.same] | .int i => by simp [D.same] | .str x => by simp [D.same]
  | .tup xs => by simp only [D.same]; exact D.sameL_refl xs
  | .lst xs => by simp only [D.same]; exact D.sameL_refl xs
  | .scr xs => by simp only [D.same]; exact D.sameL_refl xs
  | .loc n => by simp [D.same]
theorem D.sameL_refl : ∀ a : List D, D.sameL a a = true
  | [] => rfl
  | x :: xs => by simp only [D.sameL, D.same_refl x, D.sameL_refl xs, Bool.and_self]
end
mutual
theorem D.same_eq : ∀ a b : D, D.same a b = true → a = b
  | .non, b, h => by cases b <;> first | rfl | (simp [D.same] at h)
  | .bl x, b, h => by cases b <;> simp [D.same] at h; rw [h]
  | .int x, b, h => by cases b <;> simp [D.same] at h; rw [h]
  | .str x, b, h => by cases b <;> simp [D.same] at h; rw [h]
  | .loc x, b, h => by cases b <;> simp [D.same] at h; rw [h]
  | .tup xs, b, h => by cases b <;> simp [D.same] at h; rw [D.sameL_eq xs _ h]
  | .lst xs, b, h => by cases b <;> simp [D.same] at h; rw [D.sameL_eq xs _ h]
  | .scr xs, b, h => by cases b <;> simp [D.same] at h; rw [D.sameL_eq xs _ h]
theorem D.sameL_eq : ∀ a b : List D, D.sameL a b = true → a = b
  | [], b, h => by cases b <;> first | rfl | (simp [D.sameL] at h)
  | x :: xs, b, h => by
    cases b with
    | nil => simp [D.sameL] at h
    | cons y ys =>
      simp only [D.sameL, Bool.and_eq_true] at h
      rw [D.same_eq x y h.1, D.sameL_eq xs ys h.2]
end
instance : DecidableEq D := fun a b => decidable_of_iff (D.same a b = true) ⟨D.same_eq a b, fun h => by rw [h]; exact D.same_refl b⟩
/-- what stands at a place of the store -/
inductive Ob where
  | lst (xs : List D)
  | dK (kvs : List (Key × D))
  | dT (kvs : List (List Key × D))
  deriving DecidableEq
abbrev Store := List Ob
/-- an exception: its class by name, its fields -/
structure Ex where
  cls : Str
  fs : List (Str × D)
inductive Res (α : Type) where
  | stuck
  | ok (a : α) (st : Store)
  | err (e : Ex) (st : Store)
namespace Res
def bind {α β : Type} (r : Res α) (f : α → Store → Res β) : Res β := match r with
  | .stuck => .stuck
  | .ok a st => f a st
  | .err e st => .err e st
def Post {α : Type} (r : Res α) (Q : α → Store → Prop) (E : Ex → Store → Prop) : Prop := match r with
  | .stuck => False
  | .ok a st => Q a st
  | .err e st => E e st
@[simp] theorem bind_ok {α β : Type} (a : α) (st : Store) (f : α → Store → Res β) : (Res.ok a st).bind f = f a st := by unfold bind; exact Eq.refl _
@[simp] theorem bind_stuck {α β : Type} (f : α → Store → Res β) : (Res.stuck : Res α).bind f = .stuck := by unfold bind; exact Eq.refl _
@[simp] theorem bind_err {α β : Type} (e : Ex) (st : Store) (f : α → Store → Res β) : (Res.err e st : Res α).bind f = .err e st := by unfold bind; exact Eq.refl _
theorem Post.unbind {α β : Type} {r : Res α} {f : α → Store → Res β} {Q : β → Store → Prop} {E : Ex → Store → Prop} (h : (r.bind f).Post Q E) : r.Post (fun a st => (f a st).Post Q E) E := by
  cases r with
  | stuck => exact h
  | ok a st => exact h
  | err e st => exact h
theorem Post.mono {α : Type} {r : Res α} {Q Q' : α → Store → Prop} {E E' : Ex → Store → Prop} (h : r.Post Q E) (hq : ∀ a st, Q a st → Q' a st) (he : ∀ e st, E e st → E' e st) : r.Post Q' E' := by
  cases r with
  | stuck => exact h
  | ok a st => exact hq _ _ h
  | err e st => exact he _ _ h
/-- an error is not let through -/
def safe {α : Type} (r : Res α) : Res α := match r with
  | .err _ _ => .stuck
  | r => r
theorem Post.safe {α : Type} {r : Res α} {Q : α → Store → Prop} {E E' : Ex → Store → Prop} (h : r.safe.Post Q E) : r.Post Q E' := by
  cases r with
  | stuck => exact h
  | ok a st => exact h
  | err e st => exact False.elim h
theorem bind_assoc {α β γ : Type} (r : Res α) (f : α → Store → Res β) (g : β → Store → Res γ) : (r.bind f).bind g = r.bind fun a st => (f a st).bind g := by cases r <;> rfl
end Res

/-! ### data -/
mutual
def D.py : D → PyData
  | .non => .none | .bl b => .bool b | .int i => .int i | .str x => .str x
  | .tup xs => .tuple (D.pyL xs) | .lst xs => .list (D.pyL xs) | .scr xs => .list (D.pyL xs) | .loc _ => .none
def D.pyL : List D → List PyData
  | [] => [] | x :: xs => D.py x :: D.pyL xs
end
mutual
/-- no place within, not deeper than n, its texts plain -/
def D.data : D → Nat → Bool
  | .tup xs, n => match n with | 0 => false | n + 1 => D.dataL xs n
  | .lst xs, n => match n with | 0 => false | n + 1 => D.dataL xs n
  | .scr _, _ => false
  | .loc _, _ => false
  | .str x, _ => PyData.canLay0 (.str x)
  | .non, _ => true | .bl _, _ => true | .int _, _ => true
def D.dataL : List D → Nat → Bool
  | [], _ => true
  | x :: xs, n => D.data x n && D.dataL xs n
end
/-- == -/
def D.eqv (a b : D) : Bool := PyData.eqv a.py b.py
/-- a list at a place is looked at by its items -/
def view (st : Store) : D → D
  | .loc n => match st[n]? with
    | some (.lst ds) => .lst ds
    | _ => .loc n
  | d => d
def truth (st : Store) (d : D) : Option Bool := match d with
  | .non => some false | .bl b => some b | .int i => some (i != 0)
  | .str x => if x.length ≤ sizeLine then some (x.length != 0) else none
  | .tup xs => some (!xs.isEmpty) | .lst xs => some (!xs.isEmpty) | .scr xs => some (!xs.isEmpty)
  | .loc n => match st[n]? with
    | some (.lst xs) => some (!xs.isEmpty)
    | some (.dK kvs) => some (!kvs.isEmpty)
    | _ => none
/-- a new list: a place, or a list that nobody writes -/
def newL (al : Bool) (ds : List D) (st : Store) : Res D :=
  if ds.length ≤ sizeLine then (if al then .ok (.loc st.length) (st ++ [.lst ds]) else .ok (.lst ds) st) else .stuck
/-! order -/
def alikeD (a b : D) : Bool := PySem.W.alike a.py b.py
def D.le (a b : D) : Bool := PySem.W.dataLe false D.py a b
def sortD (ds : List D) : List D := ds.mergeSort (PySem.W.dataLe false D.py)
def D.ntup : D → Bool
  | .tup (_ :: _) => true | _ => false
def D.oth : D → Bool
  | .tup _ => false | .non => false | _ => true
/-- what sorted may be asked of -/
def sortable (ds : List D) : Bool :=
  D.dataL ds 60 && (ds.all fun d => ds.all fun e => alikeD d e) && (ds.all D.ntup || ds.all D.oth)

/-! ### operators -/
def PowOk (i j : Int) : Prop := 0 ≤ j ∧ j ≤ 1000000 ∧ i.natAbs < 2 ^ 64
instance (i j : Int) : Decidable (PowOk i j) := by unfold PowOk; infer_instance
instance (i j : Int) : Decidable (PySem.IntMulOk i j) := by unfold PySem.IntMulOk; infer_instance
def In63 (k : Int) : Prop := -(2 ^ 63) ≤ k ∧ k < 2 ^ 63
instance (k : Int) : Decidable (In63 k) := by unfold In63; infer_instance
def In62 (k : Int) : Prop := -(2 ^ 62) ≤ k ∧ k < 2 ^ 62
instance (k : Int) : Decidable (In62 k) := by unfold In62; infer_instance
def binD (al : Bool) (op : Operator) (a b : D) (st : Store) : Res D :=
  match op, view st a, view st b with
  | .Add, .int i, .int j => .ok (.int (i + j)) st
  | .Add, .str x, .str y => if x.length + y.length ≤ sizeLine then .ok (.str (x ++ y)) st else .stuck
  | .Add, .tup xs, .tup ys => if xs.length + ys.length ≤ sizeLine then .ok (.tup (xs ++ ys)) st else .stuck
  | .Add, .lst xs, .lst ys => newL al (xs ++ ys) st
  | .Sub, .int i, .int j => .ok (.int (i - j)) st
  | .Mult, .int i, .int j => if IntMulOk i j then .ok (.int (i * j)) st else .stuck
  | .Mult, .lst xs, .int k => if In63 k then newL al (List.replicate k.toNat xs).flatten st else .stuck
  | .Mult, .tup xs, .int k => if -1000 ≤ k ∧ k ≤ 1000 ∧ xs.length ≤ 1000 then .ok (.tup (List.replicate k.toNat xs).flatten) st else .stuck
  | .FloorDiv, .int i, .int j => if j ≠ 0 ∧ j.natAbs < 1073741824 then .ok (.int (i.fdiv j)) st else .stuck
  | .Mod, .int i, .int j => if j ≠ 0 then .ok (.int (i.fmod j)) st else .stuck
  | .Pow, .int i, .int j => if PowOk i j then .ok (.int (i ^ j.toNat)) st else .stuck
  | .LShift, .int i, .int j => if PowOk i j then .ok (.int (i * 2 ^ j.toNat)) st else .stuck
  | _, _, _ => .stuck
/-- a key of a dict -/
def D.key : D → Option Key
  | .int i => some (.inl i) | .str x => some (.inr x) | _ => none
def D.keyL : List D → Option (List Key)
  | [] => some []
  | x :: xs => match x.key, D.keyL xs with
    | some k, some ks => some (k :: ks)
    | _, _ => none
def D.keyT : D → Option (List Key)
  | .tup xs => D.keyL xs | _ => none
def Key.d : Key → D
  | .inl i => .int i | .inr x => .str x
def keyTd (ks : List Key) : D := .tup (ks.map Key.d)
def assoc {κ : Type} [DecidableEq κ] (kvs : List (κ × D)) (k : κ) : Option D := (kvs.find? fun p => decide (p.1 = k)).map (·.2)
def putA {κ : Type} [DecidableEq κ] (kvs : List (κ × D)) (k : κ) (v : D) : List (κ × D) :=
  if (kvs.any fun p => decide (p.1 = k)) = true then kvs.map fun p => if p.1 = k then (p.1, v) else p else kvs ++ [(k, v)]
/-- d[k], if there -/
def getD (o k : D) (st : Store) : Option (Option D) := match o with
  | .loc n => match st[n]? with
    | some (.dK kvs) => k.key.map fun k => assoc kvs k
    | some (.dT kvs) => k.keyT.map fun k => assoc kvs k
    | _ => none
  | _ => none
def inD (a b : D) (st : Store) : Option Bool := match view st b with
  | .tup xs => if a.data 62 && D.dataL xs 62 then some (xs.any fun z => D.eqv z a) else none
  | .lst xs => if a.data 62 && D.dataL xs 62 then some (xs.any fun z => D.eqv z a) else none
  | .str y => match a with
    | .str x => some (!(Builtin.Str.occurrences y x 0 y.length 1).isEmpty)
    | _ => none
  | d => (getD d a st).map (·.isSome)
def D.isNon : D → Bool
  | .non => true | _ => false
/-- < of data that are alike -/
def ltD (a b : D) : Option Bool :=
  if a.data 60 && b.data 60 && alikeD a b && !a.isNon then some (PySem.W.dataLt a.py b.py) else none
def isD (a b : D) : Option Bool := match a, b with
  | a, .non => some a.isNon
  | .bl x, .bl y => some (x == y)
  | _, _ => none
/-- == : texts; data -/
def eqD (a b : D) (st : Store) : Option Bool := match a, b with
  | .str x, .str y => some (decide (x = y))
  | a, b => if (view st a).data 64 && (view st b).data 64 then some (D.eqv (view st a) (view st b)) else none
def cmpD (op : CmpOp) (a b : D) (st : Store) : Option Bool := match op with
  | .Eq => eqD a b st
  | .NotEq => (eqD a b st).map (!·)
  | .Lt => ltD a b
  | .LtE => match a, b with | .int i, .int j => some (decide (i ≤ j)) | _, _ => none
  | .Gt => match a, b with | .int i, .int j => some (decide (j < i)) | _, _ => none
  | .GtE => match a, b with | .int i, .int j => some (decide (j ≤ i)) | _, _ => none
  | .In => inD a b st
  | .NotIn => (inD a b st).map (!·)
  | .Is => isD a b
  | .IsNot => (isD a b).map (!·)
def optR {α : Type} (o : Option α) (st : Store) : Res α := match o with | some a => .ok a st | none => .stuck
def at? {α : Type} (xs : List α) (i : Int) : Option α := if 0 ≤ i then xs[i.toNat]? else if -(xs.length : Int) ≤ i then xs[(i + xs.length).toNat]? else none
def ixD (a b : D) (st : Store) : Res D := match view st a, b with
  | .tup xs, .int i => optR (at? xs i) st
  | .lst xs, .int i => optR (at? xs i) st
  | .str x, .int i => if x.length ≤ sizeLine then optR ((at? x.cps.toList i).map fun c => D.str ⟨#[c]⟩) st else .stuck
  | d, k => match getD d k st with
    | some (some v) => .ok v st
    | _ => .stuck
def partD : D → Option (Option Int)
  | .non => some none | .int i => some (some i) | _ => none
/-- where a slice begins or ends -/
def cutI (n d : Nat) : Option Int → Nat
  | none => d
  | some i => if 0 ≤ i then min i.toNat n else (i + n).toNat
def cutL {α : Type} (xs : List α) (lo hi : Option Int) : List α := (xs.drop (cutI xs.length 0 lo)).take (cutI xs.length xs.length hi - cutI xs.length 0 lo)
def slD (al : Bool) (a lo hi : D) (st : Store) : Res D := match view st a, partD lo, partD hi with
  | .tup xs, some l, some h => .ok (.tup (cutL xs l h)) st
  | .lst xs, some l, some h => newL al (cutL xs l h) st
  | _, _, _ => .stuck
def revD (al : Bool) (a : D) (st : Store) : Res D := match view st a with
  | .lst xs => newL al xs.reverse st
  | _ => .stuck

/-! ### built-ins -/
inductive Bi where
  | len | abs | int | str | repr | tuple | list | sorted | sum | max | min | all | any | dict | listR | tupleR
  deriving DecidableEq
def intsD : List D → Option (List Int)
  | [] => some []
  | .int i :: r => (intsD r).map (i :: ·)
  | _ :: _ => none
/-- truth without a look at the store -/
def flagD : D → Option Bool
  | .non => some false | .bl b => some b | .int i => some (i != 0) | _ => none
def flagsD : List D → Option (List Bool)
  | [] => some []
  | x :: r => match flagD x, flagsD r with
    | some b, some bs => some (b :: bs)
    | _, _ => none
def pairsK : List D → Option (List (Key × D))
  | [] => some []
  | .tup [k, v] :: r => match k.key, pairsK r with
    | some k, some r => some ((k, v) :: r)
    | _, _ => none
  | _ :: _ => none
def pairsT : List D → Option (List (List Key × D))
  | [] => some []
  | .tup [k, v] :: r => match k.keyT, pairsT r with
    | some k, some r => some ((k, v) :: r)
    | _, _ => none
  | _ :: _ => none
def putAll {κ : Type} [DecidableEq κ] (a : List (κ × D)) (r : List (κ × D)) : List (κ × D) := r.foldl (fun acc p => putA acc p.1 p.2) a
def items (st : Store) (d : D) : Option (List D) := match view st d with
  | .tup xs => some xs | .lst xs => some xs
  | .loc n => match st[n]? with
    | some (.dK kvs) => some (kvs.map fun p => Key.d p.1)
    | some (.dT kvs) => some (kvs.map fun p => keyTd p.1)
    | _ => none
  | _ => none
def lenD (st : Store) (d : D) : Option Nat := match view st d with
  | .tup xs => some xs.length | .lst xs => some xs.length | .scr xs => some xs.length
  | .str x => if x.length ≤ sizeLine then some x.length else none
  | .loc n => match st[n]? with
    | some (.dK kvs) => some kvs.length
    | some (.dT kvs) => some kvs.length
    | _ => none
  | _ => none
/-- what repr may be asked of -/
def D.shows (d : D) : Bool := d.data 60 && d.py.showable && decide (d.py.shown.length ≤ sizeLine)
def rangeL (a b : Int) : List D := (List.range (b - a).toNat).map fun i => .int (a + (i : Nat))
def RgeOk (a b : Int) : Prop := -(2 ^ 62) ≤ a ∧ a < 2 ^ 62 ∧ -(2 ^ 62) ≤ b ∧ b < 2 ^ 62 ∧ (b - a).toNat ≤ 2 ^ 24
instance (a b : Int) : Decidable (RgeOk a b) := by unfold RgeOk; infer_instance
def rangeA : List D → Option (List D)
  | [.int b] => if RgeOk 0 b then some (rangeL 0 b) else none
  | [.int a, .int b] => if RgeOk a b then some (rangeL a b) else none
  | _ => none
def biD (al : Bool) (b : Bi) (args : List D) (st : Store) : Res D := match b, args with
  | .len, [d] => optR ((lenD st d).map fun n => D.int (n : Nat)) st
  | .abs, [.int i] => .ok (.int (if i < 0 then -i else i)) st
  | .int, [.int i] => .ok (.int i) st
  | .int, [.bl b] => .ok (.int (if b then 1 else 0)) st
  | .str, [.int i] => if i.natAbs.log2 < 1920 then .ok (.str (toString i)) st else .stuck
  | .repr, [d] => if (view st d).shows then .ok (.str (view st d).py.shown) st else .stuck
  | .tuple, [d] => (match view st d with
    | .tup xs => .ok (.tup xs) st
    | .lst xs => .ok (.tup xs) st
    | _ => .stuck)
  | .list, [d] => (match items st d with
    | some xs => newL al xs st
    | none => .stuck)
  | .sorted, [d] => (match view st d with
    | .lst xs => if sortable xs then newL al (sortD xs) st else .stuck
    | _ => .stuck)
  | .sum, [d] => (match view st d with
    | .tup xs => optR ((intsD xs).map fun ns => D.int ns.sum) st
    | .lst xs => optR ((intsD xs).map fun ns => D.int ns.sum) st
    | _ => .stuck)
  | .max, [.int i, .int j] => .ok (.int (if j > i then j else i)) st
  | .min, [.int i, .int j] => .ok (.int (if j < i then j else i)) st
  | .max, [d] => (match view st d with
    | .lst xs => optR (((intsD xs).bind List.max?).map D.int) st
    | _ => .stuck)
  | .min, [d] => (match view st d with
    | .lst xs => optR (((intsD xs).bind List.min?).map D.int) st
    | _ => .stuck)
  | .all, [d] => (match view st d with
    | .lst xs => optR ((flagsD xs).map fun bs => D.bl (bs.all id)) st
    | .tup xs => optR ((flagsD xs).map fun bs => D.bl (bs.all id)) st
    | _ => .stuck)
  | .any, [d] => (match view st d with
    | .lst xs => optR ((flagsD xs).map fun bs => D.bl (bs.any id)) st
    | .tup xs => optR ((flagsD xs).map fun bs => D.bl (bs.any id)) st
    | _ => .stuck)
  | .listR, args => (match rangeA args with
    | some xs => newL al xs st
    | none => .stuck)
  | .tupleR, args => (match rangeA args with
    | some xs => .ok (.tup xs) st
    | none => .stuck)
  | _, _ => .stuck
inductive Mt where
  | append | pop | index | get | extend | update | count | remove
  deriving DecidableEq
def setS (st : Store) (n : Nat) (o : Ob) : Store := st.set n o
def ixN' (n : Nat) (i : Int) : Option Nat := if 0 ≤ i then (if i < n then some i.toNat else none) else if -(n : Int) ≤ i then some (i + n).toNat else none
def mtD (m : Mt) (o : D) (args : List D) (st : Store) : Res D := match m, o, args with
  | .append, .loc n, [d] => (match st[n]? with
    | some (.lst xs) => if xs.length < sizeLine then .ok .non (st.set n (.lst (xs ++ [d]))) else .stuck
    | _ => .stuck)
  | .pop, .loc n, [] => (match st[n]? with
    | some (.lst xs) => (match xs[xs.length - 1]? with
      | some d => .ok d (st.set n (.lst xs.dropLast))
      | none => .stuck)
    | _ => .stuck)
  | .pop, .loc n, [.int i] => (match st[n]? with
    | some (.lst xs) => (match ixN' xs.length i with
      | some k => (match xs[k]? with
        | some d => if -(2 ^ 63) ≤ i ∧ i < 2 ^ 63 then .ok d (st.set n (.lst (xs.eraseIdx k))) else .stuck
        | none => .stuck)
      | none => .stuck)
    | _ => .stuck)
  | .get, o, [k] => (match getD o k st with
    | some r => .ok (r.getD .non) st
    | none => .stuck)
  | .get, o, [k, d] => (match getD o k st with
    | some r => .ok (r.getD d) st
    | none => .stuck)
  | .index, o, [d] => (match view st o with
    | .lst xs => if d.data 62 && D.dataL xs 62 then optR ((xs.findIdx? fun z => D.eqv z d).map fun j => D.int (j : Nat)) st else .stuck
    | _ => .stuck)
  | .count, o, [.int k] => (match view st o with
    | .lst xs => optR ((intsD xs).map fun ns => D.int (ns.count k : Nat)) st
    | _ => .stuck)
  | .extend, .loc n, [d] => (match st[n]?, view st d with
    | some (.lst xs), .lst ys => if xs.length + ys.length ≤ sizeLine then .ok .non (st.set n (.lst (xs ++ ys))) else .stuck
    | _, _ => .stuck)
  | _, _, _ => .stuck
/-- what has such a method -/
def mtOk (m : Mt) (o : D) (st : Store) : Bool := match m with
  | .get => (match o with
    | .loc n => (match st[n]? with
      | some (.dK _) => true
      | some (.dT _) => true
      | _ => false)
    | _ => false)
  | _ => (match view st o with
    | .lst _ => true
    | _ => false)
/-- o[i] = v -/
def setD (o i v : D) (st : Store) : Option Store := match o with
  | .loc n => match st[n]? with
    | some (.lst xs) => (match i with
      | .int k => (ixN' xs.length k).map fun j => st.set n (.lst (xs.set j v))
      | _ => none)
    | some (.dK kvs) => (match i.key with
      | some k => if kvs.length < sizeLine then some (st.set n (.dK (putA kvs k v))) else none
      | none => none)
    | some (.dT kvs) => (match i.keyT with
      | some k => if kvs.length < sizeLine then some (st.set n (.dT (putA kvs k v))) else none
      | none => none)
    | none => none
  | _ => none
inductive Ty where | int | bool | str | tuple | list | dict
  deriving DecidableEq
/-- isinstance -/
def isTy (st : Store) (d : D) (t : Ty) : Option Bool := match d with
  | .non => some false
  | .bl _ => some (match t with | .int => true | .bool => true | _ => false)
  | .int _ => some (match t with | .int => true | _ => false)
  | .str _ => some (match t with | .str => true | _ => false)
  | .tup _ => some (match t with | .tuple => true | _ => false)
  | .lst _ => some (match t with | .list => true | _ => false)
  | .scr _ => none
  | .loc n => match st[n]? with
    | some (.lst _) => some (match t with | .list => true | _ => false)
    | some _ => some (match t with | .dict => true | _ => false)
    | none => none

/-! ### programs -/
/-- a target: a slot, or several -/
inductive Tg where
  | nm (i : Nat)
  | tp (ts : List Tg)
/-- what a loop goes over, by its arguments: the items of a value; a range; enumerate; zip; the items of a dict -/
inductive ItK where
  | val | rng | enum | zip (strict : Bool) | its
  deriving DecidableEq
inductive E where
  | var (i : Nat) | int (i : Int) | bl (b : Bool) | non | str (x : Str)
  | tup (es : List E) | lst (al : Bool) (es : List E) | dnew (tk : Bool) | disp (kvs : List E)
  | bin (al : Bool) (op : Operator) (a b : E) | neg (a : E)
  | cmp (op : CmpOp) (a b : E) | chain (op op' : CmpOp) (a b c : E)
  | and (a b : E) | or (a b : E) | not (a : E) | ite (c a b : E)
  | ix (a b : E) | sl (al : Bool) (a lo hi : E) | rev (al : Bool) (a : E)
  | call (f : Str) (es : List E)
  | bi (al : Bool) (b : Bi) (es : List E)
  | mt (m : Mt) (o : E) (es : List E)
  | comp (al : Bool) (elt : E) (tg : Tg) (k : ItK) (es ifs : List E) (own : List Nat)
  | isi (e : E) (t : Ty)
  | bad
abbrev Env := List (Option D)
mutual
def asgT : Tg → D → Env → Option Env
  | .nm i, d, r => some (r.set i (some d))
  | .tp ts, d, r => match d with
    | .tup ds => asgTs ts ds r
    | _ => none
def asgTs : List Tg → List D → Env → Option Env
  | [], [], r => some r
  | t :: ts, d :: ds, r => match asgT t d r with
    | some r' => asgTs ts ds r'
    | none => none
  | _, _, _ => none
end
def wipeE (r : Env) : List Nat → Env
  | [] => r
  | v :: vs => (wipeE r vs).set v none
/-- what is gone over: it is looked at turn by turn -/
inductive Src where
  | val (d : D)
  | rng (a b : Int)
  | enum (d : D)
  | zip (a b : D)
  deriving DecidableEq
def enumL (ds : List D) : Nat → List D
  | i => match ds with
    | [] => []
    | d :: r => .tup [.int (i : Nat), d] :: enumL r (i + 1)
def zip2 : List D → List D → List D
  | a :: r, b :: s => .tup [a, b] :: zip2 r s
  | _, _ => []
def seqOf (st : Store) (d : D) : Option (List D) := match view st d with
  | .tup xs => some xs | .lst xs => some xs | _ => none
def seqS (st : Store) (d : D) : Option (List D) := match view st d with
  | .tup xs => some xs | .lst xs => some xs | .scr xs => some xs | _ => none
/-- the items as they stand -/
def srcItems (st : Store) : Src → Option (List D)
  | .val d => seqS st d
  | .rng a b => some (rangeL a b)
  | .enum d => (seqOf st d).map fun xs => enumL xs 0
  | .zip a b => match seqOf st a, seqOf st b with
    | some xs, some ys => some (zip2 xs ys)
    | _, _ => none
def D.isLoc : D → Bool
  | .loc _ => true | _ => false
/-- no place is looked at -/
def fixedS : Src → Bool
  | .val d => !d.isLoc | .rng _ _ => true | .enum d => !d.isLoc | .zip a b => !a.isLoc && !b.isLoc
def srcOf (k : ItK) (ds : List D) (st : Store) : Option Src := match k, ds with
  | .val, [d] => (seqS st d).map fun _ => .val d
  | .rng, [.int b] => if In62 b then some (.rng 0 b) else none
  | .rng, [.int a, .int b] => if In62 a ∧ In62 b then some (.rng a b) else none
  | .enum, [d] => (seqOf st d).map fun _ => .enum d
  | .zip false, [a, b] => (match seqOf st a, seqOf st b with
    | some _, some _ => some (.zip a b)
    | _, _ => none)
  | _, _ => none
/-- the source still stands so -/
def srcOk (st : Store) (ds : List D) (src : Src) : Bool := fixedS src || decide (srcItems st src = some ds)
/-- a display's entries: key, value, key, value .. -/
def dispOf : List D → Option (List (Key × D))
  | [] => some []
  | k :: v :: r => match k.key, dispOf r with
    | some k, some r => some ((k, v) :: r)
    | _, _ => none
  | _ => none
/-- the turns of a comprehension -/
def goComp (elt : Env → Store → Res D) (tst : Env → Store → Res Bool) (tg : Tg) (r : Env) (src : Src) (all : List D) : List D → Store → Res (List D)
  | [], st => if srcOk st all src then .ok [] st else .stuck
  | d :: ds, st => if srcOk st all src then (match asgT tg d r with
      | none => .stuck
      | some r' => (tst r' st).bind fun b st => if b then (elt r' st).bind fun x st => (goComp elt tst tg r src all ds st).bind fun xs st => .ok (x :: xs) st else goComp elt tst tg r src all ds st)
    else .stuck
/-- a bound of a slice: left out, or an int -/
def partOk (e : E) (d : D) : Bool := match e, d with
  | .non, .non => true | .non, _ => false | _, .int _ => true | _, _ => false
mutual
def den (F : Str → List D → Store → Res D) : E → Env → Store → Res D
  | .var i, r, st => match r[i]? with
    | some (some d) => .ok d st
    | _ => .stuck
  | .int i, _, st => .ok (.int i) st
  | .bl b, _, st => .ok (.bl b) st
  | .non, _, st => .ok .non st
  | .str x, _, st => .ok (.str x) st
  | .tup es, r, st => (denL F es r st).bind fun ds st => if ds.length ≤ sizeLine then .ok (.tup ds) st else .stuck
  | .lst al es, r, st => (denL F es r st).bind fun ds st => newL al ds st
  | .dnew tk, _, st => .ok (.loc st.length) (st ++ [if tk then .dT [] else .dK []])
  | .disp kvs, r, st => (denL F kvs r st).bind fun ds st => match dispOf ds with
    | some kvs => if kvs.length ≤ 15 then .ok (.loc st.length) (st ++ [.dK (putAll [] kvs)]) else .stuck
    | none => .stuck
  | .bin al op a b, r, st => (den F a r st).bind fun x st => (den F b r st).bind fun y st => binD al op x y st
  | .neg a, r, st => (den F a r st).bind fun x st => match x with
    | .int i => .ok (.int (-i)) st
    | _ => .stuck
  | .cmp op a b, r, st => (den F a r st).bind fun x st => (den F b r st).bind fun y st => optR ((cmpD op x y st).map D.bl) st
  | .chain op op' a b c, r, st => (den F a r st).bind fun x st => (den F b r st).bind fun y st => (optR (cmpD op x y st) st).bind fun k st =>
      if k then (den F c r st).bind fun z st => optR ((cmpD op' y z st).map D.bl) st else .ok (.bl false) st
  | .and a b, r, st => (den F a r st).bind fun x st => (optR (truth st x) st).bind fun k st => if k then den F b r st else .ok x st
  | .or a b, r, st => (den F a r st).bind fun x st => (optR (truth st x) st).bind fun k st => if k then .ok x st else den F b r st
  | .not a, r, st => (den F a r st).bind fun x st => optR ((truth st x).map fun k => D.bl (!k)) st
  | .ite c a b, r, st => (den F c r st).bind fun x st => (optR (truth st x) st).bind fun k st => if k then den F a r st else den F b r st
  | .ix a b, r, st => (den F a r st).bind fun x st => (den F b r st).bind fun y st => ixD x y st
  | .sl al a lo hi, r, st => (den F a r st).bind fun x st => (den F lo r st).bind fun l st => if partOk lo l then (den F hi r st).bind fun h st => if partOk hi h then slD al x l h st else .stuck else .stuck
  | .rev al a, r, st => (den F a r st).bind fun x st => revD al x st
  | .call f es, r, st => (denL F es r st).bind fun ds st => F f ds st
  | .bi al b es, r, st => (denL F es r st).bind fun ds st => biD al b ds st
  | .mt m o es, r, st => (den F o r st).bind fun x st => if mtOk m x st then (denL F es r st).bind fun ds st => mtD m x ds st else .stuck
  | .comp al elt tg k es ifs own, r, st => (denL F es r st).bind fun ds st => (optR (srcOf k ds st) st).bind fun src st => (optR (srcItems st src) st).bind fun all st =>
      (goComp (den F elt) (denIf F ifs) tg (wipeE r own) src all all st).safe.bind fun xs st => newL al xs st
  | .isi e t, r, st => (den F e r st).bind fun x st => optR ((isTy st x t).map D.bl) st
  | .bad, _, _ => .stuck
def denL (F : Str → List D → Store → Res D) : List E → Env → Store → Res (List D)
  | [], _, st => .ok [] st
  | e :: es, r, st => (den F e r st).bind fun x st => (denL F es r st).bind fun xs st => .ok (x :: xs) st
/-- the tests of a clause -/
def denIf (F : Str → List D → Store → Res D) : List E → Env → Store → Res Bool
  | [], _, st => .ok true st
  | e :: es, r, st => (den F e r st).bind fun x st => (optR (truth st x) st).bind fun k st => if k then denIf F es r st else .ok false st
end

/-! ### statements -/
inductive Fl where
  | nx | bk | ct | rt (d : D)
inductive S where
  | asg (tg : Tg) (e : E) | aug (i : Nat) (op : Operator) (e : E)
  | setIx (o i v : E) | augIx (o i : E) (op : Operator) (v : E)
  | ex (e : E) | ret (e : E) | retN
  | ite (c : E) (a b : List S) | loop (c : E) (b : List S) | for_ (tg : Tg) (k : ItK) (es : List E) (b : List S)
  | brk | cont | pass | bad
/-- name op= e -/
def augD (op : Operator) (a b : D) (st : Store) : Res D := match op, a, b with
  | .Add, .int i, .int j => .ok (.int (i + j)) st
  | .Sub, .int i, .int j => .ok (.int (i - j)) st
  | _, _, _ => .stuck
def loopW (c : Env → Store → Res Bool) (b : Env → Store → Res (Fl × Env)) : Nat → Env → Store → Res (Fl × Env)
  | 0, _, _ => .stuck
  | n + 1, r, st => (c r st).bind fun k st => if k then (b r st).bind fun fr st => (match fr.1 with
      | .nx => loopW c b n fr.2 st
      | .ct => loopW c b n fr.2 st
      | .bk => .ok (.nx, fr.2) st
      | .rt d => .ok (.rt d, fr.2) st) else .ok (.nx, r) st
def loopF (tg : Tg) (b : Env → Store → Res (Fl × Env)) : List D → Env → Store → Res (Fl × Env)
  | [], r, st => .ok (.nx, r) st
  | d :: ds, r, st => match asgT tg d r with
    | none => .stuck
    | some r' => (b r' st).bind fun fr st => match fr.1 with
      | .nx => loopF tg b ds fr.2 st
      | .ct => loopF tg b ds fr.2 st
      | .bk => .ok (.nx, fr.2) st
      | .rt d => .ok (.rt d, fr.2) st
/-- over what may change meanwhile, by its turn -/
def loopL (tg : Tg) (b : Env → Store → Res (Fl × Env)) (src : Src) : Nat → Nat → Env → Store → Res (Fl × Env)
  | 0, _, _, _ => .stuck
  | n + 1, i, r, st => match srcItems st src with
    | some ds => (match ds[i]? with
      | none => if ds.length = i then .ok (.nx, r) st else .stuck
      | some d => match asgT tg d r with
        | none => .stuck
        | some r' => (b r' st).bind fun fr st => match fr.1 with
          | .nx => loopL tg b src n (i + 1) fr.2 st
          | .ct => loopL tg b src n (i + 1) fr.2 st
          | .bk => .ok (.nx, fr.2) st
          | .rt d => .ok (.rt d, fr.2) st)
    | none => .stuck
open Classical in
/-- what some number of turns gives -/
noncomputable def limR {α : Type} (g : Nat → Res α) : Res α := if h : ∃ n, g n ≠ .stuck then g h.choose else .stuck
mutual
noncomputable def denS (F : Str → List D → Store → Res D) : S → Env → Store → Res (Fl × Env)
  | .asg tg e, r, st => (den F e r st).bind fun d st => (optR (asgT tg d r) st).bind fun r st => .ok (.nx, r) st
  | .aug i op e, r, st => match r[i]? with
    | some (some x) => (den F e r st).bind fun y st => (augD op x y st).bind fun z st => .ok (.nx, r.set i (some z)) st
    | _ => .stuck
  | .setIx o i v, r, st => (den F v r st).bind fun v st => (den F o r st).bind fun o st => (den F i r st).bind fun i st => match setD o i v st with
    | some st => .ok (.nx, r) st
    | none => .stuck
  | .augIx o i op v, r, st => (den F o r st).bind fun o st => (den F i r st).bind fun i st => (ixD o i st).bind fun x st => (den F v r st).bind fun y st => (augD op x y st).bind fun z st => match setD o i z st with
    | some st => .ok (.nx, r) st
    | none => .stuck
  | .ex e, r, st => (den F e r st).bind fun _ st => .ok (.nx, r) st
  | .ret e, r, st => (den F e r st).bind fun d st => .ok (.rt d, r) st
  | .retN, r, st => .ok (.rt .non, r) st
  | .ite c a b, r, st => (den F c r st).bind fun x st => (optR (truth st x) st).bind fun k st => if k then denSs F a r st else denSs F b r st
  | .loop c b, r, st => limR fun n => loopW (fun r st => (den F c r st).bind fun x st => optR (truth st x) st) (denSs F b) n r st
  | .for_ tg k es b, r, st => (denL F es r st).bind fun ds st => (optR (srcOf k ds st) st).bind fun src st => if fixedS src then (optR (srcItems st src) st).bind fun ds st => loopF tg (denSs F b) ds r st
      else limR fun n => loopL tg (denSs F b) src n 0 r st
  | .brk, r, st => .ok (.bk, r) st
  | .cont, r, st => .ok (.ct, r) st
  | .pass, r, st => .ok (.nx, r) st
  | .bad, _, _ => .stuck
noncomputable def denSs (F : Str → List D → Store → Res D) : List S → Env → Store → Res (Fl × Env)
  | [], r, st => .ok (.nx, r) st
  | s :: ss, r, st => (denS F s r st).bind fun fr st => match fr.1 with
    | .nx => denSs F ss fr.2 st
    | .bk => .ok (.bk, fr.2) st
    | .ct => .ok (.ct, fr.2) st
    | .rt d => .ok (.rt d, fr.2) st
end
/-! ### defs -/
mutual
/-- its places lie below n -/
def D.low : D → Nat → Bool
  | .loc a, n => decide (a < n)
  | .tup xs, n => D.lowL xs n | .lst xs, n => D.lowL xs n | .scr xs, n => D.lowL xs n
  | .non, _ => true | .bl _, _ => true | .int _, _ => true | .str _, _ => true
def D.lowL : List D → Nat → Bool
  | [], _ => true
  | x :: xs, n => D.low x n && D.lowL xs n
end
def Ob.low (o : Ob) (n : Nat) : Bool := match o with
  | .lst xs => D.lowL xs n
  | .dK kvs => kvs.all fun p => D.low p.2 n
  | .dT kvs => kvs.all fun p => D.low p.2 n
/-- the elder places are as they were, or name no younger ones -/
def closed (st0 st : Store) : Bool := (List.range st0.length).all fun i => decide (st[i]? = st0[i]?) || (st[i]?).any (Ob.low · st0.length)
/-- behind a call: places that nothing names any more are dropped -/
def finish (st0 : Store) (d : D) (st : Store) : Res D :=
  if D.low d st0.length && closed st0 st then .ok d (st.take st0.length) else .ok d st
/-- a def: its parameters, its slots, its body -/
structure Df where
  np : Nat
  ns : Nat
  body : List S
abbrev Prog := Str → Option Df
def endOf (st0 : Store) (fr : Fl × Env) (st : Store) : Res D := match fr.1 with
  | .rt d => finish st0 d st
  | .nx => finish st0 .non st
  | _ => .stuck
/-- a def's call, at most so deep -/
noncomputable def phi (P : Prog) : Nat → Str → List D → Store → Res D
  | 0, _, _, _ => .stuck
  | n + 1, f, ds, st => match P f with
    | none => .stuck
    | some df => if ds.length = df.np then (denSs (phi P n) df.body (ds.map some ++ List.replicate (df.ns - df.np) none) st).bind (endOf st) else .stuck
end WT

set_option Elab.async false
set_option linter.all false
set_option maxRecDepth 100000
/-! WT1: how a pure value lies in the heap. -/
namespace WT
open PySem PySem.Spec PyProof.Rows L2

/-- a tuple, tracked and no place -/
def TupAt (K : PySem.W.Frag) (H : Hp) (m : List Addr) (a : Addr) (xs : List V) : Prop := H a = some (.tup xs) ∧ a ∉ m
theorem TupAt.sq {K : PySem.W.Frag} {H : Hp} {m : List Addr} {a : Addr} {xs : List V} (h : TupAt K H m a xs) : SqT K H a xs := SqT.of h.1
def ScrAt (K : PySem.W.Frag) (H : Hp) (m : List Addr) (a : Addr) (xs : List V) : Prop :=
  (∃ (o : Obj) (its : Array Value) (n : Nat), K.lookup a = some o ∧ o.cls = .type "list" ∧ o.dict = none ∧ o.data = .seq its n ∧ its.size ≤ sizeLine ∧ Vals xs its.toList) ∨ ((∃ o, H a = some (.frz o (.lst xs))) ∧ a ∉ m)
theorem ScrAt.sq {K : PySem.W.Frag} {H : Hp} {m : List Addr} {a : Addr} {xs : List V} (h : ScrAt K H m a xs) : SqL K H a xs := by
  rcases h with h | h
  · exact .inr h
  · exact .inl (.inr h.1)
mutual
/-- the value d lies at v: m the places' addresses, n the addresses of lists that are being made -/
def RelD (K : PySem.W.Frag) (H : Hp) (m n : List Addr) : D → V → Prop
  | .non, v => v = .non
  | .bl b, v => v = .bl b
  | .int i, v => v = .int i
  | .str x, v => v = .str x
  | .tup ds, v => ∃ a vs, v = .ref a ∧ TupAt K H m a vs ∧ RelL K H m n ds vs
  | .lst ds, v => ∃ a vs, v = .ref a ∧ H a = some (.lst vs) ∧ a ∉ m ∧ a ∉ n ∧ RelL K H m n ds vs
  | .scr ds, v => ∃ a vs, v = .ref a ∧ ScrAt K H m a vs ∧ RelL K H m n ds vs
  | .loc k, v => ∃ a, v = .ref a ∧ m[k]? = some a
def RelL (K : PySem.W.Frag) (H : Hp) (m n : List Addr) : List D → List V → Prop
  | [], vs => vs = []
  | d :: ds, vs => ∃ v r, vs = v :: r ∧ RelD K H m n d v ∧ RelL K H m n ds r
end
/-- the heap goes on: all but the places stays, new places are new -/
structure Go (H : Hp) (m : List Addr) (H' : Hp) (m' : List Addr) : Prop where
  pre : ∃ r, m' = m ++ r
  keep : ∀ a o, H a = some o → a ∉ m → H' a = some o
  new : ∀ a, a ∈ m' → a ∈ m ∨ H a = none
theorem Go.refl (H : Hp) (m : List Addr) : Go H m H m := ⟨⟨[], by simp⟩, fun _ _ h _ => h, fun _ h => .inl h⟩
theorem Go.sub {H : Hp} {m : List Addr} {H' : Hp} {m' : List Addr} (g : Go H m H' m') {a : Addr} (h : a ∈ m) : a ∈ m' := by
  obtain ⟨r, e⟩ := g.pre
  rw [e]; exact List.mem_append_left _ h
theorem Go.out {H : Hp} {m : List Addr} {H' : Hp} {m' : List Addr} (g : Go H m H' m') {a : Addr} {o : HO} (h : H a = some o) (hm : a ∉ m) : a ∉ m' := fun z => by
  rcases g.new a z with q | q
  · exact hm q
  · rw [h] at q; cases q
theorem Go.trans {H : Hp} {m : List Addr} {H1 : Hp} {m1 : List Addr} {H2 : Hp} {m2 : List Addr} (g : Go H m H1 m1) (h : Go H1 m1 H2 m2) : Go H m H2 m2 where
  pre := by
    obtain ⟨r, e⟩ := g.pre
    obtain ⟨r', e'⟩ := h.pre
    exact ⟨r ++ r', by rw [e', e, List.append_assoc]⟩
  keep := fun a o e hm => h.keep a o (g.keep a o e hm) (g.out e hm)
  new := fun a ha => by
    rcases h.new a ha with q | q
    · exact g.new a q
    · cases e : H a with
      | none => exact .inr rfl
      | some o =>
        by_cases hm : a ∈ m
        · exact .inl hm
        · have := g.keep a o e hm
          rw [q] at this; cases this
theorem Go.at {H : Hp} {m : List Addr} {H' : Hp} {m' : List Addr} (g : Go H m H' m') {k : Nat} {a : Addr} (h : m[k]? = some a) : m'[k]? = some a := by
  obtain ⟨r, e⟩ := g.pre
  rw [e, List.getElem?_append_left (List.getElem?_eq_some_iff.mp h).1]; exact h
section
variable {K : PySem.W.Frag} {H H' : Hp} {m n m' : List Addr}
theorem TupAt.go {a : Addr} {xs : List V} (h : TupAt K H m a xs) (g : Go H m H' m') : TupAt K H' m' a xs := by
  exact ⟨g.keep _ _ h.1 h.2, g.out h.1 h.2⟩
theorem ScrAt.go {a : Addr} {xs : List V} (h : ScrAt K H m a xs) (g : Go H m H' m') : ScrAt K H' m' a xs := by
  rcases h with h | ⟨⟨o, h⟩, hm⟩
  · exact .inl h
  · exact .inr ⟨⟨o, g.keep _ _ h hm⟩, g.out h hm⟩
mutual
theorem RelD.go (g : Go H m H' m') : ∀ (d : D) (v : V), RelD K H m n d v → RelD K H' m' n d v
  | .non, _, h => h
  | .bl _, _, h => h
  | .int _, _, h => h
  | .str _, _, h => h
  | .tup ds, v, h => by
    simp only [RelD] at h ⊢
    obtain ⟨a, vs, e, t, r⟩ := h
    exact ⟨a, vs, e, t.go g, RelL.go g ds vs r⟩
  | .lst ds, v, h => by
    simp only [RelD] at h ⊢
    obtain ⟨a, vs, e, t, h1, h2, r⟩ := h
    exact ⟨a, vs, e, g.keep _ _ t h1, g.out t h1, h2, RelL.go g ds vs r⟩
  | .scr ds, v, h => by
    simp only [RelD] at h ⊢
    obtain ⟨a, vs, e, t, r⟩ := h
    exact ⟨a, vs, e, t.go g, RelL.go g ds vs r⟩
  | .loc k, v, h => by
    simp only [RelD] at h ⊢
    obtain ⟨a, e, h1⟩ := h
    exact ⟨a, e, g.at h1⟩
theorem RelL.go (g : Go H m H' m') : ∀ (ds : List D) (vs : List V), RelL K H m n ds vs → RelL K H' m' n ds vs
  | [], _, h => h
  | d :: ds, vs, h => by
    simp only [RelL] at h ⊢
    obtain ⟨v, r, e, h1, h2⟩ := h
    exact ⟨v, r, e, RelD.go g d v h1, RelL.go g ds r h2⟩
end
/-! lists of values -/
theorem RelL.length : ∀ {ds : List D} {vs : List V}, RelL K H m n ds vs → ds.length = vs.length
  | [], vs, h => by simp only [RelL] at h; rw [h]; rfl
  | d :: ds, vs, h => by
    simp only [RelL] at h
    obtain ⟨v, r, e, _, h2⟩ := h
    rw [e, List.length_cons, List.length_cons, RelL.length h2]
theorem RelL.nil : RelL K H m n [] [] := by simp only [RelL]
theorem RelL.cons {d : D} {v : V} {ds : List D} {vs : List V} (h : RelD K H m n d v) (r : RelL K H m n ds vs) : RelL K H m n (d :: ds) (v :: vs) := by
  simp only [RelL]; exact ⟨v, vs, rfl, h, r⟩
theorem RelL.one {d : D} {vs : List V} (h : RelL K H m n [d] vs) : ∃ v, vs = [v] ∧ RelD K H m n d v := by
  simp only [RelL] at h
  obtain ⟨v, r, e, h1, h2⟩ := h
  exact ⟨v, by rw [e, h2], h1⟩
theorem RelL.two {d e : D} {vs : List V} (h : RelL K H m n [d, e] vs) : ∃ v w, vs = [v, w] ∧ RelD K H m n d v ∧ RelD K H m n e w := by
  simp only [RelL] at h
  obtain ⟨v, r, e1, h1, w, r', e2, h2, h3⟩ := h
  exact ⟨v, w, by rw [e1, e2, h3], h1, h2⟩
theorem RelL.uncons {d : D} {ds : List D} {vs : List V} (h : RelL K H m n (d :: ds) vs) : ∃ v r, vs = v :: r ∧ RelD K H m n d v ∧ RelL K H m n ds r := by
  simpa only [RelL] using h
theorem RelL.append : ∀ {ds es : List D} {vs ws : List V}, RelL K H m n ds vs → RelL K H m n es ws → RelL K H m n (ds ++ es) (vs ++ ws)
  | [], es, vs, ws, h, q => by simp only [RelL] at h; rw [h]; exact q
  | d :: ds, es, vs, ws, h, q => by
    obtain ⟨v, r, e, h1, h2⟩ := h.uncons
    rw [e]
    exact .cons h1 (RelL.append h2 q)
theorem RelL.get : ∀ {ds : List D} {vs : List V} {i : Nat} {d : D}, RelL K H m n ds vs → ds[i]? = some d → ∃ v, vs[i]? = some v ∧ RelD K H m n d v
  | [], _, _, _, _, e => by simp at e
  | d :: ds, vs, 0, d', h, e => by
    obtain ⟨v, r, e1, h1, h2⟩ := h.uncons
    simp at e; subst e
    exact ⟨v, by rw [e1]; rfl, h1⟩
  | d :: ds, vs, i + 1, d', h, e => by
    obtain ⟨v, r, e1, h1, h2⟩ := h.uncons
    obtain ⟨w, e2, q⟩ := RelL.get (i := i) h2 (by simpa using e)
    exact ⟨w, by rw [e1]; simpa using e2, q⟩
theorem RelL.take : ∀ {ds : List D} {vs : List V} (k : Nat), RelL K H m n ds vs → RelL K H m n (ds.take k) (vs.take k)
  | _, _, 0, _ => by simp [RelL]
  | [], vs, k + 1, h => by simp only [RelL] at h; rw [h]; simp [RelL]
  | d :: ds, vs, k + 1, h => by
    obtain ⟨v, r, e, h1, h2⟩ := h.uncons
    rw [e]; exact .cons h1 (RelL.take k h2)
theorem RelL.drop : ∀ {ds : List D} {vs : List V} (k : Nat), RelL K H m n ds vs → RelL K H m n (ds.drop k) (vs.drop k)
  | _, _, 0, h => h
  | [], vs, k + 1, h => by simp only [RelL] at h; rw [h]; simp [RelL]
  | d :: ds, vs, k + 1, h => by
    obtain ⟨v, r, e, h1, h2⟩ := h.uncons
    rw [e]; exact RelL.drop k h2
theorem RelL.rev : ∀ {ds : List D} {vs : List V}, RelL K H m n ds vs → RelL K H m n ds.reverse vs.reverse
  | [], vs, h => by simp only [RelL] at h; rw [h]; exact .nil
  | d :: ds, vs, h => by
    obtain ⟨v, r, e, h1, h2⟩ := h.uncons
    rw [e, List.reverse_cons, List.reverse_cons]
    exact (RelL.rev h2).append (.cons h1 .nil)
theorem RelL.set {d : D} {v : V} (q : RelD K H m n d v) : ∀ {ds : List D} {vs : List V} (i : Nat), RelL K H m n ds vs → RelL K H m n (ds.set i d) (vs.set i v)
  | [], vs, i, h => by simp only [RelL] at h; rw [h]; simp [RelL]
  | e :: ds, vs, 0, h => by
    obtain ⟨w, r, e1, h1, h2⟩ := h.uncons
    rw [e1]; exact .cons q h2
  | e :: ds, vs, i + 1, h => by
    obtain ⟨w, r, e1, h1, h2⟩ := h.uncons
    rw [e1]; exact .cons h1 (RelL.set q i h2)
theorem RelL.dropLast : ∀ {ds : List D} {vs : List V}, RelL K H m n ds vs → RelL K H m n ds.dropLast vs.dropLast := fun {ds vs} h => by
  rw [List.dropLast_eq_take, List.dropLast_eq_take, h.length]; exact h.take _
theorem RelL.eraseIdx : ∀ {ds : List D} {vs : List V} (i : Nat), RelL K H m n ds vs → RelL K H m n (ds.eraseIdx i) (vs.eraseIdx i)
  | [], vs, i, h => by simp only [RelL] at h; rw [h]; simp [RelL]
  | e :: ds, vs, 0, h => by
    obtain ⟨w, r, e1, h1, h2⟩ := h.uncons
    rw [e1]; exact h2
  | e :: ds, vs, i + 1, h => by
    obtain ⟨w, r, e1, h1, h2⟩ := h.uncons
    rw [e1]; exact .cons h1 (RelL.eraseIdx i h2)
theorem RelL.rep {ds : List D} {vs : List V} (h : RelL K H m n ds vs) : ∀ k : Nat, RelL K H m n (List.replicate k ds).flatten (List.replicate k vs).flatten
  | 0 => by simp [RelL]
  | k + 1 => by
    rw [List.replicate_succ, List.replicate_succ, List.flatten_cons, List.flatten_cons]
    exact h.append (RelL.rep h k)
theorem RelL.of_get {ds : List D} {vs : List V} (hl : ds.length = vs.length) (h : ∀ (i : Nat) d v, ds[i]? = some d → vs[i]? = some v → RelD K H m n d v) : RelL K H m n ds vs := by
  induction ds generalizing vs with
  | nil =>
    cases vs with
    | nil => exact .nil
    | cons _ _ => cases hl
  | cons d ds ih =>
    cases vs with
    | nil => cases hl
    | cons v vs => exact .cons (h 0 d v rfl rfl) (ih (Nat.succ.inj hl) fun i d' v' e1 e2 => h (i + 1) d' v' (by simpa using e1) (by simpa using e2))
theorem RelL.ints : ∀ ns : List Int, RelL K H m n (ns.map D.int) (ns.map V.int)
  | [] => .nil
  | i :: r => .cons (by simp only [RelD]) (RelL.ints r)
theorem RelL.of_ints : ∀ {ds : List D} {ns : List Int} {vs : List V}, intsD ds = some ns → RelL K H m n ds vs → vs = ns.map V.int
  | [], ns, vs, e, h => by
    simp only [intsD, Option.some.injEq] at e
    simp only [RelL] at h
    rw [← e, h]; rfl
  | d :: ds, ns, vs, e, h => by
    obtain ⟨v, r, e1, h1, h2⟩ := h.uncons
    cases d with
    | int i =>
      simp only [intsD, Option.map_eq_some_iff] at e
      obtain ⟨ns', e2, e3⟩ := e
      simp only [RelD] at h1
      rw [e1, ← e3, h1, RelL.of_ints e2 h2]; rfl
    | _ => simp [intsD] at e
end

/-! ### the store -/
def KVr {κ : Type} (R : D → V → Prop) : List (κ × D) → List (κ × V) → Prop := Paired fun p q => p.1 = q.1 ∧ R p.2 q.2
def ObR (K : PySem.W.Frag) (H : Hp) (m n : List Addr) (a : Addr) : Ob → Prop
  | .lst ds => ∃ vs, H a = some (.lst vs) ∧ RelL K H m n ds vs
  | .dK kvs => ∃ kvs', H a = some (.dK kvs') ∧ KVr (RelD K H m n) kvs kvs'
  | .dT kvs => ∃ kvs', H a = some (.dT kvs') ∧ KVr (RelD K H m n) kvs kvs'
structure StR (K : PySem.W.Frag) (H : Hp) (m n : List Addr) (st : Store) : Prop where
  len : m.length = st.length
  nd : m.Nodup
  dis : ∀ a, a ∈ m → a ∉ n
  place : ∀ (k : Nat) a ob, m[k]? = some a → st[k]? = some ob → ObR K H m n a ob
  hid : ∀ a, a ∈ n → ∃ xs, H a = some (.lst xs)
section
variable {K : PySem.W.Frag} {H H' : Hp} {m n m' : List Addr} {st : Store}
theorem Paired.mapR {α β : Type} {F G : α → β → Prop} {l1 : List α} {l2 : List β} (h : Paired F l1 l2) (f : ∀ a b, F a b → G a b) : Paired G l1 l2 := by
  induction h with
  | nil => exact .nil
  | cons r _ ih => exact .cons (f _ _ r) ih
theorem ObR.go {a : Addr} {ob : Ob} (h : ObR K H m n a ob) (g : Go H m H' m') (e : H' a = H a) : ObR K H' m' n a ob := by
  cases ob with
  | lst ds => obtain ⟨vs, h1, h2⟩ := h; exact ⟨vs, e.trans h1, RelL.go g _ _ h2⟩
  | dK kvs => obtain ⟨vs, h1, h2⟩ := h; exact ⟨vs, e.trans h1, Paired.mapR h2 fun _ _ q => ⟨q.1, RelD.go g _ _ q.2⟩⟩
  | dT kvs => obtain ⟨vs, h1, h2⟩ := h; exact ⟨vs, e.trans h1, Paired.mapR h2 fun _ _ q => ⟨q.1, RelD.go g _ _ q.2⟩⟩
theorem ObR.some {a : Addr} {ob : Ob} (h : ObR K H m n a ob) : ∃ o, H a = some o := by
  cases ob with
  | lst ds => obtain ⟨vs, h1, _⟩ := h; exact ⟨_, h1⟩
  | dK kvs => obtain ⟨vs, h1, _⟩ := h; exact ⟨_, h1⟩
  | dT kvs => obtain ⟨vs, h1, _⟩ := h; exact ⟨_, h1⟩
theorem StR.there (s : StR K H m n st) {k : Nat} {a : Addr} (h : m[k]? = some a) : ∃ ob, st[k]? = some ob := by
  have hk := (List.getElem?_eq_some_iff.mp h).1
  rw [s.len] at hk
  exact ⟨_, List.getElem?_eq_getElem hk⟩
theorem StR.addr (s : StR K H m n st) {k : Nat} {ob : Ob} (h : st[k]? = some ob) : ∃ a, m[k]? = some a := by
  have hk := (List.getElem?_eq_some_iff.mp h).1
  rw [← s.len] at hk
  exact ⟨_, List.getElem?_eq_getElem hk⟩
theorem StR.mem (s : StR K H m n st) {a : Addr} (h : a ∈ m) : ∃ o, H a = some o := by
  obtain ⟨k, hk, e⟩ := List.getElem_of_mem h
  have e' : m[k]? = some a := by rw [List.getElem?_eq_getElem hk, e]
  obtain ⟨ob, h1⟩ := s.there e'
  exact (s.place k a ob e' h1).some
theorem StR.notin (s : StR K H m n st) {p : Addr} (h : H p = none) : p ∉ m := fun z => by
  obtain ⟨o, e⟩ := s.mem z
  rw [h] at e; cases e
theorem StR.nothid (s : StR K H m n st) {p : Addr} (h : H p = none) : p ∉ n := fun z => by
  obtain ⟨o, e⟩ := s.hid _ z
  rw [h] at e; cases e
theorem mem_of_at {k : Nat} {a : Addr} (h : m[k]? = some a) : a ∈ m := List.mem_of_getElem? h
/-- a new object that is no place -/
theorem Go.free {p : Addr} {o : HO} (h : H p = none) : Go H m (upd H p o) m :=
  ⟨⟨[], by simp⟩, fun a u e _ => by rw [upd_ne (ne_of_none e h)]; exact e, fun a ha => .inl ha⟩
theorem StR.free (s : StR K H m n st) {p : Addr} {o : HO} (h : H p = none) : StR K (upd H p o) m n st where
  len := s.len
  nd := s.nd
  dis := s.dis
  place := fun k a ob e1 e2 => (s.place k a ob e1 e2).go (Go.free h) (upd_ne fun z => s.notin h (z ▸ mem_of_at e1))
  hid := fun a ha => by
    obtain ⟨xs, e⟩ := s.hid a ha
    exact ⟨xs, by rw [upd_ne (ne_of_none e h)]; exact e⟩
/-- a new place -/
theorem Go.newp {p : Addr} {o : HO} (h : H p = none) : Go H m (upd H p o) (m ++ [p]) :=
  ⟨⟨[p], rfl⟩, fun a u e _ => by rw [upd_ne (ne_of_none e h)]; exact e, fun a ha => by
    rcases List.mem_append.mp ha with q | q
    · exact .inl q
    · have e : a = p := by simpa using q
      rw [e]; exact .inr h⟩
theorem StR.newp (s : StR K H m n st) {p : Addr} {o : HO} {ob : Ob} (h : H p = none) (q : ObR K (upd H p o) (m ++ [p]) n p ob) : StR K (upd H p o) (m ++ [p]) n (st ++ [ob]) where
  len := by rw [List.length_append, List.length_append, s.len]; rfl
  nd := by
    rw [List.nodup_append]
    refine ⟨s.nd, by simp, fun a ha b hb e => ?_⟩
    have e' : b = p := by simpa using hb
    rw [e, e'] at ha
    exact s.notin h ha
  dis := fun a ha => by
    rcases List.mem_append.mp ha with z | z
    · exact s.dis a z
    · have e : a = p := by simpa using z
      rw [e]; exact s.nothid h
  place := fun k a ob' e1 e2 => by
    by_cases hk : k < m.length
    · rw [List.getElem?_append_left hk] at e1
      rw [List.getElem?_append_left (by rw [← s.len]; exact hk)] at e2
      exact (s.place k a ob' e1 e2).go (Go.newp h) (upd_ne fun z => s.notin h (z ▸ mem_of_at e1))
    · have hk' : m.length ≤ k := Nat.le_of_not_lt hk
      rw [List.getElem?_append_right hk'] at e1
      rw [List.getElem?_append_right (by rw [← s.len]; exact hk'), ← s.len] at e2
      cases hz : k - m.length with
      | zero =>
        rw [hz] at e1 e2
        simp at e1 e2
        subst e1; subst e2
        exact q
      | succ j => rw [hz] at e1; simp at e1
  hid := fun a ha => by
    obtain ⟨xs, e⟩ := s.hid a ha
    exact ⟨xs, by rw [upd_ne (ne_of_none e h)]; exact e⟩
/-- a place written -/
theorem Go.write {k : Nat} {a : Addr} {o : HO} (h : m[k]? = some a) : Go H m (upd H a o) m :=
  ⟨⟨[], by simp⟩, fun b u e hb => by
    have hne : b ≠ a := fun z => hb (by rw [z]; exact mem_of_at h)
    rw [upd_ne hne]; exact e, fun b hb => .inl hb⟩
theorem nodup_at (nd : m.Nodup) {j k : Nat} {a : Addr} (h1 : m[j]? = some a) (h2 : m[k]? = some a) : j = k := by
  obtain ⟨p1, e1⟩ := List.getElem?_eq_some_iff.mp h1
  obtain ⟨p2, e2⟩ := List.getElem?_eq_some_iff.mp h2
  exact (List.getElem_inj nd).mp (e1.trans e2.symm)
theorem StR.write (s : StR K H m n st) {k : Nat} {a : Addr} {o : HO} {ob : Ob} (h : m[k]? = some a) (q : ObR K (upd H a o) m n a ob) : StR K (upd H a o) m n (st.set k ob) where
  len := by rw [List.length_set]; exact s.len
  nd := s.nd
  dis := s.dis
  place := fun j b ob' e1 e2 => by
    by_cases hj : j = k
    · subst hj
      rw [h] at e1; cases e1
      have hl : j < st.length := by rw [← s.len]; exact (List.getElem?_eq_some_iff.mp h).1
      rw [List.getElem?_set_self hl] at e2
      cases e2; exact q
    · rw [List.getElem?_set_ne (Ne.symm hj)] at e2
      exact (s.place j b ob' e1 e2).go (Go.write h) (upd_ne fun z => hj (nodup_at s.nd e1 (z ▸ h)))
  hid := fun b hb => by
    obtain ⟨xs, e⟩ := s.hid b hb
    refine ⟨xs, ?_⟩
    have hne : b ≠ a := fun z => s.dis a (mem_of_at h) (by rw [← z]; exact hb)
    rw [upd_ne hne]; exact e
end
end WT

set_option Elab.async false
set_option linter.all false
set_option maxRecDepth 100000
/-! WT2: readings: what a pure program gives, as the layer asks it. -/
namespace WT
open PySem PySem.Spec PyProof.Rows L2

def EnvR (K : PySem.W.Frag) (H : Hp) (m n : List Addr) (r : Env) (s : L2.St) : Prop :=
  r.length = s.length ∧ ∀ (i : Nat) d, r[i]? = some (some d) → ∃ v, s[i]? = some (some v) ∧ RelD K H m n d v
theorem EnvR.go {K : PySem.W.Frag} {H H' : Hp} {m n m' : List Addr} {r : Env} {s : L2.St} (h : EnvR K H m n r s) (g : Go H m H' m') : EnvR K H' m' n r s :=
  ⟨h.1, fun i d e => by
    obtain ⟨v, e1, e2⟩ := h.2 i d e
    exact ⟨v, e1, RelD.go g d v e2⟩⟩
/-- an exception lies so -/
def ExR (mg : Str → Option Value) (K : PySem.W.Frag) (H : Hp) (m n : List Addr) (e : Ex) (cls : Value) (dd : Option Addr) : Prop :=
  ∃ C, mg e.cls = some (.ref C) ∧ cls = .ref C ∧ ((dd = none ∧ e.fs = []) ∨ ∃ d fs, dd = some d ∧ H d = some (.xd fs) ∧ KVr (RelD K H m n) e.fs fs)
def ErD (mg : Str → Option Value) (K : PySem.W.Frag) (n : List Addr) (H : Hp) (m : List Addr) (s : L2.St) (W : L2.WX) : Ex → Store → Prop := fun e st' =>
  ∀ H' m' cls dd, Go H m H' m' → StR K H' m' n st' → ExR mg K H' m' n e cls dd → W cls dd s H'
theorem ErD.go {mg : Str → Option Value} {K : PySem.W.Frag} {n : List Addr} {H H1 : Hp} {m m1 : List Addr} {s : L2.St} {W : L2.WX} {e : Ex} {st : Store} (h : ErD mg K n H m s W e st) (g : Go H m H1 m1) : ErD mg K n H1 m1 s W e st :=
  fun H' m' cls dd g' s' x => h H' m' cls dd (g.trans g') s' x
abbrev Lie (α β : Type) := Hp → List Addr → List Addr → α → β → Prop
def QR {α β : Type} (K : PySem.W.Frag) (rel : Lie α β) (n : List Addr) (H : Hp) (m : List Addr) (Q : β → Hp → Prop) : α → Store → Prop := fun a st' =>
  ∀ H' m' b, Go H m H' m' → StR K H' m' n st' → rel H' m' n a b → Q b H'
theorem QR.go {α β : Type} {K : PySem.W.Frag} {rel : Lie α β} {n : List Addr} {H H1 : Hp} {m m1 : List Addr} {Q : β → Hp → Prop} {a : α} {st : Store} (h : QR K rel n H m Q a st) (g : Go H m H1 m1) : QR K rel n H1 m1 Q a st :=
  fun H' m' b g' s' x => h H' m' b (g.trans g') s' x
/-- the reading of a pure program: hs are values that are held meanwhile, at xs -/
def TR {α β : Type} (X : Cx) (W : L2.WX) (rel : Lie α β) (hs : List D) (xs : List V) (f : Env → Store → Res α) : L2.St → Hp → (β → Hp → Prop) → Prop := fun s H Q =>
  ∃ m n r st, StR X.K H m n st ∧ EnvR X.K H m n r s ∧ RelL X.K H m n hs xs ∧ (f r st).Post (QR X.K rel n H m Q) (ErD X.mg X.K n H m s W)
abbrev lD (X : Cx) : Lie D V := fun H m n d v => RelD X.K H m n d v
abbrev lL (X : Cx) : Lie (List D) (List V) := fun H m n d v => RelL X.K H m n d v
abbrev lB : Lie Bool Bool := fun _ _ _ a b => a = b
abbrev TD (X : Cx) (W : L2.WX) (f : Env → Store → Res D) : TE := TR X W (lD X) [] [] f
abbrev TL (X : Cx) (W : L2.WX) (f : Env → Store → Res (List D)) : TA := TR X W (lL X) [] [] f
abbrev TB (X : Cx) (W : L2.WX) (f : Env → Store → Res Bool) : TT := TR X W lB [] [] f
section
variable {α β : Type} {X : Cx} {W : L2.WX} {rel : Lie α β} {hs : List D} {xs : List V} {s : L2.St} {H : Hp} {Q : β → Hp → Prop}
theorem TR.bindD {f : Env → Store → Res D} {k : D → Env → Store → Res α} (h : TR X W rel hs xs (fun r st => (f r st).bind fun d st => k d r st) s H Q) :
    TR X W (lD X) hs xs f s H fun v H1 => ∃ d, TR X W rel (d :: hs) (v :: xs) (k d) s H1 Q := by
  obtain ⟨m, n, r, st, h1, h2, h3, h4⟩ := h
  refine ⟨m, n, r, st, h1, h2, h3, h4.unbind.mono (fun d st1 hq H1 m1 v g s1 rd => ⟨d, m1, n, r, st1, s1, h2.go g, .cons rd (RelL.go g _ _ h3), hq.mono (fun a st2 q => q.go g) fun e st2 q => q.go g⟩) fun e st1 q => q⟩
theorem TR.bindH {f : Env → Store → Res D} {k : D → Env → Store → Res α} (h : TR X W rel hs xs (fun r st => (f r st).bind fun d st => k d r st) s H Q) :
    TR X W (lD X) hs xs f s H fun v H1 => ∃ d, TR X W rel (d :: hs) (v :: xs) (k d) s H1 Q := h.bindD
theorem TR.bindB {f : Env → Store → Res Bool} {k : Bool → Env → Store → Res α} (h : TR X W rel hs xs (fun r st => (f r st).bind fun d st => k d r st) s H Q) :
    TR X W lB hs xs f s H fun b H1 => TR X W rel hs xs (k b) s H1 Q := by
  obtain ⟨m, n, r, st, h1, h2, h3, h4⟩ := h
  refine ⟨m, n, r, st, h1, h2, h3, h4.unbind.mono (fun d st1 hq H1 m1 v g s1 rd => ?_) fun e st1 q => q⟩
  cases rd
  exact ⟨m1, n, r, st1, s1, h2.go g, RelL.go g _ _ h3, hq.mono (fun a st2 q => q.go g) fun e st2 q => q.go g⟩
theorem TR.bindL {f : Env → Store → Res (List D)} {k : List D → Env → Store → Res α} (h : TR X W rel hs xs (fun r st => (f r st).bind fun d st => k d r st) s H Q) :
    TR X W (lL X) hs xs f s H fun v H1 => ∃ d, TR X W rel (d ++ hs) (v ++ xs) (k d) s H1 Q := by
  obtain ⟨m, n, r, st, h1, h2, h3, h4⟩ := h
  refine ⟨m, n, r, st, h1, h2, h3, h4.unbind.mono (fun d st1 hq H1 m1 v g s1 rd => ⟨d, m1, n, r, st1, s1, h2.go g, RelL.append rd (RelL.go g _ _ h3), hq.mono (fun a st2 q => q.go g) fun e st2 q => q.go g⟩) fun e st1 q => q⟩
/-- a part is read while some are held: they are held outside -/
theorem TR.drop {f : Env → Store → Res α} (h : TR X W rel hs xs f s H Q) : TR X W rel [] [] f s H Q := by
  obtain ⟨m, n, r, st, h1, h2, h3, h4⟩ := h
  exact ⟨m, n, r, st, h1, h2, .nil, h4⟩
theorem TR.mono {f : Env → Store → Res α} {Q' : β → Hp → Prop} (h : TR X W rel hs xs f s H Q) (hq : ∀ b H', Q b H' → Q' b H') : TR X W rel hs xs f s H Q' := by
  obtain ⟨m, n, r, st, h1, h2, h3, h4⟩ := h
  exact ⟨m, n, r, st, h1, h2, h3, h4.mono (fun a st' q H' m' b g s' x => hq _ _ (q H' m' b g s' x)) fun _ _ q => q⟩
/-- the end of a pure program: the value is there -/
theorem TR.ok {a : α} {b : β} {f : Env → Store → Res α} (h : TR X W rel hs xs (fun _ st => .ok a st) s H Q) (hr : ∀ m n, RelL X.K H m n hs xs → rel H m n a b) : Q b H := by
  obtain ⟨m, n, r, st, h1, h2, h3, h4⟩ := h
  exact h4 H m b (Go.refl _ _) h1 (hr m n h3)
end
theorem imp_e {X : Cx} {e : Expr} {t t' : TE} (h : PE X e t) (hi : ∀ s H Q, t' s H Q → t s H Q) : PE X e t' := ⟨fun pins s sg H Q I hw => h.run pins s sg H Q I (hi _ _ _ hw)⟩
theorem imp_t {X : Cx} {e : Expr} {t t' : TT} (h : PT X e t) (hi : ∀ s H Q, t' s H Q → t s H Q) : PT X e t' := ⟨fun pins s sg H Q I hw => h.run pins s sg H Q I (hi _ _ _ hw)⟩
theorem imp_w {X : Cx} {e : Expr} {t t' : TT} (h : PW X e t) (hi : ∀ s H Q, t' s H Q → t s H Q) : PW X e t' := ⟨fun wh pins s sg H Q I hw => h.run wh pins s sg H Q I (hi _ _ _ hw)⟩
theorem imp_a {X : Cx} {es : List Expr} {t t' : TA} (h : PA X es t) (hi : ∀ s H Q, t' s H Q → t s H Q) : PA X es t' := ⟨fun pos pins s sg H Q I hw => h.run pos pins s sg H Q I (hi _ _ _ hw)⟩
theorem imp_s {X : Cx} {st : Stmt} {t t' : TS} (h : PS X st t) (hi : ∀ s H Q, t' Q s H → t Q s H) : PS X st t' := ⟨fun pins s sg H Q I hw => h.run pins s sg H Q I (hi _ _ _ hw)⟩
theorem imp_ss {X : Cx} {st : List Stmt} {t t' : TS} (h : PSs X st t) (hi : ∀ s H Q, t' Q s H → t Q s H) : PSs X st t' := ⟨fun pins s sg H Q I hw => h.run pins s sg H Q I (hi _ _ _ hw)⟩

/-! ### by values alone -/
/-- a pure operation on held values -/
def VH (K : PySem.W.Frag) (ds : List D) (xs : List V) (f : Store → Res D) (H : Hp) (Q : VK) : Prop :=
  ∃ m n st Er, StR K H m n st ∧ RelL K H m n ds xs ∧ (f st).Post (QR K (fun H m n d v => RelD K H m n d v) n H m Q) Er
theorem TR.vh {X : Cx} {W : L2.WX} {hs : List D} {xs : List V} {f : Store → Res D} {s : L2.St} {H : Hp} {Q : VK} (h : TR X W (lD X) hs xs (fun _ st => f st) s H Q) : VH X.K hs xs f H Q := by
  obtain ⟨m, n, r, st, h1, h2, h3, h4⟩ := h
  exact ⟨m, n, st, _, h1, h3, h4⟩
section
variable {K : PySem.W.Frag} {H : Hp} {m n : List Addr} {st : Store} {Q : VK} {Er : Ex → Store → Prop}
abbrev QV (K : PySem.W.Frag) (n : List Addr) (H : Hp) (m : List Addr) (Q : VK) := QR K (fun H m n d v => RelD K H m n d v) n H m Q
theorem here {d : D} {v : V} (h : QV K n H m Q d st) (s : StR K H m n st) (r : RelD K H m n d v) : Q v H := h H m v (Go.refl _ _) s r
/-- a new list -/
theorem newL_ok {al : Bool} {ds : List D} {vs : List V} (s : StR K H m n st) (r : RelL K H m n ds vs) (h : (newL al ds st).Post (QV K n H m Q) Er) : vs.length ≤ sizeLine ∧ ∀ p, H p = none → Q (.ref p) (upd H p (.lst vs)) := by
  unfold newL at h
  split at h
  · rename_i hl
    refine ⟨by rw [← r.length]; exact hl, fun p hp => ?_⟩
    cases al with
    | true =>
      have g : Go H m (upd H p (.lst vs)) (m ++ [p]) := Go.newp hp
      refine h _ (m ++ [p]) _ g (s.newp hp ⟨vs, upd_same, RelL.go g _ _ r⟩) ?_
      simp only [RelD]
      exact ⟨p, rfl, by rw [← s.len]; simp⟩
    | false =>
      have g : Go H m (upd H p (.lst vs)) m := Go.free hp
      refine h _ m _ g (s.free hp) ?_
      simp only [RelD]
      exact ⟨p, vs, rfl, upd_same, s.notin hp, s.nothid hp, RelL.go g _ _ r⟩
  · exact False.elim h
/-- a new tuple -/
theorem newT_ok {ds : List D} {vs : List V} (s : StR K H m n st) (r : RelL K H m n ds vs) (h : QV K n H m Q (.tup ds) st) : ∀ p, H p = none → Q (.ref p) (upd H p (.tup vs)) := fun p hp => by
  have g : Go H m (upd H p (.tup vs)) m := Go.free hp
  refine h _ m _ g (s.free hp) ?_
  simp only [RelD]
  exact ⟨p, vs, rfl, ⟨upd_same, s.notin hp⟩, RelL.go g _ _ r⟩
/-- what a viewed list is -/
theorem view_lst {d : D} {v : V} {xs : List D} (s : StR K H m n st) (r : RelD K H m n d v) (e : view st d = .lst xs) : ∃ a vs, v = .ref a ∧ H a = some (.lst vs) ∧ RelL K H m n xs vs := by
  cases d with
  | lst ds =>
    simp only [view, D.lst.injEq] at e
    subst e
    simp only [RelD] at r
    obtain ⟨a, vs, e1, e2, _, _, e3⟩ := r
    exact ⟨a, vs, e1, e2, e3⟩
  | loc k =>
    simp only [view] at e
    simp only [RelD] at r
    obtain ⟨a, e1, e2⟩ := r
    obtain ⟨ob, e3⟩ := s.there e2
    rw [e3] at e
    have q := s.place k a ob e2 e3
    cases ob with
    | lst ds =>
      simp only [D.lst.injEq] at e
      subst e
      obtain ⟨vs, q1, q2⟩ := q
      exact ⟨a, vs, e1, q1, q2⟩
    | dK kvs => simp at e
    | dT kvs => simp at e
  | _ => simp [view] at e
theorem view_tup {d : D} {xs : List D} (e : view st d = .tup xs) : d = .tup xs := by
  cases d with
  | loc k =>
    simp only [view] at e
    split at e <;> cases e
  | _ => simpa [view] using e
theorem view_int {d : D} {i : Int} (e : view st d = .int i) : d = .int i := by
  cases d with
  | loc k =>
    simp only [view] at e
    split at e <;> cases e
  | _ => simpa [view] using e
theorem view_str {d : D} {i : Str} (e : view st d = .str i) : d = .str i := by
  cases d with
  | loc k =>
    simp only [view] at e
    split at e <;> cases e
  | _ => simpa [view] using e
theorem view_loc {d : D} {k : Nat} (e : view st d = .loc k) : d = .loc k := by
  cases d with
  | loc j =>
    simp only [view] at e
    split at e
    · cases e
    · exact e
  | _ => simp [view] at e
theorem rel_tup {d : D} {v : V} {xs : List D} (r : RelD K H m n d v) (e : view st d = .tup xs) : ∃ a vs, v = .ref a ∧ H a = some (.tup vs) ∧ RelL K H m n xs vs := by
  rw [view_tup e] at r
  simp only [RelD] at r
  obtain ⟨a, vs, e1, e2, e3⟩ := r
  exact ⟨a, vs, e1, e2.1, e3⟩
theorem rel_int {d : D} {v : V} {i : Int} (r : RelD K H m n d v) (e : view st d = .int i) : v = .int i := by
  rw [view_int e] at r
  simpa only [RelD] using r
theorem rel_str {d : D} {v : V} {i : Str} (r : RelD K H m n d v) (e : view st d = .str i) : v = .str i := by
  rw [view_str e] at r
  simpa only [RelD] using r
end
end WT

set_option Elab.async false
set_option linter.all false
set_option maxRecDepth 100000
/-! WT3: the pure operations are the model's. -/
namespace WT
open PySem PySem.Spec PyProof.Rows L2

/-! ### data -/
section
variable {K : PySem.W.Frag} {H : Hp} {m n : List Addr} {st : Store}
mutual
theorem RelD.dp : ∀ (d : D) (v : V) (k : Nat), RelD K H m n d v → d.data k = true → Dp K H v d.py
  | .non, v, _, r, _ => by simp only [RelD] at r; rw [r]; exact .non
  | .bl b, v, _, r, _ => by simp only [RelD] at r; rw [r]; exact .bl b
  | .int i, v, _, r, _ => by simp only [RelD] at r; rw [r]; exact .int i
  | .str x, v, _, r, _ => by simp only [RelD] at r; rw [r]; exact .str x
  | .loc _, v, _, _, h => by simp [D.data] at h
  | .scr _, v, _, _, h => by simp [D.data] at h
  | .tup ds, v, 0, _, h => by simp [D.data] at h
  | .lst ds, v, 0, _, h => by simp [D.data] at h
  | .tup ds, v, k + 1, r, h => by
    simp only [RelD] at r
    obtain ⟨a, vs, e1, e2, e3⟩ := r
    rw [e1]
    exact .tup e2.sq (RelL.dp ds vs k e3 (by simpa [D.data] using h))
  | .lst ds, v, k + 1, r, h => by
    simp only [RelD] at r
    obtain ⟨a, vs, e1, e2, _, _, e3⟩ := r
    rw [e1]
    exact .lst (SqL.of e2) (RelL.dp ds vs k e3 (by simpa [D.data] using h))
theorem RelL.dp : ∀ (ds : List D) (vs : List V) (k : Nat), RelL K H m n ds vs → D.dataL ds k = true → DpAll K H vs (D.pyL ds)
  | [], vs, _, r, _ => by simp only [RelL] at r; rw [r]; exact .nil
  | d :: ds, vs, k, r, h => by
    obtain ⟨v, ws, e, h1, h2⟩ := r.uncons
    simp only [D.dataL, Bool.and_eq_true] at h
    rw [e]
    exact .cons (RelD.dp d v k h1 h.1) (RelL.dp ds ws k h2 h.2)
end
theorem view_dp {d : D} {v : V} {k : Nat} (s : StR K H m n st) (r : RelD K H m n d v) (h : (view st d).data k = true) : Dp K H v (view st d).py := by
  cases e : view st d with
  | lst xs =>
    obtain ⟨a, vs, e1, e2, e3⟩ := view_lst s r e
    rw [e] at h
    cases k with
    | zero => simp [D.data] at h
    | succ k =>
      rw [e1]
      exact .lst (SqL.of e2) (RelL.dp xs vs k e3 (by simpa [D.data] using h))
  | loc k => rw [e] at h; simp [D.data] at h
  | scr k => rw [e] at h; simp [D.data] at h
  | tup xs => rw [e] at h; rw [view_tup e] at r; exact RelD.dp _ _ _ r h
  | int i => rw [e] at h; rw [view_int e] at r; exact RelD.dp _ _ _ r h
  | str i => rw [e] at h; rw [view_str e] at r; exact RelD.dp _ _ _ r h
  | non =>
    have e' : d = .non := by
      cases d with
      | loc j =>
        simp only [view] at e
        split at e <;> cases e
      | _ => simpa [view] using e
    rw [e'] at r; exact RelD.dp _ _ 0 r rfl
  | bl b =>
    have e' : d = .bl b := by
      cases d with
      | loc j =>
        simp only [view] at e
        split at e <;> cases e
      | _ => simpa [view] using e
    rw [e'] at r; exact RelD.dp _ _ 0 r rfl
mutual
theorem data_lay : ∀ (d : D) (k : Nat), d.data k = true → d.py.canLay0 = true ∧ d.py.depth ≤ k
  | .non, k, _ => ⟨rfl, Nat.zero_le _⟩
  | .bl _, k, _ => ⟨rfl, Nat.zero_le _⟩
  | .int _, k, _ => ⟨rfl, Nat.zero_le _⟩
  | .str x, k, h => ⟨by simp only [D.data] at h; exact h, Nat.zero_le _⟩
  | .loc _, k, h => by simp [D.data] at h
  | .scr _, k, h => by simp [D.data] at h
  | .tup ds, 0, h => by simp [D.data] at h
  | .lst ds, 0, h => by simp [D.data] at h
  | .tup ds, k + 1, h => by
    have q := data_layL ds k (by simpa [D.data] using h)
    exact ⟨by simpa [D.py, PyData.canLay0] using q.1, by simpa [D.py, PyData.depth] using q.2⟩
  | .lst ds, k + 1, h => by
    have q := data_layL ds k (by simpa [D.data] using h)
    exact ⟨by simpa [D.py, PyData.canLay0] using q.1, by simpa [D.py, PyData.depth] using q.2⟩
theorem data_layL : ∀ (ds : List D) (k : Nat), D.dataL ds k = true → PyData.canLayAll0 (D.pyL ds) = true ∧ PyData.depthAll (D.pyL ds) ≤ k
  | [], k, _ => ⟨rfl, Nat.zero_le _⟩
  | d :: ds, k, h => by
    simp only [D.dataL, Bool.and_eq_true] at h
    have q1 := data_lay d k h.1
    have q2 := data_layL ds k h.2
    refine ⟨?_, ?_⟩
    · simp only [D.pyL, PyData.canLayAll0, Bool.and_eq_true]; exact ⟨q1.1, q2.1⟩
    · simp only [D.pyL, PyData.depthAll]; exact Nat.max_le.mpr ⟨q1.2, q2.2⟩
end
theorem data_shaped {d : D} {k : Nat} (h : d.data k = true) (hk : k ≤ 64) : SeqAt.shaped d.py = true := by
  have q := data_lay d k h
  unfold SeqAt.shaped
  rw [q.1, Bool.true_and, decide_eq_true_eq]
  exact Nat.le_trans q.2 hk
theorem pyL_any (xs : List D) (p : PyData → Bool) : (D.pyL xs).any p = xs.any fun z => p z.py := by
  induction xs with
  | nil => rfl
  | cons x xs ih => simp only [D.pyL, List.any_cons, ih]
end

/-! ### two operands -/
theorem tup_mul_same (l : Addr) (items : Array Value) (n : Nat) (dd : Option Addr) (sl : Array (Option Value)) (x : Int) (u : Tok) (c0 : (decide (x < -(2 ^ 63)) || decide (x ≥ 2 ^ 63)) = false) (c1 : (items.isEmpty || x == 1) = true) :
    Meets (Builtin.«tuple.__mul__» ⟨[.ref l, .int x u], []⟩) (fun _ R s => s.heap.get? l = some { cls := .type "tuple", dict := dd, data := .seq items n, slots := sl } ∧ R (.ok (.ret (Value.ref l))) s) :=
  .of_wp fun prog w A R s h => by
    obtain ⟨hp, g, d, tk, os⟩ := s
    obtain ⟨hl, h⟩ := h
    have f1 := AutoSeq1.idx_int
    wp_walk using wpAny_loadPart' hl
    repeat (first
      | (refine wpAny_ite_false (decide_eq_false (by rw [c0]; exact Bool.false_ne_true)) ?_; wp_walk using wpAny_loadPart' hl)
      | (refine wpAny_ite_true (decide_eq_true c1) ?_; wp_walk using wpAny_loadPart' hl))
    exact ⟨_, rfl, h⟩
theorem tup_mul_none (l : Addr) (items : Array Value) (n : Nat) (dd : Option Addr) (sl : Array (Option Value)) (x : Int) (u : Tok) (c0 : (decide (x < -(2 ^ 63)) || decide (x ≥ 2 ^ 63)) = false) (c1 : (items.isEmpty || x == 1) = false) (c2 : (decide (x ≤ 0) || items.isEmpty) = true) :
    Meets (Builtin.«tuple.__mul__» ⟨[.ref l, .int x u], []⟩) (fun _ R s => s.heap.get? l = some { cls := .type "tuple", dict := dd, data := .seq items n, slots := sl } ∧
      R (.ok (.ret (Value.ref s.heap.objs.size))) { s with heap := s.heap.push { cls := Value.type "tuple", data := Data.seq #[] }, toks := s.toks }) :=
  .of_wp fun prog w A R s h => by
    obtain ⟨hp, g, d, tk, os⟩ := s
    obtain ⟨hl, h⟩ := h
    have f1 := AutoSeq1.idx_int
    wp_walk using wpAny_loadPart' hl
    repeat (first
      | (refine wpAny_ite_false (decide_eq_false (by rw [c0]; exact Bool.false_ne_true)) ?_; wp_walk using wpAny_loadPart' hl)
      | (refine wpAny_ite_false (decide_eq_false (by rw [c1]; exact Bool.false_ne_true)) ?_; wp_walk using wpAny_loadPart' hl)
      | (refine wpAny_ite_true (decide_eq_true c2) ?_; wp_walk using wpAny_loadPart' hl))
    exact ⟨_, rfl, h⟩
section
variable {X : Cx}
theorem mul_tup {pins : List (Addr × Obj)} {s : Shared} {sg : L2.St} {H : Hp} {l : Addr} {k : Int} {t : Tok} {xs : List V} {Q : VK} (I : Inv X pins sg H s) (hT : SqT X.K H l xs) (h1 : -1000 ≤ k) (h2 : k ≤ 1000) (hz : xs.length ≤ 1000)
    (q1 : (xs = [] ∨ k = 1) → Q (.ref l) H) (q2 : xs ≠ [] → k ≠ 1 → ∀ p, H p = none → Q (.ref p) (upd H p (.tup (List.replicate k.toNat xs).flatten))) :
    wpAny (model X.prog X.w) X.A (binaryOp .Mult (.ref l) (.int k t)) (EP X pins sg Q) X.xe s := by
  by_cases hbig : xs ≠ [] ∧ 2 ≤ k
  · exact op_repT pins s sg H (.ref l) (.int k) _ _ Q I rfl ⟨t, rfl⟩ ⟨l, k, xs, rfl, rfl, hT, hbig.1, hbig.2, h2, hz, q2 hbig.1 (by omega)⟩
  · obtain ⟨its, r, ⟨⟨cls, dd, data, sl⟩, ho, hc, n, hd⟩, hs⟩ := I.tuple hT
    simp only at hc hd
    subst hc hd
    have hle : its.length = xs.length := r.length.symm
    have c0 : (decide (k < -(2 ^ 63)) || decide (k ≥ 2 ^ 63)) = false := by
      rw [decide_eq_false (by omega), decide_eq_false (by omega)]
      rfl
    have road : ∀ {R : Value → Shared → Prop}, wpAny (model X.prog X.w) X.A (call (.builtin "tuple.__mul__") [.ref l, .int k t]) R X.xe s → wpAny (model X.prog X.w) X.A (binaryOp .Mult (.ref l) (.int k t)) R X.xe s := fun {R} hm =>
      wpAny_binaryOp_repeat_ref (T := "tuple") (U := "int") (by decide) ⟨_, ho, rfl⟩ (fun s' => typeIs_int s' k t) noFill_tuple_mul F.fills_int_mul F.slot_int_rmul repeat_tuple F.slot_int_index.lookup
        (call_meets F.slot_int_rmul (typeIs_int s k t) F.entry_int_rmul (F.args_int_rmul_2 _ _) (int_rmul_tuple k t l its.toArray n dd sl) ⟨ho, rfl, ⟨_, ho, rfl⟩, hm⟩)
    refine road ?_
    by_cases c1 : (its.toArray.isEmpty || k == 1) = true
    · refine call_meets F.slot_tuple_mul ⟨_, ho, rfl⟩ F.entry_tuple_mul (F.args_tuple_mul_2 _ _) (tup_mul_same l its.toArray n dd sl k t c0 c1) ⟨ho, ?_⟩
      refine ⟨.ref l, H, I, rfl, q1 ?_⟩
      rcases Bool.or_eq_true _ _ ▸ c1 with z | z
      · left
        have : its = [] := by simpa using z
        rw [this] at hle
        exact List.length_eq_zero_iff.mp hle.symm
      · right; exact eq_of_beq z
    · have c1' : (its.toArray.isEmpty || k == 1) = false := Bool.eq_false_iff.mpr c1
      have hne : xs ≠ [] := fun z => c1 (by
        rw [z] at hle
        have : its = [] := List.length_eq_zero_iff.mp hle
        rw [this]; rfl)
      have hk1 : k ≠ 1 := fun z => c1 (by rw [z]; simp)
      have hk0 : k ≤ 0 := by
        have : ¬ 2 ≤ k := fun z => hbig ⟨hne, z⟩
        omega
      refine call_meets F.slot_tuple_mul ⟨_, ho, rfl⟩ F.entry_tuple_mul (F.args_tuple_mul_2 _ _) (tup_mul_none l its.toArray n dd sl k t c0 c1' (by rw [decide_eq_true hk0]; rfl)) ⟨ho, ?_⟩
      have q := q2 hne hk1 s.heap.objs.size (I.hok.fresh (Nat.le_refl _))
      have e0 : k.toNat = 0 := by omega
      rw [e0] at q
      exact ⟨.ref s.heap.objs.size, _, I.laid (t' := s.toks) (o := .tup []) (fun b ob q => Heap.get?_push_of_some _ q) (Nat.le_refl _) ⟨Nat.zero_le _, [], .nil, IsTup.new _ _⟩, rfl, q⟩
theorem rInt {K : PySem.W.Frag} {H : Hp} {m n : List Addr} {i : Int} : RelD K H m n (.int i) (.int i) := by simp only [RelD]
theorem rStr {K : PySem.W.Frag} {H : Hp} {m n : List Addr} {i : Str} : RelD K H m n (.str i) (.str i) := by simp only [RelD]
theorem rBl {K : PySem.W.Frag} {H : Hp} {m n : List Addr} {i : Bool} : RelD K H m n (.bl i) (.bl i) := by simp only [RelD]
theorem rNon {K : PySem.W.Frag} {H : Hp} {m n : List Addr} : RelD K H m n .non .non := by simp only [RelD]
theorem two_of {K : PySem.W.Frag} {x y : V} {H : Hp} {m n : List Addr} {d e : D} (h : RelL K H m n [e, d] [y, x]) : RelD K H m n d x ∧ RelD K H m n e y := by
  obtain ⟨v, w, q, h1, h2⟩ := h.two
  cases q
  exact ⟨h2, h1⟩
theorem op_bin {al : Bool} {op : Operator} : OpR X (binaryOp op) (fun x y H Q => ∃ d e, VH X.K [e, d] [y, x] (binD al op d e) H Q) := by
  intro pins s sg H x y v u Q I rx ry ⟨d, e, m, n, st, Er, hs, hr, hp⟩
  obtain ⟨rd, re⟩ := two_of hr
  unfold binD at hp
  split at hp
  · rename_i i j h1 h2
    exact op_add pins s sg H x y v u Q I rx ry ⟨i, j, rel_int rd h1, rel_int re h2, here hp hs rInt⟩
  · rename_i i j h1 h2
    split at hp
    · rename_i hl
      exact op_add_str pins s sg H x y v u Q I rx ry ⟨i, j, rel_str rd h1, rel_str re h2, hl, here hp hs rStr⟩
    · exact False.elim hp
  · rename_i xs ys h1 h2
    obtain ⟨a, vs, e1, e2, e3⟩ := rel_tup rd h1
    obtain ⟨b, ws, f1, f2, f3⟩ := rel_tup re h2
    split at hp
    · rename_i hl
      refine op_catA pins s sg H x y v u Q I rx ry ⟨a, b, vs, ws, e1, f1, SqT.of e2, SqT.of f2, by rw [← e3.length, ← f3.length]; exact hl, fun z => ?_, fun z1 z2 => ?_, fun _ _ => newT_ok hs (e3.append f3) hp⟩
      · have hx : xs = [] := List.length_eq_zero_iff.mp (by rw [e3.length, z]; rfl)
        rw [hx, List.nil_append] at hp
        have re' := view_tup h2
        rw [re', f1] at re
        exact here hp hs re
      · have hy : ys = [] := List.length_eq_zero_iff.mp (by rw [f3.length, z2]; rfl)
        rw [hy, List.append_nil] at hp
        have rd' := view_tup h1
        rw [rd', e1] at rd
        exact here hp hs rd
    · exact False.elim hp
  · rename_i xs ys h1 h2
    obtain ⟨a, vs, e1, e2, e3⟩ := view_lst hs rd h1
    obtain ⟨b, ws, f1, f2, f3⟩ := view_lst hs re h2
    obtain ⟨g1, g2⟩ := newL_ok hs (e3.append f3) hp
    exact op_cat pins s sg H x y v u Q I rx ry ⟨a, b, vs, ws, e1, f1, e2, f2, by rw [← List.length_append]; exact g1, g2⟩
  · rename_i i j h1 h2
    exact op_sub pins s sg H x y v u Q I rx ry ⟨i, j, rel_int rd h1, rel_int re h2, here hp hs rInt⟩
  · rename_i i j h1 h2
    split at hp
    · rename_i hl
      have ex := rel_int rd h1
      have ey := rel_int re h2
      subst ex; subst ey
      obtain ⟨t, rfl⟩ := rx
      obtain ⟨t', rfl⟩ := ry
      exact PyProof.Rows.mul_int ⟨.int _, H, I.tok _, ⟨_, rfl⟩, here hp hs rInt⟩ hl
    · exact False.elim hp
  · rename_i xs k h1 h2
    obtain ⟨a, vs, e1, e2, e3⟩ := view_lst hs rd h1
    split at hp
    · rename_i hl
      obtain ⟨g1, g2⟩ := newL_ok hs (e3.rep k.toNat) hp
      refine op_rep pins s sg H x y v u Q I rx ry ⟨a, k, vs, e1, rel_int re h2, e2, hl.1, hl.2, ?_, g2⟩
      rw [List.length_flatten, List.map_replicate, List.sum_replicate_nat] at g1
      rw [Nat.mul_comm]; exact g1
    · exact False.elim hp
  · rename_i xs k h1 h2
    obtain ⟨a, vs, e1, e2, e3⟩ := rel_tup rd h1
    split at hp
    · rename_i hl
      have ex := rel_int re h2
      subst e1; subst ex
      cases rx
      obtain ⟨t, rfl⟩ := ry
      refine mul_tup I (SqT.of e2) hl.1 hl.2.1 (by rw [← e3.length]; exact hl.2.2) (fun z => ?_) fun _ _ => newT_ok hs (e3.rep _) hp
      have same : (List.replicate k.toNat xs).flatten = xs := by
        rcases z with z | z
        · have : xs = [] := List.length_eq_zero_iff.mp (by rw [e3.length, z]; rfl)
          rw [this]; simp
        · rw [z]; simp
      rw [same, ← view_tup h1] at hp
      exact here hp hs rd
    · exact False.elim hp
  · rename_i i j h1 h2
    split at hp
    · rename_i hl
      exact op_fdivN pins s sg H x y v u Q I rx ry ⟨i, j, rel_int rd h1, rel_int re h2, hl, here hp hs rInt⟩
    · exact False.elim hp
  · rename_i i j h1 h2
    split at hp
    · rename_i hl
      exact op_modN pins s sg H x y v u Q I rx ry ⟨i, j, rel_int rd h1, rel_int re h2, hl, here hp hs rInt⟩
    · exact False.elim hp
  · rename_i i j h1 h2
    split at hp
    · rename_i hl
      exact op_pow pins s sg H x y v u Q I rx ry ⟨i, j, rel_int rd h1, rel_int re h2, hl, here hp hs rInt⟩
    · exact False.elim hp
  · rename_i i j h1 h2
    split at hp
    · rename_i hl
      exact op_shl pins s sg H x y v u Q I rx ry ⟨i, j, rel_int rd h1, rel_int re h2, hl, here hp hs rInt⟩
    · exact False.elim hp
  · exact False.elim hp
end

/-! ### keys, dicts -/
section
variable {K : PySem.W.Frag} {H : Hp} {m n : List Addr} {st : Store}
theorem key_rel {d : D} {v : V} {k : Key} (r : RelD K H m n d v) (e : d.key = some k) : v = kV k := by
  cases d with
  | int i => simp only [D.key, Option.some.injEq] at e; simp only [RelD] at r; rw [r, ← e]; rfl
  | str i => simp only [D.key, Option.some.injEq] at e; simp only [RelD] at r; rw [r, ← e]; rfl
  | _ => simp [D.key] at e
theorem keyL_rel : ∀ {ds : List D} {vs : List V} {ks : List Key}, RelL K H m n ds vs → D.keyL ds = some ks → vs = ks.map kV
  | [], vs, ks, r, e => by
    simp only [D.keyL, Option.some.injEq] at e
    simp only [RelL] at r
    rw [r, ← e]; rfl
  | d :: ds, vs, ks, r, e => by
    obtain ⟨v, ws, e1, h1, h2⟩ := r.uncons
    simp only [D.keyL] at e
    split at e
    · rename_i k ks' ek eks
      cases e
      rw [e1, key_rel h1 ek, keyL_rel h2 eks]; rfl
    · cases e
theorem keyT_rel {d : D} {v : V} {ks : List Key} (r : RelD K H m n d v) (e : d.keyT = some ks) : ∃ b, v = .ref b ∧ H b = some (.tup (ks.map kV)) := by
  cases d with
  | tup xs =>
    simp only [RelD] at r
    obtain ⟨b, vs, e1, e2, e3⟩ := r
    have := keyL_rel e3 (show D.keyL xs = some ks from e)
    exact ⟨b, e1, by rw [← this]; exact e2.1⟩
  | _ => simp [D.keyT] at e
theorem KVr.find {κ : Type} [DecidableEq κ] {R : D → V → Prop} : ∀ {kvs : List (κ × D)} {kvs' : List (κ × V)} (_ : KVr R kvs kvs') (k : κ), (assoc kvs k = none ∧ valV kvs' k = none) ∨ ∃ d v, assoc kvs k = some d ∧ valV kvs' k = some v ∧ R d v
  | _, _, .nil, k => .inl ⟨rfl, rfl⟩
  | _, _, .cons (a := p) (b := q) (l₁ := kvs) (l₂ := kvs') h t, k => by
    by_cases e : p.1 = k
    · right
      exact ⟨p.2, q.2, by simp [assoc, List.find?_cons, e], valV_pos (by rw [← h.1]; exact e), h.2⟩
    · have e' : ¬ q.1 = k := by rw [← h.1]; exact e
      have e1 : assoc (p :: kvs) k = assoc kvs k := by simp [assoc, List.find?_cons, e]
      rw [e1, valV_neg e']
      exact KVr.find t k
theorem KVr.any {κ : Type} [DecidableEq κ] {R : D → V → Prop} {kvs : List (κ × D)} {kvs' : List (κ × V)} (h : KVr R kvs kvs') (k : κ) : (kvs.any fun p => decide (p.1 = k)) = kvs'.any fun p => decide (p.1 = k) := by
  induction h with
  | nil => rfl
  | cons h _ ih => simp only [List.any_cons, h.1, ih]
theorem KVr.snoc {κ : Type} {R : D → V → Prop} {kvs : List (κ × D)} {kvs' : List (κ × V)} (h : KVr R kvs kvs') {k : κ} {d : D} {v : V} (r : R d v) : KVr R (kvs ++ [(k, d)]) (kvs' ++ [(k, v)]) := by
  induction h with
  | nil => exact .cons ⟨rfl, r⟩ .nil
  | cons h _ ih => exact .cons h ih
theorem KVr.repl {κ : Type} [DecidableEq κ] {R : D → V → Prop} {kvs : List (κ × D)} {kvs' : List (κ × V)} (h : KVr R kvs kvs') {k : κ} {d : D} {v : V} (r : R d v) :
    KVr R (kvs.map fun p => if p.1 = k then (p.1, d) else p) (kvs'.map fun p => if p.1 = k then (p.1, v) else p) := by
  induction h with
  | nil => exact .nil
  | cons h _ ih =>
    rename_i p q as bs hh
    refine .cons ?_ ih
    by_cases e : p.1 = k
    · have e' : q.1 = k := by rw [← h.1]; exact e
      dsimp only
      rw [if_pos e, if_pos e']; exact ⟨h.1, r⟩
    · have e' : ¬ q.1 = k := by rw [← h.1]; exact e
      dsimp only
      rw [if_neg e, if_neg e']; exact h
theorem KVr.put {κ : Type} [DecidableEq κ] {R : D → V → Prop} {kvs : List (κ × D)} {kvs' : List (κ × V)} (h : KVr R kvs kvs') {k : κ} {d : D} {v : V} (r : R d v) : KVr R (putA kvs k d) (putK kvs' k v) := by
  unfold putA putK
  rw [h.any k]
  split
  · exact h.repl r
  · exact h.snoc r
theorem KVr.length {κ : Type} {R : D → V → Prop} {kvs : List (κ × D)} {kvs' : List (κ × V)} (h : KVr R kvs kvs') : kvs.length = kvs'.length := Paired.length h
theorem getD_ok {o k : D} {x y : V} {r : Option D} (s : StR K H m n st) (ro : RelD K H m n o x) (rk : RelD K H m n k y) (e : getD o k st = some r) :
    ∃ a w, x = .ref a ∧ DGet H a y w ∧ ((r = none ∧ w = none) ∨ ∃ d v, r = some d ∧ w = some v ∧ RelD K H m n d v) := by
  unfold getD at e
  cases o with
  | loc j =>
    simp only [RelD] at ro
    obtain ⟨a, e1, e2⟩ := ro
    simp only at e
    obtain ⟨ob, e3⟩ := s.there e2
    rw [e3] at e
    have q := s.place j a ob e2 e3
    cases ob with
    | lst ds => simp at e
    | dK kvs =>
      obtain ⟨kvs', q1, q2⟩ := q
      simp only [Option.map_eq_some_iff] at e
      obtain ⟨k', f1, f2⟩ := e
      have ey := key_rel rk f1
      refine ⟨a, valV kvs' k', e1, by rw [ey]; exact .inl ⟨kvs', k', .inl q1, rfl, rfl⟩, ?_⟩
      rw [← f2]
      exact q2.find k'
    | dT kvs =>
      obtain ⟨kvs', q1, q2⟩ := q
      simp only [Option.map_eq_some_iff] at e
      obtain ⟨k', f1, f2⟩ := e
      obtain ⟨b, ey, eb⟩ := keyT_rel rk f1
      refine ⟨a, valV kvs' k', e1, .inr ⟨kvs', k', b, .inl q1, ey, eb, rfl⟩, ?_⟩
      rw [← f2]
      exact q2.find k'
  | _ => simp at e
end
/-! ### comparing -/
section
variable {X : Cx}
theorem isNon_iff {K : PySem.W.Frag} {H : Hp} {m n : List Addr} {d : D} {v : V} (r : RelD K H m n d v) : d.isNon = decide (v = .non) := by
  cases d with
  | non => simp only [RelD] at r; rw [r]; rfl
  | bl b => simp only [RelD] at r; rw [r]; rfl
  | int b => simp only [RelD] at r; rw [r]; rfl
  | str b => simp only [RelD] at r; rw [r]; rfl
  | tup b => simp only [RelD] at r; obtain ⟨a, _, e, _⟩ := r; rw [e]; rfl
  | lst b => simp only [RelD] at r; obtain ⟨a, _, e, _⟩ := r; rw [e]; rfl
  | scr b => simp only [RelD] at r; obtain ⟨a, _, e, _⟩ := r; rw [e]; rfl
  | loc b => simp only [RelD] at r; obtain ⟨a, e, _⟩ := r; rw [e]; rfl
theorem in_ok (hu : X.A.units + 65 < cLine) {neg : Bool} : OpR X (compareOp (if neg then .NotIn else .In)) (fun x y H Q => ∃ d e, VH X.K [e, d] [y, x] (fun st => optR ((inD d e st).map fun b => D.bl (if neg then !b else b)) st) H Q) := by
  intro pins s sg H x y v u Q I rx ry ⟨d, e, m, n, st, Er, hs, hr, hp⟩
  obtain ⟨rd, re⟩ := two_of hr
  dsimp only at hp
  cases ei : inD d e st with
  | none => rw [ei] at hp; exact False.elim hp
  | some b =>
    rw [ei] at hp
    have hq : Q (.bl (if neg then !b else b)) H := here hp hs rBl
    unfold inD at ei
    split at ei
    · rename_i xs h1
      split at ei
      · rename_i hc
        simp only [Option.some.injEq] at ei
        simp only [Bool.and_eq_true] at hc
        obtain ⟨as, r1⟩ := Dp.reads I _ _ _ (RelD.dp _ _ 62 rd hc.1) rx
        have dp2 : Dp X.K H y (D.py (.tup xs)) := view_dp hs re (k := 63) (by rw [h1]; simpa [D.data] using hc.2) |> fun z => by rw [h1] at z; exact z
        obtain ⟨bs, r2⟩ := Dp.reads I _ _ _ dp2 ry
        have l1 := data_lay d 62 hc.1
        have l2 := data_layL xs 62 hc.2
        have room : X.A.units + 1 + min (PyData.depthAll (D.pyL xs)) d.py.depth < cLine := by omega
        cases neg with
        | false => exact SeqAt.in_tuple_reads r2 r1 l2.1 l1.1 room ⟨.bl _, H, I, rfl, by rw [pyL_any]; exact (by rw [← ei] at hq; exact hq)⟩
        | true => exact SeqAt.notIn_tuple_reads r2 r1 l2.1 l1.1 room ⟨.bl _, H, I, rfl, by rw [pyL_any]; exact (by rw [← ei] at hq; exact hq)⟩
      · cases ei
    · rename_i xs h1
      split at ei
      · rename_i hc
        simp only [Option.some.injEq] at ei
        simp only [Bool.and_eq_true] at hc
        obtain ⟨as, r1⟩ := Dp.reads I _ _ _ (RelD.dp _ _ 62 rd hc.1) rx
        have dp2 : Dp X.K H y (D.py (.lst xs)) := view_dp hs re (k := 63) (by rw [h1]; simpa [D.data] using hc.2) |> fun z => by rw [h1] at z; exact z
        obtain ⟨bs, r2⟩ := Dp.reads I _ _ _ dp2 ry
        have l1 := data_lay d 62 hc.1
        have l2 := data_layL xs 62 hc.2
        have room : X.A.units + 1 + min (PyData.depthAll (D.pyL xs)) d.py.depth < cLine := by omega
        cases neg with
        | false => exact SeqAt.in_list_reads r2 r1 l2.1 l1.1 room ⟨.bl _, H, I, rfl, by rw [pyL_any]; exact (by rw [← ei] at hq; exact hq)⟩
        | true => exact SeqAt.notIn_list_reads r2 r1 l2.1 l1.1 room ⟨.bl _, H, I, rfl, by rw [pyL_any]; exact (by rw [← ei] at hq; exact hq)⟩
      · cases ei
    · rename_i z h1
      split at ei
      · rename_i z'
        simp only [Option.some.injEq] at ei
        have ey := rel_str re h1
        simp only [RelD] at rd
        cases neg with
        | false => exact op_in_str pins s sg H x y v u Q I rx ry ⟨z', z, rd, ey, by rw [← ei] at hq; exact hq⟩
        | true => exact op_notin_str pins s sg H x y v u Q I rx ry ⟨z', z, rd, ey, by rw [← ei] at hq; exact hq⟩
      · cases ei
    · rename_i h0 h1 h2
      simp only [Option.map_eq_some_iff] at ei
      obtain ⟨r, g1, g2⟩ := ei
      cases ev : view st e with
      | loc j =>
        rw [ev] at g1
        rw [view_loc ev] at re
        obtain ⟨a, w, ex, dg, rel⟩ := getD_ok hs re rd g1
        subst ex
        cases ry
        have ew : w.isSome = b := by
          rcases rel with ⟨z1, z2⟩ | ⟨_, _, z1, z2, _⟩
          · rw [z2, ← g2, z1]; rfl
          · rw [z2, ← g2, z1]; rfl
        cases neg with
        | false => exact d_in (by omega) I dg rx fun s3 I3 => ⟨.bl w.isSome, H, I3, rfl, by rw [ew]; exact hq⟩
        | true => exact d_notIn (by omega) I dg rx fun s3 I3 => ⟨.bl (!w.isSome), H, I3, rfl, by rw [ew]; exact hq⟩
      | _ => rw [ev] at g1; simp [getD] at g1
theorem op_cmp (hu : X.A.units + 65 < cLine) {op : CmpOp} : OpR X (compareOp op) (fun x y H Q => ∃ d e, VH X.K [e, d] [y, x] (fun st => optR ((cmpD op d e st).map D.bl) st) H Q) := by
  cases op with
  | In => exact fun pins s sg H x y v u Q I rx ry h => in_ok hu (neg := false) pins s sg H x y v u Q I rx ry (by simpa [cmpD] using h)
  | NotIn =>
    intro pins s sg H x y v u Q I rx ry ⟨d, e, h⟩
    refine in_ok hu (neg := true) pins s sg H x y v u Q I rx ry ⟨d, e, ?_⟩
    simpa [cmpD, Option.map_map, Function.comp_def] using h
  | Eq =>
    intro pins s sg H x y v u Q I rx ry ⟨d, e, m, n, st, Er, hs, hr, hp⟩
    obtain ⟨rd, re⟩ := two_of hr
    unfold cmpD eqD at hp
    simp only at hp
    split at hp
    · simp only [RelD] at rd re
      refine op_eq pins s sg H x y v u Q I rx ry ⟨by rw [rd, re]; rfl, ?_⟩
      rw [rd, re]
      have q := here hp hs rBl
      rename_i a b
      have : decide (V.str a = V.str b) = decide (a = b) := by simp
      rw [this]; exact q
    · split at hp
      · rename_i hc
        simp only [Bool.and_eq_true] at hc
        exact op_eqD (by omega) pins s sg H x y v u Q I rx ry ⟨_, _, view_dp hs rd hc.1, view_dp hs re hc.2, data_shaped hc.1 (Nat.le_refl _), data_shaped hc.2 (Nat.le_refl _), here hp hs rBl⟩
      · exact False.elim hp
  | NotEq =>
    intro pins s sg H x y v u Q I rx ry ⟨d, e, m, n, st, Er, hs, hr, hp⟩
    obtain ⟨rd, re⟩ := two_of hr
    unfold cmpD eqD at hp
    simp only at hp
    split at hp
    · simp only [RelD] at rd re
      refine op_ne pins s sg H x y v u Q I rx ry ⟨by rw [rd, re]; rfl, ?_⟩
      rw [rd, re]
      have q := here hp hs rBl
      rename_i a b
      have : decide (V.str a = V.str b) = decide (a = b) := by simp
      rw [this]; exact q
    · split at hp
      · rename_i hc
        simp only [Bool.and_eq_true] at hc
        exact op_neD (by omega) pins s sg H x y v u Q I rx ry ⟨_, _, view_dp hs rd hc.1, view_dp hs re hc.2, data_shaped hc.1 (Nat.le_refl _), data_shaped hc.2 (Nat.le_refl _), here hp hs rBl⟩
      · exact False.elim hp
  | Lt =>
    intro pins s sg H x y v u Q I rx ry ⟨d, e, m, n, st, Er, hs, hr, hp⟩
    obtain ⟨rd, re⟩ := two_of hr
    unfold cmpD ltD at hp
    simp only at hp
    split at hp
    · rename_i hc
      simp only [Bool.and_eq_true, Bool.not_eq_true'] at hc
      obtain ⟨⟨⟨c1, c2⟩, c3⟩, c4⟩ := hc
      obtain ⟨as, r1⟩ := Dp.reads I _ _ _ (RelD.dp _ _ 60 rd c1) rx
      obtain ⟨bs, r2⟩ := Dp.reads I _ _ _ (RelD.dp _ _ 60 re c2) ry
      have l1 := (data_lay d 60 c1).2
      refine PySem.W.rcLt_alike d.py e.py X.A s v u as bs r1 r2 c3 (fun z => ?_) (by omega) _ _ _ _ ⟨.bl _, H, I, rfl, here hp hs rBl⟩
      cases d <;> first | (cases c4; done) | (simp [D.py] at z; done) | (simp [D.data] at c1)
    · exact False.elim hp
  | LtE =>
    intro pins s sg H x y v u Q I rx ry ⟨d, e, m, n, st, Er, hs, hr, hp⟩
    obtain ⟨rd, re⟩ := two_of hr
    unfold cmpD at hp
    simp only at hp
    split at hp
    · simp only [RelD] at rd re
      exact op_le pins s sg H x y v u Q I rx ry ⟨_, _, rd, re, here hp hs rBl⟩
    · exact False.elim hp
  | Gt =>
    intro pins s sg H x y v u Q I rx ry ⟨d, e, m, n, st, Er, hs, hr, hp⟩
    obtain ⟨rd, re⟩ := two_of hr
    unfold cmpD at hp
    simp only at hp
    split at hp
    · simp only [RelD] at rd re
      exact op_gt pins s sg H x y v u Q I rx ry ⟨_, _, rd, re, here hp hs rBl⟩
    · exact False.elim hp
  | GtE =>
    intro pins s sg H x y v u Q I rx ry ⟨d, e, m, n, st, Er, hs, hr, hp⟩
    obtain ⟨rd, re⟩ := two_of hr
    unfold cmpD at hp
    simp only at hp
    split at hp
    · simp only [RelD] at rd re
      exact op_ge pins s sg H x y v u Q I rx ry ⟨_, _, rd, re, here hp hs rBl⟩
    · exact False.elim hp
  | Is =>
    intro pins s sg H x y v u Q I rx ry ⟨d, e, m, n, st, Er, hs, hr, hp⟩
    obtain ⟨rd, re⟩ := two_of hr
    unfold cmpD isD at hp
    simp only at hp
    split at hp
    · simp only [RelD] at re
      exact op_isN pins s sg H x y v u Q I rx ry ⟨re, by rw [← isNon_iff rd]; exact here hp hs rBl⟩
    · simp only [RelD] at rd re
      exact op_isBl pins s sg H x y v u Q I rx ry ⟨_, _, rd, re, by rw [← Bool.beq_eq_decide_eq]; exact here hp hs rBl⟩
    · exact False.elim hp
  | IsNot =>
    intro pins s sg H x y v u Q I rx ry ⟨d, e, m, n, st, Er, hs, hr, hp⟩
    obtain ⟨rd, re⟩ := two_of hr
    unfold cmpD isD at hp
    simp only at hp
    split at hp
    · simp only [RelD] at re
      exact op_notN pins s sg H x y v u Q I rx ry ⟨re, by rw [← isNon_iff rd]; exact here hp hs rBl⟩
    · simp only [RelD] at rd re
      exact op_notBl pins s sg H x y v u Q I rx ry ⟨_, _, rd, re, by rw [← Bool.beq_eq_decide_eq]; exact here hp hs rBl⟩
    · exact False.elim hp
end
end WT

set_option Elab.async false
set_option linter.all false
set_option maxRecDepth 100000
set_option maxHeartbeats 1000000
/-! WT4: going over enumerate and zip of lists and tuples in any mixture. -/
namespace WT
open PySem PySem.Spec PyProof.Rows L2

/-- a tuple (t) or a list -/
def SqA (K : PySem.W.Frag) (H : Hp) (t : Bool) (a : Addr) (xs : List V) : Prop := if t then SqT K H a xs else SqL K H a xs
def sqI (t : Bool) (h : Heap) (it a : Addr) (i : Nat) : Prop := if t then h.IsTupleIter it a i else h.IsListIter it a i
def sqAt (t : Bool) (h : Heap) (a : Addr) (its : Array Value) : Prop := if t then h.IsTuple a its else h.IsList a its
def sqO (t : Bool) (a : Addr) : Obj := if t then { cls := .type "tuple_iterator", data := .fields #[.ref a, .int 0 0] } else { cls := .type "list_iterator", data := .fields #[.ref a, .int 0 0] }
theorem begins_sq (t : Bool) (a : Addr) (its : Array Value) : Begins (.ref a) (sqO t a) fun h => sqAt t h a its := by
  cases t
  · exact begins_list a its
  · exact begins_tuple a its
theorem draws_sq {prog : Program} {w : World} {A : Around} (t : Bool) (hh : A.handled = none) (it a : Addr) (hne : a ≠ it) (its : Array Value) :
    Draws prog w A it [it, a] its.size (fun i v => its[i]? = some v) (fun i h => sqI t h it a i ∧ sqAt t h a its) := by
  cases t
  · exact Draws.list hh it a hne its
  · exact Draws.tuple hh it a hne its
theorem sqI_live {t : Bool} {h : Heap} {it a : Addr} {i : Nat} (s : sqI t h it a i) : ∃ o, h.get? it = some o ∧ ∀ v, o.data ≠ .cell v := by
  cases t
  · obtain ⟨o, ho, hc, hd⟩ := (show h.IsListIter it a i from s)
    exact ⟨o, ho, fun v q => by rw [hd] at q; cases q⟩
  · obtain ⟨o, ho, hc, hd⟩ := (show h.IsTupleIter it a i from s)
    exact ⟨o, ho, fun v q => by rw [hd] at q; cases q⟩
theorem sqI_keep {t : Bool} {h h' : Heap} {it a : Addr} {i : Nat} (s : sqI t h it a i) (k : ∀ o, h.get? it = some o → h'.get? it = some o) : sqI t h' it a i := by
  cases t
  · exact (show h.IsListIter it a i from s).at fun o q => k o q
  · exact (show h.IsTupleIter it a i from s).at fun o q => k o q
theorem sqI_new {t : Bool} {h : Heap} {it a : Addr} (e : h.get? it = some (sqO t a)) : sqI t h it a 0 := by
  cases t
  · exact ⟨_, e, rfl, rfl⟩
  · exact ⟨_, e, rfl, rfl⟩
section
variable {X : Cx} {pins : List (Addr × Obj)} {σ : L2.St} {H : Hp} {s : Shared}
theorem sqA_its {t : Bool} {a : Addr} {xs : List V} (I : Inv X pins σ H s) (h : SqA X.K H t a xs) : ∃ its : List Value, Vals xs its ∧ sqAt t s.heap a its.toArray ∧ a < s.heap.objs.size := by
  cases t
  · obtain ⟨its, rv, p, _⟩ := I.list (show SqL X.K H a xs from h)
    exact ⟨its, rv, p.isList, p.lt⟩
  · obtain ⟨its, rv, p, _⟩ := I.tuple (show SqT X.K H a xs from h)
    obtain ⟨o, ho, r⟩ := id p
    exact ⟨its, rv, ⟨o, ho, r⟩, Heap.lt_size ho⟩
theorem sqA_inj {t : Bool} {a : Addr} {xs ys : List V} (I : Inv X pins σ H s) (h : SqA X.K H t a xs) (h' : SqA X.K H t a ys) : xs = ys := by
  cases t
  · exact I.list_inj h h'
  · exact I.tuple_inj h h'
end
/-! ### enumerate -/
/-- the index and the item of the sequence at a, each in a new pair -/
def ItEn (K : PySem.W.Frag) (t : Bool) (a : Addr) : It :=
  ⟨fun i H => ∃ (xs : List V) (x : V), SqA K H t a xs ∧ xs[i]? = some x,
    fun i H v H' => ∃ T x, v = .ref T ∧ H T = none ∧ H' = upd H T (.tup [.int (i : Nat), x]) ∧ ∀ xs, SqA K H t a xs → xs[i]? = some x,
    fun i H => ∃ xs : List V, SqA K H t a xs ∧ xs.length = i⟩
theorem turn_en {P : Program} {w : World} {K : PySem.W.Frag} {elts : List Expr} {kk : Nat} {tpos : Pos} (t : Bool) (a e it : Addr) :
    Turn P w K (.Tuple elts kk tpos) (ItEn K t a) [e, it] e (fun i h => (∃ old, IsEnum h e it ((0 : Int) + (i : Nat)) old) ∧ sqI t h it a i ∧ e ≠ it ∧ a ≠ it ∧ a ≠ e) where
  mem := by simp
  obj := fun i h st b hb => by
    obtain ⟨⟨old, he⟩, hi, _⟩ := st
    rcases (show b = e ∨ b = it by simpa using hb) with z | z
    · rw [z]; exact ⟨_, he, fun v q => nomatch q⟩
    · rw [z]; exact sqI_live hi
  keep := fun i h h' st k => by
    obtain ⟨⟨old, he⟩, hi, hne⟩ := st
    exact ⟨⟨old, k e (by simp) _ he⟩, sqI_keep hi fun o q => k it (by simp) o q, hne⟩
  item := by
    intro X hP hw hK hc i pins s σ H E I hf st hg
    subst hP hw hK
    obtain ⟨he, hit, hne, ha1, ha2⟩ := st
    obtain ⟨xs, x, hq, hx⟩ := hg
    obtain ⟨its, rv, p, hz⟩ := sqA_its I hq
    have hl := rv.length
    have hlt : i < its.length := by rw [← hl]; exact (List.getElem?_eq_some_iff.mp hx).1
    have W := GoesN.enumFrom (prog := X.prog) (w := X.w) (elts := elts) (x1 := kk) (pos := tpos) 0 (draws_sq (prog := X.prog) (w := X.w) (A := X.A.in1) t (I.ok.hd hc) it a ha1 its.toArray) e hne (by simp; exact ⟨hne, Ne.symm ha2⟩) (by simp)
    refine wpAny_mono (W.goes i s _ E (by simpa using hlt) ⟨he, hit, p⟩ fun v h' tk hY hst hk htk => ?_) (fun _ _ h => h) fun _ _ h => h
    obtain ⟨T, tt, u, rfl, hT, hu, hTu⟩ := hY
    obtain ⟨u', hu', ru⟩ := rv.get hx
    have eu : u = u' := by
      have : its[i]? = some u := by simpa using hu
      rw [hu'] at this; exact (Option.some.inj this).symm
    subst eu
    have e0 : (0 : Int) + (i : Nat) = ((i : Nat) : Int) := by omega
    have new : ObjOk X.prog X.w (upd H T (.tup [.int (i : Nat), x])) h' T (.tup [.int (i : Nat), x]) :=
      ⟨by show 2 ≤ sizeLine; decide, [.int ((0 : Int) + (i : Nat)) tt, u], .cons ⟨tt, by rw [e0]⟩ (.cons ru .nil), hTu⟩
    have I1 := I.turnedNew (t' := tk) (ch := [e, it]) (fun b ob hb q => hk b ob hb q) hf hT new
    refine ⟨.ref T, _, I1, rfl, ⟨T, x, rfl, I.hok.fresh hT, rfl, fun ys hy => by rw [sqA_inj I hy hq]; exact hx⟩, ?_, fun b hb => ?_⟩
    · exact ⟨hst.1, hst.2.1, hne, ha1, ha2⟩
    · have hb' : b < s.heap.objs.size := by
        rcases (show b = e ∨ b = it by simpa using hb) with z | z
        · obtain ⟨_, q⟩ := he; rw [z]; exact Heap.lt_size q
        · obtain ⟨_, q, _⟩ := sqI_live hit; rw [z]; exact Heap.lt_size q
      rw [upd_ne (Nat.ne_of_lt (Nat.lt_of_lt_of_le hb' hT))]
      exact (hf b hb).1
  done := by
    intro X hP hw hK hc i pins s σ H E I hf st hg
    subst hP hw hK
    obtain ⟨he, hit, hne, ha1, ha2⟩ := st
    obtain ⟨xs, hq, hx⟩ := hg
    obtain ⟨its, rv, p, hz⟩ := sqA_its I hq
    have hl := rv.length
    have hi : i = its.toArray.size := by simp; omega
    have W := GoesN.enumFrom (prog := X.prog) (w := X.w) (elts := elts) (x1 := kk) (pos := tpos) 0 (draws_sq (prog := X.prog) (w := X.w) (A := X.A.in1) t (I.ok.hd hc) it a ha1 its.toArray) e hne (by simp; exact ⟨hne, Ne.symm ha2⟩) (by simp)
    exact W.stops s _ E (by rw [← hi]; exact ⟨he, hit, p⟩) fun h' tk hk htk => I.turnedL (t' := tk) (ch := [e, it]) (fun b ob hb q => hk b ob hb q) hf
  self := fun A i s Q E st h => let ⟨⟨_, he⟩, _⟩ := st; wpAny_pyIter_enum he h
/-- enumerate(v): v begins -/
theorem en_new1 {v : Value} {o : Obj} {G : Heap → Prop} (B : Begins v o G) :
    Meets (Builtin.«enumerate.__new__» ⟨[.type "enumerate", v], []⟩) (fun _ R s => G s.heap ∧
      R (.ok (.ret (.ref (s.heap.push o).objs.size))) { s with heap := (s.heap.push o).push { cls := .type "enumerate", data := .fields #[.none, .bool false, .ref s.heap.objs.size, rawInt 0, .none, .none] } }) :=
  .of_wp fun prog w A R s ha => by
    obtain ⟨hp, gg, dr, tk, os⟩ := s
    obtain ⟨hv, ha⟩ := ha
    have hsub := sub_enumerate
    have road : ∀ {A' : Around} {E Q : Value → Shared → Prop}, Q (.ref hp.objs.size) ⟨hp.push o, gg, dr, tk, os⟩ → wpAny (model prog w) A' (pyIter v) Q E ⟨hp, gg, dr, tk, os⟩ :=
      fun q => B.iter prog w _ _ ⟨hp, gg, dr, tk, os⟩ _ hv q
    wp_walk using road
    refine wpAny_stack_any fun stk => wpAny_pure ?_
    split
    · rename_i cc _ _ _ _ _
      cases (cc == Value.type "enumerate") <;> (wp_walk using road; exact ⟨_, rfl, ha⟩)
    · wp_walk using road
      exact ⟨_, rfl, ha⟩
theorem call_en {prog : Program} {w : World} {A : Around} {E : Value → Shared → Prop} {s : Shared} {v : Value} {o : Obj} {G : Heap → Prop} {Q : Value → Shared → Prop} (B : Begins v o G) (h1 : G s.heap)
    (h : ∀ h', IsEnum h' (s.heap.objs.size + 1) s.heap.objs.size 0 .none → h'.get? s.heap.objs.size = some o → (∀ b o, s.heap.get? b = some o → h'.get? b = some o) → Q (.ref (s.heap.objs.size + 1)) { s with heap := h' }) :
    wpAny (model prog w) A (call (.type "enumerate") [v]) Q E s := by
  refine callType_new F.called_enumerate (by decide) (F.typeCall_enumerate_1 _) (F.newCall_enumerate_1 _) (fun obj => F.args_object_init_2 obj _) F.entry_enumerate_new (en_new1 B) ⟨h1, ?_⟩
  have hz : (s.heap.push o).objs.size = s.heap.objs.size + 1 := Heap.size_push ..
  show _ ∧ _
  rw [hz]
  have he : IsEnum ((s.heap.push o).push { cls := .type "enumerate", data := .fields #[.none, .bool false, .ref s.heap.objs.size, rawInt 0, .none, .none] }) (s.heap.objs.size + 1) s.heap.objs.size 0 .none := by
    have q := Heap.get?_push_size (s.heap.push o) (o := { cls := .type "enumerate", data := .fields #[.none, .bool false, .ref s.heap.objs.size, rawInt 0, .none, .none] }) rfl
    rw [hz] at q; exact q
  exact ⟨⟨_, he, rfl⟩, h _ he (Heap.get?_push_of_some _ (Heap.get?_push_size _ B.free)) fun b o x => Heap.get?_push_of_some _ (Heap.get?_push_of_some _ x)⟩
def iEn (K : PySem.W.Frag) (ta : TA) : TI := fun σ H R => ta σ H fun vs H1 => ∃ t a xs, vs = [.ref a] ∧ SqA K H1 t a xs ∧ R (ItEn K t a) H1
theorem pi_en {X : Cx} {e : Expr} {ta : TA} {p pos tpos : Pos} {elts : List Expr} {kk : Nat} (hg : Gl X "enumerate") (hm : X.mg "enumerate" = none) (ha : PA X [e] ta) (hs : starEach [e] X.env = [(false, eval e X.env)] := by rfl) :
    PI X (.Tuple elts kk tpos) (.Call (.Name "enumerate" p) [e] [] pos) (iEn X.K ta) := by
  refine ⟨fun pins s σ H R I h => Call_ (ld_blt I hg hm boot_enumerate (PyProof.Rows.callWith_type1 (thn (ha.run pos pins s σ H _ I h) fun us s1 ⟨vs, H1, I1, r1, q1⟩ => ?_) hs rfl))⟩
  obtain ⟨t, a, xs, ex, hq, q⟩ := q1
  subst ex
  obtain ⟨u, rfl, ru⟩ := vals1 r1
  obtain rfl : u = Value.ref a := ru
  obtain ⟨its, rv, pa, hlt⟩ := sqA_its I1 hq
  refine call_en (begins_sq t a its.toArray) pa fun h' he hit hk => wpAny_pyIter_enum he ?_
  have I2 : Inv X pins σ H1 { s1 with heap := h' } := I1.kept (t' := s1.toks) hk
  refine ⟨s1.heap.objs.size + 1, [s1.heap.objs.size + 1, s1.heap.objs.size], _, _, H1, rfl, I2, turn_en t a (s1.heap.objs.size + 1) s1.heap.objs.size, ⟨⟨.none, he⟩, sqI_new hit, Nat.succ_ne_self _, Nat.ne_of_lt hlt, Nat.ne_of_lt (Nat.lt_succ_of_lt hlt)⟩, fun b hb => ?_, q⟩
  have hle : s1.heap.objs.size ≤ b := by
    rcases (show b = s1.heap.objs.size + 1 ∨ b = s1.heap.objs.size by simpa using hb) with z | z
    · rw [z]; exact Nat.le_add_right _ _
    · rw [z]; exact Nat.le_refl _
  exact I1.fpOk hle (I1.hok.fresh hle)
/-! ### zip of two -/
def ItZ (K : PySem.W.Frag) (t t' : Bool) (a b : Addr) : It :=
  ⟨fun i H => ∃ (xs ys : List V) (x y : V), SqA K H t a xs ∧ SqA K H t' b ys ∧ xs[i]? = some x ∧ ys[i]? = some y,
    fun i H v H' => ∃ T x y, v = .ref T ∧ H T = none ∧ H' = upd H T (.tup [x, y]) ∧ (∀ xs, SqA K H t a xs → xs[i]? = some x) ∧ ∀ ys, SqA K H t' b ys → ys[i]? = some y,
    fun i H => ∃ xs ys : List V, SqA K H t a xs ∧ SqA K H t' b ys ∧ min xs.length ys.length = i⟩
theorem turn_z {P : Program} {w : World} {K : PySem.W.Frag} {elts : List Expr} {kk : Nat} {tpos : Pos} (t t' : Bool) {a b z TI TO i1 i2 : Addr} (S : ZipSep2 z TI TO i1 i2 [i1, a] [i2, b]) (n1 : a ≠ i1) (n2 : b ≠ i2) :
    Turn P w K (.Tuple elts kk tpos) (ItZ K t t' a b) [z, TI, TO, i1, i2] z (fun i h => IsZip h z TI TO .none ∧ IsTupOf2 h TI (.ref i1) (.ref i2) ∧ (∃ x y, IsTupOf2 h TO x y) ∧ sqI t h i1 a i ∧ sqI t' h i2 b i) where
  mem := by simp
  obj := fun i h st c hc => by
    obtain ⟨hz, hTI, ⟨x, y, hTO⟩, h1, h2⟩ := st
    rcases (show c = z ∨ c = TI ∨ c = TO ∨ c = i1 ∨ c = i2 by simpa using hc) with q | q | q | q | q
    · rw [q]; exact ⟨_, hz, fun v q => nomatch q⟩
    · rw [q]; exact ⟨_, hTI, fun v q => nomatch q⟩
    · rw [q]; exact ⟨_, hTO, fun v q => nomatch q⟩
    · rw [q]; exact sqI_live h1
    · rw [q]; exact sqI_live h2
  keep := fun i h h' st k => by
    obtain ⟨hz, hTI, ⟨x, y, hTO⟩, h1, h2⟩ := st
    exact ⟨k z (by simp) _ hz, k TI (by simp) _ hTI, ⟨x, y, k TO (by simp) _ hTO⟩, sqI_keep h1 fun o q => k i1 (by simp) o q, sqI_keep h2 fun o q => k i2 (by simp) o q⟩
  item := by
    intro X hP hw hK hc i pins s σ H E I hf st hg
    subst hP hw hK
    obtain ⟨hz, hTI, hTO, h1, h2⟩ := st
    obtain ⟨xs, ys, x, y, hqx, hqy, hx, hy⟩ := hg
    obtain ⟨its, rv, p, _⟩ := sqA_its I hqx
    obtain ⟨its2, rv2, p2, _⟩ := sqA_its I hqy
    have l1 := rv.length
    have l2 := rv2.length
    have m1 := (List.getElem?_eq_some_iff.mp hx).1
    have m2 := (List.getElem?_eq_some_iff.mp hy).1
    have W := GoesN.zip2 (prog := X.prog) (w := X.w) (elts := elts) (x1 := kk) (pos := tpos) S (draws_sq (prog := X.prog) (w := X.w) (A := X.A.in1) t (I.ok.hd hc) i1 a n1 its.toArray) (draws_sq (prog := X.prog) (w := X.w) (A := X.A.in1) t' (I.ok.hd hc) i2 b n2 its2.toArray)
    have live : ∀ c ∈ [z, TI, TO, i1, i2], c < s.heap.objs.size := fun c hcm => by
      rcases (show c = z ∨ c = TI ∨ c = TO ∨ c = i1 ∨ c = i2 by simpa using hcm) with q | q | q | q | q
      · rw [q]; exact Heap.lt_size hz
      · rw [q]; exact Heap.lt_size hTI
      · obtain ⟨_, _, r⟩ := hTO; rw [q]; exact Heap.lt_size r
      · obtain ⟨_, r, _⟩ := sqI_live h1; rw [q]; exact Heap.lt_size r
      · obtain ⟨_, r, _⟩ := sqI_live h2; rw [q]; exact Heap.lt_size r
    refine wpAny_mono (W.goes i s _ E (by simp; omega) ⟨hz, hTI, hTO, ⟨h1, p⟩, h2, p2⟩ fun v h' tk hY hst hk htk => ?_) (fun _ _ h => h) fun _ _ h => h
    obtain ⟨T, u, u2, rfl, hT, hu, hu2, hTu⟩ := hY
    obtain ⟨v1, hv1, r1⟩ := rv.get hx
    obtain ⟨v2, hv2, r2⟩ := rv2.get hy
    have e1 : u = v1 := by
      have : its[i]? = some u := by simpa using hu
      rw [hv1] at this; exact (Option.some.inj this).symm
    have e2 : u2 = v2 := by
      have : its2[i]? = some u2 := by simpa using hu2
      rw [hv2] at this; exact (Option.some.inj this).symm
    subst e1 e2
    have new : ObjOk X.prog X.w (upd H T (.tup [x, y])) h' T (.tup [x, y]) :=
      ⟨by show 2 ≤ sizeLine; decide, [u, u2], .cons r1 (.cons r2 .nil), hTu⟩
    have I1 := I.turnedNew (t' := tk) (ch := [z, TI, TO, i1, i2]) (fun b ob hb q => hk b ob (fun m => hb (by
      rcases (show b = z ∨ b = TO ∨ b = i1 ∨ b = i2 by simpa using m) with q | q | q | q <;> simp [q])) q) hf hT new
    refine ⟨.ref T, _, I1, rfl, ⟨T, x, y, rfl, I.hok.fresh hT, rfl, fun l hl => by rw [sqA_inj I hl hqx]; exact hx, fun l hl => by rw [sqA_inj I hl hqy]; exact hy⟩, ?_, fun c hcm => ?_⟩
    · exact ⟨hst.1, hst.2.1, hst.2.2.1, hst.2.2.2.1.1, hst.2.2.2.2.1⟩
    · rw [upd_ne (Nat.ne_of_lt (Nat.lt_of_lt_of_le (live c hcm) hT))]
      exact (hf c hcm).1
  done := by
    intro X hP hw hK hc i pins s σ H E I hf st hg
    subst hP hw hK
    obtain ⟨hz, hTI, hTO, h1, h2⟩ := st
    obtain ⟨xs, ys, hqx, hqy, hi⟩ := hg
    obtain ⟨its, rv, p, _⟩ := sqA_its I hqx
    obtain ⟨its2, rv2, p2, _⟩ := sqA_its I hqy
    have l1 := rv.length
    have l2 := rv2.length
    have W := GoesN.zip2 (prog := X.prog) (w := X.w) (elts := elts) (x1 := kk) (pos := tpos) S (draws_sq (prog := X.prog) (w := X.w) (A := X.A.in1) t (I.ok.hd hc) i1 a n1 its.toArray) (draws_sq (prog := X.prog) (w := X.w) (A := X.A.in1) t' (I.ok.hd hc) i2 b n2 its2.toArray)
    have hi' : min its.toArray.size its2.toArray.size = i := by simp; omega
    exact W.stops s _ E (by rw [hi']; exact ⟨hz, hTI, hTO, ⟨h1, p⟩, h2, p2⟩) fun h' tk hk htk => I.turnedL (t' := tk) (ch := [z, TI, TO, i1, i2]) (fun b ob hb q => hk b ob (fun m => hb (by
      rcases (show b = z ∨ b = TO ∨ b = i1 ∨ b = i2 by simpa using m) with q | q | q | q <;> simp [q])) q) hf
  self := fun A i s Q E st h => wpAny_pyIter_zip st.1 h
def iZ (K : PySem.W.Frag) (ta : TA) : TI := fun σ H R => ta σ H fun vs H1 => ∃ t t' a b xs ys, vs = [.ref a, .ref b] ∧ SqA K H1 t a xs ∧ SqA K H1 t' b ys ∧ R (ItZ K t t' a b) H1
theorem pi_z {X : Cx} {e e2 : Expr} {ta : TA} {p pos tpos : Pos} {elts : List Expr} {kk : Nat} (hg : Gl X "zip") (hm : X.mg "zip" = none) (ha : PA X [e, e2] ta)
    (hs : starEach [e, e2] X.env = (false, eval e X.env) :: starEach [e2] X.env := by rfl) (hpl : (backTo pos (starEach [e2] X.env)).any (·.1) = false := by rfl) :
    PI X (.Tuple elts kk tpos) (.Call (.Name "zip" p) [e, e2] [] pos) (iZ X.K ta) := by
  refine ⟨fun pins s σ H R I h => Call_ (ld_blt I hg hm PyProof.Rows.boot_zip (PyProof.Rows.callWith_type1 (thn (ha.run pos pins s σ H _ I h) fun us s1 ⟨vs, H1, I1, r1, q1⟩ => ?_) hs hpl))⟩
  obtain ⟨t, t', a, b, xs, ys, ex, hqx, hqy, q⟩ := q1
  subst ex
  obtain ⟨u, u2, rfl, ru, ru2⟩ := vals2 r1
  obtain rfl : u = Value.ref a := ru
  obtain rfl : u2 = Value.ref b := ru2
  obtain ⟨its, rv, p1, l1⟩ := sqA_its I1 hqx
  obtain ⟨its2, rv2, p2, l2⟩ := sqA_its I1 hqy
  refine zip_begins2 (begins_sq t a its.toArray) (begins_sq t' b its2.toArray) p1 p2 fun h' hz hTI hTO h1 h2 hsz hk => wpAny_pyIter_zip hz ?_
  have I2 : Inv X pins σ H1 { s1 with heap := h' } := I1.kept (t' := s1.toks) hk
  refine ⟨s1.heap.objs.size + 4, [s1.heap.objs.size + 4, s1.heap.objs.size + 2, s1.heap.objs.size + 3, s1.heap.objs.size, s1.heap.objs.size + 1], _, _, H1, rfl, I2,
    turn_z t t' (zip_sep2 (fp1 := [a]) (fp2 := [b]) (fun c hc => by rw [List.mem_singleton.mp hc]; exact l1) (fun c hc => by rw [List.mem_singleton.mp hc]; exact l2)) (Nat.ne_of_lt l1) (Nat.ne_of_lt (Nat.lt_succ_of_lt l2)),
    ⟨hz, hTI, ⟨_, _, hTO⟩, sqI_new h1, sqI_new h2⟩, fun c hcm => ?_, q⟩
  have hle : s1.heap.objs.size ≤ c := by
    rcases (show c = s1.heap.objs.size + 4 ∨ c = s1.heap.objs.size + 2 ∨ c = s1.heap.objs.size + 3 ∨ c = s1.heap.objs.size ∨ c = s1.heap.objs.size + 1 by simpa using hcm) with z | z | z | z | z
    all_goals (rw [z]; first | exact Nat.le_add_right _ _ | exact Nat.le_refl _)
  exact I1.fpOk hle (I1.hok.fresh hle)
end WT

set_option Elab.async false
set_option linter.all false
set_option maxRecDepth 100000
set_option maxHeartbeats 1000000
/-! WT5: subscripts, slices, built-ins, methods, writing. -/
namespace WT
open PySem PySem.Spec PyProof.Rows L2
section
variable {X : Cx}
/-! ### a[i] -/
theorem atI_of {α : Type} {xs : List α} {i : Int} {d : α} (h : at? xs i = some d) : atI xs i = some d := by
  unfold at? at h
  unfold atI ixN
  by_cases h0 : 0 ≤ i
  · rw [if_pos h0] at h ⊢
    have := (List.getElem?_eq_some_iff.mp h).1
    rw [if_pos (by omega)]; exact h
  · rw [if_neg h0] at h ⊢
    split at h
    · rename_i h1
      rw [if_pos h1]; exact h
    · cases h
theorem at_rel {K : PySem.W.Frag} {H : Hp} {m n : List Addr} {ds : List D} {vs : List V} {i : Int} {d : D} (r : RelL K H m n ds vs) (h : at? ds i = some d) : ∃ v, atI vs i = some v ∧ RelD K H m n d v := by
  have e := r.length
  unfold at? at h
  split at h
  · rename_i h0
    obtain ⟨v, h1, h2⟩ := r.get h
    exact ⟨v, atI_of (by unfold at?; rw [if_pos h0]; exact h1), h2⟩
  · rename_i h0
    split at h
    · rename_i h1
      obtain ⟨v, h2, h3⟩ := r.get h
      exact ⟨v, atI_of (by unfold at?; rw [if_neg h0, if_pos (by rw [← e]; exact h1), ← e]; exact h2), h3⟩
    · cases h
theorem DGet.ty {pins : List (Addr × Obj)} {σ : L2.St} {H : Hp} {s : Shared} {a : Addr} {y : V} {w : Option V} (I : Inv X pins σ H s) (g : DGet H a y w) : s.TypeIs (.ref a) "dict" := by
  have k1 : ∀ kvs : List (Key × V), Rd H a (.dK kvs) → s.TypeIs (.ref a) "dict" := fun kvs e => by
    rcases e with e | ⟨o, e⟩
    · obtain ⟨_, _, vs, _, o, es, ep, h1, h2, _⟩ := (show ObjOk X.prog X.w H s.heap a (.dK kvs) from I.hok a _ e)
      exact ⟨o, h1, h2.1⟩
    · obtain ⟨_, _, _, vs, _, o, es, ep, h1, h2, _⟩ := (show ObjOk X.prog X.w H s.heap a (.frz o (.dK kvs)) from I.hok a _ e)
      exact ⟨o, h1, h2.1⟩
  have k2 : ∀ kvs : List (List Key × V), Rd H a (.dT kvs) → s.TypeIs (.ref a) "dict" := fun kvs e => by
    rcases e with e | ⟨o, e⟩
    · obtain ⟨_, _, vs, _, o, es, ep, h1, h2, _⟩ := (show ObjOk X.prog X.w H s.heap a (.dT kvs) from I.hok a _ e)
      exact ⟨o, h1, h2.1⟩
    · obtain ⟨_, _, _, vs, _, o, es, ep, h1, h2, _⟩ := (show ObjOk X.prog X.w H s.heap a (.frz o (.dT kvs)) from I.hok a _ e)
      exact ⟨o, h1, h2.1⟩
  rcases g with ⟨kvs, k, h1, _⟩ | ⟨kvs, k, b, h1, _⟩
  · exact k1 _ h1
  · exact k2 _ h1
theorem ix_ok (hu : X.A.units + 1 < cLine) : IxR X (fun x y H Q => ∃ d e, VH X.K [e, d] [y, x] (ixD d e) H Q) := by
  intro value slice pins s σ H x y v u Q I rx ry ⟨d, e, m, n, st, Er, hs, hr, hp⟩ hsub
  obtain ⟨rd, re⟩ := two_of hr
  unfold ixD at hp
  split at hp
  · rename_i xs i h1
    obtain ⟨a, vs, e1, e2, e3⟩ := rel_tup rd h1
    simp only [RelD] at re
    cases ha : at? xs i with
    | none => rw [ha] at hp; exact False.elim hp
    | some z =>
      rw [ha] at hp
      obtain ⟨w, h2, h3⟩ := at_rel e3 ha
      exact ix_tup value slice pins s σ H x y v u Q I rx ry ⟨a, vs, i, w, e1, re, SqT.of e2, h2, here hp hs h3⟩ hsub
  · rename_i xs i h1
    obtain ⟨a, vs, e1, e2, e3⟩ := view_lst hs rd h1
    simp only [RelD] at re
    cases ha : at? xs i with
    | none => rw [ha] at hp; exact False.elim hp
    | some z =>
      rw [ha] at hp
      obtain ⟨w, h2, h3⟩ := at_rel e3 ha
      exact ix_list value slice pins s σ H x y v u Q I rx ry ⟨a, vs, i, w, e1, re, SqL.of e2, h2, here hp hs h3⟩ hsub
  · rename_i z i h1
    have ex := rel_str rd h1
    simp only [RelD] at re
    split at hp
    · rename_i hl
      cases ha : at? z.cps.toList i with
      | none => rw [ha] at hp; exact False.elim hp
      | some c =>
        rw [ha] at hp
        exact ix_str value slice pins s σ H x y v u Q I rx ry ⟨z, i, c, ex, re, hl, atI_of ha, here hp hs rStr⟩ hsub
    · exact False.elim hp
  · rename_i e' z1 z2 h1 h2 h3
    cases ev : view st d with
    | loc j =>
      rw [ev] at hp
      cases eg : getD (.loc j) e' st with
      | none => rw [eg] at hp; exact False.elim hp
      | some r =>
        rw [eg] at hp
        cases r with
        | none => exact False.elim hp
        | some z =>
          rw [view_loc ev] at rd
          obtain ⟨a, w, ex, dg, rel⟩ := getD_ok hs rd re eg
          subst ex
          cases rx
          rcases rel with ⟨q, _⟩ | ⟨d', v', q1, q2, q3⟩
          · cases q
          · cases q1
            subst q2
            exact tail_any (DGet.ty I dg) slot_dict_getitem.lookup (d_getItem hu I dg ry fun w' s' I' r' => ⟨v', H, I', r', here hp hs q3⟩) hsub
    | _ => rw [ev] at hp; exact False.elim (by simpa [getD, Res.Post] using hp)
/-! ### a[lo:hi], a[::-1] -/
theorem cutI_eq (n d : Nat) (o : Option Int) : cutI n d o = HT.sIx n d o := by
  cases o with
  | none => rfl
  | some i =>
    unfold cutI HT.sIx
    dsimp only
    by_cases h : 0 ≤ i
    · rw [if_pos h, if_neg (by omega)]
    · rw [if_neg h, if_pos (by omega)]
theorem cut_rel {K : PySem.W.Frag} {H : Hp} {m n : List Addr} {ds : List D} {vs : List V} (r : RelL K H m n ds vs) (lo hi : Option Int) : RelL K H m n (cutL ds lo hi) (cutV vs lo hi) := by
  unfold cutL cutV
  rw [cutI_eq, cutI_eq, r.length]
  exact (r.drop _).take _
theorem sl_ok {al : Bool} : SlR X (fun x lo hi H Q => ∃ d l h, VH X.K [d] [x] (slD al d l h) H Q ∧ partD l = some lo ∧ partD h = some hi) := by
  intro pins s σ H x v vl vu lo hi sl Q I rx hsl pl pu ⟨d, l, h, ⟨m, n, st, Er, hs, hr, hp⟩, el, eh⟩
  obtain ⟨x', ex', rd⟩ := hr.one
  cases ex'
  unfold slD at hp
  rw [el, eh] at hp
  split at hp
  · rename_i xs l' h' h1 e1 e2
    cases e1; cases e2
    obtain ⟨a, vs, e1, e2, e3⟩ := rel_tup rd h1
    refine sl_tupA pins s σ H x v vl vu lo hi sl Q I rx hsl pl pu ⟨a, vs, e1, SqT.of e2, fun z => ?_, fun _ => newT_ok hs (cut_rel e3 lo hi) hp⟩
    have same : cutL xs lo hi = xs := by
      unfold cutL
      rw [cutI_eq, cutI_eq, e3.length, z.1, z.2, ← e3.length]
      simp
    rw [same, ← view_tup h1] at hp
    rw [e1] at rd
    exact here hp hs rd
  · rename_i xs l' h' h1 e1 e2
    cases e1; cases e2
    obtain ⟨a, vs, e1, e2, e3⟩ := view_lst hs rd h1
    obtain ⟨g1, g2⟩ := newL_ok hs (cut_rel e3 lo hi) hp
    exact sl_list pins s σ H x v vl vu lo hi sl Q I rx hsl pl pu ⟨a, vs, e1, SqL.of e2, g2⟩
  · exact False.elim hp
theorem part_int {K : PySem.W.Frag} {H : Hp} {m n : List Addr} {d : D} {v : V} {i : Int} (r : RelD K H m n d v) (h : partD d = some (some i)) : v = .int i := by
  cases d <;> simp [partD] at h
  subst h
  simpa only [RelD] using r
/-! ### calls -/
theorem flag_ok {prog : Program} {w : World} {A : Around} {K : PySem.W.Frag} {H : Hp} {m n : List Addr} : ∀ {ds : List D} {bs : List Bool} {vs : List V} {us : List Value}, flagsD ds = some bs → RelL K H m n ds vs → Vals vs us →
    us.length = bs.length ∧ ∀ (i : Nat) (v : Value) (s : Shared) (Q : Bool → Shared → Prop) (E : Value → Shared → Prop), us[i]? = some v → Q (bs.getD i false) s → wpAny (model prog w) A (truthy v) Q E s
  | [], bs, vs, us, e, r, rv => by
    simp only [flagsD, Option.some.injEq] at e
    simp only [RelL] at r
    subst e; subst r
    cases rv
    exact ⟨rfl, fun i v s Q E h => by simp at h⟩
  | d :: ds, bs, vs, us, e, r, rv => by
    obtain ⟨x, r', ex, h1, h2⟩ := r.uncons
    subst ex
    cases rv with
    | cons rx rr =>
      simp only [flagsD] at e
      split at e
      · rename_i b bs' e1 e2
        cases e
        obtain ⟨g1, g2⟩ := flag_ok (prog := prog) (w := w) (A := A) e2 h2 rr
        refine ⟨by simp [g1], fun i v s Q E h hq => ?_⟩
        cases i with
        | zero =>
          simp only [List.getElem?_cons_zero, Option.some.injEq] at h
          subst h
          have hq' : Q b s := hq
          cases d with
          | non => simp only [RelD] at h1; simp only [flagD, Option.some.injEq] at e1; subst h1; subst e1; cases rx; exact truthy_none hq'
          | bl k => simp only [RelD] at h1; simp only [flagD, Option.some.injEq] at e1; subst h1; subst e1; cases rx; exact wpAny_truthy_bool hq'
          | int k => simp only [RelD] at h1; simp only [flagD, Option.some.injEq] at e1; subst h1; subst e1; obtain ⟨t, rfl⟩ := rx; exact PySem.P.truthy_int hq'
          | _ => simp [flagD] at e1
        | succ i =>
          simp only [List.getElem?_cons_succ] at h
          exact g2 i v s Q E h (by simpa using hq)
      · cases e
theorem kept_turn {h h' : Heap} {o : Obj} (hk : ∀ b q, b ∉ [h.objs.size] → (h.push o).get? b = some q → h'.get? b = some q) : ∀ b q, h.get? b = some q → h'.get? b = some q := fun b q e =>
  hk b q (fun hm => absurd (List.mem_singleton.mp hm ▸ Heap.lt_size e) (Nat.lt_irrefl _)) (Heap.get?_push_of_some _ e)
theorem call_flag {bi : Bool} (hc : X.calm = true) {pins : List (Addr × Obj)} {s : Shared} {σ : L2.St} {H : Hp} {Q : VK} {t : Bool} {a : Addr} {vs : List V} {ds : List D} {bs : List Bool} {m n : List Addr} (I : Inv X pins σ H s) (hq : SqA X.K H t a vs) (r : RelL X.K H m n ds vs) (e : flagsD ds = some bs)
    (q : Q (.bl (if bi then bs.all id else bs.any id)) H) : wpAny (model X.prog X.w) X.A (call (.builtin (if bi then "all" else "any")) [.ref a]) (EP X pins σ Q) X.xe s := by
  obtain ⟨its, rv, p, hlt⟩ := sqA_its I hq
  obtain ⟨g1, g2⟩ := flag_ok (prog := X.prog) (w := X.w) (A := X.A.in1) e r rv
  have hne : a ≠ s.heap.objs.size := Nat.ne_of_lt hlt
  have fin : ∀ (h' : Heap) (tk : Nat), (∀ b q, s.heap.get? b = some q → h'.get? b = some q) → EP X pins σ Q (.bool (if bi then bs.all id else bs.any id)) { heap := h', gens := s.gens, drawn := s.drawn, toks := tk, os := s.os } := fun h' tk hk =>
    ⟨.bl _, H, I.kept (t' := tk) hk, rfl, q⟩
  have sz : its.toArray.size = bs.length := by simpa using g1
  cases bi
  · refine call_any_walk ((begins_sq t a its.toArray).iter X.prog X.w _ _ s _ p ?_)
    cases t
    · exact ⟨_, _, _, _, _, _, fun i => bs.getD i false, rfl, Walks.list (A := X.A.in1) (I.ok.hd hc) _ a hne its.toArray, ⟨⟨_, Heap.get?_push_size _ rfl, rfl, rfl⟩, (show s.heap.IsList a its.toArray from p).push _⟩, fun i v s' Q' E' hv hq' => g2 i v s' Q' E' (by simpa using hv) hq', fun h' tk hk => by
        rw [sz, L2.any_range]; exact fin h' tk (kept_turn hk)⟩
    · exact ⟨_, _, _, _, _, _, fun i => bs.getD i false, rfl, Walks.tuple (A := X.A.in1) (I.ok.hd hc) _ a hne its.toArray, ⟨⟨_, Heap.get?_push_size _ rfl, rfl, rfl⟩, (show s.heap.IsTuple a its.toArray from p).at fun o e => Heap.get?_push_of_some _ e⟩, fun i v s' Q' E' hv hq' => g2 i v s' Q' E' (by simpa using hv) hq', fun h' tk hk => by
        rw [sz, L2.any_range]; exact fin h' tk (kept_turn hk)⟩
  · refine call_all_walk ((begins_sq t a its.toArray).iter X.prog X.w _ _ s _ p ?_)
    cases t
    · exact ⟨_, _, _, _, _, _, fun i => bs.getD i false, rfl, Walks.list (A := X.A.in1) (I.ok.hd hc) _ a hne its.toArray, ⟨⟨_, Heap.get?_push_size _ rfl, rfl, rfl⟩, (show s.heap.IsList a its.toArray from p).push _⟩, fun i v s' Q' E' hv hq' => g2 i v s' Q' E' (by simpa using hv) hq', fun h' tk hk => by
        rw [sz, L2.all_range]; exact fin h' tk (kept_turn hk)⟩
    · exact ⟨_, _, _, _, _, _, fun i => bs.getD i false, rfl, Walks.tuple (A := X.A.in1) (I.ok.hd hc) _ a hne its.toArray, ⟨⟨_, Heap.get?_push_size _ rfl, rfl, rfl⟩, (show s.heap.IsTuple a its.toArray from p).at fun o e => Heap.get?_push_of_some _ e⟩, fun i v s' Q' E' hv hq' => g2 i v s' Q' E' (by simpa using hv) hq', fun h' tk hk => by
        rw [sz, L2.all_range]; exact fin h' tk (kept_turn hk)⟩
/-- len(d) -/
theorem len_ok {al : Bool} : CallR X (.builtin "len") (fun xs H Q => ∃ ds, VH X.K ds xs (biD al .len ds) H Q) := by
  intro pins s σ H xs us Q I r ⟨ds, m, n, st, Er, hs, hr, hp⟩
  match ds, hr, hp with
  | [], hr, hp => exact False.elim hp
  | _ :: _ :: _, hr, hp => exact False.elim hp
  | [d], hr, hp =>
    obtain ⟨x, rfl, rd⟩ := hr.one
    have hp' : (optR ((lenD st d).map fun n => D.int (n : Nat)) st).Post (QV X.K n H m Q) Er := hp
    cases el : lenD st d with
    | none => rw [el] at hp'; exact False.elim hp'
    | some k =>
      rw [el] at hp'
      have hq : Q (.int (k : Nat)) H := here hp' hs rInt
      unfold lenD at el
      cases ev : view st d with
      | tup ys =>
        rw [ev] at el; cases el
        obtain ⟨a, vs, e1, e2, e3⟩ := rel_tup rd ev
        exact call_len pins s σ H _ us Q I r ⟨x, ys.length, rfl, by rw [e1]; exact .inr ⟨vs, SqT.of e2, e3.length⟩, hq⟩
      | lst ys =>
        rw [ev] at el; cases el
        obtain ⟨a, vs, e1, e2, e3⟩ := view_lst hs rd ev
        exact call_len pins s σ H _ us Q I r ⟨x, ys.length, rfl, by rw [e1]; exact .inl ⟨vs, SqL.of e2, e3.length⟩, hq⟩
      | scr ys =>
        rw [ev] at el; cases el
        have e0 : d = .scr ys := by
          cases d with
          | loc j =>
            simp only [view] at ev
            split at ev <;> cases ev
          | _ => simpa [view] using ev
        rw [e0] at rd
        simp only [RelD] at rd
        obtain ⟨a, vs, e1, e2, e3⟩ := rd
        exact call_len pins s σ H _ us Q I r ⟨x, ys.length, rfl, by rw [e1]; exact .inl ⟨vs, e2.sq, e3.length⟩, hq⟩
      | str z =>
        rw [ev] at el
        simp only at el
        split at el
        · rename_i hl
          cases el
          exact call_len pins s σ H _ us Q I r ⟨x, z.length, rfl, by rw [rel_str rd ev]; exact ⟨hl, rfl⟩, hq⟩
        · cases el
      | loc j =>
        rw [ev] at el
        rw [view_loc ev] at rd
        simp only [RelD] at rd
        obtain ⟨a, e1, e2⟩ := rd
        obtain ⟨ob, e3⟩ := hs.there e2
        have q := hs.place j a ob e2 e3
        simp only [e3] at el
        cases ob with
        | lst _ => cases el
        | dK kvs =>
          cases el
          obtain ⟨kvs', q1, q2⟩ := q
          exact call_lenD pins s σ H _ us Q I r ⟨a, kvs', by rw [e1], q1, by rw [← q2.length]; exact hq⟩
        | dT kvs =>
          cases el
          obtain ⟨kvs', q1, q2⟩ := q
          exact call_len_dT pins s σ H _ us Q I r ⟨a, kvs', by rw [e1], q1, by rw [← q2.length]; exact hq⟩
      | _ => rw [ev] at el; cases el
theorem abs_ok {al : Bool} : CallR X (.builtin "abs") (fun xs H Q => ∃ ds, VH X.K ds xs (biD al .abs ds) H Q) := by
  intro pins s σ H xs us Q I r ⟨ds, m, n, st, Er, hs, hr, hp⟩
  rcases ds with _ | ⟨d, _ | ⟨d2, tl⟩⟩
  · exact False.elim hp
  · cases d
    all_goals first | (exact False.elim hp) | skip
    obtain ⟨x, rfl, rd⟩ := hr.one
    simp only [RelD] at rd
    exact call_abs pins s σ H _ us Q I r ⟨_, by rw [rd], here hp hs rInt⟩
  · cases d <;> exact False.elim hp
theorem int_ok {al : Bool} : CallR X (.type "int") (fun xs H Q => ∃ ds, VH X.K ds xs (biD al .int ds) H Q) := by
  intro pins s σ H xs us Q I r ⟨ds, m, n, st, Er, hs, hr, hp⟩
  rcases ds with _ | ⟨d, _ | ⟨d2, tl⟩⟩
  · exact False.elim hp
  · obtain ⟨x, rfl, rd⟩ := hr.one
    cases d
    case int i =>
      simp only [RelD] at rd
      exact call_int1 pins s σ H _ us Q I r (.inl ⟨_, by rw [rd], here hp hs rInt⟩)
    case bl b =>
      simp only [RelD] at rd
      exact call_int1 pins s σ H _ us Q I r (.inr ⟨_, by rw [rd], here hp hs rInt⟩)
    all_goals exact False.elim hp
  · cases d <;> exact False.elim hp
theorem str_ok {al : Bool} : CallR X (.type "str") (fun xs H Q => ∃ ds, VH X.K ds xs (biD al .str ds) H Q) := by
  intro pins s σ H xs us Q I r ⟨ds, m, n, st, Er, hs, hr, hp⟩
  rcases ds with _ | ⟨d, _ | ⟨d2, tl⟩⟩
  · exact False.elim hp
  · obtain ⟨x, rfl, rd⟩ := hr.one
    cases d
    case int i =>
      simp only [RelD] at rd
      have hp' : (if i.natAbs.log2 < 1920 then Res.ok (.str (toString i)) st else .stuck : Res D).Post (QV X.K n H m Q) Er := hp
      split at hp'
      · rename_i h; exact call_str_int pins s σ H _ us Q I r ⟨_, by rw [rd], h, here hp' hs rStr⟩
      · exact False.elim hp'
    all_goals exact False.elim hp
  · cases d <;> exact False.elim hp
mutual
theorem D.noDict : ∀ d : D, d.py.hasDict = false
  | .non => rfl | .bl _ => rfl | .int _ => rfl | .str _ => rfl | .loc _ => rfl
  | .tup xs => by simp only [D.py, PyData.hasDict]; exact D.noDictL xs
  | .lst xs => by simp only [D.py, PyData.hasDict]; exact D.noDictL xs
  | .scr xs => by simp only [D.py, PyData.hasDict]; exact D.noDictL xs
theorem D.noDictL : ∀ d : List D, PyData.hasDictAll (D.pyL d) = false
  | [] => rfl
  | x :: xs => by simp only [D.pyL, PyData.hasDictAll, D.noDict x, D.noDictL xs, Bool.or_self]
end
theorem repr_ok {al : Bool} (hG : X.A.guards = some []) (hu : X.A.units + 65 < cLine) : CallR X (.builtin "repr") (fun xs H Q => ∃ ds, VH X.K ds xs (biD al .repr ds) H Q) := by
  intro pins s σ H xs us Q I r ⟨ds, m, n, st, Er, hs, hr, hp⟩
  rcases ds with _ | ⟨d, _ | ⟨d2, tl⟩⟩
  · exact False.elim hp
  · obtain ⟨x, rfl, rd⟩ := hr.one
    obtain ⟨u, rfl, ru⟩ := vals1 r
    have hp' : (if (view st d).shows then Res.ok (.str (view st d).py.shown) st else .stuck : Res D).Post (QV X.K n H m Q) Er := hp
    split at hp'
    · rename_i hsh
      simp only [D.shows, Bool.and_eq_true, decide_eq_true_eq] at hsh
      obtain ⟨⟨hd, hsw⟩, hl⟩ := hsh
      have dp := view_dp hs rd hd
      have ll := data_lay _ _ hd
      obtain ⟨as, rr⟩ := Dp.reads I _ _ _ dp ru
      have hq : Q (.str (view st d).py.shown) H := here hp' hs rStr
      have fin : ∀ (h' : Heap) (t : Tok) (tk : Nat), (∀ b o, s.heap.get? b = some o → h'.get? b = some o) → EP X pins σ Q (Value.str (view st d).py.shown t) { heap := h', gens := s.gens, drawn := s.drawn, toks := tk, os := s.os } := fun h' t tk hk =>
        ⟨.str _, H, I.kept (t' := tk) hk, ⟨_, rfl⟩, hq⟩
      have big : ∀ a, u = .ref a → wpAny (model X.prog X.w) X.A (call (.builtin "repr") [u]) (EP X pins σ Q) X.xe s := fun a e => by
        subst e
        exact repr_of_reads' rr hsw (fun z => by
          have : ∀ d : D, d.py.hasDict = false := fun d => D.noDict d
          rw [this] at z; cases z) hG (by omega) (fun _ _ e => e) fun h' t tk hk => fin h' t tk hk
      cases ev : view st d with
      | non =>
        rw [ev] at dp fin
        cases dp; cases ru
        exact PySem.P.repr_of_none (fin _ _ _ fun _ _ e => e)
      | bl b =>
        rw [ev] at dp fin
        cases dp; cases ru
        exact PySem.P.repr_of_bool (fin _ _ _ fun _ _ e => e)
      | int i =>
        rw [ev] at dp fin hsw
        cases dp
        obtain ⟨t, rfl⟩ := ru
        exact PySem.P.repr_of_int (by simpa [D.py, PyData.showable] using hsw) (fin _ _ _ fun _ _ e => e)
      | str z =>
        rw [ev] at dp fin hl
        cases dp
        obtain ⟨t, rfl⟩ := ru
        exact PySem.P.repr_of_str (fin _ _ _ fun _ _ e => e) (by simpa [D.py, PyData.shown] using hl)
      | tup zs =>
        rw [ev] at dp
        cases dp with
        | tup q _ => exact big _ ru
      | lst zs =>
        rw [ev] at dp
        cases dp with
        | lst q _ => exact big _ ru
      | scr zs => rw [ev] at hd; simp [D.data] at hd
      | loc zs => rw [ev] at hd; simp [D.data] at hd
    · exact False.elim hp'
  · exact False.elim hp
end
end WT

set_option Elab.async false
set_option linter.all false
set_option maxRecDepth 100000
set_option maxHeartbeats 1000000
/-! WT6: more built-ins, methods, writing. -/
namespace WT
open PySem PySem.Spec PyProof.Rows L2
section
variable {K : PySem.W.Frag} {H : Hp} {m n : List Addr} {st : Store}
theorem StR.tup_out (s : StR K H m n st) {b : Addr} {xs : List V} (e : H b = some (.tup xs)) : b ∉ m := fun z => by
  obtain ⟨k, hk, ek⟩ := List.getElem_of_mem z
  have e' : m[k]? = some b := by rw [List.getElem?_eq_getElem hk, ek]
  obtain ⟨ob, h1⟩ := s.there e'
  have q := s.place k b ob e' h1
  cases ob with
  | lst ds => obtain ⟨_, q, _⟩ := q; rw [e] at q; cases q
  | dK ds => obtain ⟨_, q, _⟩ := q; rw [e] at q; cases q
  | dT ds => obtain ⟨_, q, _⟩ := q; rw [e] at q; cases q
theorem key_back {k : Key} : RelD K H m n (Key.d k) (kV k) := by
  cases k with
  | inl i => simp only [Key.d, RelD, kV]
  | inr i => simp only [Key.d, RelD, kV]
theorem keys_back : ∀ ks : List Key, RelL K H m n (ks.map Key.d) (ks.map kV)
  | [] => .nil
  | k :: ks => .cons key_back (keys_back ks)
theorem keysK_rel : ∀ {kvs : List (Key × D)} {kvs' : List (Key × V)}, KVr (RelD K H m n) kvs kvs' → RelL K H m n (kvs.map fun p => Key.d p.1) (kvs'.map fun p => kV p.1)
  | _, _, .nil => .nil
  | _, _, .cons h t => .cons (by dsimp only; rw [h.1]; exact key_back) (keysK_rel t)
theorem keysT_rel (s : StR K H m n st) : ∀ {kvs : List (List Key × D)} {kvs' : List (List Key × V)} {bs : List Addr}, KVr (RelD K H m n) kvs kvs' → IsKeys H kvs' bs → RelL K H m n (kvs.map fun p => keyTd p.1) (bs.map V.ref)
  | _, _, _, .nil, .nil => .nil
  | _, _, _, .cons h t, .cons g u => by
    refine .cons ?_ (keysT_rel s t u)
    dsimp only
    rw [h.1]
    simp only [keyTd, RelD]
    exact ⟨_, _, rfl, ⟨g, s.tup_out g⟩, keys_back _⟩
theorem view_seq {d : D} {v : V} {xs : List D} (s : StR K H m n st) (r : RelD K H m n d v) (e : seqOf st d = some xs) : ∃ t a vs, v = .ref a ∧ SqA K H t a vs ∧ RelL K H m n xs vs := by
  unfold seqOf at e
  cases ev : view st d with
  | tup ys =>
    rw [ev] at e; cases e
    obtain ⟨a, vs, e1, e2, e3⟩ := rel_tup r ev
    exact ⟨true, a, vs, e1, SqT.of e2, e3⟩
  | lst ys =>
    rw [ev] at e; cases e
    obtain ⟨a, vs, e1, e2, e3⟩ := view_lst s r ev
    exact ⟨false, a, vs, e1, SqL.of e2, e3⟩
  | _ => rw [ev] at e; cases e
theorem Vals.ints_back : ∀ {ns : List Int} {us : List Value}, Vals (ns.map V.int) us → ∃ l : List (Int × Tok), us = l.map (fun p => Value.int p.1 p.2) ∧ l.map (·.1) = ns
  | [], us, r => by rw [List.map_nil] at r; cases r; exact ⟨[], rfl, rfl⟩
  | i :: ns, us, r => by
    rw [List.map_cons] at r
    cases r with
    | cons h t =>
      obtain ⟨k, rfl⟩ := h
      obtain ⟨l, e1, e2⟩ := Vals.ints_back t
      exact ⟨(i, k) :: l, by rw [e1]; rfl, by rw [← e2]; rfl⟩
end
section
variable {X : Cx}
theorem tuple_ok {al : Bool} : CallR X (.type "tuple") (fun xs H Q => ∃ ds, VH X.K ds xs (biD al .tuple ds) H Q) := by
  intro pins s σ H xs us Q I r ⟨ds, m, n, st, Er, hs, hr, hp⟩
  rcases ds with _ | ⟨d, _ | ⟨d2, tl⟩⟩
  · exact False.elim hp
  · obtain ⟨x, rfl, rd⟩ := hr.one
    have hp' : (match view st d with
      | .tup xs => Res.ok (.tup xs) st
      | .lst xs => .ok (.tup xs) st
      | _ => .stuck : Res D).Post (QV X.K n H m Q) Er := hp
    cases ev : view st d with
    | tup ys =>
      rw [ev] at hp'
      obtain ⟨a, vs, e1, e2, e3⟩ := rel_tup rd ev
      rw [view_tup ev] at rd
      exact call_tuple_of pins s σ H _ us Q I r ⟨a, vs, by rw [e1], .inr ⟨SqT.of e2, by rw [e1] at rd; exact here hp' hs rd⟩⟩
    | lst ys =>
      rw [ev] at hp'
      obtain ⟨a, vs, e1, e2, e3⟩ := view_lst hs rd ev
      exact call_tuple_of pins s σ H _ us Q I r ⟨a, vs, by rw [e1], .inl ⟨SqL.of e2, newT_ok hs e3 hp'⟩⟩
    | _ => rw [ev] at hp'; exact False.elim hp'
  · exact False.elim hp
theorem list_ok {al : Bool} (hc : X.calm = true) : CallR X (.type "list") (fun xs H Q => ∃ ds, VH X.K ds xs (biD al .list ds) H Q) := by
  intro pins s σ H xs us Q I r ⟨ds, m, n, st, Er, hs, hr, hp⟩
  rcases ds with _ | ⟨d, _ | ⟨d2, tl⟩⟩
  · exact False.elim hp
  · obtain ⟨x, rfl, rd⟩ := hr.one
    have hp' : (match items st d with
      | some xs => newL al xs st
      | none => .stuck : Res D).Post (QV X.K n H m Q) Er := hp
    unfold items at hp'
    cases ev : view st d with
    | tup ys =>
      rw [ev] at hp'
      obtain ⟨a, vs, e1, e2, e3⟩ := rel_tup rd ev
      exact call_list_of pins s σ H _ us Q I r ⟨a, vs, by rw [e1], .inr (SqT.of e2), (newL_ok hs e3 hp').2⟩
    | lst ys =>
      rw [ev] at hp'
      obtain ⟨a, vs, e1, e2, e3⟩ := view_lst hs rd ev
      exact call_list_of pins s σ H _ us Q I r ⟨a, vs, by rw [e1], .inl (SqL.of e2), (newL_ok hs e3 hp').2⟩
    | loc j =>
      rw [ev] at hp'
      rw [view_loc ev] at rd
      simp only [RelD] at rd
      obtain ⟨a, e1, e2⟩ := rd
      obtain ⟨ob, e3⟩ := hs.there e2
      have q := hs.place j a ob e2 e3
      simp only [e3] at hp'
      cases ob with
      | lst _ => exact False.elim hp'
      | dK kvs =>
        obtain ⟨kvs', q1, q2⟩ := q
        exact call_list_dK hc pins s σ H _ us Q I r ⟨a, kvs', by rw [e1], q1, (newL_ok hs (keysK_rel q2) hp').2⟩
      | dT kvs =>
        obtain ⟨kvs', q1, q2⟩ := q
        exact call_list_dT hc pins s σ H _ us Q I r ⟨a, kvs', by rw [e1], .inl q1, fun p bs hpn hk => (newL_ok hs (keysT_rel hs q2 hk) hp').2 p hpn⟩
    | _ => rw [ev] at hp'; exact False.elim hp'
  · exact False.elim hp
theorem each_get {α β : Type} {R : α → β → Prop} : ∀ {as : List α} {bs : List β}, as.length = bs.length → (∀ (i : Nat) a b, as[i]? = some a → bs[i]? = some b → R a b) → PySem.W.EachIs R as bs
  | [], [], _, _ => .nil
  | a :: as, b :: bs, hl, h => .cons (h 0 a b rfl rfl) (each_get (Nat.succ.inj hl) fun i a' b' e1 e2 => h (i + 1) a' b' (by simpa using e1) (by simpa using e2))
  | [], _ :: _, hl, _ => by cases hl
  | _ :: _, [], hl, _ => by cases hl
theorem each_vals {K : PySem.W.Frag} {H : Hp} {m n : List Addr} : ∀ {us : List Value} {ds : List D}, PySem.W.EachIs (fun u d => ∃ v, RelV v u ∧ RelD K H m n d v) us ds → ∃ vs, Vals vs us ∧ RelL K H m n ds vs
  | _, _, .nil => ⟨[], .nil, .nil⟩
  | _, _, .cons ⟨v, h1, h2⟩ t => by
    obtain ⟨vs, g1, g2⟩ := each_vals t
    exact ⟨v :: vs, .cons h1 g1, .cons h2 g2⟩
theorem each_of {K : PySem.W.Frag} {H : Hp} {m n : List Addr} : ∀ {us : List Value} {ds : List D} {vs : List V}, Vals vs us → RelL K H m n ds vs → PySem.W.EachIs (fun u d => ∃ v, RelV v u ∧ RelD K H m n d v) us ds
  | _, [], _, rv, r => by simp only [RelL] at r; subst r; cases rv; exact .nil
  | _, d :: ds, _, rv, r => by
    obtain ⟨v, r', e, h1, h2⟩ := r.uncons
    subst e
    cases rv with
    | cons g t => exact .cons ⟨v, g, h1⟩ (each_of t h2)
theorem each_imp {α β : Type} {R R' : α → β → Prop} {as : List α} {bs : List β} (h : PySem.W.EachIs R as bs) (P : β → Prop) (hP : ∀ b ∈ bs, P b) (f : ∀ a b, R a b → P b → R' a b) : PySem.W.EachIs R' as bs := by
  induction h with
  | nil => exact .nil
  | cons r _ ih => exact .cons (f _ _ r (hP _ (List.mem_cons_self ..))) (ih fun b hb => hP b (List.mem_cons_of_mem _ hb))
theorem dataL_mem {ds : List D} {k : Nat} (h : D.dataL ds k = true) : ∀ d ∈ ds, d.data k = true := by
  induction ds with
  | nil => exact fun d hd => by cases hd
  | cons x ds ih =>
    simp only [D.dataL, Bool.and_eq_true] at h
    intro d hd
    rcases List.mem_cons.mp hd with z | z
    · rw [z]; exact h.1
    · exact ih h.2 d z
theorem sorted_ok {al : Bool} (hu : X.A.units + 65 < cLine) : CallR X (.builtin "sorted") (fun xs H Q => ∃ ds, VH X.K ds xs (biD al .sorted ds) H Q) := by
  intro pins s σ H xs us Q I r ⟨ds, m, n, st, Er, hs, hr, hp⟩
  rcases ds with _ | ⟨d, _ | ⟨d2, tl⟩⟩
  · exact False.elim hp
  · obtain ⟨x, rfl, rd⟩ := hr.one
    have hp' : (match view st d with
      | .lst xs => if sortable xs then newL al (sortD xs) st else .stuck
      | _ => .stuck : Res D).Post (QV X.K n H m Q) Er := hp
    cases ev : view st d with
    | lst ys =>
      rw [ev] at hp'
      simp only at hp'
      split at hp'
      · rename_i hsrt
        simp only [sortable, Bool.and_eq_true, Bool.or_eq_true, List.all_eq_true] at hsrt
        obtain ⟨⟨hd, hal⟩, hk⟩ := hsrt
        obtain ⟨a, vs, e1, e2, e3⟩ := view_lst hs rd ev
        subst e1
        obtain ⟨u, rfl, ru⟩ := vals1 r
        obtain rfl : u = Value.ref a := ru
        obtain ⟨its, rv, hl, hz⟩ := I.list (SqL.of e2)
        have ee := each_of rv e3
        have hlen := e3.length
        refine PySem.W.sorted_data (bs := ys) (enc := D.py) hl.isList ee (each_imp ee (fun b => b.data 60 = true) (dataL_mem hd) fun u d ⟨v, g1, g2⟩ hb => Dp.reads I _ _ _ (RelD.dp _ _ 60 g2 hb) g1) (fun p hp q hq => ?_) ?_ (by rw [hlen]; exact hz) (fun b hb => ?_) fun out ho eo => ?_
        · obtain ⟨b, hb, rfl⟩ := List.mem_map.mp hp
          obtain ⟨c, hc, rfl⟩ := List.mem_map.mp hq
          exact hal b hb c hc
        · rcases hk with hk | hk
          · refine .inl fun p hp => ?_
            obtain ⟨b, hb, rfl⟩ := List.mem_map.mp hp
            have q := hk b hb
            cases b with
            | tup zs =>
              cases zs with
              | nil => cases q
              | cons z zs => exact ⟨z.py, D.pyL zs, rfl⟩
            | _ => cases q
          · refine .inr fun p hp => ?_
            obtain ⟨b, hb, rfl⟩ := List.mem_map.mp hp
            have q := hk b hb
            have q2 := dataL_mem hd _ hb
            cases b <;> first | (cases q; done) | (simp [D.data] at q2; done) | exact ⟨fun z => (by simp [D.py] at z), fun zs z => (by simp [D.py] at z)⟩
        · have := (data_lay b 60 (dataL_mem hd b hb)).2
          omega
        · obtain ⟨ws, g1, g2⟩ := each_vals eo
          obtain ⟨h1, h2⟩ := newL_ok hs g2 hp'
          obtain ⟨ep, he'⟩ := PyProof.Rows.sortedAll_at s.heap its out.toArray
          exact ⟨.ref _, _, I.laid (t' := s.toks) (o := .lst ws) (fun _ _ => PyProof.Rows.sortedAll_old) (Nat.le_succ _) ⟨h1, out, ep, g1, he'⟩, rfl, h2 _ (I.hok.fresh (Nat.le_succ _))⟩
      · exact False.elim hp'
    | _ => rw [ev] at hp'; exact False.elim hp'
  · exact False.elim hp
theorem sum_ok {al : Bool} (hc : X.calm = true) : CallR X (.builtin "sum") (fun xs H Q => ∃ ds, VH X.K ds xs (biD al .sum ds) H Q) := by
  intro pins s σ H xs us Q I r ⟨ds, m, n, st, Er, hs, hr, hp⟩
  rcases ds with _ | ⟨d, _ | ⟨d2, tl⟩⟩
  · exact False.elim hp
  · obtain ⟨x, rfl, rd⟩ := hr.one
    have hp' : (match view st d with
      | .tup xs => optR ((intsD xs).map fun ns => D.int ns.sum) st
      | .lst xs => optR ((intsD xs).map fun ns => D.int ns.sum) st
      | _ => .stuck : Res D).Post (QV X.K n H m Q) Er := hp
    cases ev : view st d with
    | tup ys =>
      rw [ev] at hp'
      obtain ⟨a, vs, e1, e2, e3⟩ := rel_tup rd ev
      simp only at hp'
      cases ei : intsD ys with
      | none => rw [ei] at hp'; exact False.elim hp'
      | some ns =>
        rw [ei] at hp'
        subst e1
        obtain ⟨u, rfl, ru⟩ := vals1 r
        obtain rfl : u = Value.ref a := ru
        have ez := RelL.of_ints ei e3
        subst ez
        obtain ⟨its, rv, ht, hz⟩ := I.tuple (SqT.of e2)
        obtain ⟨l, el1, el2⟩ := Vals.ints_back rv
        have eit : its.toArray = intItems l.toArray := by rw [el1]; simp [intItems]
        have ht' : s.heap.IsTuple a (intItems l.toArray) := by rw [← eit]; exact ht
        have hq : Q (.int ns.sum) H := here hp' hs rInt
        refine PySem.W.ktm_sumG (I.ok.hd hc) ht' fun h' tk t' hk => ?_
        have e0 : preSum (numAt l.toArray) l.toArray.size = ns.sum := by
          rw [preSum_eq, List.take_of_length_le (by simp), ← el2]
        rw [e0]
        exact ⟨.int _, H, I.kept (t' := tk) hk, ⟨_, rfl⟩, hq⟩
    | lst ys =>
      rw [ev] at hp'
      obtain ⟨a, vs, e1, e2, e3⟩ := view_lst hs rd ev
      simp only at hp'
      cases ei : intsD ys with
      | none => rw [ei] at hp'; exact False.elim hp'
      | some ns =>
        rw [ei] at hp'
        have ez := RelL.of_ints ei e3
        subst ez
        exact cr_sum hc pins s σ H _ us Q I r ⟨a, ns, by rw [e1], SqL.of e2, here hp' hs rInt⟩
    | _ => rw [ev] at hp'; exact False.elim hp'
  · exact False.elim hp
theorem all_ok {al : Bool} (hc : X.calm = true) : CallR X (.builtin "all") (fun xs H Q => ∃ ds, VH X.K ds xs (biD al .all ds) H Q) := by
  intro pins s σ H xs us Q I r ⟨ds, m, n, st, Er, hs, hr, hp⟩
  rcases ds with _ | ⟨d, _ | ⟨d2, tl⟩⟩
  · exact False.elim hp
  · obtain ⟨x, rfl, rd⟩ := hr.one
    have hp' : (match view st d with
      | .lst xs => optR ((flagsD xs).map fun bs => D.bl (bs.all id)) st
      | .tup xs => optR ((flagsD xs).map fun bs => D.bl (bs.all id)) st
      | _ => .stuck : Res D).Post (QV X.K n H m Q) Er := hp
    obtain ⟨u, rfl, ru⟩ := vals1 r
    have go : ∀ ys, seqOf st d = some ys → (optR ((flagsD ys).map fun bs => D.bl (bs.all id)) st).Post (QV X.K n H m Q) Er → wpAny (model X.prog X.w) X.A (call (.builtin "all") [u]) (EP X pins σ Q) X.xe s := fun ys es hq => by
      obtain ⟨t, a, vs, e1, e2, e3⟩ := view_seq hs rd es
      subst e1
      obtain rfl : u = Value.ref a := ru
      cases ef : flagsD ys with
      | none => rw [ef] at hq; exact False.elim hq
      | some bs => rw [ef] at hq; exact call_flag (bi := true) hc I e2 e3 ef (here hq hs rBl)
    cases ev : view st d with
    | tup ys => rw [ev] at hp'; exact go ys (by unfold seqOf; rw [ev]) hp'
    | lst ys => rw [ev] at hp'; exact go ys (by unfold seqOf; rw [ev]) hp'
    | _ => rw [ev] at hp'; exact False.elim hp'
  · exact False.elim hp
theorem any_ok {al : Bool} (hc : X.calm = true) : CallR X (.builtin "any") (fun xs H Q => ∃ ds, VH X.K ds xs (biD al .any ds) H Q) := by
  intro pins s σ H xs us Q I r ⟨ds, m, n, st, Er, hs, hr, hp⟩
  rcases ds with _ | ⟨d, _ | ⟨d2, tl⟩⟩
  · exact False.elim hp
  · obtain ⟨x, rfl, rd⟩ := hr.one
    have hp' : (match view st d with
      | .lst xs => optR ((flagsD xs).map fun bs => D.bl (bs.any id)) st
      | .tup xs => optR ((flagsD xs).map fun bs => D.bl (bs.any id)) st
      | _ => .stuck : Res D).Post (QV X.K n H m Q) Er := hp
    obtain ⟨u, rfl, ru⟩ := vals1 r
    have go : ∀ ys, seqOf st d = some ys → (optR ((flagsD ys).map fun bs => D.bl (bs.any id)) st).Post (QV X.K n H m Q) Er → wpAny (model X.prog X.w) X.A (call (.builtin "any") [u]) (EP X pins σ Q) X.xe s := fun ys es hq => by
      obtain ⟨t, a, vs, e1, e2, e3⟩ := view_seq hs rd es
      subst e1
      obtain rfl : u = Value.ref a := ru
      cases ef : flagsD ys with
      | none => rw [ef] at hq; exact False.elim hq
      | some bs => rw [ef] at hq; exact call_flag (bi := false) hc I e2 e3 ef (here hq hs rBl)
    cases ev : view st d with
    | tup ys => rw [ev] at hp'; exact go ys (by unfold seqOf; rw [ev]) hp'
    | lst ys => rw [ev] at hp'; exact go ys (by unfold seqOf; rw [ev]) hp'
    | _ => rw [ev] at hp'; exact False.elim hp'
  · exact False.elim hp
theorem max_ok {al : Bool} (hc : X.calm = true) : CallR X (.builtin "max") (fun xs H Q => ∃ ds, VH X.K ds xs (biD al .max ds) H Q) := by
  intro pins s σ H xs us Q I r ⟨ds, m, n, st, Er, hs, hr, hp⟩
  rcases ds with _ | ⟨d, _ | ⟨d2, _ | ⟨d3, tl⟩⟩⟩
  · exact False.elim hp
  · obtain ⟨x, rfl, rd⟩ := hr.one
    have hp' : (match view st d with
      | .lst xs => optR (((intsD xs).bind List.max?).map D.int) st
      | _ => .stuck : Res D).Post (QV X.K n H m Q) Er := by cases d <;> exact hp
    cases ev : view st d with
    | lst ys =>
      rw [ev] at hp'
      obtain ⟨a, vs, e1, e2, e3⟩ := view_lst hs rd ev
      simp only at hp'
      cases ei : intsD ys with
      | none => rw [ei] at hp'; exact False.elim hp'
      | some ns =>
        rw [ei] at hp'
        simp only [Option.bind_some] at hp'
        cases em : ns.max? with
        | none => rw [em] at hp'; exact False.elim hp'
        | some k =>
          rw [em] at hp'
          have ez := RelL.of_ints ei e3
          subst ez
          have hmx := List.max?_eq_some_iff.mp em
          refine cr_max hc pins s σ H _ us Q I r ⟨a, ns, by rw [e1], SqL.of e2, List.length_pos_of_mem hmx.1, fun k' h1 h2 => ?_⟩
          have : k' = k := Int.le_antisymm (hmx.2 k' h1) (h2 k hmx.1)
          rw [this]
          exact here hp' hs rInt
    | _ => rw [ev] at hp'; exact False.elim hp'
  · obtain ⟨x, y, rfl, rd, rd2⟩ := hr.two
    cases d
    case int i =>
      cases d2
      case int j =>
        simp only [RelD] at rd rd2
        exact call_max2 hc pins s σ H _ us Q I r ⟨i, j, by rw [rd, rd2], here hp hs rInt⟩
      all_goals exact False.elim hp
    all_goals exact False.elim hp
  · cases d <;> cases d2 <;> exact False.elim hp
theorem min_ok {al : Bool} (hc : X.calm = true) : CallR X (.builtin "min") (fun xs H Q => ∃ ds, VH X.K ds xs (biD al .min ds) H Q) := by
  intro pins s σ H xs us Q I r ⟨ds, m, n, st, Er, hs, hr, hp⟩
  rcases ds with _ | ⟨d, _ | ⟨d2, _ | ⟨d3, tl⟩⟩⟩
  · exact False.elim hp
  · obtain ⟨x, rfl, rd⟩ := hr.one
    have hp' : (match view st d with
      | .lst xs => optR (((intsD xs).bind List.min?).map D.int) st
      | _ => .stuck : Res D).Post (QV X.K n H m Q) Er := by cases d <;> exact hp
    cases ev : view st d with
    | lst ys =>
      rw [ev] at hp'
      obtain ⟨a, vs, e1, e2, e3⟩ := view_lst hs rd ev
      simp only at hp'
      cases ei : intsD ys with
      | none => rw [ei] at hp'; exact False.elim hp'
      | some ns =>
        rw [ei] at hp'
        simp only [Option.bind_some] at hp'
        cases em : ns.min? with
        | none => rw [em] at hp'; exact False.elim hp'
        | some k =>
          rw [em] at hp'
          have ez := RelL.of_ints ei e3
          subst ez
          have hmx := List.min?_eq_some_iff.mp em
          refine cr_min hc pins s σ H _ us Q I r ⟨a, ns, by rw [e1], SqL.of e2, List.length_pos_of_mem hmx.1, fun k' h1 h2 => ?_⟩
          have : k' = k := Int.le_antisymm (h2 k hmx.1) (hmx.2 k' h1)
          rw [this]
          exact here hp' hs rInt
    | _ => rw [ev] at hp'; exact False.elim hp'
  · obtain ⟨x, y, rfl, rd, rd2⟩ := hr.two
    cases d
    case int i =>
      cases d2
      case int j =>
        simp only [RelD] at rd rd2
        exact call_min2 hc pins s σ H _ us Q I r ⟨i, j, by rw [rd, rd2], here hp hs rInt⟩
      all_goals exact False.elim hp
    all_goals exact False.elim hp
  · cases d <;> cases d2 <;> exact False.elim hp
end
end WT

set_option Elab.async false
set_option linter.all false
set_option maxRecDepth 100000
set_option maxHeartbeats 1000000
/-! WT7: methods, writing, op= . -/
namespace WT
open PySem PySem.Spec PyProof.Rows L2
section
variable {X : Cx}
/-- a method's reading -/
abbrev MH (X : Cx) (m : Mt) : V → List V → Hp → VK → Prop := fun x xs H Q => ∃ o ds, VH X.K (ds ++ [o]) (xs ++ [x]) (mtD m o ds) H Q
theorem snoc_rel {K : PySem.W.Frag} {H : Hp} {m n : List Addr} : ∀ {ds : List D} {o : D} {xs : List V} {x : V}, RelL K H m n (ds ++ [o]) (xs ++ [x]) → RelL K H m n ds xs ∧ RelD K H m n o x
  | [], o, xs, x, h => by
    obtain ⟨v, e, h1⟩ := RelL.one (show RelL K H m n [o] (xs ++ [x]) from h)
    cases xs with
    | nil => cases e; exact ⟨.nil, h1⟩
    | cons y ys => cases ys <;> cases e
  | d :: ds, o, xs, x, h => by
    obtain ⟨v, r, e, h1, h2⟩ := RelL.uncons (show RelL K H m n (d :: (ds ++ [o])) (xs ++ [x]) from h)
    cases xs with
    | nil =>
      have e' : [] = r := (List.cons.inj e).2
      subst e'
      have := h2.length
      simp at this
    | cons y ys =>
      obtain ⟨rfl, rfl⟩ := List.cons.inj e
      obtain ⟨g1, g2⟩ := snoc_rel h2
      exact ⟨.cons h1 g1, g2⟩
section
variable {K : PySem.W.Frag} {H : Hp} {m n : List Addr} {st : Store}
theorem at_lst {j : Nat} {v : V} {xs : List D} (s : StR K H m n st) (r : RelD K H m n (.loc j) v) (e : st[j]? = some (.lst xs)) : ∃ a vs, v = .ref a ∧ m[j]? = some a ∧ H a = some (.lst vs) ∧ RelL K H m n xs vs := by
  simp only [RelD] at r
  obtain ⟨a, e1, e2⟩ := r
  obtain ⟨vs, q1, q2⟩ := s.place j a _ e2 e
  exact ⟨a, vs, e1, e2, q1, q2⟩
/-- a place is written: go on -/
theorem wrote {α β : Type} {rel : Lie α β} {Q : β → Hp → Prop} {d : α} {b : β} {j : Nat} {a : Addr} {o : HO} {ob : Ob} (s : StR K H m n st) (e : m[j]? = some a) (q : ObR K (upd H a o) m n a ob) (h : QR K rel n H m Q d (st.set j ob)) (rd : rel (upd H a o) m n d b) : Q b (upd H a o) :=
  h _ m _ (Go.write e) (s.write e q) rd
end
theorem append_ok : MtR X "list.append" (MH X .append) := by
  intro pins s σ H x xs v us Q I rx rxs ⟨o, ds, m, n, st, Er, hs, hr, hp⟩
  obtain ⟨h1, h2⟩ := snoc_rel hr
  rcases ds with _ | ⟨d, _ | ⟨d2, tl⟩⟩
  · cases o <;> exact False.elim hp
  · cases o
    case loc j =>
      obtain ⟨y, rfl, rd⟩ := h1.one
      have hp' : (match st[j]? with
        | some (.lst xs) => if xs.length < sizeLine then Res.ok .non (st.set j (.lst (xs ++ [d]))) else .stuck
        | _ => .stuck : Res D).Post (QV X.K n H m Q) Er := hp
      cases e : st[j]? with
      | none => rw [e] at hp'; exact False.elim hp'
      | some ob =>
        cases ob with
        | lst ys =>
          rw [e] at hp'
          simp only at hp'
          obtain ⟨a, vs, rfl, e2, e3, e4⟩ := at_lst hs h2 e
          split at hp'
          · rename_i hl
            refine mt_append pins s σ H _ _ v us Q I rx rxs ⟨a, vs, y, rfl, rfl, e3, by rw [← e4.length]; exact hl, ?_⟩
            refine wrote (rel := fun H m n d v => RelD X.K H m n d v) hs e2 (ob := .lst _) ⟨_, upd_same, ?_⟩ hp' rNon
            exact RelL.go (Go.write e2) _ _ (e4.append (.cons rd .nil))
          · exact False.elim hp'
        | _ => rw [e] at hp'; exact False.elim hp'
    all_goals exact False.elim hp
  · cases o <;> exact False.elim hp
theorem ixN'_eq (n : Nat) (i : Int) : ixN' n i = ixN n i := rfl
theorem pop_ok : MtR X "list.pop" (MH X .pop) := by
  intro pins s σ H x xs v us Q I rx rxs ⟨o, ds, m, n, st, Er, hs, hr, hp⟩
  obtain ⟨h1, h2⟩ := snoc_rel hr
  rcases ds with _ | ⟨d, _ | ⟨d2, tl⟩⟩
  · cases o
    case loc j =>
      simp only [RelL] at h1
      subst h1
      have hp' : (match st[j]? with
        | some (.lst xs) => (match xs[xs.length - 1]? with
          | some d => .ok d (st.set j (.lst xs.dropLast))
          | none => .stuck)
        | _ => .stuck : Res D).Post (QV X.K n H m Q) Er := hp
      cases e : st[j]? with
      | none => rw [e] at hp'; exact False.elim hp'
      | some ob =>
        cases ob with
        | lst ys =>
          rw [e] at hp'
          simp only at hp'
          obtain ⟨a, vs, rfl, e2, e3, e4⟩ := at_lst hs h2 e
          cases ey : ys[ys.length - 1]? with
          | none => rw [ey] at hp'; exact False.elim hp'
          | some d =>
            rw [ey] at hp'
            obtain ⟨w, g1, g2⟩ := e4.get ey
            refine mt_pop pins s σ H _ _ v us Q I rx rxs ⟨a, vs, w, rfl, rfl, e3, by rw [← e4.length]; exact g1, ?_⟩
            refine wrote (rel := fun H m n d v => RelD X.K H m n d v) hs e2 (ob := .lst _) ⟨_, upd_same, ?_⟩ hp' (RelD.go (Go.write e2) _ _ g2)
            exact RelL.go (Go.write e2) _ _ e4.dropLast
        | _ => rw [e] at hp'; exact False.elim hp'
    all_goals exact False.elim hp
  · cases o
    case loc j =>
      cases d
      case int i =>
        obtain ⟨y, rfl, rd⟩ := h1.one
        simp only [RelD] at rd
        subst rd
        have hp' : (match st[j]? with
          | some (.lst xs) => (match ixN' xs.length i with
            | some k => (match xs[k]? with
              | some d => if -(2 ^ 63) ≤ i ∧ i < 2 ^ 63 then .ok d (st.set j (.lst (xs.eraseIdx k))) else .stuck
              | none => .stuck)
            | none => .stuck)
          | _ => .stuck : Res D).Post (QV X.K n H m Q) Er := hp
        cases e : st[j]? with
        | none => rw [e] at hp'; exact False.elim hp'
        | some ob =>
          cases ob with
          | lst ys =>
            rw [e] at hp'
            simp only at hp'
            obtain ⟨a, vs, rfl, e2, e3, e4⟩ := at_lst hs h2 e
            cases ek : ixN' ys.length i with
            | none => rw [ek] at hp'; exact False.elim hp'
            | some k =>
              rw [ek] at hp'
              simp only at hp'
              cases ey : ys[k]? with
              | none => rw [ey] at hp'; exact False.elim hp'
              | some d =>
                rw [ey] at hp'
                simp only at hp'
                split at hp'
                · rename_i hl
                  obtain ⟨w, g1, g2⟩ := e4.get ey
                  rw [ixN'_eq, e4.length] at ek
                  refine mt_popAt pins s σ H _ _ v us Q I rx rxs ⟨a, vs, i, k, w, rfl, rfl, e3, hl.1, hl.2, (ixN_seq ek).1, g1, ?_⟩
                  refine wrote (rel := fun H m n d v => RelD X.K H m n d v) hs e2 (ob := .lst _) ⟨_, upd_same, ?_⟩ hp' (RelD.go (Go.write e2) _ _ g2)
                  exact RelL.go (Go.write e2) _ _ (e4.eraseIdx k)
                · exact False.elim hp'
          | _ => rw [e] at hp'; exact False.elim hp'
      all_goals exact False.elim hp
    all_goals first | exact False.elim hp | (cases d <;> exact False.elim hp)
  · cases o <;> first | exact False.elim hp | (cases d <;> exact False.elim hp)
theorem count_ok : MtR X "list.count" (MH X .count) := by
  intro pins s σ H x xs v us Q I rx rxs ⟨o, ds, m, n, st, Er, hs, hr, hp⟩
  obtain ⟨h1, h2⟩ := snoc_rel hr
  rcases ds with _ | ⟨d, _ | ⟨d2, tl⟩⟩
  · exact False.elim hp
  · cases d
    case int k =>
      obtain ⟨y, rfl, rd⟩ := h1.one
      simp only [RelD] at rd
      subst rd
      have hp' : (match view st o with
        | .lst xs => optR ((intsD xs).map fun ns => D.int (ns.count k : Nat)) st
        | _ => .stuck : Res D).Post (QV X.K n H m Q) Er := hp
      cases ev : view st o with
      | lst ys =>
        rw [ev] at hp'
        simp only at hp'
        obtain ⟨a, vs, rfl, e2, e3⟩ := view_lst hs h2 ev
        cases ei : intsD ys with
        | none => rw [ei] at hp'; exact False.elim hp'
        | some ns =>
          rw [ei] at hp'
          have ez := RelL.of_ints ei e3
          subst ez
          exact mt_lcount pins s σ H _ _ v us Q I rx rxs ⟨a, ns, k, rfl, rfl, SqL.of e2, here hp' hs rInt⟩
      | _ => rw [ev] at hp'; exact False.elim hp'
    all_goals exact False.elim hp
  · cases d <;> exact False.elim hp
theorem findIdx_spec {α : Type} (p : α → Bool) : ∀ {xs : List α} {j : Nat}, xs.findIdx? p = some j → ∃ z, xs[j]? = some z ∧ p z = true ∧ ∀ m z', m < j → xs[m]? = some z' → p z' = false
  | [], j, h => by simp at h
  | x :: xs, j, h => by
    rw [List.findIdx?_cons] at h
    by_cases hx : p x = true
    · rw [hx] at h
      simp only [if_true, Option.some.injEq] at h
      subst h
      exact ⟨x, rfl, hx, fun m z' hm => absurd hm (Nat.not_lt_zero _)⟩
    · rw [Bool.eq_false_iff.mpr hx] at h
      simp only [Bool.false_eq_true, if_false, Option.map_eq_some_iff] at h
      obtain ⟨i, h1, h2⟩ := h
      obtain ⟨z, g1, g2, g3⟩ := findIdx_spec p h1
      subst h2
      refine ⟨z, by simpa using g1, g2, fun m z' hm e => ?_⟩
      cases m with
      | zero => simp at e; subst e; exact Bool.eq_false_iff.mpr hx
      | succ m => exact g3 m z' (by omega) (by simpa using e)
theorem pyL_get : ∀ {xs : List D} {i : Nat}, (D.pyL xs)[i]? = (xs[i]?).map D.py
  | [], i => by simp [D.pyL]
  | x :: xs, 0 => by simp [D.pyL]
  | x :: xs, i + 1 => by simp only [D.pyL, List.getElem?_cons_succ]; exact pyL_get
theorem index_ok (hu : X.A.units + 65 < cLine) : MtR X "list.index" (MH X .index) := by
  intro pins s σ H x xs v us Q I rx rxs ⟨o, ds, m, n, st, Er, hs, hr, hp⟩
  obtain ⟨h1, h2⟩ := snoc_rel hr
  rcases ds with _ | ⟨d, _ | ⟨d2, tl⟩⟩
  · exact False.elim hp
  · obtain ⟨y, rfl, rd⟩ := h1.one
    have hp' : (match view st o with
      | .lst xs => if d.data 62 && D.dataL xs 62 then optR ((xs.findIdx? fun z => D.eqv z d).map fun j => D.int (j : Nat)) st else .stuck
      | _ => .stuck : Res D).Post (QV X.K n H m Q) Er := hp
    cases ev : view st o with
    | lst ys =>
      rw [ev] at hp'
      simp only at hp'
      split at hp'
      · rename_i hc
        simp only [Bool.and_eq_true] at hc
        cases ei : ys.findIdx? fun z => D.eqv z d with
        | none => rw [ei] at hp'; exact False.elim hp'
        | some j =>
          rw [ei] at hp'
          obtain ⟨a, vs, rfl, e2, e3⟩ := view_lst hs h2 ev
          obtain ⟨z, g1, g2, g3⟩ := findIdx_spec _ ei
          have dp2 : Dp X.K H (.ref a) (.list (D.pyL ys)) := .lst (SqL.of e2) (RelL.dp ys vs 62 e3 hc.2)
          refine mt_indexD hu pins s σ H _ _ v us Q I rx rxs ⟨a, y, d.py, D.pyL ys, j, z.py, rfl, rfl, dp2, RelD.dp _ _ 62 rd hc.1, ?_, data_shaped hc.1 (by decide), by rw [pyL_get, g1]; rfl, g2, fun k z' hk e => ?_, here hp' hs rInt⟩
          · exact data_shaped (d := .lst ys) (k := 63) (by simpa [D.data] using hc.2) (by decide)
          · rw [pyL_get] at e
            obtain ⟨w, e1, rfl⟩ := Option.map_eq_some_iff.mp e
            exact g3 k w hk e1
      · exact False.elim hp'
    | _ => rw [ev] at hp'; exact False.elim hp'
  · exact False.elim hp
theorem get_ok (hu : X.A.units + 1 < cLine) : MtR X "dict.get" (MH X .get) := by
  intro pins s σ H x xs v us Q I rx rxs ⟨o, ds, m, n, st, Er, hs, hr, hp⟩
  obtain ⟨h1, h2⟩ := snoc_rel hr
  rcases ds with _ | ⟨k, _ | ⟨d, _ | ⟨d3, tl⟩⟩⟩
  · exact False.elim hp
  · obtain ⟨y, rfl, rk⟩ := h1.one
    have hp' : (match getD o k st with
      | some r => .ok (r.getD .non) st
      | none => .stuck : Res D).Post (QV X.K n H m Q) Er := hp
    cases eg : getD o k st with
    | none => rw [eg] at hp'; exact False.elim hp'
    | some r =>
      rw [eg] at hp'
      obtain ⟨a, w, rfl, dg, rel⟩ := getD_ok hs h2 rk eg
      cases rx
      obtain ⟨u, rfl, ru⟩ := vals1 rxs
      refine d_get1 hu I dg ru fun w' s' I' r' => ⟨_, H, I', r', ?_⟩
      rcases rel with ⟨q1, q2⟩ | ⟨d', v', q1, q2, q3⟩
      · subst q1; subst q2; exact here hp' hs rNon
      · subst q1; subst q2; exact here hp' hs q3
  · obtain ⟨y, z, rfl, rk, rdd⟩ := h1.two
    have hp' : (match getD o k st with
      | some r => .ok (r.getD d) st
      | none => .stuck : Res D).Post (QV X.K n H m Q) Er := hp
    cases eg : getD o k st with
    | none => rw [eg] at hp'; exact False.elim hp'
    | some r =>
      rw [eg] at hp'
      obtain ⟨a, w, rfl, dg, rel⟩ := getD_ok hs h2 rk eg
      cases rx
      obtain ⟨u, u2, rfl, ru, ru2⟩ := vals2 rxs
      refine d_get2 hu I dg ru ru2 fun w' s' I' r' => ⟨_, H, I', r', ?_⟩
      rcases rel with ⟨q1, q2⟩ | ⟨d', v', q1, q2, q3⟩
      · subst q1; subst q2; exact here hp' hs rdd
      · subst q1; subst q2; exact here hp' hs q3
  · exact False.elim hp
theorem extend_ok : MtR X "list.extend" (MH X .extend) := by
  intro pins s σ H x xs v us Q I rx rxs ⟨o, ds, m, n, st, Er, hs, hr, hp⟩
  obtain ⟨h1, h2⟩ := snoc_rel hr
  rcases ds with _ | ⟨d, _ | ⟨d2, tl⟩⟩
  · cases o <;> exact False.elim hp
  · cases o
    case loc j =>
      obtain ⟨y, rfl, rd⟩ := h1.one
      have hp' : (match st[j]?, view st d with
        | some (.lst xs), .lst ys => if xs.length + ys.length ≤ sizeLine then .ok .non (st.set j (.lst (xs ++ ys))) else .stuck
        | _, _ => .stuck : Res D).Post (QV X.K n H m Q) Er := hp
      split at hp'
      · rename_i xs' ys' e ev
        obtain ⟨a, vs, rfl, e2, e3, e4⟩ := at_lst hs h2 e
        obtain ⟨b, ws, rfl, f2, f3⟩ := view_lst hs rd ev
        split at hp'
        · rename_i hl
          refine mt_extend pins s σ H _ _ v us Q I rx rxs ⟨a, b, vs, ws, rfl, rfl, e3, f2, by rw [← e4.length, ← f3.length]; exact hl, ?_⟩
          refine wrote (rel := fun H m n d v => RelD X.K H m n d v) hs e2 (ob := .lst _) ⟨_, upd_same, ?_⟩ hp' rNon
          exact RelL.go (Go.write e2) _ _ (e4.append f3)
        · exact False.elim hp'
      · exact False.elim hp'
    all_goals exact False.elim hp
  · cases o <;> exact False.elim hp
/-! ### o[i] = v -/
def WH (K : PySem.W.Frag) (od idd vd : D) (o i v : V) (H : Hp) (Q : Hp → Prop) : Prop :=
  ∃ m n st st', StR K H m n st ∧ RelD K H m n od o ∧ RelD K H m n idd i ∧ RelD K H m n vd v ∧ setD od idd vd st = some st' ∧ ∀ H', Go H m H' m → StR K H' m n st' → Q H'
theorem set_ok (hu : X.A.units + 1 < cLine) : PSet X (fun o i v H Q => ∃ od idd vd, WH X.K od idd vd o i v H Q) := by
  intro pins s σ H o i v ov iv u Q I ro ri rv ⟨od, idd, vd, m, n, st, st', hs, rod, rid, rvd, e, hq⟩
  unfold setD at e
  cases od
  case loc j =>
    simp only at e
    simp only [RelD] at rod
    obtain ⟨a, rfl, e2⟩ := rod
    obtain ⟨ob, e3⟩ := hs.there e2
    rw [e3] at e
    have q := hs.place j a ob e2 e3
    cases ob with
    | lst xs =>
      obtain ⟨vs, q1, q2⟩ := q
      cases idd
      case int k =>
        simp only [RelD] at rid
        simp only [Option.map_eq_some_iff] at e
        obtain ⟨i', g1, g2⟩ := e
        rw [ixN'_eq, q2.length] at g1
        refine set_list pins s σ H _ _ v ov iv u Q I ro ri rv ⟨a, vs, k, i', rfl, rid, q1, g1, hq _ (Go.write e2) ?_⟩
        rw [← g2]
        exact hs.write e2 ⟨_, upd_same, RelL.go (Go.write e2) _ _ (q2.set rvd i')⟩
      all_goals cases e
    | dK kvs =>
      obtain ⟨kvs', q1, q2⟩ := q
      simp only at e
      cases ek : idd.key with
      | none => rw [ek] at e; cases e
      | some k =>
        rw [ek] at e
        simp only at e
        split at e
        · rename_i hl
          cases e
          refine set_dict hu pins s σ H _ _ v ov iv u Q I ro ri rv ⟨a, _, rfl, .inl ⟨kvs', k, q1, key_rel rid ek, by rw [← q2.length]; exact hl, rfl⟩, hq _ (Go.write e2) ?_⟩
          exact hs.write e2 ⟨_, upd_same, Paired.mapR (q2.put rvd) fun _ _ z => ⟨z.1, RelD.go (Go.write e2) _ _ z.2⟩⟩
        · cases e
    | dT kvs =>
      obtain ⟨kvs', q1, q2⟩ := q
      simp only at e
      cases ek : idd.keyT with
      | none => rw [ek] at e; cases e
      | some k =>
        rw [ek] at e
        simp only at e
        split at e
        · rename_i hl
          cases e
          obtain ⟨b, z1, z2⟩ := keyT_rel rid ek
          refine set_dict hu pins s σ H _ _ v ov iv u Q I ro ri rv ⟨a, _, rfl, .inr ⟨kvs', k, b, q1, z1, z2, by rw [← q2.length]; exact hl, rfl⟩, hq _ (Go.write e2) ?_⟩
          exact hs.write e2 ⟨_, upd_same, Paired.mapR (q2.put rvd) fun _ _ z => ⟨z.1, RelD.go (Go.write e2) _ _ z.2⟩⟩
        · cases e
  all_goals cases e
/-- x op= y -/
theorem aug_ok {op : Operator} : PIp X op (fun x y H Q => ∃ d e, VH X.K [e, d] [y, x] (augD op d e) H Q) := by
  intro pins s σ H x y v u Q I rx ry ⟨d, e, m, n, st, Er, hs, hr, hp⟩
  obtain ⟨rd, re⟩ := two_of hr
  unfold augD at hp
  split at hp
  · simp only [RelD] at rd re
    exact ip_add pins s σ H x y v u Q I rx ry ⟨_, _, rd, re, here hp hs rInt⟩
  · simp only [RelD] at rd re
    exact ip_sub pins s σ H x y v u Q I rx ry ⟨_, _, rd, re, here hp hs rInt⟩
  · exact False.elim hp
theorem pget_ok (hu : X.A.units + 1 < cLine) : PGet X (fun x y H Q => ∃ d e, VH X.K [e, d] [y, x] (ixD d e) H Q) := by
  intro pins s σ H x y v u Q I rx ry ⟨d, e, m, n, st, Er, hs, hr, hp⟩
  obtain ⟨rd, re⟩ := two_of hr
  unfold ixD at hp
  split at hp
  · rename_i xs i h1
    obtain ⟨a, vs, rfl, e2, e3⟩ := rel_tup rd h1
    simp only [RelD] at re
    subst re
    cases ha : at? xs i with
    | none => rw [ha] at hp; exact False.elim hp
    | some z =>
      rw [ha] at hp
      obtain ⟨w, h2, h3⟩ := at_rel e3 ha
      cases rx
      obtain ⟨t, rfl⟩ := ry
      obtain ⟨its, rr, pl, hz⟩ := I.tuple (SqT.of e2)
      obtain ⟨j, g1, g2, g3, g4, g5⟩ := atI_get h2
      obtain ⟨w', ew, rw'⟩ := rr.get g2
      have hl := rr.length
      have hn := line63
      exact getItem_tuple (j := j) pl (by omega) (by omega) (by rw [List.size_toArray, ← hl]; exact g1) (by simpa using ew) ⟨w, H, I, rw', here hp hs h3⟩
  · rename_i xs i h1
    obtain ⟨a, vs, rfl, e2, e3⟩ := view_lst hs rd h1
    simp only [RelD] at re
    subst re
    cases ha : at? xs i with
    | none => rw [ha] at hp; exact False.elim hp
    | some z =>
      rw [ha] at hp
      obtain ⟨w, h2, h3⟩ := at_rel e3 ha
      cases rx
      obtain ⟨t, rfl⟩ := ry
      obtain ⟨its, rr, pl, hz⟩ := I.list (SqL.of e2)
      obtain ⟨j, g1, g2, g3, g4, g5⟩ := atI_get h2
      obtain ⟨w', ew, rw'⟩ := rr.get g2
      have hl := rr.length
      have hn := line63
      by_cases h0 : 0 ≤ i
      · have hj : i.toNat = j := by
          rw [seqIndex_of h0 g5] at g1
          exact Option.some.inj g1
        exact wpAny_getItem_list pl.isList h0 (by omega) (by rw [hj]; simpa using ew) ⟨w, H, I, rw', here hp hs h3⟩
      · have hj : (i + (its.toArray.size : Int)).toNat = j := by
          rw [seqIndex_neg (by omega) g4] at g1
          rw [List.size_toArray, ← hl]
          exact Option.some.inj g1
        exact wpAny_getItem_list_neg pl.isList (by omega) (by rw [List.size_toArray] <;> omega) (by omega) (by rw [hj]; simpa using ew) ⟨w, H, I, rw', here hp hs h3⟩
  · rename_i z i h1
    have ex := rel_str rd h1
    simp only [RelD] at re
    subst ex re
    split at hp
    · rename_i hl
      cases ha : at? z.cps.toList i with
      | none => rw [ha] at hp; exact False.elim hp
      | some c =>
        rw [ha] at hp
        obtain ⟨t, rfl⟩ := rx
        obtain ⟨t', rfl⟩ := ry
        obtain ⟨j, g1, g2, g3, g4, g5⟩ := atI_get (atI_of ha)
        have hn := line63
        have h6 : z.cps.toList.length = z.length := by simp [PySem.Str.length]
        rw [h6] at g1 g4 g5
        have b1 : decide (i < -(2 ^ 63 : Int)) = false := decide_eq_false (by omega)
        have b2 : decide (i ≥ 2 ^ 63) = false := decide_eq_false (by omega)
        exact getItem_str (c := c) (by rw [b1, b2, Bool.or_false]) (by rw [g1]; simpa using g2) ⟨.str ⟨#[c]⟩, H, I.tok _, ⟨_, rfl⟩, here hp hs rStr⟩
    · exact False.elim hp
  · rename_i e' z1 z2 h1 h2 h3
    cases ev : view st d with
    | loc j =>
      rw [ev] at hp
      cases eg : getD (.loc j) e' st with
      | none => rw [eg] at hp; exact False.elim hp
      | some r =>
        rw [eg] at hp
        cases r with
        | none => exact False.elim hp
        | some z =>
          rw [view_loc ev] at rd
          obtain ⟨a, w, ex, dg, rel⟩ := getD_ok hs rd re eg
          subst ex
          cases rx
          rcases rel with ⟨q, _⟩ | ⟨d', v', q1, q2, q3⟩
          · cases q
          · cases q1
            subst q2
            exact d_getItem hu I dg ry fun w' s' I' r' => ⟨v', H, I', r', here hp hs q3⟩
    | _ => rw [ev] at hp; exact False.elim (by simpa [getD, Res.Post] using hp)
end
end WT

set_option Elab.async false
set_option linter.all false
set_option maxRecDepth 100000
set_option maxHeartbeats 1000000
/-! WT8: what is gone over. -/
namespace WT
open PySem PySem.Spec PyProof.Rows L2
/-- more lists are being made -/
def Wid (H : Hp) (n n' : List Addr) : Prop := ∀ a, a ∈ n' → a ∈ n ∨ H a = none
mutual
theorem RelD.wid {K : PySem.W.Frag} {H : Hp} {m n n' : List Addr} (w : Wid H n n') : ∀ (d : D) (v : V), RelD K H m n d v → RelD K H m n' d v
  | .non, _, h => h
  | .bl _, _, h => h
  | .int _, _, h => h
  | .str _, _, h => h
  | .tup ds, v, h => by
    simp only [RelD] at h ⊢
    obtain ⟨a, vs, e, t, r⟩ := h
    exact ⟨a, vs, e, t, RelL.wid w ds vs r⟩
  | .lst ds, v, h => by
    simp only [RelD] at h ⊢
    obtain ⟨a, vs, e, t, h1, h2, r⟩ := h
    refine ⟨a, vs, e, t, h1, fun z => ?_, RelL.wid w ds vs r⟩
    rcases w a z with q | q
    · exact h2 q
    · rw [t] at q; cases q
  | .scr ds, v, h => by
    simp only [RelD] at h ⊢
    obtain ⟨a, vs, e, t, r⟩ := h
    exact ⟨a, vs, e, t, RelL.wid w ds vs r⟩
  | .loc k, v, h => h
theorem RelL.wid {K : PySem.W.Frag} {H : Hp} {m n n' : List Addr} (w : Wid H n n') : ∀ (ds : List D) (vs : List V), RelL K H m n ds vs → RelL K H m n' ds vs
  | [], _, h => h
  | d :: ds, vs, h => by
    simp only [RelL] at h ⊢
    obtain ⟨v, r, e, h1, h2⟩ := h
    exact ⟨v, r, e, RelD.wid w d v h1, RelL.wid w ds r h2⟩
end
/-- an iterator that goes over a source -/
structure ItR (K : PySem.W.Frag) (H1 : Hp) (m1 n : List Addr) (src : Src) (J : It) : Prop where
  go : ∀ H' m' n' st' ds i d, Go H1 m1 H' m' → StR K H' m' n' st' → Wid H1 n n' → srcItems st' src = some ds → ds[i]? = some d → J.go i H'
  yl : ∀ H' m' n' st' ds i d v H'', Go H1 m1 H' m' → StR K H' m' n' st' → Wid H1 n n' → srcItems st' src = some ds → ds[i]? = some d → J.yld i H' v H'' → (H'' = H' ∨ ∃ T o, H' T = none ∧ H'' = upd H' T o) ∧ RelD K H'' m' n' d v
  st : ∀ H' m' n' st' ds i, Go H1 m1 H' m' → StR K H' m' n' st' → Wid H1 n n' → srcItems st' src = some ds → ds.length = i → J.stop i H'
abbrev lI (X : Cx) : Lie Src It := fun H m n src J => ItR X.K H m n src J
theorem imp_i {X : Cx} {tg e : Expr} {t t' : TI} (h : PI X tg e t) (hi : ∀ s H Q, t' s H Q → t s H Q) : PI X tg e t' := ⟨fun pins s sg H Q I hw => h.run pins s sg H Q I (hi _ _ _ hw)⟩
section
variable {K : PySem.W.Frag} {H : Hp} {m n : List Addr} {st : Store}
def D.isTup : D → Bool
  | .tup _ => true | _ => false
theorem seq_at {d : D} {v : V} {xs : List D} (s : StR K H m n st) (r : RelD K H m n d v) (e : seqS st d = some xs) : ∃ a vs, v = .ref a ∧ SqA K H d.isTup a vs ∧ RelL K H m n xs vs := by
  unfold seqS at e
  cases ev : view st d with
  | tup ys =>
    rw [ev] at e; cases e
    obtain ⟨a, vs, e1, e2, e3⟩ := rel_tup r ev
    rw [view_tup ev]
    exact ⟨a, vs, e1, SqT.of e2, e3⟩
  | lst ys =>
    rw [ev] at e; cases e
    obtain ⟨a, vs, e1, e2, e3⟩ := view_lst s r ev
    have e0 : d.isTup = false := by
      cases d with
      | tup zs => simp [view] at ev
      | _ => rfl
    rw [e0]
    exact ⟨a, vs, e1, SqL.of e2, e3⟩
  | scr ys =>
    rw [ev] at e
    have e9 := Option.some.inj e
    subst e9
    have e0 : d = .scr ys := by
      cases d with
      | loc j =>
        simp only [view] at ev
        split at ev <;> cases ev
      | _ => simpa [view] using ev
    rw [e0] at r ⊢
    simp only [RelD] at r
    obtain ⟨a, vs, e1, e2, e3⟩ := r
    exact ⟨a, vs, e1, e2.sq, e3⟩
  | _ => rw [ev] at e; cases e
theorem seqO_S {d : D} {xs : List D} (e : seqOf st d = some xs) : seqS st d = some xs := by
  unfold seqOf at e
  unfold seqS
  cases ev : view st d with
  | tup ys => rw [ev] at e; exact e
  | lst ys => rw [ev] at e; exact e
  | _ => rw [ev] at e; cases e
theorem enum_get : ∀ {ds : List D} {i j : Nat}, (enumL ds j)[i]? = (ds[i]?).map fun d => .tup [.int ((j + i : Nat) : Int), d]
  | [], i, j => by simp [enumL]
  | d :: ds, 0, j => by simp [enumL]
  | d :: ds, i + 1, j => by
    simp only [enumL, List.getElem?_cons_succ]
    rw [enum_get]
    have : j + 1 + i = j + (i + 1) := by omega
    rw [this]
theorem enum_len : ∀ (ds : List D) (j : Nat), (enumL ds j).length = ds.length
  | [], j => by simp [enumL]
  | d :: ds, j => by simp [enumL, enum_len ds (j + 1)]
theorem zip_get {xs : List D} : ∀ {ys : List D} {i : Nat} {d : D}, (zip2 xs ys)[i]? = some d → ∃ x y, xs[i]? = some x ∧ ys[i]? = some y ∧ d = .tup [x, y] := by
  induction xs with
  | nil => intro ys i d h; simp [zip2] at h
  | cons x xs ih =>
    intro ys i d h
    cases ys with
    | nil => simp [zip2] at h
    | cons y ys =>
      cases i with
      | zero =>
        simp [zip2] at h
        exact ⟨x, y, rfl, rfl, h.symm⟩
      | succ i =>
        simp only [zip2, List.getElem?_cons_succ] at h
        exact ih h
theorem zip_len : ∀ (xs ys : List D), (zip2 xs ys).length = min xs.length ys.length
  | [], ys => by simp [zip2]
  | x :: xs, [] => by simp [zip2]
  | x :: xs, y :: ys => by simp only [zip2, List.length_cons, zip_len xs ys]; omega
end
section
variable {K : PySem.W.Frag} {H1 : Hp} {m1 n : List Addr}
/-- v lies still so -/
theorem rel_on {d : D} {v : V} {H' : Hp} {m' n' : List Addr} (r : RelD K H1 m1 n d v) (g : Go H1 m1 H' m') (w : Wid H1 n n') : RelD K H' m' n' d v := RelD.go g _ _ (RelD.wid w _ _ r)
theorem itr_val {d : D} {a : Addr} (r : RelD K H1 m1 n d (.ref a)) : ItR K H1 m1 n (.val d) (if d.isTup then Itt K a else Itl K a) where
  go := fun H' m' n' st' ds i x g s w e hi => by
    obtain ⟨a', vs, e1, e2, e3⟩ := seq_at s (rel_on r g w) (show seqS st' d = some ds from e)
    cases e1
    obtain ⟨u, hu, _⟩ := e3.get hi
    cases hd : d.isTup
    · rw [hd] at e2; exact ⟨vs, u, e2, hu⟩
    · rw [hd] at e2; exact ⟨vs, u, e2, hu⟩
  yl := fun H' m' n' st' ds i x v H'' g s w e hi hy => by
    obtain ⟨a', vs, e1, e2, e3⟩ := seq_at s (rel_on r g w) (show seqS st' d = some ds from e)
    cases e1
    obtain ⟨u, hu, ru⟩ := e3.get hi
    cases hd : d.isTup
    · rw [hd] at e2 hy
      obtain ⟨z1, z2⟩ := hy
      have := z2 vs e2
      rw [hu] at this; cases this
      subst z1
      exact ⟨.inl rfl, ru⟩
    · rw [hd] at e2 hy
      obtain ⟨z1, z2⟩ := hy
      have := z2 vs e2
      rw [hu] at this; cases this
      subst z1
      exact ⟨.inl rfl, ru⟩
  st := fun H' m' n' st' ds i g s w e hi => by
    obtain ⟨a', vs, e1, e2, e3⟩ := seq_at s (rel_on r g w) (show seqS st' d = some ds from e)
    cases e1
    have hl := e3.length
    cases hd : d.isTup
    · rw [hd] at e2; exact ⟨vs, e2, by omega⟩
    · rw [hd] at e2; exact ⟨vs, e2, by omega⟩
theorem range_get {a b : Int} {i : Nat} {d : D} (h : (rangeL a b)[i]? = some d) : i < (b - a).toNat ∧ d = .int (a + (i : Nat)) := by
  unfold rangeL at h
  rw [List.getElem?_map] at h
  obtain ⟨j, h1, h2⟩ := Option.map_eq_some_iff.mp h
  obtain ⟨h3, h4⟩ := List.getElem?_eq_some_iff.mp h1
  simp at h3 h4
  subst h4
  exact ⟨by omega, h2.symm⟩
theorem itr_rng {a b : Int} : ItR K H1 m1 n (.rng a b) (Itr a (b - a).toNat) where
  go := fun H' m' n' st' ds i x g s w e hi => by
    cases e
    exact (range_get hi).1
  yl := fun H' m' n' st' ds i x v H'' g s w e hi hy => by
    cases e
    obtain ⟨z1, z2⟩ := hy
    rw [(range_get hi).2, z2]
    exact ⟨.inl z1, rInt⟩
  st := fun H' m' n' st' ds i g s w e hi => by
    cases e
    show (b - a).toNat ≤ i
    rw [← hi]; simp [rangeL]
theorem itr_enum {d : D} {a : Addr} (r : RelD K H1 m1 n d (.ref a)) : ItR K H1 m1 n (.enum d) (ItEn K d.isTup a) where
  go := fun H' m' n' st' ds i x g s w e hi => by
    obtain ⟨xs, ex, e⟩ := Option.map_eq_some_iff.mp (show (seqOf st' d).map (fun xs => enumL xs 0) = some ds from e)
    obtain ⟨a', vs, e1, e2, e3⟩ := seq_at s (rel_on r g w) (seqO_S ex)
    cases e1
    rw [← e, enum_get] at hi
    obtain ⟨y, hy, _⟩ := Option.map_eq_some_iff.mp hi
    obtain ⟨u, hu, _⟩ := e3.get hy
    exact ⟨vs, u, e2, hu⟩
  yl := fun H' m' n' st' ds i x v H'' g s w e hi hy => by
    obtain ⟨xs, ex, e⟩ := Option.map_eq_some_iff.mp (show (seqOf st' d).map (fun xs => enumL xs 0) = some ds from e)
    obtain ⟨a', vs, e1, e2, e3⟩ := seq_at s (rel_on r g w) (seqO_S ex)
    cases e1
    rw [← e, enum_get] at hi
    obtain ⟨y, hxy, rfl⟩ := Option.map_eq_some_iff.mp hi
    obtain ⟨u, hu, ru⟩ := e3.get hxy
    obtain ⟨T, x', rfl, hT, rfl, hx'⟩ := hy
    have := hx' vs e2
    rw [hu] at this; cases this
    refine ⟨.inr ⟨T, _, hT, rfl⟩, ?_⟩
    simp only [RelD]
    refine ⟨T, _, rfl, ⟨upd_same, s.notin hT⟩, .cons ?_ (.cons (RelD.go (Go.free hT) _ _ ru) .nil)⟩
    simp only [RelD]
    rw [Nat.zero_add]
  st := fun H' m' n' st' ds i g s w e hi => by
    obtain ⟨xs, ex, e⟩ := Option.map_eq_some_iff.mp (show (seqOf st' d).map (fun xs => enumL xs 0) = some ds from e)
    obtain ⟨a', vs, e1, e2, e3⟩ := seq_at s (rel_on r g w) (seqO_S ex)
    cases e1
    refine ⟨vs, e2, ?_⟩
    rw [← e3.length, ← hi, ← e, enum_len]
theorem itr_zip {d e : D} {a b : Addr} (r : RelD K H1 m1 n d (.ref a)) (r' : RelD K H1 m1 n e (.ref b)) : ItR K H1 m1 n (.zip d e) (ItZ K d.isTup e.isTup a b) where
  go := fun H' m' n' st' ds i x g s w q hi => by
    have q' : (match seqOf st' d, seqOf st' e with | some xs, some ys => some (zip2 xs ys) | _, _ => none) = some ds := q
    split at q'
    · rename_i xs ys ex ey
      cases q'
      obtain ⟨a', vs, e1, e2, e3⟩ := seq_at s (rel_on r g w) (seqO_S ex)
      obtain ⟨b', ws, f1, f2, f3⟩ := seq_at s (rel_on r' g w) (seqO_S ey)
      cases e1; cases f1
      obtain ⟨x1, y1, h1, h2, _⟩ := zip_get hi
      obtain ⟨u, hu, _⟩ := e3.get h1
      obtain ⟨u2, hu2, _⟩ := f3.get h2
      exact ⟨vs, ws, u, u2, e2, f2, hu, hu2⟩
    · cases q'
  yl := fun H' m' n' st' ds i x v H'' g s w q hi hy => by
    have q' : (match seqOf st' d, seqOf st' e with | some xs, some ys => some (zip2 xs ys) | _, _ => none) = some ds := q
    split at q'
    · rename_i xs ys ex ey
      cases q'
      obtain ⟨a', vs, e1, e2, e3⟩ := seq_at s (rel_on r g w) (seqO_S ex)
      obtain ⟨b', ws, f1, f2, f3⟩ := seq_at s (rel_on r' g w) (seqO_S ey)
      cases e1; cases f1
      obtain ⟨x1, y1, h1, h2, rfl⟩ := zip_get hi
      obtain ⟨u, hu, ru⟩ := e3.get h1
      obtain ⟨u2, hu2, ru2⟩ := f3.get h2
      obtain ⟨T, x', y', rfl, hT, rfl, hx', hy'⟩ := hy
      have z1 := hx' vs e2
      rw [hu] at z1; cases z1
      have z2 := hy' ws f2
      rw [hu2] at z2; cases z2
      refine ⟨.inr ⟨T, _, hT, rfl⟩, ?_⟩
      simp only [RelD]
      exact ⟨T, _, rfl, ⟨upd_same, s.notin hT⟩, .cons (RelD.go (Go.free hT) _ _ ru) (.cons (RelD.go (Go.free hT) _ _ ru2) .nil)⟩
    · cases q'
  st := fun H' m' n' st' ds i g s w q hi => by
    have q' : (match seqOf st' d, seqOf st' e with | some xs, some ys => some (zip2 xs ys) | _, _ => none) = some ds := q
    split at q'
    · rename_i xs ys ex ey
      cases q'
      obtain ⟨a', vs, e1, e2, e3⟩ := seq_at s (rel_on r g w) (seqO_S ex)
      obtain ⟨b', ws, f1, f2, f3⟩ := seq_at s (rel_on r' g w) (seqO_S ey)
      cases e1; cases f1
      exact ⟨vs, ws, e2, f2, by rw [← e3.length, ← f3.length, ← zip_len]; exact hi⟩
    · cases q'
end
section
variable {X : Cx} {W : L2.WX}
theorem pi_sq {tg l : Expr} {tl : TE} (hl : PE X l tl) : PI X tg l (fun σ H R => tl σ H fun x H1 => ∃ t a xs, x = .ref a ∧ SqA X.K H1 t a xs ∧ R (if t then Itt X.K a else Itl X.K a) H1) := by
  refine ⟨fun pins s σ H R I h => thn (hl.run pins s σ H _ I h) fun v s1 ⟨x, H1, I1, r1, q1⟩ => ?_⟩
  obtain ⟨t, a, xs, e, hq, q⟩ := q1
  subst e
  cases r1
  have fp : ∀ b ∈ [s1.heap.objs.size], FpOk X pins H1 b := fun b hb => by
    obtain rfl := List.mem_singleton.mp hb
    exact I1.fpOk (Nat.le_refl _) (I1.hok.fresh (Nat.le_refl _))
  cases t
  · obtain ⟨its, rv, p, hz⟩ := I1.list (show SqL X.K H1 a xs from hq)
    exact wpAny_pyIter_list p.isList ⟨s1.heap.objs.size, [s1.heap.objs.size], _, _, H1, rfl, I1.kept (t' := s1.toks) fun b o e => Heap.get?_push_of_some _ e, turn_list a _, ⟨_, Heap.get?_push_size _ rfl, rfl, rfl⟩, fp, q⟩
  · obtain ⟨its, rv, p, hz⟩ := I1.tuple (show SqT X.K H1 a xs from hq)
    exact wpAny_pyIter_tuple (show s1.heap.IsTuple a its.toArray from p) ⟨s1.heap.objs.size, [s1.heap.objs.size], _, _, H1, rfl, I1.kept (t' := s1.toks) fun b o e => Heap.get?_push_of_some _ e, turn_tuple a _, ⟨_, Heap.get?_push_size _ rfl, rfl, rfl⟩, fp, q⟩
/-- the reading of a loop's head -/
abbrev TIx (X : Cx) (W : L2.WX) (f : Env → Store → Res (List D)) (k : ItK) : TI := TR X W (lI X) [] [] (fun r st => (f r st).bind fun ds st => optR (srcOf k ds st) st)
theorem TR.post_it {hs : List D} {xs : List V} {k : ItK} {ds : List D} {σ : L2.St} {H : Hp} {R : It → Hp → Prop} (h : TR X W (lI X) hs xs (fun _ st => optR (srcOf k ds st) st) σ H R) :
    ∃ m n st src, StR X.K H m n st ∧ RelL X.K H m n hs xs ∧ srcOf k ds st = some src ∧ ∀ J, ItR X.K H m n src J → R J H := by
  obtain ⟨m, n, r, st, h1, h2, h3, h4⟩ := h
  dsimp only at h4
  cases e : srcOf k ds st with
  | none => rw [e] at h4; exact False.elim h4
  | some src =>
    rw [e] at h4
    exact ⟨m, n, st, src, h1, h3, e, fun J q => h4 H m J (Go.refl _ _) h1 q⟩
theorem pi_val_ok {tg l : Expr} {f : Env → Store → Res D} (hl : PE X l (TD X W f)) : PI X tg l (TIx X W (fun r st => (f r st).bind fun x st => .ok [x] st) .val) := by
  refine imp_i (pi_sq hl) fun σ H R h => ?_
  have h' : TR X W (lI X) [] [] (fun r st => (f r st).bind fun x st => optR (srcOf .val [x] st) st) σ H R := by
    have : (fun r st => ((f r st).bind fun x st => Res.ok [x] st).bind fun ds st => optR (srcOf .val ds st) st) = fun r st => (f r st).bind fun x st => optR (srcOf .val [x] st) st := by
      funext r st; rw [Res.bind_assoc]; rfl
    rw [← this]; exact h
  refine h'.bindD.mono fun v H1 ⟨d, q⟩ => ?_
  obtain ⟨m, n, st, src, hs, hr, e, q2⟩ := TR.post_it q
  obtain ⟨v', ev, rd⟩ := hr.one
  cases ev
  obtain ⟨ys, ey, rfl⟩ := Option.map_eq_some_iff.mp (show (seqS st d).map (fun _ => Src.val d) = some src from e)
  obtain ⟨a, vs, rfl, e2, e3⟩ := seq_at hs rd ey
  exact ⟨d.isTup, a, vs, rfl, e2, q2 _ (itr_val rd)⟩
theorem pi_rng1_ok {tg e : Expr} {p pos : Pos} {f : Env → Store → Res D} (hg : Gl X "range") (hm : X.mg "range" = none) (ha : PE X e (TD X W f)) (hs : starEach [e] X.env = [(false, eval e X.env)]) :
    PI X tg (.Call (.Name "range" p) [e] [] pos) (TIx X W (fun r st => (f r st).bind fun x st => .ok [x] st) .rng) := by
  refine imp_i (pi_range1 hg hm (pa_cons ha pa_nil hs) hs) fun σ H R h => ?_
  have h' : TR X W (lI X) [] [] (fun r st => (f r st).bind fun x st => optR (srcOf .rng [x] st) st) σ H R := by
    have : (fun r st => ((f r st).bind fun x st => Res.ok [x] st).bind fun ds st => optR (srcOf .rng ds st) st) = fun r st => (f r st).bind fun x st => optR (srcOf .rng [x] st) st := by
      funext r st; rw [Res.bind_assoc]; rfl
    rw [← this]; exact h
  refine h'.bindD.mono fun v H1 ⟨d, q⟩ => ?_
  obtain ⟨m, n, st, src, hs, hr, e, q2⟩ := TR.post_it q
  obtain ⟨v', ev, rd⟩ := hr.one
  cases ev
  cases d
  case int b =>
    simp only [RelD] at rd
    have e' : (if In62 b then some (Src.rng 0 b) else none) = some src := e
    split at e'
    · rename_i hb
      cases e'
      refine ⟨b, by rw [rd], hb.1, hb.2, ?_⟩
      have := q2 _ (itr_rng (a := 0) (b := b))
      rw [Int.sub_zero] at this
      exact this
    · cases e'
  all_goals cases e
theorem pi_rng2_ok {tg e e2 : Expr} {p pos : Pos} {f f2 : Env → Store → Res D} (hg : Gl X "range") (hm : X.mg "range" = none) (ha : PE X e (TD X W f)) (hb : PE X e2 (TD X W f2)) (hs : starEach [e, e2] X.env = [(false, eval e X.env), (false, eval e2 X.env)]) (hs2 : starEach [e2] X.env = [(false, eval e2 X.env)]) :
    PI X tg (.Call (.Name "range" p) [e, e2] [] pos) (TIx X W (fun r st => (f r st).bind fun x st => (f2 r st).bind fun y st => .ok [x, y] st) .rng) := by
  refine imp_i (pi_range2 hg hm (pa_cons ha (pa_cons hb pa_nil hs2) (by rw [hs, hs2])) hs hs2) fun σ H R h => ?_
  have h' : TR X W (lI X) [] [] (fun r st => (f r st).bind fun x st => (f2 r st).bind fun y st => optR (srcOf .rng [x, y] st) st) σ H R := by
    have : (fun r st => ((f r st).bind fun x st => (f2 r st).bind fun y st => Res.ok [x, y] st).bind fun ds st => optR (srcOf .rng ds st) st) = fun r st => (f r st).bind fun x st => (f2 r st).bind fun y st => optR (srcOf .rng [x, y] st) st := by
      funext r st
      rw [Res.bind_assoc]
      congr 1
      funext x st
      rw [Res.bind_assoc]; rfl
    rw [← this]; exact h
  refine h'.bindD.mono fun v H1 ⟨d, q⟩ => ?_
  refine TR.mono (TR.drop (TR.bindH q)) fun w H2 ⟨d2, q⟩ => ?_
  obtain ⟨m, n, st, src, hs, hr, e, q2⟩ := TR.post_it q
  obtain ⟨w', v', ev, rd2, rd⟩ := hr.two
  cases ev
  clear q
  cases d with
  | int a =>
    cases d2 with
    | int b =>
      simp only [RelD] at rd rd2
      have e' : (if In62 a ∧ In62 b then some (Src.rng a b) else none) = some src := e
      split at e'
      · rename_i hb
        cases e'
        exact ⟨a, b, by rw [rd, rd2], ⟨hb.1.1, hb.1.2, hb.2.1, hb.2.2⟩, q2 _ itr_rng⟩
      · cases e'
    | _ => cases e
  | _ => cases e
theorem pi_en_ok {e : Expr} {p pos tpos : Pos} {elts : List Expr} {kk : Nat} {f : Env → Store → Res (List D)} (hg : Gl X "enumerate") (hm : X.mg "enumerate" = none) (ha : PA X [e] (TL X W f)) (hs : starEach [e] X.env = [(false, eval e X.env)]) :
    PI X (.Tuple elts kk tpos) (.Call (.Name "enumerate" p) [e] [] pos) (TIx X W f .enum) := by
  refine imp_i (pi_en hg hm ha hs) fun σ H R h => h.bindL.mono fun vs H1 ⟨ds, q⟩ => ?_
  obtain ⟨m, n, st, src, hs, hr, e, q2⟩ := TR.post_it q
  simp only [List.append_nil] at hr
  rcases ds with _ | ⟨d, _ | ⟨d2, tl⟩⟩
  · cases e
  · obtain ⟨v', ev, rd⟩ := hr.one
    subst ev
    obtain ⟨ys, ey, rfl⟩ := Option.map_eq_some_iff.mp (show (seqOf st d).map (fun _ => Src.enum d) = some src from e)
    obtain ⟨a, vs, rfl, e2, e3⟩ := seq_at hs rd (seqO_S ey)
    exact ⟨d.isTup, a, vs, rfl, e2, q2 _ (itr_enum rd)⟩
  · cases e
theorem pi_z_ok {e e2 : Expr} {p pos tpos : Pos} {elts : List Expr} {kk : Nat} {f : Env → Store → Res (List D)} (hg : Gl X "zip") (hm : X.mg "zip" = none) (ha : PA X [e, e2] (TL X W f)) (hs : starEach [e, e2] X.env = (false, eval e X.env) :: starEach [e2] X.env) (hpl : (backTo pos (starEach [e2] X.env)).any (·.1) = false) :
    PI X (.Tuple elts kk tpos) (.Call (.Name "zip" p) [e, e2] [] pos) (TIx X W f (.zip false)) := by
  refine imp_i (pi_z hg hm ha hs hpl) fun σ H R h => h.bindL.mono fun vs H1 ⟨ds, q⟩ => ?_
  obtain ⟨m, n, st, src, hs, hr, e, q2⟩ := TR.post_it q
  simp only [List.append_nil] at hr
  rcases ds with _ | ⟨d, _ | ⟨d2, _ | ⟨d3, tl⟩⟩⟩
  · cases e
  · cases e
  · obtain ⟨v', w', ev, rd, rd2⟩ := hr.two
    subst ev
    have e' : (match seqOf st d, seqOf st d2 with | some _, some _ => some (Src.zip d d2) | _, _ => none) = some src := e
    split at e'
    · rename_i xs ys ex ey
      cases e'
      obtain ⟨a, vs, rfl, e2, e3⟩ := seq_at hs rd (seqO_S ex)
      obtain ⟨b, ws, rfl, f2, f3⟩ := seq_at hs rd2 (seqO_S ey)
      exact ⟨d.isTup, d2.isTup, a, b, vs, ws, rfl, e2, f2, q2 _ (itr_zip rd rd2)⟩
    · cases e'
  · cases e
end
end WT

set_option Elab.async false
set_option linter.all false
set_option maxRecDepth 100000
set_option maxHeartbeats 1000000
/-! WT9: targets, comprehensions, loops: their readings. -/
namespace WT
open PySem PySem.Spec PyProof.Rows L2
/-! ### targets -/
mutual
def slots : Tg → List Nat
  | .nm i => [i]
  | .tp ts => slotsL ts
def slotsL : List Tg → List Nat
  | [] => []
  | t :: ts => slots t ++ slotsL ts
end
def Same (σ σ' : L2.St) (vs : List Nat) : Prop := σ'.length = σ.length ∧ ∀ i, i ∉ vs → σ'[i]? = σ[i]?
theorem Same.refl (σ : L2.St) (vs : List Nat) : Same σ σ vs := ⟨rfl, fun _ _ => rfl⟩
theorem Same.trans {σ σ1 σ2 : L2.St} {vs ws : List Nat} (h : Same σ σ1 vs) (g : Same σ1 σ2 ws) : Same σ σ2 (vs ++ ws) :=
  ⟨g.1.trans h.1, fun i hi => (g.2 i fun z => hi (List.mem_append_right _ z)).trans (h.2 i fun z => hi (List.mem_append_left _ z))⟩
def gD (K : PySem.W.Frag) (tg : Tg) : TG := fun v σ H Q => ∃ m n d r r', RelD K H m n d v ∧ EnvR K H m n r σ ∧ asgT tg d r = some r' ∧ ∀ σ', EnvR K H m n r' σ' → Same σ σ' (slots tg) → Q σ' H
def gDs (K : PySem.W.Frag) (ts : List Tg) : TGs := fun vs σ H Q => ∃ m n ds r r', RelL K H m n ds vs ∧ EnvR K H m n r σ ∧ asgTs ts ds r = some r' ∧ ∀ σ', EnvR K H m n r' σ' → Same σ σ' (slotsL ts) → Q σ' H
theorem imp_g {X : Cx} {e : Expr} {t t' : TG} (h : PG X e t) (hi : ∀ v s H Q, t' v s H Q → t v s H Q) : PG X e t' := ⟨fun pins s sg H v u Q I r hw => h.run pins s sg H v u Q I r (hi _ _ _ _ hw)⟩
theorem imp_gs {X : Cx} {e : List Expr} {t t' : TGs} (h : PGs X e t) (hi : ∀ v s H Q, t' v s H Q → t v s H Q) : PGs X e t' := ⟨fun pins s sg H v u Q I r hw => h.run pins s sg H v u Q I r (hi _ _ _ _ hw)⟩
theorem EnvR.set {K : PySem.W.Frag} {H : Hp} {m n : List Addr} {r : Env} {σ : L2.St} {d : D} {v : V} (h : EnvR K H m n r σ) (rd : RelD K H m n d v) (i : Nat) : EnvR K H m n (r.set i (some d)) (σ.set i (some v)) := by
  refine ⟨by rw [List.length_set, List.length_set]; exact h.1, fun j d' e => ?_⟩
  by_cases hj : i = j
  · subst hj
    rw [List.getElem?_set] at e
    rw [if_pos rfl] at e
    split at e
    · rename_i hl
      cases e
      exact ⟨v, by rw [List.getElem?_set_self (by rw [← h.1]; exact hl)], rd⟩
    · cases e
  · rw [List.getElem?_set_ne hj] at e
    obtain ⟨w, e1, e2⟩ := h.2 j d' e
    exact ⟨w, by rw [List.getElem?_set_ne hj]; exact e1, e2⟩
theorem gD_nm {K : PySem.W.Frag} {i : Nat} {v : V} {σ : L2.St} {H : Hp} {Q : L2.St → Hp → Prop} (h : gD K (.nm i) v σ H Q) : gName i v σ H Q := by
  obtain ⟨m, n, d, r, r', h1, h2, h3, h4⟩ := h
  simp only [asgT, Option.some.injEq] at h3
  refine h4 (σ.set i (some v)) (by rw [← h3]; exact h2.set h1 i) ⟨by rw [List.length_set], fun j hj => ?_⟩
  rw [List.getElem?_set_ne]
  intro z
  exact hj (by rw [← z]; simp [slots])
theorem gD_tp {K : PySem.W.Frag} {ts : List Tg} {v : V} {σ : L2.St} {H : Hp} {Q : L2.St → Hp → Prop} (h : gD K (.tp ts) v σ H Q) : gTup K ts.length (gDs K ts) v σ H Q := by
  obtain ⟨m, n, d, r, r', h1, h2, h3, h4⟩ := h
  cases d with
  | tup ds =>
    simp only [asgT] at h3
    simp only [RelD] at h1
    obtain ⟨a, vs, e1, e2, e3⟩ := h1
    have hl : ∀ (ts : List Tg) (ds : List D) (r r' : Env), asgTs ts ds r = some r' → ds.length = ts.length := by
      intro ts
      induction ts with
      | nil => intro ds r r' e; cases ds <;> first | rfl | (simp [asgTs] at e)
      | cons t ts ih =>
        intro ds r r' e
        cases ds with
        | nil => simp [asgTs] at e
        | cons d ds =>
          simp only [asgTs] at e
          split at e
          · rw [List.length_cons, List.length_cons, ih _ _ _ e]
          · cases e
    exact ⟨a, vs, e1, e2.sq, by rw [← e3.length]; exact hl _ _ _ _ h3, m, n, ds, r, r', e3, h2, h3, fun σ' g1 g2 => h4 σ' g1 (by simpa [slots] using g2)⟩
  | _ => simp [asgT] at h3
theorem gDs_nil {K : PySem.W.Frag} {vs : List V} {σ : L2.St} {H : Hp} {Q : L2.St → Hp → Prop} (h : gDs K [] vs σ H Q) : gNil vs σ H Q := by
  obtain ⟨m, n, ds, r, r', h1, h2, h3, h4⟩ := h
  cases ds with
  | nil =>
    simp only [asgTs, Option.some.injEq] at h3
    simp only [RelL] at h1
    subst h3
    exact ⟨h1, h4 σ h2 (Same.refl _ _)⟩
  | cons d ds => simp [asgTs] at h3
theorem gDs_cons {K : PySem.W.Frag} {t : Tg} {ts : List Tg} {vs : List V} {σ : L2.St} {H : Hp} {Q : L2.St → Hp → Prop} (h : gDs K (t :: ts) vs σ H Q) : gCons (gD K t) (gDs K ts) vs σ H Q := by
  obtain ⟨m, n, ds, r, r', h1, h2, h3, h4⟩ := h
  cases ds with
  | nil => simp [asgTs] at h3
  | cons d ds =>
    simp only [asgTs] at h3
    split at h3
    · rename_i r1 e1
      obtain ⟨v, ws, e, g1, g2⟩ := h1.uncons
      exact ⟨v, ws, e, m, n, d, r, r1, g1, h2, e1, fun σ' q1 q2 => ⟨m, n, ds, r1, r', g2, q1, h3, fun σ'' q3 q4 => h4 σ'' q3 (by simpa [slotsL] using q2.trans q4)⟩⟩
    · cases h3
/-! ### a list that is being made -/
section
variable {K : PySem.W.Frag} {H H1 : Hp} {m n : List Addr} {st : Store} {L : Addr}
mutual
theorem RelD.hw {xs ys : List V} (hL : L ∈ n) (hm : L ∉ m) (e : H L = some (.lst xs)) : ∀ (d : D) (v : V), RelD K H m n d v → RelD K (upd H L (.lst ys)) m n d v
  | .non, _, h => h
  | .bl _, _, h => h
  | .int _, _, h => h
  | .str _, _, h => h
  | .tup ds, v, h => by
    simp only [RelD] at h ⊢
    obtain ⟨a, vs, e1, t, r⟩ := h
    refine ⟨a, vs, e1, ⟨?_, t.2⟩, RelL.hw hL hm e ds vs r⟩
    rw [upd_ne (fun z => by rw [z] at t; rw [t.1] at e; cases e)]; exact t.1
  | .lst ds, v, h => by
    simp only [RelD] at h ⊢
    obtain ⟨a, vs, e1, t, h1, h2, r⟩ := h
    refine ⟨a, vs, e1, ?_, h1, h2, RelL.hw hL hm e ds vs r⟩
    rw [upd_ne (fun z => h2 (by rw [z]; exact hL))]; exact t
  | .scr ds, v, h => by
    simp only [RelD] at h ⊢
    obtain ⟨a, vs, e1, t, r⟩ := h
    refine ⟨a, vs, e1, ?_, RelL.hw hL hm e ds vs r⟩
    rcases t with t | ⟨⟨o, t⟩, h2⟩
    · exact .inl t
    · exact .inr ⟨⟨o, by rw [upd_ne (fun z => by rw [z] at t; rw [t] at e; cases e)]; exact t⟩, h2⟩
  | .loc k, v, h => h
theorem RelL.hw {xs ys : List V} (hL : L ∈ n) (hm : L ∉ m) (e : H L = some (.lst xs)) : ∀ (ds : List D) (vs : List V), RelL K H m n ds vs → RelL K (upd H L (.lst ys)) m n ds vs
  | [], _, h => h
  | d :: ds, vs, h => by
    simp only [RelL] at h ⊢
    obtain ⟨v, r, e1, h1, h2⟩ := h
    exact ⟨v, r, e1, RelD.hw hL hm e d v h1, RelL.hw hL hm e ds r h2⟩
end
theorem StR.hw {xs ys : List V} (s : StR K H m n st) (hL : L ∈ n) (e : H L = some (.lst xs)) : StR K (upd H L (.lst ys)) m n st := by
  have hm : L ∉ m := fun z => s.dis L z hL
  refine ⟨s.len, s.nd, s.dis, fun k a ob e1 e2 => ?_, fun a ha => ?_⟩
  · have q := s.place k a ob e1 e2
    have hne : a ≠ L := fun z => hm (by rw [← z]; exact mem_of_at e1)
    cases ob with
    | lst ds => obtain ⟨vs, q1, q2⟩ := q; exact ⟨vs, by rw [upd_ne hne]; exact q1, RelL.hw hL hm e _ _ q2⟩
    | dK ds => obtain ⟨vs, q1, q2⟩ := q; exact ⟨vs, by rw [upd_ne hne]; exact q1, Paired.mapR q2 fun _ _ z => ⟨z.1, RelD.hw hL hm e _ _ z.2⟩⟩
    | dT ds => obtain ⟨vs, q1, q2⟩ := q; exact ⟨vs, by rw [upd_ne hne]; exact q1, Paired.mapR q2 fun _ _ z => ⟨z.1, RelD.hw hL hm e _ _ z.2⟩⟩
  · by_cases ha2 : a = L
    · subst ha2; exact ⟨ys, upd_same⟩
    · obtain ⟨zs, q⟩ := s.hid a ha
      exact ⟨zs, by rw [upd_ne ha2]; exact q⟩
theorem StR.wid (s : StR K H m n st) {n' : List Addr} (w : Wid H n n') (hh : ∀ a, a ∈ n' → a ∉ m ∧ ∃ xs, H a = some (.lst xs)) : StR K H m n' st :=
  ⟨s.len, s.nd, fun a ha z => (hh a z).1 ha, fun k a ob e1 e2 => by
    have q := s.place k a ob e1 e2
    cases ob with
    | lst ds => obtain ⟨vs, q1, q2⟩ := q; exact ⟨vs, q1, RelL.wid w _ _ q2⟩
    | dK ds => obtain ⟨vs, q1, q2⟩ := q; exact ⟨vs, q1, Paired.mapR q2 fun _ _ z => ⟨z.1, RelD.wid w _ _ z.2⟩⟩
    | dT ds => obtain ⟨vs, q1, q2⟩ := q; exact ⟨vs, q1, Paired.mapR q2 fun _ _ z => ⟨z.1, RelD.wid w _ _ z.2⟩⟩, fun a ha => (hh a ha).2⟩
/-- a new list that is being made -/
theorem StR.hide (s : StR K H m n st) (hL : H L = none) : StR K (upd H L (.lst [])) m (L :: n) st := by
  have s1 : StR K (upd H L (.lst [])) m n st := s.free hL
  have g : Go H m (upd H L (.lst [])) m := Go.free hL
  refine ⟨s1.len, s1.nd, fun a ha z => ?_, fun k a ob e1 e2 => ?_, fun a ha => ?_⟩
  · rcases List.mem_cons.mp z with q | q
    · exact s.notin hL (q ▸ ha)
    · exact s.dis a ha q
  · have w : Wid H n (L :: n) := fun a ha => by
      rcases List.mem_cons.mp ha with q | q
      · exact .inr (q ▸ hL)
      · exact .inl q
    have hne : a ≠ L := fun z => s.notin hL (z ▸ mem_of_at e1)
    have q := s.place k a ob e1 e2
    cases ob with
    | lst ds => obtain ⟨vs, q1, q2⟩ := q; exact ⟨vs, by rw [upd_ne hne]; exact q1, RelL.go g _ _ (RelL.wid w _ _ q2)⟩
    | dK ds => obtain ⟨vs, q1, q2⟩ := q; exact ⟨vs, by rw [upd_ne hne]; exact q1, Paired.mapR q2 fun _ _ z => ⟨z.1, RelD.go g _ _ (RelD.wid w _ _ z.2)⟩⟩
    | dT ds => obtain ⟨vs, q1, q2⟩ := q; exact ⟨vs, by rw [upd_ne hne]; exact q1, Paired.mapR q2 fun _ _ z => ⟨z.1, RelD.go g _ _ (RelD.wid w _ _ z.2)⟩⟩
  · rcases List.mem_cons.mp ha with q | q
    · subst q; exact ⟨[], upd_same⟩
    · exact s1.hid a q
mutual
/-- it is made: it becomes a place, or stays out -/
theorem RelD.out {xs : List V} {q : List Addr} (hq : ∀ a, a ∈ q → a = L) (e : H L = some (.lst xs)) : ∀ (d : D) (v : V), RelD K H m (L :: n) d v → RelD K H (m ++ q) n d v
  | .non, _, h => h
  | .bl _, _, h => h
  | .int _, _, h => h
  | .str _, _, h => h
  | .tup ds, v, h => by
    simp only [RelD] at h ⊢
    obtain ⟨a, vs, e1, t, r⟩ := h
    refine ⟨a, vs, e1, ⟨t.1, fun z => ?_⟩, RelL.out hq e ds vs r⟩
    rcases List.mem_append.mp z with z | z
    · exact t.2 z
    · have := hq a z; subst this; rw [t.1] at e; cases e
  | .lst ds, v, h => by
    simp only [RelD] at h ⊢
    obtain ⟨a, vs, e1, t, h1, h2, r⟩ := h
    refine ⟨a, vs, e1, t, fun z => ?_, fun z => h2 (List.mem_cons_of_mem _ z), RelL.out hq e ds vs r⟩
    rcases List.mem_append.mp z with z | z
    · exact h1 z
    · exact h2 (by rw [hq a z]; exact List.mem_cons_self ..)
  | .scr ds, v, h => by
    simp only [RelD] at h ⊢
    obtain ⟨a, vs, e1, t, r⟩ := h
    refine ⟨a, vs, e1, ?_, RelL.out hq e ds vs r⟩
    rcases t with t | ⟨⟨o, t⟩, h2⟩
    · exact .inl t
    · refine .inr ⟨⟨o, t⟩, fun z => ?_⟩
      rcases List.mem_append.mp z with z | z
      · exact h2 z
      · have := hq a z; subst this; rw [t] at e; cases e
  | .loc k, v, h => by
    simp only [RelD] at h ⊢
    obtain ⟨a, e1, e2⟩ := h
    exact ⟨a, e1, by rw [List.getElem?_append_left (List.getElem?_eq_some_iff.mp e2).1]; exact e2⟩
theorem RelL.out {xs : List V} {q : List Addr} (hq : ∀ a, a ∈ q → a = L) (e : H L = some (.lst xs)) : ∀ (ds : List D) (vs : List V), RelL K H m (L :: n) ds vs → RelL K H (m ++ q) n ds vs
  | [], _, h => h
  | d :: ds, vs, h => by
    simp only [RelL] at h ⊢
    obtain ⟨v, r, e1, h1, h2⟩ := h
    exact ⟨v, r, e1, RelD.out hq e d v h1, RelL.out hq e ds r h2⟩
end
theorem ObR.out {xs : List V} {q : List Addr} {a : Addr} {ob : Ob} (hq : ∀ a, a ∈ q → a = L) (e : H L = Option.some (.lst xs)) (h : ObR K H m (L :: n) a ob) : ObR K H (m ++ q) n a ob := by
  cases ob with
  | lst ds => obtain ⟨vs, q1, q2⟩ := h; exact ⟨vs, q1, RelL.out hq e _ _ q2⟩
  | dK ds => obtain ⟨vs, q1, q2⟩ := h; exact ⟨vs, q1, Paired.mapR q2 fun _ _ z => ⟨z.1, RelD.out hq e _ _ z.2⟩⟩
  | dT ds => obtain ⟨vs, q1, q2⟩ := h; exact ⟨vs, q1, Paired.mapR q2 fun _ _ z => ⟨z.1, RelD.out hq e _ _ z.2⟩⟩
theorem StR.keepOut {xs : List V} (s : StR K H m (L :: n) st) (e : H L = some (.lst xs)) : StR K H m n st :=
  ⟨s.len, s.nd, fun a ha z => s.dis a ha (List.mem_cons_of_mem _ z), fun k a ob e1 e2 => by
    have q := (s.place k a ob e1 e2).out (q := []) (fun _ h => by cases h) e
    rw [List.append_nil] at q; exact q, fun a ha => s.hid a (List.mem_cons_of_mem _ ha)⟩
theorem StR.place1 {xs : List V} {ds : List D} (s : StR K H m (L :: n) st) (e : H L = some (.lst xs)) (hn : L ∉ n) (r : RelL K H m (L :: n) ds xs) : StR K H (m ++ [L]) n (st ++ [.lst ds]) := by
  have hq : ∀ a, a ∈ [L] → a = L := fun a h => List.mem_singleton.mp h
  have hm : L ∉ m := fun z => s.dis L z (List.mem_cons_self ..)
  refine ⟨by rw [List.length_append, List.length_append, s.len]; rfl, ?_, fun a ha z => ?_, fun k a ob e1 e2 => ?_, fun a ha => s.hid a (List.mem_cons_of_mem _ ha)⟩
  · rw [List.nodup_append]
    refine ⟨s.nd, by simp, fun a ha b hb z => ?_⟩
    rw [hq b hb] at z; rw [z] at ha; exact hm ha
  · rcases List.mem_append.mp ha with h | h
    · exact s.dis a h (List.mem_cons_of_mem _ z)
    · rw [hq a h] at z; exact hn z
  · by_cases hk : k < m.length
    · rw [List.getElem?_append_left hk] at e1
      rw [List.getElem?_append_left (by rw [← s.len]; exact hk)] at e2
      exact (s.place k a ob e1 e2).out hq e
    · have hk' : m.length ≤ k := Nat.le_of_not_lt hk
      rw [List.getElem?_append_right hk'] at e1
      rw [List.getElem?_append_right (by rw [← s.len]; exact hk'), ← s.len] at e2
      cases hz : k - m.length with
      | zero =>
        rw [hz] at e1 e2
        simp at e1 e2
        subst e1; subst e2
        exact ⟨xs, e, RelL.out hq e _ _ r⟩
      | succ j => rw [hz] at e1; simp at e1
end
/-! ### comprehensions -/
theorem wipe_get {σ : L2.St} {vs : List Nat} {i : Nat} : (wipe σ vs)[i]? = if i ∈ vs then (σ[i]?).map fun _ => none else σ[i]? := by
  induction vs with
  | nil => simp [wipe]
  | cons v vs ih =>
    unfold wipe
    rw [List.getElem?_set]
    by_cases hv : v = i
    · subst hv
      rw [if_pos rfl, wipe_length, if_pos (List.mem_cons_self ..)]
      split
      · rename_i h; rw [List.getElem?_eq_getElem h]; rfl
      · rename_i h; rw [List.getElem?_eq_none (Nat.le_of_not_lt h)]; rfl
    · rw [if_neg hv, ih]
      have : (i ∈ v :: vs) ↔ i ∈ vs := by simp [Ne.symm hv]
      simp only [this]
theorem wipeE_get {r : Env} {vs : List Nat} {i : Nat} : (wipeE r vs)[i]? = if i ∈ vs then (r[i]?).map fun _ => none else r[i]? := by
  have hl : ∀ vs : List Nat, (wipeE r vs).length = r.length := by
    intro vs
    induction vs with
    | nil => rfl
    | cons v vs ih => unfold wipeE; rw [List.length_set, ih]
  induction vs with
  | nil => simp [wipeE]
  | cons v vs ih =>
    unfold wipeE
    rw [List.getElem?_set]
    by_cases hv : v = i
    · subst hv
      rw [if_pos rfl, hl, if_pos (List.mem_cons_self ..)]
      split
      · rename_i h; rw [List.getElem?_eq_getElem h]; rfl
      · rename_i h; rw [List.getElem?_eq_none (Nat.le_of_not_lt h)]; rfl
    · rw [if_neg hv, ih]
      have : (i ∈ v :: vs) ↔ i ∈ vs := by simp [Ne.symm hv]
      simp only [this]
theorem wipeE_length (r : Env) (vs : List Nat) : (wipeE r vs).length = r.length := by
  induction vs with
  | nil => rfl
  | cons v vs ih => unfold wipeE; rw [List.length_set, ih]
theorem EnvR.wipe {K : PySem.W.Frag} {H : Hp} {m n : List Addr} {r : Env} {σ : L2.St} (h : EnvR K H m n r σ) (vs : List Nat) : EnvR K H m n (wipeE r vs) (L2.wipe σ vs) := by
  refine ⟨by rw [wipeE_length, wipe_length]; exact h.1, fun i d e => ?_⟩
  rw [wipeE_get] at e
  split at e
  · cases hr : r[i]? <;> rw [hr] at e <;> cases e
  · rename_i hi
    obtain ⟨v, e1, e2⟩ := h.2 i d e
    exact ⟨v, by rw [wipe_get, if_neg hi]; exact e1, e2⟩
theorem EnvR.wid {K : PySem.W.Frag} {H : Hp} {m n n' : List Addr} {r : Env} {σ : L2.St} (h : EnvR K H m n r σ) (w : Wid H n n') : EnvR K H m n' r σ :=
  ⟨h.1, fun i d e => by
    obtain ⟨v, e1, e2⟩ := h.2 i d e
    exact ⟨v, e1, RelD.wid w _ _ e2⟩⟩
theorem wipe_same {σ σ' : L2.St} {vs ws : List Nat} (h : Same (L2.wipe σ vs) σ' ws) (hw : ∀ i, i ∈ ws → i ∈ vs) : L2.wipe σ' vs = L2.wipe σ vs := by
  apply List.ext_getElem?
  intro i
  rw [wipe_get]
  have hl := h.1
  rw [wipe_length] at hl
  split
  · rename_i hi
    rw [wipe_get, if_pos hi]
    by_cases hk : i < σ.length
    · rw [List.getElem?_eq_getElem hk, List.getElem?_eq_getElem (by rw [hl]; exact hk)]; rfl
    · rw [List.getElem?_eq_none (Nat.le_of_not_lt hk), List.getElem?_eq_none (by rw [hl]; exact Nat.le_of_not_lt hk)]
  · rename_i hi
    exact h.2 i fun z => hi (hw i z)
theorem Res.safe_bind {α β : Type} (r : Res α) (f : α → Store → Res β) : (r.bind f).safe = r.safe.bind fun a st => (f a st).safe := by cases r <;> rfl
theorem fixed_items {st st' : Store} : ∀ {src : Src}, fixedS src = true → srcItems st' src = srcItems st src
  | .val d, h => by cases d <;> first | rfl | (simp [fixedS, D.isLoc] at h)
  | .rng a b, h => rfl
  | .enum d, h => by cases d <;> first | rfl | (simp [fixedS, D.isLoc] at h)
  | .zip a b, h => by
    simp only [fixedS, Bool.and_eq_true] at h
    have h1 : seqOf st' a = seqOf st a := by cases a <;> first | rfl | (simp [D.isLoc] at h)
    have h2 : seqOf st' b = seqOf st b := by cases b <;> first | rfl | (simp [D.isLoc] at h)
    simp only [srcItems, h1, h2]
theorem ok_items {st st' : Store} {src : Src} {all : List D} (h : srcItems st src = some all) (ho : srcOk st' all src = true) : srcItems st' src = some all := by
  unfold srcOk at ho
  rcases Bool.or_eq_true _ _ ▸ ho with q | q
  · rw [fixed_items q]; exact h
  · exact of_decide_eq_true q
abbrev W0 : L2.WX := fun _ _ _ _ => False
theorem lc_read {X : Cx} {W : L2.WX} {f : Env → Store → Res (List D)} {k : ItK} {tg : Tg} {ef : Env → Store → Res D} {tf : Env → Store → Res Bool} {own : List Nat} {al : Bool} {σ : L2.St} {H : Hp} {Q : VK} (ho : ∀ i, i ∈ slots tg → i ∈ own)
    (h : TR X W (lD X) [] [] (fun r st => (f r st).bind fun ds st => (optR (srcOf k ds st) st).bind fun src st => (optR (srcItems st src) st).bind fun all st =>
      (goComp ef tf tg (wipeE r own) src all all st).safe.bind fun xs st => newL al xs st) σ H Q) :
    tLc (TIx X W f k) (gD X.K tg) (TB X W0 tf) (TD X W0 ef) own σ H Q := by
  obtain ⟨m, n, r, st, h1, h2, h3, h4⟩ := h
  refine ⟨m, n, r, st, h1, h2, .nil, ?_⟩
  have h4' : (((f r st).bind fun ds st => optR (srcOf k ds st) st).bind fun src st => (optR (srcItems st src) st).bind fun all st =>
      (goComp ef tf tg (wipeE r own) src all all st).safe.bind fun xs st => newL al xs st).Post (QR X.K (lD X) n H m Q) (ErD X.mg X.K n H m σ W) := by
    rw [Res.bind_assoc]; exact h4
  refine h4'.unbind.mono (fun src st1 hq H1 m1 J g s1 itr L hL => ?_) fun _ _ q => q
  cases ea : srcItems st1 src with
  | none => rw [ea] at hq; exact False.elim hq
  | some all =>
    rw [ea] at hq
    have hq0 : ((goComp ef tf tg (wipeE r own) src all all st1).safe.bind fun xs st => newL al xs st).Post (QR X.K (lD X) n H m Q) (ErD X.mg X.K n H m σ W) := hq
    clear hq
    have wd : Wid H1 n (L :: n) := fun a ha => by
      rcases List.mem_cons.mp ha with q | q
      · exact .inr (q ▸ hL)
      · exact .inl q
    have hLn : L ∉ n := s1.nothid hL
    have env1 : EnvR X.K H1 m1 (L :: n) (wipeE r own) (L2.wipe σ own) := ((h2.go g).wid wd).wipe own
    refine ⟨fun i μ H' => μ = all.length - i ∧ i ≤ all.length ∧ ∃ m' st' done vs, Go H1 m1 H' m' ∧ StR X.K H' m' (L :: n) st' ∧ H' L = some (.lst vs) ∧ RelL X.K H' m' (L :: n) done vs ∧
      ((goComp ef tf tg (wipeE r own) src all (all.drop i) st').safe.bind fun xs st => newL al (done ++ xs) st).Post (QR X.K (lD X) n H m Q) (ErD X.mg X.K n H m σ W),
      ⟨_, rfl, Nat.zero_le _, m1, st1, [], [], Go.free hL, s1.hide hL, upd_same, .nil, by rw [List.drop_zero]; simpa using hq0⟩, ?_⟩
    rintro i μ H' ⟨rfl, hi, m', st', done, vs, g1, s', eL, rl, hp⟩
    by_cases hlt : i < all.length
    · refine .inr ?_
      obtain ⟨d, hd⟩ : ∃ d, all[i]? = some d := ⟨_, List.getElem?_eq_getElem hlt⟩
      have edrop : all.drop i = d :: all.drop (i + 1) := by
        rw [List.drop_eq_getElem_cons hlt]
        congr 1
        exact Option.some.inj ((List.getElem?_eq_getElem hlt).symm.trans hd)
      rw [edrop] at hp
      simp only [goComp] at hp
      split at hp
      case isFalse => exact False.elim hp
      rename_i hok
      have eit := ok_items ea hok
      split at hp
      · exact False.elim hp
      rename_i r' er
      refine ⟨itr.go _ _ _ _ _ _ _ g1 s' wd eit hd, fun H2 => ∃ μ', μ' < all.length - i ∧ μ' = all.length - (i + 1) ∧ ∃ m' st' done vs, Go H1 m1 H2 m' ∧ StR X.K H2 m' (L :: n) st' ∧ H2 L = some (.lst vs) ∧ RelL X.K H2 m' (L :: n) done vs ∧
        ((goComp ef tf tg (wipeE r own) src all (all.drop (i + 1)) st').safe.bind fun xs st => newL al (done ++ xs) st).Post (QR X.K (lD X) n H m Q) (ErD X.mg X.K n H m σ W), fun H2 ⟨μ', q1, q2, q3⟩ => ⟨μ', q1, q2, hlt, q3⟩, fun x H2 hy => ?_⟩
      obtain ⟨hnew, rx⟩ := itr.yl _ _ _ _ _ _ _ _ _ g1 s' wd eit hd hy
      have g12 : Go H' m' H2 m' := by
        rcases hnew with e | ⟨T, o, hT, e⟩
        · rw [e]; exact Go.refl _ _
        · rw [e]; exact Go.free hT
      have s2 : StR X.K H2 m' (L :: n) st' := by
        rcases hnew with e | ⟨T, o, hT, e⟩
        · rw [e]; exact s'
        · rw [e]; exact s'.free hT
      have hLm : L ∉ m' := fun z => s'.dis L z (List.mem_cons_self ..)
      have eL2 : H2 L = some (.lst vs) := g12.keep _ _ eL hLm
      have g2 := g1.trans g12
      have env2 := env1.go g2
      refine ⟨m', L :: n, d, wipeE r own, r', rx, env2, er, fun σ2 en hs => ⟨wipe_same hs ho, ?_⟩⟩
      rw [Res.safe_bind, Res.bind_assoc] at hp
      refine ⟨m', L :: n, r', st', s2, en, .nil, ?_⟩
      refine Res.Post.safe (Res.Post.mono hp.unbind (fun b st2 hb H3 m3 b' g3 s3 eb => ?_) fun _ _ q => q)
      cases eb
      have eL3 : H3 L = some (.lst vs) := g3.keep _ _ eL2 hLm
      have rl3 : RelL X.K H3 m3 (L :: n) done vs := RelL.go g3 _ _ (RelL.go g12 _ _ rl)
      cases b with
      | false =>
        simp only [Bool.false_eq_true, if_false] at hb ⊢
        exact ⟨_, by omega, rfl, m3, st2, done, vs, g2.trans g3, s3, eL3, rl3, hb⟩
      | true =>
        simp only [if_true] at hb ⊢
        rw [Res.safe_bind, Res.bind_assoc] at hb
        refine ⟨m3, L :: n, r', st2, s3, en.go g3, .nil, ?_⟩
        refine Res.Post.safe (Res.Post.mono hb.unbind (fun y st3 hc H4 m4 v g4 s4 ry => ?_) fun _ _ q => q)
        have hLm3 : L ∉ m3 := fun z => s3.dis L z (List.mem_cons_self ..)
        have eL4 : H4 L = some (.lst vs) := g4.keep _ _ eL3 hLm3
        have hLm4 : L ∉ m4 := fun z => s4.dis L z (List.mem_cons_self ..)
        have rl4 : RelL X.K H4 m4 (L :: n) done vs := RelL.go g4 _ _ rl3
        have hc' : ((goComp ef tf tg (wipeE r own) src all (all.drop (i + 1)) st3).safe.bind fun xs st => newL al ((done ++ [y]) ++ xs) st).Post (QR X.K (lD X) n H m Q) (ErD X.mg X.K n H m σ W) := by
          rw [Res.safe_bind, Res.bind_assoc] at hc
          simpa [Res.safe, List.append_assoc] using hc
        refine ⟨vs, eL4, ?_, _, by omega, rfl, m4, st3, done ++ [y], vs ++ [v], ?_, s4.hw (List.mem_cons_self ..) eL4, upd_same, RelL.hw (List.mem_cons_self ..) hLm4 eL4 _ _ (rl4.append (.cons ry .nil)), hc'⟩
        · cases ez : goComp ef tf tg (wipeE r own) src all (all.drop (i + 1)) st3 with
          | stuck => rw [ez] at hc'; exact False.elim hc'
          | err e st => rw [ez] at hc'; exact False.elim hc'
          | ok zs st =>
            rw [ez] at hc'
            have hc2 : (newL al ((done ++ [y]) ++ zs) st).Post (QR X.K (lD X) n H m Q) (ErD X.mg X.K n H m σ W) := hc'
            unfold newL at hc2
            split at hc2
            · rename_i hz
              rw [List.length_append, List.length_append] at hz
              have := rl4.length
              simp only [List.length_singleton] at hz
              omega
            · exact False.elim hc2
        · have gg := (g2.trans g3).trans g4
          exact ⟨gg.pre, fun a o e hm => by
            rw [upd_ne (fun z => by rw [z, hL] at e; cases e)]; exact gg.keep a o e hm, gg.new⟩
    · have e : i = all.length := by omega
      subst e
      refine .inl ?_
      rw [List.drop_eq_nil_of_le (Nat.le_refl _)] at hp
      simp only [goComp] at hp
      split at hp
      case isFalse => exact False.elim hp
      rename_i hok
      refine ⟨itr.st _ _ _ _ _ _ g1 s' wd (ok_items ea hok) rfl, ?_⟩
      have hp' : (newL al done st').Post (QR X.K (lD X) n H m Q) (ErD X.mg X.K n H m σ W) := by simpa [Res.safe] using hp
      have gg := g.trans g1
      unfold newL at hp'
      split at hp'
      case isFalse => exact False.elim hp'
      have hLm : L ∉ m' := fun z => s'.dis L z (List.mem_cons_self ..)
      cases al with
      | true =>
        have g5 : Go H m H' (m' ++ [L]) := ⟨by
          obtain ⟨q, e⟩ := gg.pre
          exact ⟨q ++ [L], by rw [e, List.append_assoc]⟩, gg.keep, fun a ha => by
          rcases List.mem_append.mp ha with z | z
          · exact gg.new a z
          · rw [List.mem_singleton.mp z]
            cases eh : H L with
            | none => exact .inr rfl
            | some o =>
              by_cases hm : L ∈ m
              · exact .inl hm
              · have := g.keep L o eh hm
                rw [hL] at this; cases this⟩
        refine hp' H' (m' ++ [L]) _ g5 (s'.place1 eL hLn rl) ?_
        simp only [RelD]
        exact ⟨L, rfl, by rw [← s'.len]; simp⟩
      | false =>
        refine hp' H' m' _ gg (s'.keepOut eL) ?_
        simp only [RelD]
        have q := RelL.out (q := []) (fun _ h => by cases h) eL _ _ rl
        rw [List.append_nil] at q
        exact ⟨L, vs, rfl, eL, hLm, hLn, q⟩
end WT

set_option Elab.async false
set_option linter.all false
set_option maxRecDepth 100000
set_option maxHeartbeats 1000000
/-! WTa: statements: their readings. -/
namespace WT
open PySem PySem.Spec PyProof.Rows L2
abbrev wE (E : L2.XK) : L2.WX := fun c d _ H => E c d H
def QS (K : PySem.W.Frag) (n : List Addr) (H : Hp) (m : List Addr) (Z : Ends) : Fl × Env → Store → Prop := fun fr st' => ∀ H' m' σ', Go H m H' m' → StR K H' m' n st' → EnvR K H' m' n fr.2 σ' →
  match fr.1 with
  | .nx => Z.nx σ' H'
  | .bk => Z.bk σ' H'
  | .ct => Z.ct σ' H'
  | .rt d => ∀ v, RelD K H' m' n d v → Z.rt v H'
theorem QS.go {K : PySem.W.Frag} {n : List Addr} {H H1 : Hp} {m m1 : List Addr} {Z : Ends} {a : Fl × Env} {st : Store} (h : QS K n H m Z a st) (g : Go H m H1 m1) : QS K n H1 m1 Z a st :=
  fun H' m' σ' g' s' x => h H' m' σ' (g.trans g') s' x
/-- the reading of a statement -/
def TSr (X : Cx) (E : L2.XK) (f : Env → Store → Res (Fl × Env)) : TS := fun Z σ H =>
  ∃ m n r st, StR X.K H m n st ∧ EnvR X.K H m n r σ ∧ (f r st).Post (QS X.K n H m Z) (ErD X.mg X.K n H m σ (wE E))
section
variable {X : Cx} {E : L2.XK} {Z : Ends} {σ : L2.St} {H : Hp}
abbrev ErE (mg : Str → Option Value) (K : PySem.W.Frag) (n : List Addr) (H : Hp) (m : List Addr) (E : L2.XK) : Ex → Store → Prop := ErD mg K n H m [] (wE E)
theorem optR_post {α : Type} {o : Option α} {st : Store} {Q : α → Store → Prop} {Er : Ex → Store → Prop} (h : (optR o st).Post Q Er) : ∃ a, o = some a ∧ Q a st := by
  cases o with
  | none => exact False.elim h
  | some a => exact ⟨a, rfl, h⟩
theorem TSr.asg {tg : Tg} {e : Env → Store → Res D} (h : TSr X E (fun r st => (e r st).bind fun d st => (optR (asgT tg d r) st).bind fun r st => .ok (.nx, r) st) Z σ H) : tAsg (TD X (wE E) e) (gD X.K tg) Z σ H := by
  obtain ⟨m, n, r, st, h1, h2, h3⟩ := h
  refine ⟨m, n, r, st, h1, h2, .nil, h3.unbind.mono (fun d st1 hq H1 m1 v g s1 rd => ?_) fun _ _ q => q⟩
  obtain ⟨r', er, hq⟩ := optR_post hq.unbind
  exact ⟨m1, n, d, r, r', rd, h2.go g, er, fun σ' en sm => hq H1 m1 σ' g s1 en⟩
theorem TSr.drop {e : Env → Store → Res D} (h : TSr X E (fun r st => (e r st).bind fun _ st => .ok (.nx, r) st) Z σ H) : tDrop (TD X (wE E) e) Z σ H := by
  obtain ⟨m, n, r, st, h1, h2, h3⟩ := h
  exact ⟨m, n, r, st, h1, h2, .nil, h3.unbind.mono (fun d st1 hq H1 m1 v g s1 rd => hq H1 m1 σ g s1 (h2.go g)) fun _ _ q => q⟩
theorem TSr.ret {e : Env → Store → Res D} (h : TSr X E (fun r st => (e r st).bind fun d st => .ok (.rt d, r) st) Z σ H) : tRet (TD X (wE E) e) Z σ H := by
  obtain ⟨m, n, r, st, h1, h2, h3⟩ := h
  exact ⟨m, n, r, st, h1, h2, .nil, h3.unbind.mono (fun d st1 hq H1 m1 v g s1 rd => hq H1 m1 σ g s1 (h2.go g) v rd) fun _ _ q => q⟩
theorem TSr.here {fr : Fl × Env} (h : TSr X E (fun r st => .ok (fr.1, r) st) Z σ H) : match fr.1 with
  | .nx => Z.nx σ H
  | .bk => Z.bk σ H
  | .ct => Z.ct σ H
  | .rt d => ∀ m n v, RelD X.K H m n d v → True := by
  obtain ⟨m, n, r, st, h1, h2, h3⟩ := h
  cases fr with
  | mk a b =>
    cases a with
    | nx => exact h3 H m σ (Go.refl _ _) h1 h2
    | bk => exact h3 H m σ (Go.refl _ _) h1 h2
    | ct => exact h3 H m σ (Go.refl _ _) h1 h2
    | rt d => exact fun _ _ _ _ => trivial
theorem TSr.retN (h : TSr X E (fun r st => .ok (.rt .non, r) st) Z σ H) : tRetN Z σ H := by
  obtain ⟨m, n, r, st, h1, h2, h3⟩ := h
  exact h3 H m σ (Go.refl _ _) h1 h2 .non rNon
theorem TSr.ite {c : Env → Store → Res Bool} {a b : Env → Store → Res (Fl × Env)} (h : TSr X E (fun r st => (c r st).bind fun k st => if k then a r st else b r st) Z σ H) : tIfS (TB X (wE E) c) (TSr X E a) (TSr X E b) Z σ H := by
  obtain ⟨m, n, r, st, h1, h2, h3⟩ := h
  refine ⟨m, n, r, st, h1, h2, .nil, h3.unbind.mono (fun k st1 hq H1 m1 k' g s1 ek => ?_) fun _ _ q => q⟩
  cases ek
  cases k with
  | true => exact ⟨m1, n, r, st1, s1, h2.go g, hq.mono (fun _ _ q => q.go g) fun _ _ q => q.go g⟩
  | false => exact ⟨m1, n, r, st1, s1, h2.go g, hq.mono (fun _ _ q => q.go g) fun _ _ q => q.go g⟩
theorem TSr.seq {a b : Env → Store → Res (Fl × Env)} (h : TSr X E (fun r st => (a r st).bind fun fr st => match fr.1 with
    | .nx => b fr.2 st
    | .bk => .ok (.bk, fr.2) st
    | .ct => .ok (.ct, fr.2) st
    | .rt d => .ok (.rt d, fr.2) st) Z σ H) : tSeq (TSr X E a) (TSr X E b) Z σ H := by
  obtain ⟨m, n, r, st, h1, h2, h3⟩ := h
  refine ⟨m, n, r, st, h1, h2, h3.unbind.mono (fun fr st1 hq H1 m1 σ1 g s1 en => ?_) fun _ _ q => q⟩
  cases fr with
  | mk fl r1 =>
    cases fl with
    | nx => exact ⟨m1, n, r1, st1, s1, en, hq.mono (fun _ _ q => q.go g) fun _ _ q => q.go g⟩
    | bk => exact hq H1 m1 σ1 g s1 en
    | ct => exact hq H1 m1 σ1 g s1 en
    | rt d => exact hq H1 m1 σ1 g s1 en
theorem TSr.aug {i : Nat} {op : Operator} {e : Env → Store → Res D} (h : TSr X E (fun r st => match r[i]? with
    | some (some x) => (e r st).bind fun y st => (augD op x y st).bind fun z st => .ok (.nx, r.set i (some z)) st
    | _ => .stuck) Z σ H) : tAug i (TD X (wE E) e) (fun x y H Q => ∃ d e, VH X.K [e, d] [y, x] (augD op d e) H Q) Z σ H := by
  obtain ⟨m, n, r, st, h1, h2, h3⟩ := h
  dsimp only at h3
  split at h3
  · rename_i x ex
    obtain ⟨v, e1, e2⟩ := h2.2 i x ex
    refine ⟨v, e1, m, n, r, st, h1, h2, .nil, h3.unbind.mono (fun y st1 hq H1 m1 w g s1 ry => ?_) fun _ _ q => q⟩
    refine ⟨x, y, m1, n, st1, _, s1, .cons ry (.cons (RelD.go g _ _ e2) .nil), hq.unbind.mono (fun z st2 hz H2 m2 u g2 s2 rz => ?_) fun _ _ q => q⟩
    exact hz H2 m2 _ (g.trans g2) s2 (((h2.go g).go g2).set rz i)
  · exact False.elim h3
theorem TSr.setIx {o i e : Env → Store → Res D} (h : TSr X E (fun r st => (e r st).bind fun v st => (o r st).bind fun o st => (i r st).bind fun i st => match setD o i v st with
    | some st => .ok (.nx, r) st
    | none => .stuck) Z σ H) : tAsg (TD X (wE E) e) (gSub (TD X (wE E) o) (TD X (wE E) i) fun o i v H Q => ∃ od idd vd, WH X.K od idd vd o i v H Q) Z σ H := by
  obtain ⟨m, n, r, st, h1, h2, h3⟩ := h
  refine ⟨m, n, r, st, h1, h2, .nil, h3.unbind.mono (fun v st1 hq H1 m1 v' g s1 rv => ?_) fun _ _ q => q⟩
  refine ⟨m1, n, r, st1, s1, h2.go g, .nil, hq.unbind.mono (fun o st2 hq H2 m2 o' g2 s2 ro => ?_) fun _ _ q => q.go g⟩
  have gg := g.trans g2
  refine ⟨m2, n, r, st2, s2, h2.go gg, .nil, hq.unbind.mono (fun i st3 hq H3 m3 i' g3 s3 ri => ?_) fun _ _ q => q.go gg⟩
  have g4 := gg.trans g3
  split at hq
  · rename_i st4 e4
    exact ⟨o, i, v, m3, n, st3, st4, s3, RelD.go g3 _ _ ro, ri, RelD.go g3 _ _ (RelD.go g2 _ _ rv), e4, fun H4 g5 s4 => hq H4 m3 σ (g4.trans g5) s4 (h2.go (g4.trans g5))⟩
  · exact False.elim hq
theorem TSr.augIx {op : Operator} {o i e : Env → Store → Res D} (h : TSr X E (fun r st => (o r st).bind fun o st => (i r st).bind fun i st => (ixD o i st).bind fun x st => (e r st).bind fun y st => (augD op x y st).bind fun z st => match setD o i z st with
    | some st => .ok (.nx, r) st
    | none => .stuck) Z σ H) : tAugS (TD X (wE E) o) (TD X (wE E) i) (TD X (wE E) e) (fun x y H Q => ∃ d e, VH X.K [e, d] [y, x] (ixD d e) H Q) (fun x y H Q => ∃ d e, VH X.K [e, d] [y, x] (augD op d e) H Q) (fun o i v H Q => ∃ od idd vd, WH X.K od idd vd o i v H Q) Z σ H := by
  obtain ⟨m, n, r, st, h1, h2, h3⟩ := h
  refine ⟨m, n, r, st, h1, h2, .nil, h3.unbind.mono (fun o st1 hq H1 m1 o' g1 s1 ro => ?_) fun _ _ q => q⟩
  refine ⟨m1, n, r, st1, s1, h2.go g1, .nil, hq.unbind.mono (fun i st2 hq H2 m2 i' g2 s2 ri => ?_) fun _ _ q => q.go g1⟩
  have g12 := g1.trans g2
  refine ⟨o, i, m2, n, st2, _, s2, .cons ri (.cons (RelD.go g2 _ _ ro) .nil), hq.unbind.mono (fun x st3 hq H3 m3 x' g3 s3 rx => ?_) fun _ _ q => q⟩
  have g13 := g12.trans g3
  refine ⟨m3, n, r, st3, s3, h2.go g13, .nil, hq.unbind.mono (fun y st4 hq H4 m4 y' g4 s4 ry => ?_) fun _ _ q => q.go g13⟩
  have g14 := g13.trans g4
  refine ⟨x, y, m4, n, st4, _, s4, .cons ry (.cons (RelD.go g4 _ _ rx) .nil), hq.unbind.mono (fun z st5 hq H5 m5 z' g5 s5 rz => ?_) fun _ _ q => q⟩
  have g15 := g14.trans g5
  have g25 := (g3.trans g4).trans g5
  split at hq
  · rename_i st6 e6
    exact ⟨o, i, z, m5, n, st5, st6, s5, RelD.go (g2.trans g25) _ _ ro, RelD.go g25 _ _ ri, rz, e6, fun H6 g6 s6 => hq H6 m5 σ (g15.trans g6) s6 (h2.go (g15.trans g6))⟩
  · exact False.elim hq
/-! ### loops -/
theorem limR_post {α : Type} {g : Nat → Res α} {Q : α → Store → Prop} {Er : Ex → Store → Prop} (h : (limR g).Post Q Er) : ∃ k, (g k).Post Q Er := by
  unfold limR at h
  split at h
  · exact ⟨_, h⟩
  · exact False.elim h
theorem TSr.loop {c : Env → Store → Res Bool} {b : Env → Store → Res (Fl × Env)} (h : TSr X E (fun r st => limR fun k => loopW c b k r st) Z σ H) : tWhile (TB X (wE E) c) (TSr X E b) Z σ H := by
  obtain ⟨m, n, r, st, h1, h2, h3⟩ := h
  obtain ⟨k, h3⟩ := limR_post h3
  refine ⟨fun k σ' H' => ∃ m' r' st', Go H m H' m' ∧ StR X.K H' m' n st' ∧ EnvR X.K H' m' n r' σ' ∧ (loopW c b k r' st').Post (QS X.K n H m Z) (ErE X.mg X.K n H m E), ⟨k, m, r, st, Go.refl _ _, h1, h2, h3⟩, ?_⟩
  rintro k σ1 H1 ⟨m1, r1, st1, g1, s1, en1, hp⟩
  cases k with
  | zero => exact False.elim hp
  | succ k =>
    simp only [loopW] at hp
    refine ⟨m1, n, r1, st1, s1, en1, .nil, hp.unbind.mono (fun k' st2 hq H2 m2 kb g2 s2 ek => ?_) fun _ _ q => ErD.go (s := []) q g1⟩
    cases ek
    have g12 := g1.trans g2
    cases k' with
    | false => exact hq H2 m2 σ1 g12 s2 (en1.go g2)
    | true =>
      simp only [if_true] at hq ⊢
      refine ⟨fun σ' H' => ∃ k', k' < k + 1 ∧ k' = k ∧ ∃ m' r' st', Go H m H' m' ∧ StR X.K H' m' n st' ∧ EnvR X.K H' m' n r' σ' ∧ (loopW c b k r' st').Post (QS X.K n H m Z) (ErE X.mg X.K n H m E), fun σ' H' ⟨k', q1, q2, q3⟩ => ⟨k', q1, q2 ▸ q3⟩, ?_⟩
      refine ⟨m2, n, r1, st2, s2, en1.go g2, hq.unbind.mono (fun fr st3 hq H3 m3 σ3 g3 s3 en3 => ?_) fun _ _ q => ErD.go (s := []) q g12⟩
      have g13 := g12.trans g3
      cases fr with
      | mk fl r3 =>
        cases fl with
        | nx => exact ⟨k, Nat.lt_succ_self _, rfl, m3, r3, st3, g13, s3, en3, hq⟩
        | ct => exact ⟨k, Nat.lt_succ_self _, rfl, m3, r3, st3, g13, s3, en3, hq⟩
        | bk => exact hq H3 m3 σ3 g13 s3 en3
        | rt d => exact hq H3 m3 σ3 g13 s3 en3
theorem TSr.for_ {f : Env → Store → Res (List D)} {k : ItK} {tg : Tg} {b : Env → Store → Res (Fl × Env)} (h : TSr X E (fun r st => (f r st).bind fun ds st => (optR (srcOf k ds st) st).bind fun src st => if fixedS src then (optR (srcItems st src) st).bind fun ds st => loopF tg b ds r st
      else limR fun n => loopL tg b src n 0 r st) Z σ H) : tFor (TIx X (wE E) f k) (gD X.K tg) (TSr X E b) Z σ H := by
  obtain ⟨m, n, r, st, h1, h2, h3⟩ := h
  refine ⟨m, n, r, st, h1, h2, .nil, ?_⟩
  have h3' : (((f r st).bind fun ds st => optR (srcOf k ds st) st).bind fun src st => if fixedS src then (optR (srcItems st src) st).bind fun ds st => loopF tg b ds r st
      else limR fun n => loopL tg b src n 0 r st).Post (QS X.K n H m Z) (ErD X.mg X.K n H m σ (wE E)) := by
    rw [Res.bind_assoc]; exact h3
  refine h3'.unbind.mono (fun src st1 hq H1 m1 J g s1 itr => ?_) fun _ _ q => q
  have wd : Wid H1 n n := fun a ha => .inl ha
  by_cases hfx : fixedS src = true
  · simp only [hfx, if_true] at hq
    obtain ⟨all, ea, hq⟩ := optR_post hq.unbind
    have eit : ∀ st', srcItems st' src = some all := fun st' => (fixed_items hfx).trans ea
    refine ⟨fun i μ σ' H' => μ = all.length - i ∧ i ≤ all.length ∧ ∃ m' r' st', Go H1 m1 H' m' ∧ StR X.K H' m' n st' ∧ EnvR X.K H' m' n r' σ' ∧ (loopF tg b (all.drop i) r' st').Post (QS X.K n H m Z) (ErE X.mg X.K n H m E),
      ⟨_, rfl, Nat.zero_le _, m1, r, st1, Go.refl _ _, s1, h2.go g, by rw [List.drop_zero]; exact hq⟩, ?_⟩
    rintro i μ σ' H' ⟨rfl, hi, m', r', st', g1, s', en, hp⟩
    by_cases hlt : i < all.length
    · refine .inr ?_
      obtain ⟨d, hd⟩ : ∃ d, all[i]? = some d := ⟨_, List.getElem?_eq_getElem hlt⟩
      have edrop : all.drop i = d :: all.drop (i + 1) := by
        rw [List.drop_eq_getElem_cons hlt]
        congr 1
        exact Option.some.inj ((List.getElem?_eq_getElem hlt).symm.trans hd)
      rw [edrop] at hp
      simp only [loopF] at hp
      split at hp
      · exact False.elim hp
      rename_i r'' er
      refine ⟨itr.go _ _ _ _ _ _ _ g1 s' wd (eit _) hd, fun σ2 H2 => ∃ μ', μ' < all.length - i ∧ μ' = all.length - (i + 1) ∧ ∃ m' r' st', Go H1 m1 H2 m' ∧ StR X.K H2 m' n st' ∧ EnvR X.K H2 m' n r' σ2 ∧ (loopF tg b (all.drop (i + 1)) r' st').Post (QS X.K n H m Z) (ErE X.mg X.K n H m E),
        fun σ2 H2 ⟨μ', q1, q2, q3⟩ => ⟨μ', q1, q2, hlt, q3⟩, fun x H2 hy => ?_⟩
      obtain ⟨hnew, rx⟩ := itr.yl _ _ _ _ _ _ _ _ _ g1 s' wd (eit _) hd hy
      have g12 : Go H' m' H2 m' := by
        rcases hnew with e | ⟨T, o, hT, e⟩
        · rw [e]; exact Go.refl _ _
        · rw [e]; exact Go.free hT
      have s2 : StR X.K H2 m' n st' := by
        rcases hnew with e | ⟨T, o, hT, e⟩
        · rw [e]; exact s'
        · rw [e]; exact s'.free hT
      have g2 := g1.trans g12
      refine ⟨m', n, d, r', r'', rx, en.go g12, er, fun σ2 en2 hs => ?_⟩
      refine ⟨m', n, r'', st', s2, en2, hp.unbind.mono (fun fr st3 hq H3 m3 σ3 g3 s3 en3 => ?_) fun _ _ q => ErD.go (s := []) q (g.trans g2)⟩
      have g13 := g2.trans g3
      cases fr with
      | mk fl r3 =>
        cases fl with
        | nx => exact ⟨_, by omega, rfl, m3, r3, st3, g13, s3, en3, hq⟩
        | ct => exact ⟨_, by omega, rfl, m3, r3, st3, g13, s3, en3, hq⟩
        | bk => exact hq H3 m3 σ3 (g.trans g13) s3 en3
        | rt d => exact hq H3 m3 σ3 (g.trans g13) s3 en3
    · have e : i = all.length := by omega
      subst e
      refine .inl ?_
      rw [List.drop_eq_nil_of_le (Nat.le_refl _)] at hp
      simp only [loopF] at hp
      exact ⟨itr.st _ _ _ _ _ _ g1 s' wd (eit _) rfl, hp H' m' σ' (g.trans g1) s' en⟩
  · rw [if_neg hfx] at hq
    obtain ⟨N, hq⟩ := limR_post hq
    refine ⟨fun i μ σ' H' => ∃ m' r' st', Go H1 m1 H' m' ∧ StR X.K H' m' n st' ∧ EnvR X.K H' m' n r' σ' ∧ (loopL tg b src μ i r' st').Post (QS X.K n H m Z) (ErE X.mg X.K n H m E),
      ⟨N, m1, r, st1, Go.refl _ _, s1, h2.go g, hq⟩, ?_⟩
    rintro i μ σ' H' ⟨m', r', st', g1, s', en, hp⟩
    cases μ with
    | zero => exact False.elim hp
    | succ μ =>
      simp only [loopL] at hp
      split at hp
      case h_2 => exact False.elim hp
      rename_i all ea
      split at hp
      · split at hp
        · rename_i hl
          exact .inl ⟨itr.st _ _ _ _ _ _ g1 s' wd ea hl, hp H' m' σ' (g.trans g1) s' en⟩
        · exact False.elim hp
      · rename_i d hd
        split at hp
        · exact False.elim hp
        rename_i r'' er
        refine .inr ⟨itr.go _ _ _ _ _ _ _ g1 s' wd ea hd, fun σ2 H2 => ∃ μ', μ' < μ + 1 ∧ μ' = μ ∧ ∃ m' r' st', Go H1 m1 H2 m' ∧ StR X.K H2 m' n st' ∧ EnvR X.K H2 m' n r' σ2 ∧ (loopL tg b src μ (i + 1) r' st').Post (QS X.K n H m Z) (ErE X.mg X.K n H m E),
          fun σ2 H2 ⟨μ', q1, q2, q3⟩ => ⟨μ', q1, q2 ▸ q3⟩, fun x H2 hy => ?_⟩
        obtain ⟨hnew, rx⟩ := itr.yl _ _ _ _ _ _ _ _ _ g1 s' wd ea hd hy
        have g12 : Go H' m' H2 m' := by
          rcases hnew with e | ⟨T, o, hT, e⟩
          · rw [e]; exact Go.refl _ _
          · rw [e]; exact Go.free hT
        have s2 : StR X.K H2 m' n st' := by
          rcases hnew with e | ⟨T, o, hT, e⟩
          · rw [e]; exact s'
          · rw [e]; exact s'.free hT
        have g2 := g1.trans g12
        refine ⟨m', n, d, r', r'', rx, en.go g12, er, fun σ2 en2 hs => ?_⟩
        refine ⟨m', n, r'', st', s2, en2, hp.unbind.mono (fun fr st3 hq H3 m3 σ3 g3 s3 en3 => ?_) fun _ _ q => ErD.go (s := []) q (g.trans g2)⟩
        have g13 := g2.trans g3
        cases fr with
        | mk fl r3 =>
          cases fl with
          | nx => exact ⟨μ, Nat.lt_succ_self _, rfl, m3, r3, st3, g13, s3, en3, hq⟩
          | ct => exact ⟨μ, Nat.lt_succ_self _, rfl, m3, r3, st3, g13, s3, en3, hq⟩
          | bk => exact hq H3 m3 σ3 (g.trans g13) s3 en3
          | rt d => exact hq H3 m3 σ3 (g.trans g13) s3 en3
end
end WT

set_option Elab.async false
set_option linter.all false
set_option maxRecDepth 100000
set_option maxHeartbeats 1000000
/-! WTb: the forms of the text. -/
namespace WT
open PySem PySem.Spec PyProof.Rows L2
def plainE : Expr → Bool
  | .Starred _ _ => false | .Slice _ _ _ _ => false | .Set _ _ _ => false | _ => true
theorem star_of {e : Expr} {es : List Expr} {env : PySem.Env} (h : plainE e = true) : starEach (e :: es) env = (false, eval e env) :: starEach es env := by
  cases e <;> first | rfl | (cases h; done)
theorem stars_no {es : List Expr} {env : PySem.Env} {pos : Pos} (h : es.all plainE = true) : ((backTo pos (starEach es env)).any (·.1)) = false := by
  induction es with
  | nil => rfl
  | cons e es ih =>
    simp only [List.all_cons, Bool.and_eq_true] at h
    rw [star_of h.1]
    have := ih h.2
    simpa [backTo] using this
theorem stars_few {es : List Expr} {env : PySem.Env} {pos : Pos} (h : es.all plainE = true) : ((backTo pos (starEach es env)).all fun x => !x.1) = true := by
  induction es with
  | nil => rfl
  | cons e es ih =>
    simp only [List.all_cons, Bool.and_eq_true] at h
    rw [star_of h.1]
    have := ih h.2
    simpa [backTo] using this
theorem asg_of {e : Expr} {es : List Expr} {env : PySem.Env} (h : plainE e = true) : assignEach (e :: es) env = (false, assign e env) :: assignEach es env := by
  cases e <;> first | rfl | (cases h; done)
theorem asg_len {es : List Expr} {env : PySem.Env} (h : es.all plainE = true) : (assignEach es env).length = es.length ∧ (assignEach es env).findIdx? (·.1) = none := by
  induction es with
  | nil => exact ⟨rfl, rfl⟩
  | cons e es ih =>
    simp only [List.all_cons, Bool.and_eq_true] at h
    rw [asg_of h.1]
    obtain ⟨h1, h2⟩ := ih h.2
    refine ⟨by simp [h1], ?_⟩
    rw [List.findIdx?_cons]
    simp [h2]
theorem plain_ix {b : Expr} (h : plainE b = true) : PlainIx b := by
  cases b <;> first | (intro o i; rfl) | (cases h; done)
theorem plain_aug {b : Expr} (h : plainE b = true) : ∀ ov iv new, augStore b ov iv new = (do holding [new, ov, iv] (setItem ov iv new); release [new, ov, iv] []; pure .next) := by
  cases b <;> first | (intros; rfl) | (cases h; done)
theorem plain_sub {o i : Expr} {pos : Pos} {env : PySem.Env} (h : plainE i = true) : ∀ v, assign (.Subscript o i pos) env v = (do
      let ov ← holding [v] (eval o env)
      let iv ← holding [v, ov] (eval i env)
      standAt pos
      holding [v, ov, iv] (setItem ov iv v)
      release [v, ov, iv] []) := by
  cases i <;> first | (intro _; rfl) | (cases h; done)
theorem plain_set {e : Expr} {env : PySem.Env} (h : plainE e = true) : ∀ x, foldedSetIterable e env x = pure x := by
  cases e <;> first | (intro _; rfl) | (cases h; done)
theorem plain_in {e : Expr} {op : CmpOp} (h : plainE e = true) : behindInMarks op e = false := by
  cases e <;> first | rfl | (cases h; done)
def baseE : Expr → Bool
  | .Call (.Name _ _) [] [] _ => false | _ => true
theorem base_of {o : Expr} {name : Str} {env : PySem.Env} (h : baseE o = true) (w : Sem Value) : attributeBase o name env w = w := by
  unfold attributeBase
  split
  · cases h
  · rfl
/-! ### the matcher -/
structure Ctx where
  N : List Str
  sc : Scope
  funs : List Str
  fc : Str → Bool
def Ctx.gl (c : Ctx) (x : Str) : Bool := decide (c.sc.names.lookup x = some .globalImplicit)
def Ctx.vis (c : Ctx) (x : Str) : Bool := decide (c.sc.names.lookup x = some .local) || decide (c.sc.names.lookup x = some .cell) || decide (c.sc.names.lookup x = some .free)
def Ctx.slot (c : Ctx) (i : Nat) (x : Str) : Bool := decide (c.N[i]? = some x)
def Ctx.sto (c : Ctx) (x : Str) : Bool := decide (c.sc.names.lookup x = some .local) || (decide (c.sc.names.lookup x = some .cell) && c.fc x)
def all2 {α β : Type} (f : α → β → Bool) : List α → List β → Bool
  | [], [] => true
  | a :: as, b :: bs => f a b && all2 f as bs
  | _, _ => false
def okName (x : Str) : Bool := !(x == ("__debug__" : Str)) && !(x == ("__classdict__" : Str))
def mT : Nat → Ctx → Expr → Tg → Bool
  | 0, _, _, _ => false
  | n + 1, c, ex, .nm i => match ex with
    | .Name x _ => c.slot i x && c.sto x
    | _ => false
  | n + 1, c, ex, .tp ts => match ex with
    | .Tuple es _ _ => es.all plainE && all2 (mT n c) es ts
    | _ => false
/-- a built-in's name, whether it is a class -/
def biName : Bi → Str
  | .len => "len" | .abs => "abs" | .int => "int" | .str => "str" | .repr => "repr" | .tuple => "tuple" | .list => "list" | .sorted => "sorted"
  | .sum => "sum" | .max => "max" | .min => "min" | .all => "all" | .any => "any" | .dict => "dict" | .listR => "list" | .tupleR => "tuple"
def bNames : List Str := ["len", "abs", "int", "str", "repr", "tuple", "list", "sorted", "sum", "max", "min", "all", "any", "dict", "range", "enumerate", "zip", "isinstance", "bool"]
def mtName : Mt → Str
  | .append => "append" | .pop => "pop" | .index => "index" | .get => "get" | .extend => "extend" | .update => "update" | .count => "count" | .remove => "remove"
def Mt.on : Mt → Bool
  | .update => false | .remove => false | _ => true
def ownOf (N : List Str) (own : List Nat) : List (Str × Nat) := own.map fun i => ((N[i]?).getD "", i)
def Ctx.blk (c : Ctx) (scope : Scope) : Ctx := { c with sc := relS scope c.sc, fc := fun x => scope.names.lookup x == some .cell }
def isTupE : Expr → Bool
  | .Tuple _ _ _ => true | _ => false
def Ty.nm : Ty → String
  | .int => "int" | .bool => "bool" | .str => "str" | .tuple => "tuple" | .list => "list" | .dict => "dict"
def Ty.tx : Ty → Str
  | .int => "int" | .bool => "bool" | .str => "str" | .tuple => "tuple" | .list => "list" | .dict => "dict"
def isNonE : E → Bool
  | .non => true | _ => false
def mE : Nat → Ctx → Expr → E → Bool
  | 0, _, _, _ => false
  | n + 1, c, ex, e => match e with
    | .var i => (match ex with
      | .Name x _ => c.slot i x && c.vis x && okName x
      | _ => false)
    | .int i => (match ex with
      | .Constant (.int j) _ _ => decide (i = j)
      | _ => false)
    | .bl i => (match ex with
      | .Constant (.bool j) _ _ => decide (i = j)
      | _ => false)
    | .non => (match ex with
      | .Constant .none _ _ => true
      | _ => false)
    | .str i => (match ex with
      | .Constant (.str j) _ _ => decide (i = j)
      | _ => false)
    | .tup es => (match ex with
      | .Tuple xs _ _ => xs.all plainE && all2 (mE n c) xs es
      | _ => false)
    | .lst _ es => (match ex with
      | .List xs _ => xs.all plainE && all2 (mE n c) xs es
      | _ => false)
    | .dnew _ => (match ex with
      | .Dict [] [] _ => true
      | _ => false)
    | .disp es => (match ex with
      | .Dict ks vs _ => mD (mE n c) ks vs es && decide (ks.length ≤ 15) && !ks.isEmpty
      | _ => false)
    | .bin _ op a b => (match ex with
      | .BinOp xa op' xb _ => decide (op = op') && mE n c xa a && mE n c xb b
      | _ => false)
    | .neg a => (match ex with
      | .UnaryOp .USub xa _ => mE n c xa a
      | _ => false)
    | .cmp op a b => (match ex with
      | .Compare xa [op'] [xb] _ => decide (op = op') && plainE xb && mE n c xa a && mE n c xb b
      | _ => false)
    | .chain op op2 a b d => (match ex with
      | .Compare xa [op', op2'] [xb, xd] _ => decide (op = op') && decide (op2 = op2') && plainE xb && plainE xd && mE n c xa a && mE n c xb b && mE n c xd d
      | _ => false)
    | .and a b => (match ex with
      | .BoolOp .And (xa :: xb :: rest) pos => mE n c xa a && (match rest with
        | [] => mE n c xb b
        | _ => mE n c (.BoolOp .And (xb :: rest) pos) b)
      | _ => false)
    | .or a b => (match ex with
      | .BoolOp .Or (xa :: xb :: rest) pos => mE n c xa a && (match rest with
        | [] => mE n c xb b
        | _ => mE n c (.BoolOp .Or (xb :: rest) pos) b)
      | _ => false)
    | .not a => (match ex with
      | .UnaryOp .Not xa _ => mE n c xa a
      | _ => false)
    | .ite d a b => (match ex with
      | .IfExp xd xa xb _ => mE n c xd d && mE n c xa a && mE n c xb b
      | _ => false)
    | .ix a b => (match ex with
      | .Subscript xa xb _ => plainE xb && mE n c xa a && mE n c xb b
      | _ => false)
    | .sl _ a lo hi => (match ex with
      | .Subscript xa (.Slice l h none _) _ => mE n c xa a && (match l with
        | none => (match lo with
          | .non => true
          | _ => false)
        | some xl => !isNonE lo && mE n c xl lo) && (match h with
        | none => (match hi with
          | .non => true
          | _ => false)
        | some xh => !isNonE hi && mE n c xh hi)
      | _ => false)
    | .rev _ a => (match ex with
      | .Subscript xa (.Slice none none (some (.UnaryOp .USub (.Constant (.int 1) _ _) _)) _) _ => mE n c xa a
      | _ => false)
    | .call f es => (match ex with
      | .Call (.Name x _) xs [] _ => decide (x = f) && decide (f ∈ c.funs) && c.gl x && okName x && xs.all plainE && all2 (mE n c) xs es
      | _ => false)
    | .bi _ b es => (match ex with
      | .Call (.Name x _) [y] [] _ => decide (x = biName b) && c.gl x && (match b with
        | .listR => (match y with
          | .Call (.Name z _) xs [] _ => decide (z = "range") && c.gl "range" && xs.all plainE && all2 (mE n c) xs es && decide (1 ≤ xs.length) && decide (xs.length ≤ 2)
          | _ => false)
        | .tupleR => (match y with
          | .Call (.Name z _) xs [] _ => decide (z = "range") && c.gl "range" && xs.all plainE && all2 (mE n c) xs es && decide (1 ≤ xs.length) && decide (xs.length ≤ 2)
          | _ => false)
        | .dict => false
        | _ => plainE y && all2 (mE n c) [y] es)
      | .Call (.Name x _) [y, z] [] _ => decide (x = biName b) && c.gl x && (match b with
        | .max => plainE y && plainE z && all2 (mE n c) [y, z] es
        | .min => plainE y && plainE z && all2 (mE n c) [y, z] es
        | _ => false)
      | _ => false)
    | .mt m o es => (match ex with
      | .Call (.Attribute xo name apos) xs [] cpos => decide (name = mtName m) && m.on && baseE xo && (apos.endLine == cpos.line) && xs.all plainE && decide (xs.length < 20) && mE n c xo o && all2 (mE n c) xs es
      | _ => false)
    | .comp _ elt tg k es ifs own => (match ex with
      | .ListComp xe [⟨xt, xi, xifs, 0⟩] scope _ => blkC c.N c.sc scope (ownOf c.N own) && plainE xi && mI (mE n c) c xt xi k es && mT n (c.blk scope) xt tg && all2 (mE n (c.blk scope)) xifs ifs && decide (xifs.length ≤ 1) && mE n (c.blk scope) xe elt && (slots tg).all fun i => decide (i ∈ own)
      | _ => false)
    | .isi e t => (match ex with
      | .Call (.Name x _) [y, .Name z _] [] _ => decide (x = "isinstance") && c.gl x && decide (z = t.tx) && c.gl z && plainE y && mE n c y e
      | _ => false)
    | .bad => true
where
  mD (f : Expr → E → Bool) : List (Option Expr) → List Expr → List E → Bool
    | [], [], [] => true
    | some k :: ks, v :: vs, a :: b :: es => plainE k && plainE v && f k a && f v b && mD f ks vs es
    | _, _, _ => false
  mI (f : Expr → E → Bool) (c : Ctx) (xt xi : Expr) (k : ItK) (es : List E) : Bool := match k with
    | .val => (match es with
      | [e] => f xi e
      | _ => false)
    | .rng => (match xi with
      | .Call (.Name z _) [x] [] _ => decide (z = "range") && c.gl "range" && plainE x && all2 f [x] es
      | .Call (.Name z _) [x, y] [] _ => decide (z = "range") && c.gl "range" && plainE x && plainE y && all2 f [x, y] es
      | _ => false)
    | .enum => (match xi with
      | .Call (.Name z _) [x] [] _ => isTupE xt && decide (z = "enumerate") && c.gl "enumerate" && plainE x && all2 f [x] es
      | _ => false)
    | .zip false => (match xi with
      | .Call (.Name z _) [x, y] [] _ => isTupE xt && decide (z = "zip") && c.gl "zip" && plainE x && plainE y && all2 f [x, y] es
      | _ => false)
    | _ => false
end WT

set_option Elab.async false
set_option linter.all false
set_option maxRecDepth 100000
set_option maxHeartbeats 1000000
/-! WTc: expressions: the pure program is the text. -/
namespace WT
open PySem PySem.Spec PyProof.Rows L2
abbrev Fun := Str → List D → Store → Res D
/-- a def's promise, with no guard about -/
structure FnG (P : Program) (w : World) (K : PySem.W.Frag) (mg : Str → Option Value) (base : Heap) (k : Nat) (fa : Addr) (fd : FuncData) (ps : List Str) (sp : Sp) : Prop where
  len : ∀ vs H Q E, sp vs H Q E → vs.length = ps.length
  run : ∀ (A : Around) (outer : List PySem.Env) (s : Shared) (H : Hp) (args : Args) (us : List Value) (vs : List V) (Q : VK) (E : XK), Room k A → A.guards = some [] → Env0 P w K mg base A outer s H → BindsTo s fd args (ps.zip us) → Vals vs us → sp vs H Q E →
    codeAny (model P w) A (.call (.ref fa) args) (CR (L2.CX P w) outer P w H s Q E) s
/-- what the pure function says, lies in the heap -/
def spF (K : PySem.W.Frag) (mg : Str → Option Value) (F : Fun) (f : Str) (np : Nat) : Sp := fun vs H Q E => vs.length = np ∧ ∃ ds m n st, StR K H m n st ∧ RelL K H m n ds vs ∧ (F f ds st).Post (QV K n H m Q) (ErE mg K n H m E)
structure CallP (X : Cx) (F : Fun) (f : Str) : Prop where
  ok : ∃ (k : Nat) (fa : Addr) (fd : FuncData) (ps : List Str), Room k X.A ∧ X.mg f = some (.ref fa) ∧ PySem.W.keepIn X.K (.ref fa) = true ∧ L2.Binds X.K fd ps [] ∧ FnG X.prog X.w X.K X.mg X.base k fa fd ps (spF X.K X.mg F f ps.length) ∧ ∀ ds st, F f ds st ≠ .stuck → ds.length = ps.length
structure CtxOk (c : Ctx) (F : Fun) (X : Cx) (W : L2.WX) : Prop where
  calm : X.calm = true
  hu : X.A.units + 65 < cLine
  gd : X.A.guards = some []
  nd : X.N.Nodup
  eN : X.N = c.N
  esc : X.env.scope = c.sc
  fc : X.fn = c.fc
  mgB : ∀ x, x ∈ bNames → X.mg x = none
  call : ∀ f, f ∈ c.funs → CallP X F f
  lets : ∀ (pins : List (Addr × Obj)) (σ : L2.St) (H : Hp) (s : Shared) (e : Value) (s' : Shared), Inv X pins σ H s → L2.CX X.prog X.w X.stack H s (fun c d H' => W c d σ H') e s' → X.xe e s'
section
variable {c : Ctx} {F : Fun} {X : Cx} {W : L2.WX}
theorem CtxOk.gl (C : CtxOk c F X W) {x : Str} (h : c.gl x = true) : Gl X x := by
  unfold Ctx.gl at h
  show X.env.scope.names.lookup x = _
  rw [C.esc]; exact of_decide_eq_true h
theorem CtxOk.vis (C : CtxOk c F X W) {x : Str} (h : c.vis x = true) : Vis X.env.scope x := by
  unfold Ctx.vis at h
  unfold Vis
  rw [C.esc]
  simp only [Bool.or_eq_true, decide_eq_true_eq] at h
  rcases h with (h | h) | h
  · exact .inl h
  · exact .inr (.inl h)
  · exact .inr (.inr h)
theorem CtxOk.slot (C : CtxOk c F X W) {i : Nat} {x : Str} (h : c.slot i x = true) : X.N[i]? = some x := by rw [C.eN]; exact of_decide_eq_true h
theorem CtxOk.sto (C : CtxOk c F X W) {x : Str} (h : c.sto x = true) : L2.Loc X.env.scope x ∧ (X.fn x = true ∨ X.env.scope.names.lookup x = some .local) := by
  unfold Ctx.sto at h
  unfold L2.Loc
  rw [C.esc, C.fc]
  simp only [Bool.or_eq_true, Bool.and_eq_true, decide_eq_true_eq] at h
  rcases h with h | ⟨h, h2⟩
  · exact ⟨.inl h, .inr h⟩
  · exact ⟨.inr h, .inl h2⟩
theorem CtxOk.hu1 (C : CtxOk c F X W) : X.A.units + 1 < cLine := by have := C.hu; omega
theorem CtxOk.blk (C : CtxOk c F X W) (s : Shared) (H : Hp) (scope : Scope) (C' : Addr) (cl : List (Str × Addr)) (fp : List Addr) : CtxOk (c.blk scope) F (X.blk s H scope (compEnvC scope cl C' X.env) fp) W0 where
  calm := C.calm
  hu := C.hu
  gd := C.gd
  nd := C.nd
  eN := C.eN
  esc := by
    show relS scope X.env.scope = relS scope c.sc
    rw [C.esc]
  fc := rfl
  mgB := C.mgB
  call := fun f hf => ⟨(C.call f hf).ok⟩
  lets := fun pins σ H s e s' _ h => by
    obtain ⟨_, _, _, _, _, _, _, _, _, _, _, _, h⟩ := h
    exact False.elim h
theorem okName1 {x : Str} (h : okName x = true) : (x == ("__debug__" : Str)) = false ∧ (x == ("__classdict__" : Str)) = false := by
  unfold okName at h
  simp only [Bool.and_eq_true, Bool.not_eq_true'] at h
  exact h
/-! ### targets -/
theorem mT_ok (C : CtxOk c F X W) : ∀ (n : Nat) (ex : Expr) (t : Tg), mT n c ex t = true → PG X ex (gD X.K t)
  | 0, _, _, h => by cases h
  | n + 1, ex, .nm i, h => by
    unfold mT at h
    split at h
    · rename_i x p
      simp only [Bool.and_eq_true] at h
      obtain ⟨q1, q2⟩ := C.sto h.2
      exact imp_g (pg_name C.nd (C.slot h.1) q1 q2) fun v s H Q g => gD_nm g
    · cases h
  | n + 1, ex, .tp ts, h => by
    unfold mT at h
    split at h
    · rename_i es k p
      simp only [Bool.and_eq_true] at h
      have go : ∀ (es : List Expr) (ts : List Tg), es.all plainE = true → all2 (mT n c) es ts = true → es.length = ts.length ∧ PGs X es (gDs X.K ts) := by
        intro es
        induction es with
        | nil =>
          intro ts _ h2
          cases ts with
          | nil => exact ⟨rfl, imp_gs pgs_nil fun v s H Q g => gDs_nil g⟩
          | cons t ts => cases h2
        | cons e es ih =>
          intro ts h1 h2
          cases ts with
          | nil => cases h2
          | cons t ts =>
            simp only [List.all_cons, all2, Bool.and_eq_true] at h1 h2
            obtain ⟨l1, g1⟩ := ih ts h1.2 h2.2
            exact ⟨by rw [List.length_cons, List.length_cons, l1], imp_gs (pgs_cons (mT_ok C n e t h2.1) g1 (by rw [asg_of h1.1]; rfl)) fun v s H Q g => gDs_cons g⟩
      obtain ⟨l1, g1⟩ := go es ts h.1 h.2
      obtain ⟨a1, a2⟩ := asg_len (env := X.env) h.1
      exact imp_g (pg_tup (n := ts.length) C.calm g1 (by rw [a1, l1]) a2) fun v s H Q g => gD_tp g
    · cases h
/-! ### calls of the text's defs -/
theorem run_G {pins : List (Addr × Obj)} {σ : L2.St} {H : Hp} {s : Shared} {Q : VK} {us : List Value} {vs : List V} {f : Str} {fa : Addr} {fd : FuncData} {ps : List Str} {k : Nat} {ds : List D} (C : CtxOk c F X W) (hr : Room k X.A) (hmg : X.mg f = some (.ref fa)) (hb : L2.Binds X.K fd ps [])
    (G : FnG X.prog X.w X.K X.mg X.base k fa fd ps (spF X.K X.mg F f ps.length)) (np : ∀ ds st, F f ds st ≠ .stuck → ds.length = ps.length) (I : Inv X pins σ H s) (r : Vals vs us) (h : TR X W (lD X) ds vs (fun _ st => F f ds st) σ H Q) : wpAny (model X.prog X.w) X.A (call (.ref fa) us) (EP X pins σ Q) X.xe s := by
  obtain ⟨m, n, rr, st, h1, h2, h3, h4⟩ := h
  dsimp only at h4
  have hne : F f ds st ≠ .stuck := fun z => by rw [z] at h4; exact False.elim h4
  have hl : vs.length = ps.length := by rw [← h3.length]; exact np ds st hne
  have hlu : us.length = ps.length := by rw [← r.length]; exact hl
  have sp : spF X.K X.mg F f ps.length vs H Q (fun c d H' => W c d σ H') := ⟨hl, ds, m, n, st, h1, h3, h4⟩
  have bd : BindsTo s fd ⟨us, []⟩ (ps.zip us) := by
    have := hb s us I.kIn (by simpa using hlu)
    simpa using this
  refine wpAny_call (codeAny_mono (G.run X.A X.stack s H ⟨us, []⟩ us vs Q _ hr C.gd I.env0 bd r sp) fun res s' hq => ?_)
  cases res with
  | error e => exact C.lets pins σ H s e s' I hq
  | ok fl =>
    cases fl with
    | ret u => exact I.after hq
    | next => exact False.elim hq
    | brk => exact False.elim hq
    | cont => exact False.elim hq
theorem call_ok {x : Str} {p pos : Pos} {xs : List Expr} {t : Env → Store → Res (List D)} (C : CtxOk c F X W) (hf : x ∈ c.funs) (hg : c.gl x = true) (hn : okName x = true) (hp : xs.all plainE = true) (ha : PA X xs (TL X W t)) (h0 : xs = [] → ∀ r st, t r st = .ok [] st) :
    PE X (.Call (.Name x p) xs [] pos) (TD X W (fun r st => (t r st).bind fun ds st => F x ds st)) := by
  obtain ⟨k, fa, fd, ps, hr, hmg, hk, hb, G, np⟩ := (C.call x hf).ok
  refine ⟨fun pins s σ H Q I h => ?_⟩
  refine wpAny_Call_Name_kw (ld_glob I (C.gl hg) hmg ?_ (okName1 hn).1)
  cases xs with
  | nil =>
    have e : (fun r st => (t r st).bind fun ds st => F x ds st) = fun _ st => F x [] st := by
      funext r st; rw [h0 rfl r st]; rfl
    rw [e] at h
    exact PySem.W.callWith_K0 I.kIn hk (run_G C hr hmg hb G np I .nil h)
  | cons e es =>
    have h' := TR.bindL (k := fun ds _ st => F x ds st) h
    simp only [List.all_cons, Bool.and_eq_true] at hp
    refine PySem.W.callWith_K (h₀ := X.base) I.ok.mod.kin hk (thn (ha.run pos pins s σ H _ I h') fun us s1 ⟨vs, H1, I1, r, ds, q⟩ => ⟨I1.kIn, ?_⟩) (star_of hp.1) (stars_no hp.2)
    rw [List.append_nil, List.append_nil] at q
    exact run_G C hr hmg hb G np I1 r q
end
end WT

set_option Elab.async false
set_option linter.all false
set_option maxRecDepth 100000
set_option maxHeartbeats 2000000
/-! WTd: expressions, all of them. -/
namespace WT
open PySem PySem.Spec PyProof.Rows L2
/-- the test of an expression -/
def tst (F : Fun) (e : E) : Env → Store → Res Bool := fun r st => (den F e r st).bind fun x st => optR (truth st x) st
section
variable {K : PySem.W.Frag} {H : Hp} {m n : List Addr} {st : Store}
theorem truth_ok {d : D} {v : V} {k : Bool} (s : StR K H m n st) (r : RelD K H m n d v) (e : truth st d = some k) : TruV K v H k := by
  cases d with
  | non => simp only [RelD] at r; simp only [truth, Option.some.injEq] at e; subst r; exact e.symm
  | bl b => simp only [RelD] at r; simp only [truth, Option.some.injEq] at e; subst r; exact e.symm
  | int i => simp only [RelD] at r; simp only [truth, Option.some.injEq] at e; subst r; exact e.symm
  | str x =>
    simp only [RelD] at r
    simp only [truth] at e
    split at e
    · rename_i hl
      cases e
      subst r
      refine ⟨hl, ?_⟩
      by_cases h0 : x.length = 0
      · rw [h0]; rfl
      · have : ((x.length : Int) != 0) = true := by simp; omega
        rw [this]; simp; exact h0
    · cases e
  | tup xs =>
    simp only [RelD] at r
    simp only [truth, Option.some.injEq] at e
    obtain ⟨a, vs, e1, e2, e3⟩ := r
    subst e1
    refine .inr (.inl ⟨vs, e2.sq, ?_⟩)
    rw [← e]
    cases e3l : vs with
    | nil => rw [e3l] at e3; have := e3.length; cases xs <;> first | rfl | cases this
    | cons _ _ => rw [e3l] at e3; have := e3.length; cases xs <;> first | rfl | cases this
  | lst xs =>
    simp only [RelD] at r
    simp only [truth, Option.some.injEq] at e
    obtain ⟨a, vs, e1, e2, _, _, e3⟩ := r
    subst e1
    refine .inl ⟨vs, SqL.of e2, ?_⟩
    rw [← e]
    cases e3l : vs with
    | nil => rw [e3l] at e3; have := e3.length; cases xs <;> first | rfl | cases this
    | cons _ _ => rw [e3l] at e3; have := e3.length; cases xs <;> first | rfl | cases this
  | scr xs =>
    simp only [RelD] at r
    simp only [truth, Option.some.injEq] at e
    obtain ⟨a, vs, e1, e2, e3⟩ := r
    subst e1
    refine .inl ⟨vs, e2.sq, ?_⟩
    rw [← e]
    cases e3l : vs with
    | nil => rw [e3l] at e3; have := e3.length; cases xs <;> first | rfl | cases this
    | cons _ _ => rw [e3l] at e3; have := e3.length; cases xs <;> first | rfl | cases this
  | loc j =>
    simp only [RelD] at r
    obtain ⟨a, e1, e2⟩ := r
    obtain ⟨ob, e3⟩ := s.there e2
    have q := s.place j a ob e2 e3
    simp only [truth, e3] at e
    subst e1
    cases ob with
    | lst xs =>
      cases e
      obtain ⟨vs, q1, q2⟩ := q
      refine .inl ⟨vs, SqL.of q1, ?_⟩
      cases e3l : vs with
      | nil => rw [e3l] at q2; have := q2.length; cases xs <;> first | rfl | cases this
      | cons _ _ => rw [e3l] at q2; have := q2.length; cases xs <;> first | rfl | cases this
    | dK kvs =>
      cases e
      obtain ⟨vs, q1, q2⟩ := q
      refine .inr (.inr ⟨vs, q1, ?_⟩)
      cases e3l : vs with
      | nil => rw [e3l] at q2; have := q2.length; cases kvs <;> first | rfl | cases this
      | cons _ _ => rw [e3l] at q2; have := q2.length; cases kvs <;> first | rfl | cases this
    | dT kvs => cases e
end
section
variable {α β : Type} {X : Cx} {W : L2.WX} {rel : Lie α β} {hs : List D} {xs : List V} {s : L2.St} {H : Hp}
theorem TR.truth {d : D} {v : V} {hs : List D} {xs : List V} {k : Bool → Env → Store → Res α} {Q : β → Hp → Prop} (h : TR X W rel (d :: hs) (v :: xs) (fun r st => (optR (WT.truth st d) st).bind fun b st => k b r st) s H Q) :
    ∃ b, TruV X.K v H b ∧ TR X W rel (d :: hs) (v :: xs) (k b) s H Q := by
  obtain ⟨m, n, r, st, h1, h2, h3, h4⟩ := h
  obtain ⟨b, e, h4⟩ := optR_post h4.unbind
  obtain ⟨v', ws, ev, rd, _⟩ := h3.uncons
  cases ev
  exact ⟨b, truth_ok h1 rd e, m, n, r, st, h1, h2, h3, h4⟩
theorem TR.truth0 {d : D} {v : V} {hs : List D} {xs : List V} {Q : Bool → Hp → Prop} (h : TR X W lB (d :: hs) (v :: xs) (fun r st => optR (WT.truth st d) st) s H Q) :
    ∃ b, TruV X.K v H b ∧ Q b H := by
  obtain ⟨m, n, r, st, h1, h2, h3, h4⟩ := h
  obtain ⟨b, e, h4⟩ := optR_post h4
  obtain ⟨v', ws, ev, rd, _⟩ := h3.uncons
  cases ev
  exact ⟨b, truth_ok h1 rd e, h4 H m b (Go.refl _ _) h1 rfl⟩
theorem TR.toBl {g : Env → Store → Res Bool} {Q : Bool → Hp → Prop} (h : TR X W lB hs xs g s H Q) : TR X W (lD X) hs xs (fun r st => (g r st).bind fun k st => .ok (.bl k) st) s H (fun v H' => ∃ k, v = .bl k ∧ Q k H') := by
  obtain ⟨m, n, r, st, h1, h2, h3, h4⟩ := h
  refine ⟨m, n, r, st, h1, h2, h3, ?_⟩
  have : ((g r st).bind fun k st => Res.ok (D.bl k) st).Post (QR X.K (lD X) n H m fun v H' => ∃ k, v = .bl k ∧ Q k H') (ErD X.mg X.K n H m s W) := by
    cases e : g r st with
    | stuck => rw [e] at h4; exact False.elim h4
    | err x st' => rw [e] at h4; exact h4
    | ok b st' =>
      rw [e] at h4
      intro H' m' v g' s' rv
      have rv' : RelD X.K H' m' n (.bl b) v := rv
      simp only [RelD] at rv'
      exact ⟨b, rv', h4 H' m' b g' s' rfl⟩
  exact this
theorem pt_dflt {ex : Expr} {f : Env → Store → Res D} (h : PE X ex (TD X W f)) (he : ∀ whole, isTrue ex X.env whole = (do let v ← whole; standAt ex.pos; holding [v] (truthy v))) : PT X ex (TB X W (fun r st => (f r st).bind fun x st => optR (WT.truth st x) st)) :=
  imp_t (pt_truth h he) fun s H Q h => h.bindD.mono fun v H1 ⟨d, q⟩ => q.truth0
theorem pt_ite {c a b : Expr} {tc ta tb : TT} {pos : Pos} (hc : PT X c tc) (ha : PT X a ta) (hb : PT X b tb) : PT X (.IfExp c a b pos) (fun σ H Q => tc σ H fun k H1 => if k = true then ta σ H1 Q else tb σ H1 Q) := by
  refine ⟨fun pins s σ H Q I h => ?_⟩
  show wpAny _ _ (do if ← isTrue c X.env (eval c X.env) then isTrue a X.env (eval a X.env) else isTrue b X.env (eval b X.env)) _ _ s
  refine wpAny_bind (thn (hc.run pins s σ H _ I h) fun k s1 ⟨H1, I1, q1⟩ => ?_)
  cases k with
  | true => exact ha.run pins s1 σ H1 Q I1 q1
  | false => exact hb.run pins s1 σ H1 Q I1 q1
theorem pt_pw {ex : Expr} {t : TT} (h : PW X ex t) : PT X ex t := ⟨fun pins s σ H Q I hw => h.run _ pins s σ H Q I hw⟩
theorem pw_bo {op : PySem.BoolOp} {es : List Expr} {pos : Pos} {t : TT} (h : PT X (.BoolOp op es pos) t) : PW X (.BoolOp op es pos) t := ⟨fun wh pins s σ H Q I hw => h.run pins s σ H Q I hw⟩
end
/-! ### arguments -/
section
variable {F : Fun} {X : Cx} {W : L2.WX}
theorem denL_cons {e : E} {es : List E} : denL F (e :: es) = fun r st => (den F e r st).bind fun x st => (denL F es r st).bind fun xs st => .ok (x :: xs) st := by
  funext r st; rw [denL]
theorem denL_nil : denL F [] = fun _ st => .ok [] st := by funext r st; rw [denL]
theorem denL_one {e : E} : denL F [e] = fun r st => (den F e r st).bind fun x st => .ok [x] st := by
  funext r st; rw [denL_cons]; simp only [denL_nil, Res.bind_ok]
theorem denL_two {e e2 : E} : denL F [e, e2] = fun r st => (den F e r st).bind fun x st => (den F e2 r st).bind fun y st => .ok [x, y] st := by
  funext r st; rw [denL_cons]; simp only [denL_one]
  congr 1; funext x st; rw [Res.bind_assoc]; rfl
theorem pa_list {f : Expr → E → Bool} (ih : ∀ ex e, f ex e = true → PE X ex (TD X W (den F e))) : ∀ (xs : List Expr) (es : List E), xs.all plainE = true → all2 f xs es = true → PA X xs (TL X W (denL F es)) := by
  intro xs
  induction xs with
  | nil =>
    intro es _ h
    cases es with
    | nil =>
      refine imp_a pa_nil fun s H Q h => ?_
      rw [denL_nil] at h
      obtain ⟨m, n, r, st, h1, h2, h3, h4⟩ := h
      exact h4 H m [] (Go.refl _ _) h1 .nil
    | cons e es => cases h
  | cons x xs ihx =>
    intro es hp h
    cases es with
    | nil => cases h
    | cons e es =>
      simp only [List.all_cons, all2, Bool.and_eq_true] at hp h
      refine imp_a (pa_cons (ih x e h.1) (ihx es hp.2 h.2) (star_of hp.1)) fun s H Q h => ?_
      rw [denL_cons] at h
      have h' := TR.bindD (k := fun d r st => (denL F es r st).bind fun xs st => .ok (d :: xs) st) h
      refine h'.mono fun v H1 ⟨d, q⟩ => ?_
      have q' := TR.bindL (k := fun ds _ st => .ok (d :: ds) st) q
      refine q'.drop.mono fun vs H2 ⟨ds, z⟩ => ?_
      obtain ⟨m, n, r, st, z1, z2, z3, z4⟩ := z
      refine z4 H2 m _ (Go.refl _ _) z1 ?_
      have hl : ∀ (ds : List D) (vs : List V), RelL X.K H2 m n (ds ++ [d]) (vs ++ [v]) → RelL X.K H2 m n (d :: ds) (v :: vs) := fun ds vs r => by
        obtain ⟨r1, r2⟩ := snoc_rel r
        exact .cons r2 r1
      exact hl ds vs z3
/-- going over -/
theorem mI_ok {c : Ctx} {f : Expr → E → Bool} (C : CtxOk c F X W) (ih : ∀ ex e, f ex e = true → PE X ex (TD X W (den F e))) {xt xi : Expr} {k : ItK} {es : List E} (h : mE.mI f c xt xi k es = true) : PI X xt xi (TIx X W (denL F es) k) := by
  cases k with
  | val =>
    simp only [mE.mI] at h
    split at h
    · rename_i e
      rw [denL_one]
      exact pi_val_ok (ih xi e h)
    · cases h
  | rng =>
    simp only [mE.mI] at h
    split at h
    · rename_i z p x pos
      simp only [Bool.and_eq_true, decide_eq_true_eq] at h
      obtain ⟨⟨⟨rfl, hg⟩, hp⟩, h2⟩ := h
      rcases es with _ | ⟨e, _ | ⟨e2, tl⟩⟩
      · cases h2
      · simp only [all2, Bool.and_true] at h2
        rw [denL_one]
        exact pi_rng1_ok (C.gl hg) (C.mgB _ (by simp [bNames])) (ih x e h2) (star_of hp)
      · simp [all2] at h2
    · rename_i z p x y pos
      simp only [Bool.and_eq_true, decide_eq_true_eq] at h
      obtain ⟨⟨⟨⟨rfl, hg⟩, hp⟩, hp2⟩, h2⟩ := h
      rcases es with _ | ⟨e, _ | ⟨e2, _ | ⟨e3, tl⟩⟩⟩
      · cases h2
      · simp [all2] at h2
      · simp only [all2, Bool.and_true, Bool.and_eq_true] at h2
        rw [denL_two]
        exact pi_rng2_ok (C.gl hg) (C.mgB _ (by simp [bNames])) (ih x e h2.1) (ih y e2 h2.2) (by rw [star_of hp, star_of hp2]; rfl) (star_of hp2)
      · simp [all2] at h2
    · cases h
  | enum =>
    simp only [mE.mI] at h
    split at h
    · rename_i z p x pos
      simp only [Bool.and_eq_true, decide_eq_true_eq] at h
      obtain ⟨⟨⟨⟨ht, rfl⟩, hg⟩, hp⟩, h2⟩ := h
      cases xt with
      | Tuple elts kk tpos => exact pi_en_ok (C.gl hg) (C.mgB _ (by simp [bNames])) (pa_list ih [x] es (by simp [hp]) h2) (star_of hp)
      | _ => cases ht
    · cases h
  | its => cases h
  | zip strict =>
    cases strict with
    | true => cases h
    | false =>
      simp only [mE.mI] at h
      split at h
      · rename_i z p x y pos
        simp only [Bool.and_eq_true, decide_eq_true_eq] at h
        obtain ⟨⟨⟨⟨⟨ht, rfl⟩, hg⟩, hp⟩, hp2⟩, h2⟩ := h
        cases xt with
        | Tuple elts kk tpos => exact pi_z_ok (C.gl hg) (C.mgB _ (by simp [bNames])) (pa_list ih [x, y] es (by simp [hp, hp2]) h2) (star_of hp) (stars_no (by simp [hp2]))
        | _ => cases ht
      · cases h
end
end WT

set_option Elab.async false
set_option linter.all false
set_option maxRecDepth 100000
set_option maxHeartbeats 4000000
/-! WTe0: isinstance. -/
namespace WT
open PySem PySem.Spec PyProof.Rows L2
section
variable {c : Ctx} {F : Fun} {X : Cx} {W : L2.WX}
theorem ty_boot (t : Ty) : bootBuiltins t.tx = some (.type t.nm) := by cases t <;> decide +kernel
theorem ty_name (t : Ty) : t.tx ∈ bNames ∧ t.tx ≠ "__name__" ∧ (t.tx == ("__debug__" : Str)) = false := by cases t <;> decide +kernel
theorem ty_meets {st : Store} {d : D} {t : Ty} {b : Bool} {H : Hp} {m n : List Addr} {v : V} (s : StR X.K H m n st) (r : RelD X.K H m n d v) (h : isTy st d t = some b) : ∃ u : String, TyX X.K H v (.type u) ∧ kitB u t.nm = some b := by
  cases d with
  | non =>
    simp only [RelD] at r; subst r
    refine ⟨"NoneType", .base .non, ?_⟩
    have hb : b = false := by simpa [isTy] using h.symm
    subst hb
    cases t <;> decide +kernel
  | bl x =>
    simp only [RelD] at r; subst r
    refine ⟨"bool", .base (.bl x), ?_⟩
    cases t <;> (have hb := h.symm; simp [isTy] at hb; subst hb; decide +kernel)
  | int i =>
    simp only [RelD] at r; subst r
    refine ⟨"int", .base (.int i), ?_⟩
    cases t <;> (have hb := h.symm; simp [isTy] at hb; subst hb; decide +kernel)
  | str i =>
    simp only [RelD] at r; subst r
    refine ⟨"str", .base (.str i), ?_⟩
    cases t <;> (have hb := h.symm; simp [isTy] at hb; subst hb; decide +kernel)
  | tup xs =>
    simp only [RelD] at r
    obtain ⟨a, vs, rfl, e2, e3⟩ := r
    refine ⟨"tuple", .base (.tup e2.1), ?_⟩
    cases t <;> (have hb := h.symm; simp [isTy] at hb; subst hb; decide +kernel)
  | lst xs =>
    simp only [RelD] at r
    obtain ⟨a, vs, rfl, e2, e3⟩ := r
    refine ⟨"list", .base (.lst e2), ?_⟩
    cases t <;> (have hb := h.symm; simp [isTy] at hb; subst hb; decide +kernel)
  | scr xs => cases h
  | loc k =>
    simp only [RelD] at r
    obtain ⟨a, rfl, e2⟩ := r
    obtain ⟨ob, e3⟩ := s.there e2
    have q := s.place k a ob e2 e3
    cases ob with
    | lst ys =>
      obtain ⟨vs, q1, q2⟩ := q
      refine ⟨"list", .base (.lst q1), ?_⟩
      cases t <;> (have hb := h.symm; simp [isTy, e3] at hb; subst hb; decide +kernel)
    | dK ys =>
      obtain ⟨vs, q1, q2⟩ := q
      refine ⟨"dict", .base (.dK q1), ?_⟩
      cases t <;> (have hb := h.symm; simp [isTy, e3] at hb; subst hb; decide +kernel)
    | dT ys =>
      obtain ⟨vs, q1, q2⟩ := q
      refine ⟨"dict", .base (.dT q1), ?_⟩
      cases t <;> (have hb := h.symm; simp [isTy, e3] at hb; subst hb; decide +kernel)
theorem b_isi : bootBuiltins "isinstance" = some (.builtin "isinstance") := by decide +kernel
/-- isinstance(e, T) -/
theorem pe_isi {x z : Str} {y : Expr} {e : E} {t : Ty} {p p2 pos : Pos} (C : CtxOk c F X W) (hx : x = "isinstance") (hg : c.gl x = true) (hz : z = t.tx) (hgz : c.gl z = true) (hp : plainE y = true) (ih : PE X y (TD X W (den F e))) :
    PE X (.Call (.Name x p) [y, .Name z p2] [] pos) (TD X W (den F (.isi e t))) := by
  subst hx hz
  obtain ⟨n1, n2, n3⟩ := ty_name t
  have hn : PE X (.Name t.tx p2) (tC (.ty t.nm)) := pe_bltn (C.gl hgz) (C.mgB _ n1) (ty_boot t) rfl n2 n3
  refine imp_e (pe_callB call_isi (C.gl hg) (C.mgB _ (by decide +kernel)) b_isi (pa_cons ih (pa_cons hn pa_nil rfl) (star_of hp)) (by decide +kernel) (by decide +kernel) (star_of hp) rfl) fun s H Q h => ?_
  have ed : den F (.isi e t) = fun r st => (den F e r st).bind fun d st => optR ((isTy st d t).map D.bl) st := by funext r st; rw [den]
  rw [ed] at h
  refine (TR.bindD (k := fun d _ st => optR ((isTy st d t).map D.bl) st) h).mono fun v H1 ⟨d, q⟩ => ?_
  obtain ⟨m, n, r, st, h1, h2, h3, h4⟩ := q
  obtain ⟨v', ev, rd⟩ := h3.one
  cases ev
  cases eb : isTy st d t with
  | none => simp only [eb] at h4; exact False.elim h4
  | some b =>
    simp only [eb] at h4
    obtain ⟨u, g1, g2⟩ := ty_meets h1 rd eb
    exact ⟨_, _, _, _, b, rfl, .ty t.nm, g1, kit_ty g2, here h4 h1 rBl⟩
end
end WT

set_option Elab.async false
set_option linter.all false
set_option maxRecDepth 100000
set_option maxHeartbeats 4000000
/-! WTe: the simulation of expressions. -/
namespace WT
open PySem PySem.Spec PyProof.Rows L2
theorem hty_pop : typeOf (.builtin "list.pop") = pure (.type "method_descriptor") := by show builtinType _ = _; rw [builtinType_eq_fast]; kernel_rfl
theorem hty_append : typeOf (.builtin "list.append") = pure (.type "method_descriptor") := by show builtinType _ = _; rw [builtinType_eq_fast]; kernel_rfl
theorem hty_index : typeOf (.builtin "list.index") = pure (.type "method_descriptor") := by show builtinType _ = _; rw [builtinType_eq_fast]; kernel_rfl
theorem hty_count : typeOf (.builtin "list.count") = pure (.type "method_descriptor") := by show builtinType _ = _; rw [builtinType_eq_fast]; kernel_rfl
theorem hty_extend : typeOf (.builtin "list.extend") = pure (.type "method_descriptor") := by show builtinType _ = _; rw [builtinType_eq_fast]; kernel_rfl
theorem hty_get : typeOf (.builtin "dict.get") = pure (.type "method_descriptor") := by show builtinType _ = _; rw [builtinType_eq_fast]; kernel_rfl
section
variable {c : Ctx} {F : Fun} {X : Cx} {W : L2.WX}
theorem mt_gen {m : Mt} {T id : String} {xo : Expr} {xs : List Expr} {apos cpos : Pos} {fo : Env → Store → Res D} {fs : Env → Store → Res (List D)} (pa : PlainAttrs T) (slot : Slot T (mtName m) id) (hty : typeOf (.builtin id) = pure (.type "method_descriptor")) (hm : MtR X id (MH X m))
    (hT : ∀ (H : Hp) (m' n : List Addr) (st : Store) (d : D) (v : V), StR X.K H m' n st → RelD X.K H m' n d v → mtOk m d st = true → tyV X.K T v H) (hb : baseE xo = true) (hl : (apos.endLine == cpos.line) = true) (hp : xs.all plainE = true) (hn : xs.length < 20)
    (ho : PE X xo (TD X W fo)) (ha : PA X xs (TL X W fs)) (h0 : xs = [] → ∀ r st, fs r st = .ok [] st) :
    PE X (.Call (.Attribute xo (mtName m) apos) xs [] cpos) (TD X W (fun r st => (fo r st).bind fun x st => if mtOk m x st then (fs r st).bind fun ds st => mtD m x ds st else .stuck)) := by
  have step : ∀ {σ : L2.St} {H : Hp} {Q : VK} {d : D} {v : V} {g : Env → Store → Res D}, TR X W (lD X) [d] [v] (fun r st => if mtOk m d st then g r st else .stuck) σ H Q → tyV X.K T v H ∧ TR X W (lD X) [d] [v] g σ H Q := by
    rintro σ H Q d v g ⟨m', n, r, st, h1, h2, h3, h4⟩
    dsimp only at h4
    split at h4
    · rename_i hk
      obtain ⟨v', ev, rd⟩ := h3.one
      cases ev
      exact ⟨hT H m' n st d v h1 rd hk, m', n, r, st, h1, h2, h3, h4⟩
    · exact False.elim h4
  cases xs with
  | nil =>
    refine imp_e (pe_bm0 pa slot hty hm ho (base_of hb _) hl) fun s H Q h => ?_
    have h' := TR.bindD (k := fun x r st => if mtOk m x st then (fs r st).bind fun ds st => mtD m x ds st else .stuck) h
    refine h'.mono fun v H1 ⟨d, q⟩ => ?_
    obtain ⟨q1, q2⟩ := step q
    refine ⟨q1, d, [], ?_⟩
    have e : (fun r st => (fs r st).bind fun ds st => mtD m d ds st) = fun _ st => mtD m d [] st := by
      funext r st; rw [h0 rfl r st]; rfl
    rw [e] at q2
    exact q2.vh
  | cons x xs =>
    have hp' := hp
    simp only [List.all_cons, Bool.and_eq_true] at hp
    refine imp_e (pe_bm pa slot hty hm ho ha (base_of hb _) (by rw [stars_few hp']; simp [keywordEach, backToKw]; simp at hn; omega) hl (star_of hp.1) (stars_no hp.2)) fun s H Q h => ?_
    have h' := TR.bindD (k := fun x r st => if mtOk m x st then (fs r st).bind fun ds st => mtD m x ds st else .stuck) h
    refine h'.mono fun v H1 ⟨d, q⟩ => ?_
    obtain ⟨q1, q2⟩ := step q
    refine ⟨q1, ?_⟩
    have q3 := TR.bindL (k := fun ds _ st => mtD m d ds st) q2
    exact q3.drop.mono fun vs H2 ⟨ds, z⟩ => ⟨d, ds, z.vh⟩
theorem lst_ty {H : Hp} {m' n : List Addr} {st : Store} {d : D} {v : V} (s : StR X.K H m' n st) (r : RelD X.K H m' n d v) (h : (match view st d with | .lst _ => true | _ => false) = true) : tyV X.K "list" v H := by
  split at h
  · rename_i ys ev
    obtain ⟨a, vs, rfl, e2, _⟩ := view_lst s r ev
    exact .inl ⟨rfl, vs, SqL.of e2⟩
  · cases h
theorem mt_ok (C : CtxOk c F X W) {m : Mt} {xo : Expr} {xs : List Expr} {apos cpos : Pos} {fo : Env → Store → Res D} {fs : Env → Store → Res (List D)} (hon : m.on = true) (hb : baseE xo = true) (hl : (apos.endLine == cpos.line) = true) (hp : xs.all plainE = true) (hn : xs.length < 20)
    (ho : PE X xo (TD X W fo)) (ha : PA X xs (TL X W fs)) (h0 : xs = [] → ∀ r st, fs r st = .ok [] st) :
    PE X (.Call (.Attribute xo (mtName m) apos) xs [] cpos) (TD X W (fun r st => (fo r st).bind fun x st => if mtOk m x st then (fs r st).bind fun ds st => mtD m x ds st else .stuck)) := by
  cases m with
  | append => exact mt_gen PySem.F.plainAttrs_list PySem.F.slot_list_append hty_append append_ok (fun H m' n st d v s r h => lst_ty s r h) hb hl hp hn ho ha h0
  | pop => exact mt_gen PySem.F.plainAttrs_list PySem.F.slot_list_pop hty_pop pop_ok (fun H m' n st d v s r h => lst_ty s r h) hb hl hp hn ho ha h0
  | index => exact mt_gen PySem.F.plainAttrs_list PySem.F.slot_list_index hty_index (index_ok C.hu) (fun H m' n st d v s r h => lst_ty s r h) hb hl hp hn ho ha h0
  | count => exact mt_gen PySem.F.plainAttrs_list PySem.F.slot_list_count hty_count count_ok (fun H m' n st d v s r h => lst_ty s r h) hb hl hp hn ho ha h0
  | extend => exact mt_gen PySem.F.plainAttrs_list PySem.F.slot_list_extend hty_extend extend_ok (fun H m' n st d v s r h => lst_ty s r h) hb hl hp hn ho ha h0
  | get =>
    refine mt_gen PySem.F.plainAttrs_dict PySem.F.slot_dict_get hty_get (get_ok C.hu1) (fun H m' n st d v s r h => ?_) hb hl hp hn ho ha h0
    cases d with
    | loc j =>
      simp only [RelD] at r
      obtain ⟨a, rfl, e2⟩ := r
      obtain ⟨ob, e3⟩ := s.there e2
      have q := s.place j a ob e2 e3
      cases ob with
      | lst _ => simp [mtOk, e3] at h
      | dK kvs => obtain ⟨kvs', q1, _⟩ := q; exact .inr (.inr (.inl ⟨rfl, .inl ⟨_, q1⟩⟩))
      | dT kvs => obtain ⟨kvs', q1, _⟩ := q; exact .inr (.inr (.inl ⟨rfl, .inr ⟨_, q1⟩⟩))
    | _ => simp [mtOk] at h
  | update => cases hon
  | remove => cases hon
/-! ### built-ins -/
theorem b_abs : bootBuiltins "abs" = some (.builtin "abs") := by decide +kernel
theorem b_all : bootBuiltins "all" = some (.builtin "all") := by decide +kernel
theorem b_any : bootBuiltins "any" = some (.builtin "any") := by decide +kernel
theorem b_len : bootBuiltins "len" = some (.builtin "len") := by decide +kernel
theorem b_repr : bootBuiltins "repr" = some (.builtin "repr") := by decide +kernel
theorem b_sorted : bootBuiltins "sorted" = some (.builtin "sorted") := by decide +kernel
theorem b_sum : bootBuiltins "sum" = some (.builtin "sum") := by decide +kernel
theorem b_max : bootBuiltins "max" = some (.builtin "max") := by decide +kernel
theorem b_min : bootBuiltins "min" = some (.builtin "min") := by decide +kernel
theorem b_int : bootBuiltins "int" = some (.type "int") := by decide +kernel
theorem b_str : bootBuiltins "str" = some (.type "str") := by decide +kernel
theorem b_tuple : bootBuiltins "tuple" = some (.type "tuple") := by decide +kernel
theorem b_list : bootBuiltins "list" = some (.type "list") := by decide +kernel
theorem bi_fn {al : Bool} {b : Bi} {id : String} {x : Str} {e : Expr} {es : List Expr} {p pos : Pos} {fs : Env → Store → Res (List D)} (C : CtxOk c F X W) (hc : CallR X (.builtin id) (fun xs H Q => ∃ ds, VH X.K ds xs (biD al b ds) H Q)) (hg : c.gl x = true) (hm : x ∈ bNames) (hv : bootBuiltins x = some (.builtin id))
    (hp : plainE e = true) (hps : es.all plainE = true) (ha : PA X (e :: es) (TL X W fs)) (hn : x ≠ "__name__") (hd : (x == ("__debug__" : Str)) = false) : PE X (.Call (.Name x p) (e :: es) [] pos) (TD X W (fun r st => (fs r st).bind fun ds st => biD al b ds st)) := by
  refine imp_e (pe_callB hc (C.gl hg) (C.mgB x hm) hv ha hn hd (star_of hp) (stars_no hps)) fun s H Q h => ?_
  have h' := TR.bindL (k := fun ds _ st => biD al b ds st) h
  refine h'.mono fun vs H1 ⟨ds, q⟩ => ⟨ds, ?_⟩
  rw [List.append_nil, List.append_nil] at q
  exact q.vh
theorem bi_ty {al : Bool} {b : Bi} {id : String} {x : Str} {e : Expr} {es : List Expr} {p pos : Pos} {fs : Env → Store → Res (List D)} (C : CtxOk c F X W) (hc : CallR X (.type id) (fun xs H Q => ∃ ds, VH X.K ds xs (biD al b ds) H Q)) (hg : c.gl x = true) (hm : x ∈ bNames) (hv : bootBuiltins x = some (.type id))
    (hp : plainE e = true) (hps : es.all plainE = true) (ha : PA X (e :: es) (TL X W fs)) (hn : x ≠ "__name__") (hd : (x == ("__debug__" : Str)) = false) : PE X (.Call (.Name x p) (e :: es) [] pos) (TD X W (fun r st => (fs r st).bind fun ds st => biD al b ds st)) := by
  refine imp_e (pe_callTy hc (C.gl hg) (C.mgB x hm) hv ha hn hd (star_of hp) (stars_no hps)) fun s H Q h => ?_
  have h' := TR.bindL (k := fun ds _ st => biD al b ds st) h
  refine h'.mono fun vs H1 ⟨ds, q⟩ => ⟨ds, ?_⟩
  rw [List.append_nil, List.append_nil] at q
  exact q.vh
theorem rgV_rel {K : PySem.W.Frag} {H : Hp} {m n : List Addr} (a b : Int) : RelL K H m n (rangeL a b) (rgV a b) := by
  unfold rangeL rgV
  generalize List.range (b - a).toNat = l
  induction l with
  | nil => exact .nil
  | cons x l ih => exact .cons rInt ih
/-- list(range(..)), tuple(range(..)) -/
theorem rg_read {al : Bool} {b : Bi} (hb : b = .listR ∨ b = .tupleR) {ds : List D} {m n : List Addr} {st : Store} {H : Hp} {Q : VK} {Er : Ex → Store → Prop} {i j : Int} (s : StR X.K H m n st) (h : (biD al b ds st).Post (QV X.K n H m Q) Er) (e : ∀ xs, rangeA ds = some xs → RgOk i j ∧ xs = rangeL i j) :
    RgOk i j ∧ (b = .listR → ∀ q, H q = none → Q (.ref q) (upd H q (.lst (rgV i j)))) ∧ (b = .tupleR → ∀ q, H q = none → Q (.ref q) (upd H q (.tup (rgV i j)))) := by
  cases er : rangeA ds with
  | none =>
    exfalso
    rcases hb with rfl | rfl
    · have h' : (match rangeA ds with | some xs => newL al xs st | none => .stuck : Res D).Post (QV X.K n H m Q) Er := h
      rw [er] at h'; exact h'
    · have h' : (match rangeA ds with | some xs => .ok (.tup xs) st | none => .stuck : Res D).Post (QV X.K n H m Q) Er := h
      rw [er] at h'; exact h'
  | some xs =>
    obtain ⟨e1, rfl⟩ := e xs er
    refine ⟨e1, fun z => ?_, fun z => ?_⟩
    · subst z
      have h' : (match rangeA ds with | some xs => newL al xs st | none => .stuck : Res D).Post (QV X.K n H m Q) Er := h
      rw [er] at h'
      exact (newL_ok s (rgV_rel i j) h').2
    · subst z
      have h' : (match rangeA ds with | some xs => .ok (.tup xs) st | none => .stuck : Res D).Post (QV X.K n H m Q) Er := h
      rw [er] at h'
      exact newT_ok s (rgV_rel i j) h'
theorem rg1_ok {al : Bool} {b : Bi} {nm : Str} (hb : (b = .listR ∧ nm = "list") ∨ (b = .tupleR ∧ nm = "tuple")) {x : Expr} {p p2 pos pos2 : Pos} {f : Env → Store → Res D} (C : CtxOk c F X W) (hg : c.gl nm = true) (hg2 : c.gl "range" = true) (hp : plainE x = true) (hx : PE X x (TD X W f)) :
    PE X (.Call (.Name nm p) [.Call (.Name "range" p2) [x] [] pos2] [] pos) (TD X W (fun r st => ((f r st).bind fun x st => .ok [x] st).bind fun ds st => biD al b ds st)) := by
  have pr := prg_1 (p := p2) (pos := pos2) (C.gl hg2) (C.mgB "range" (by simp [bNames])) hx (star_of hp)
  have key : ∀ {s : L2.St} {H : Hp} {Q : VK}, TD X W (fun r st => ((f r st).bind fun x st => .ok [x] st).bind fun ds st => biD al b ds st) s H Q → tRg1 (TD X W f) s H fun i j H1 => RgOk i j ∧ (b = .listR → ∀ q, H1 q = none → Q (.ref q) (upd H1 q (.lst (rgV i j)))) ∧ (b = .tupleR → ∀ q, H1 q = none → Q (.ref q) (upd H1 q (.tup (rgV i j)))) := fun {s H Q} h => by
    have e : (fun r st => ((f r st).bind fun x st => Res.ok [x] st).bind fun ds st => biD al b ds st) = fun r st => (f r st).bind fun x st => biD al b [x] st := by
      funext r st; rw [Res.bind_assoc]; rfl
    unfold TD at h
    rw [e] at h
    have h' := TR.bindD (k := fun x _ st => biD al b [x] st) h
    refine h'.mono fun v H1 ⟨d, q⟩ => ?_
    obtain ⟨m, n, r, st, h1, h2, h3, h4⟩ := q
    obtain ⟨v', ev, rd⟩ := h3.one
    cases ev
    have hne : ∀ i, d = .int i → ∃ i, v = .int i ∧ (RgOk 0 i ∧ (b = .listR → ∀ q, H1 q = none → Q (.ref q) (upd H1 q (.lst (rgV 0 i)))) ∧ (b = .tupleR → ∀ q, H1 q = none → Q (.ref q) (upd H1 q (.tup (rgV 0 i))))) := fun i e => by
      subst e
      simp only [RelD] at rd
      refine ⟨i, rd, rg_read (by rcases hb with ⟨h, _⟩ | ⟨h, _⟩; exact .inl h; exact .inr h) h1 h4 fun xs ex => ?_⟩
      simp only [rangeA] at ex
      split at ex
      · rename_i hr; cases ex; exact ⟨hr, rfl⟩
      · cases ex
    cases d with
    | int i => exact hne i rfl
    | _ =>
      exfalso
      rcases hb with ⟨rfl, _⟩ | ⟨rfl, _⟩ <;> exact h4
  rcases hb with ⟨rfl, rfl⟩ | ⟨rfl, rfl⟩
  · refine imp_e (pe_listRg C.calm (C.gl hg) (C.mgB "list" (by simp [bNames])) pr (star_of rfl)) fun s H Q h => ?_
    exact (key h).mono fun v H1 ⟨i, e1, e2, e3, e4⟩ => ⟨i, e1, e2, e3 rfl⟩
  · refine imp_e (pe_tupRg C.calm (C.gl hg) (C.mgB "tuple" (by simp [bNames])) pr (star_of rfl)) fun s H Q h => ?_
    exact (key h).mono fun v H1 ⟨i, e1, e2, e3, e4⟩ => ⟨i, e1, e2, e4 rfl⟩
theorem rg2_ok {al : Bool} {b : Bi} {nm : Str} (hb : (b = .listR ∧ nm = "list") ∨ (b = .tupleR ∧ nm = "tuple")) {x y : Expr} {p p2 pos pos2 : Pos} {f f2 : Env → Store → Res D} (C : CtxOk c F X W) (hg : c.gl nm = true) (hg2 : c.gl "range" = true) (hp : plainE x = true) (hp2 : plainE y = true) (hx : PE X x (TD X W f)) (hy : PE X y (TD X W f2)) :
    PE X (.Call (.Name nm p) [.Call (.Name "range" p2) [x, y] [] pos2] [] pos) (TD X W (fun r st => ((f r st).bind fun x st => (f2 r st).bind fun y st => .ok [x, y] st).bind fun ds st => biD al b ds st)) := by
  have pr := prg_2 (p := p2) (pos := pos2) (C.gl hg2) (C.mgB "range" (by simp [bNames])) hx hy (star_of hp) (star_of hp2) (stars_no (by simp [hp2]))
  have key : ∀ {s : L2.St} {H : Hp} {Q : VK}, TD X W (fun r st => ((f r st).bind fun x st => (f2 r st).bind fun y st => .ok [x, y] st).bind fun ds st => biD al b ds st) s H Q → tRg2 (TD X W f) (TD X W f2) s H fun i j H1 => RgOk i j ∧ (b = .listR → ∀ q, H1 q = none → Q (.ref q) (upd H1 q (.lst (rgV i j)))) ∧ (b = .tupleR → ∀ q, H1 q = none → Q (.ref q) (upd H1 q (.tup (rgV i j)))) := fun {s H Q} h => by
    have e : (fun r st => ((f r st).bind fun x st => (f2 r st).bind fun y st => Res.ok [x, y] st).bind fun ds st => biD al b ds st) = fun r st => (f r st).bind fun x st => (f2 r st).bind fun y st => biD al b [x, y] st := by
      funext r st; rw [Res.bind_assoc]; congr 1; funext x st; rw [Res.bind_assoc]; rfl
    unfold TD at h
    rw [e] at h
    have h' := TR.bindD (k := fun x r st => (f2 r st).bind fun y st => biD al b [x, y] st) h
    refine h'.mono fun v H1 ⟨d, q⟩ => ?_
    have q' := TR.bindD (k := fun y _ st => biD al b [d, y] st) q
    refine q'.drop.mono fun w H2 ⟨d2, z⟩ => ?_
    obtain ⟨m, n, r, st, h1, h2, h3, h4⟩ := z
    obtain ⟨w', v', ev, rd2, rd⟩ := h3.two
    cases ev
    clear q q' h'
    cases d with
    | int i =>
      cases d2 with
      | int j =>
        simp only [RelD] at rd rd2
        refine ⟨i, j, rd, rd2, rg_read (by rcases hb with ⟨h, _⟩ | ⟨h, _⟩; exact .inl h; exact .inr h) h1 h4 fun xs ex => ?_⟩
        simp only [rangeA] at ex
        split at ex
        · rename_i hr; cases ex; exact ⟨hr, rfl⟩
        · cases ex
      | _ => exfalso; rcases hb with ⟨rfl, _⟩ | ⟨rfl, _⟩ <;> exact h4
    | _ => exfalso; rcases hb with ⟨rfl, _⟩ | ⟨rfl, _⟩ <;> (cases d2 <;> exact h4)
  rcases hb with ⟨rfl, rfl⟩ | ⟨rfl, rfl⟩
  · refine imp_e (pe_listRg C.calm (C.gl hg) (C.mgB "list" (by simp [bNames])) pr (star_of rfl)) fun s H Q h => ?_
    exact (key h).mono fun v H1 q => q.mono fun w H2 ⟨i, j, e1, e2, e3, e4, e5⟩ => ⟨i, j, e1, e2, e3, e4 rfl⟩
  · refine imp_e (pe_tupRg C.calm (C.gl hg) (C.mgB "tuple" (by simp [bNames])) pr (star_of rfl)) fun s H Q h => ?_
    exact (key h).mono fun v H1 q => q.mono fun w H2 ⟨i, j, e1, e2, e3, e4, e5⟩ => ⟨i, j, e1, e2, e3, e5 rfl⟩
end
end WT

set_option Elab.async false
set_option linter.all false
set_option maxRecDepth 100000
set_option maxHeartbeats 4000000
/-! WTf: the simulation of expressions. -/
namespace WT
open PySem PySem.Spec PyProof.Rows L2
/-! ### {k: v, ..} -/
section
variable {F : Fun} {X : Cx} {W : L2.WX}
theorem TL_cons {e : E} {es : List E} {σ : L2.St} {H : Hp} {Q : List V → Hp → Prop} (h : TL X W (denL F (e :: es)) σ H Q) : TD X W (den F e) σ H fun v H1 => TL X W (denL F es) σ H1 fun vs H2 => Q (v :: vs) H2 := by
  unfold TL at h
  rw [denL_cons] at h
  have h' := TR.bindD (k := fun d r st => (denL F es r st).bind fun xs st => .ok (d :: xs) st) h
  refine h'.mono fun v H1 ⟨d, q⟩ => ?_
  have q' := TR.bindL (k := fun ds _ st => .ok (d :: ds) st) q
  refine q'.drop.mono fun vs H2 ⟨ds, z⟩ => ?_
  obtain ⟨m, n, r, st, z1, z2, z3, z4⟩ := z
  have z3' : RelL X.K H2 m n (ds ++ [d]) (vs ++ [v]) := z3
  obtain ⟨r1, r2⟩ := snoc_rel z3'
  exact z4 H2 m _ (Go.refl _ _) z1 (.cons r2 r1)
def trsOf (X : Cx) (W : L2.WX) (F : Fun) : List E → List (TE × TE)
  | k :: v :: r => (TD X W (den F k), TD X W (den F v)) :: trsOf X W F r
  | _ => []
def flat : List (V × V) → List V
  | [] => []
  | (x, y) :: r => x :: y :: flat r
theorem flat_inj : ∀ {a b : List (V × V)}, flat a = flat b → a = b
  | [], [], _ => rfl
  | [], (_, _) :: _, h => by cases h
  | (_, _) :: _, [], h => by cases h
  | (x, y) :: a, (x', y') :: b, h => by
    simp only [flat, List.cons.injEq] at h
    rw [h.1, h.2.1, flat_inj h.2.2]
theorem pairs_read {f : Expr → E → Bool} : ∀ (es : List E) (ks : List (Option Expr)) (vs : List Expr), mE.mD f ks vs es = true → ∀ {σ : L2.St} {H : Hp} {Q : List V → Hp → Prop}, TL X W (denL F es) σ H Q → tPairs (trsOf X W F es) σ H fun ps H' => Q (flat ps) H'
  | [], ks, vs, h, σ, H, Q, hq => by
    unfold TL at hq
    rw [denL_nil] at hq
    obtain ⟨m, n, r, st, h1, h2, h3, h4⟩ := hq
    exact h4 H m [] (Go.refl _ _) h1 .nil
  | [e], ks, vs, h, σ, H, Q, hq => by
    cases ks with
    | nil => cases vs <;> cases h
    | cons k ks => cases k <;> cases vs <;> first | cases h | (simp [mE.mD] at h)
  | k :: v :: r, ks, vs, h, σ, H, Q, hq => by
    cases ks with
    | nil => cases vs <;> cases h
    | cons ko ks =>
      cases ko with
      | none => cases vs <;> cases h
      | some kx =>
        cases vs with
        | nil => cases h
        | cons vx vs =>
          simp only [mE.mD, Bool.and_eq_true] at h
          refine (TL_cons hq).mono fun x H1 q1 => (TL_cons q1).mono fun y H2 q2 => ?_
          exact pairs_read r ks vs h.2 q2
theorem pps_ok {f : Expr → E → Bool} {pos : Pos} (ih : ∀ ex e, f ex e = true → PE X ex (TD X W (den F e))) : ∀ (es : List E) (ks : List (Option Expr)) (vs : List Expr), mE.mD f ks vs es = true → PPs X pos ks vs (trsOf X W F es) ∧ (ks.all fun x => x.isSome) = true ∧ ks.length = vs.length
  | [], ks, vs, h => by
    cases ks with
    | nil => cases vs with
      | nil => exact ⟨pps_nil, rfl, rfl⟩
      | cons _ _ => cases h
    | cons k ks => cases k <;> cases vs <;> cases h
  | [e], ks, vs, h => by
    cases ks with
    | nil => cases vs <;> cases h
    | cons k ks => cases k <;> cases vs <;> first | cases h | (simp [mE.mD] at h)
  | k :: v :: r, ks, vs, h => by
    cases ks with
    | nil => cases vs <;> cases h
    | cons ko ks =>
      cases ko with
      | none => cases vs <;> cases h
      | some kx =>
        cases vs with
        | nil => cases h
        | cons vx vs =>
          simp only [mE.mD, Bool.and_eq_true] at h
          obtain ⟨⟨⟨⟨h1, h2⟩, h3⟩, h4⟩, h5⟩ := h
          obtain ⟨g1, g2, g3⟩ := pps_ok ih r ks vs h5
          exact ⟨pps_cons (ih kx k h3) (ih vx v h4) g1, by simpa using g2, by simp [g3]⟩
theorem disp_rel {K : PySem.W.Frag} {H : Hp} {m n : List Addr} : ∀ {ds : List D} {vs : List V} {kvs : List (Key × D)}, dispOf ds = some kvs → RelL K H m n ds vs → ∃ kvs' : List (Key × V), vs = flat (kvs'.map fun kv => (kV kv.1, kv.2)) ∧ KVr (RelD K H m n) kvs kvs'
  | [], vs, kvs, e, r => by
    simp only [dispOf, Option.some.injEq] at e
    simp only [RelL] at r
    subst e r
    exact ⟨[], rfl, .nil⟩
  | [d], vs, kvs, e, r => by simp [dispOf] at e
  | k :: v :: ds, vs, kvs, e, r => by
    simp only [dispOf] at e
    split at e
    · rename_i k' kvs' e1 e2
      cases e
      obtain ⟨x, r1, ex, h1, h2⟩ := r.uncons
      obtain ⟨y, r2, ey, h3, h4⟩ := h2.uncons
      obtain ⟨q, q1, q2⟩ := disp_rel e2 h4
      refine ⟨(k', y) :: q, ?_, .cons ⟨rfl, h3⟩ q2⟩
      rw [ex, ey, q1, key_rel h1 e1]
      rfl
    · cases e
theorem put_rel {R : D → V → Prop} : ∀ {kvs : List (Key × D)} {kvs' : List (Key × V)} {acc : List (Key × D)} {acc' : List (Key × V)}, KVr R kvs kvs' → KVr R acc acc' → KVr R (putAll acc kvs) (mergeK acc' kvs')
  | _, _, acc, acc', .nil, h => h
  | _, _, acc, acc', .cons (a := p) (b := q) (l₁ := l1) (l₂ := l2) h t, ha => by
    show KVr R (putAll (putA acc p.1 p.2) l1) (mergeK (putK acc' q.1 q.2) l2)
    refine put_rel t ?_
    rw [h.1]
    exact ha.put h.2
mutual
theorem RelD.turn {K : PySem.W.Frag} {H : Hp} {m n : List Addr} {p : Addr} {o : HO} {kvs : List (Key × V)} (e : H p = some (.dK kvs)) : ∀ (d : D) (v : V), RelD K H m n d v → RelD K (upd H p o) (m ++ [p]) n d v
  | .non, _, h => h
  | .bl _, _, h => h
  | .int _, _, h => h
  | .str _, _, h => h
  | .tup ds, v, h => by
    simp only [RelD] at h ⊢
    obtain ⟨a, vs, e1, t, r⟩ := h
    have hne : a ≠ p := fun z => by rw [z] at t; rw [t.1] at e; cases e
    exact ⟨a, vs, e1, ⟨by rw [upd_ne hne]; exact t.1, fun z => by
      rcases List.mem_append.mp z with z | z
      · exact t.2 z
      · exact hne (List.mem_singleton.mp z)⟩, RelL.turn e ds vs r⟩
  | .lst ds, v, h => by
    simp only [RelD] at h ⊢
    obtain ⟨a, vs, e1, t, h1, h2, r⟩ := h
    have hne : a ≠ p := fun z => by rw [z] at t; rw [t] at e; cases e
    exact ⟨a, vs, e1, by rw [upd_ne hne]; exact t, fun z => by
      rcases List.mem_append.mp z with z | z
      · exact h1 z
      · exact hne (List.mem_singleton.mp z), h2, RelL.turn e ds vs r⟩
  | .scr ds, v, h => by
    simp only [RelD] at h ⊢
    obtain ⟨a, vs, e1, t, r⟩ := h
    refine ⟨a, vs, e1, ?_, RelL.turn e ds vs r⟩
    rcases t with t | ⟨⟨o', t⟩, h2⟩
    · exact .inl t
    · have hne : a ≠ p := fun z => by rw [z] at t; rw [t] at e; cases e
      exact .inr ⟨⟨o', by rw [upd_ne hne]; exact t⟩, fun z => by
        rcases List.mem_append.mp z with z | z
        · exact h2 z
        · exact hne (List.mem_singleton.mp z)⟩
  | .loc k, v, h => by
    simp only [RelD] at h ⊢
    obtain ⟨a, e1, e2⟩ := h
    exact ⟨a, e1, by rw [List.getElem?_append_left (List.getElem?_eq_some_iff.mp e2).1]; exact e2⟩
theorem RelL.turn {K : PySem.W.Frag} {H : Hp} {m n : List Addr} {p : Addr} {o : HO} {kvs : List (Key × V)} (e : H p = some (.dK kvs)) : ∀ (ds : List D) (vs : List V), RelL K H m n ds vs → RelL K (upd H p o) (m ++ [p]) n ds vs
  | [], _, h => h
  | d :: ds, vs, h => by
    simp only [RelL] at h ⊢
    obtain ⟨v, r, e1, h1, h2⟩ := h
    exact ⟨v, r, e1, RelD.turn e d v h1, RelL.turn e ds r h2⟩
end
theorem StR.turn {K : PySem.W.Frag} {H : Hp} {m n : List Addr} {st : Store} {p : Addr} {kvs : List (Key × V)} {kd : List (Key × D)} {kv : List (Key × V)} (s : StR K H m n st) (e : H p = some (.dK kvs)) (hm : p ∉ m) (r : KVr (RelD K H m n) kd kv) : StR K (upd H p (.dK kv)) (m ++ [p]) n (st ++ [.dK kd]) := by
  have hn : p ∉ n := fun z => by
    obtain ⟨xs, q⟩ := s.hid p z
    rw [e] at q; cases q
  refine ⟨by rw [List.length_append, List.length_append, s.len]; rfl, ?_, fun a ha z => ?_, fun k a ob e1 e2 => ?_, fun a ha => ?_⟩
  · rw [List.nodup_append]
    refine ⟨s.nd, by simp, fun a ha b hb z => ?_⟩
    rw [List.mem_singleton.mp hb] at z; rw [z] at ha; exact hm ha
  · rcases List.mem_append.mp ha with h | h
    · exact s.dis a h z
    · rw [List.mem_singleton.mp h] at z; exact hn z
  · by_cases hk : k < m.length
    · rw [List.getElem?_append_left hk] at e1
      rw [List.getElem?_append_left (by rw [← s.len]; exact hk)] at e2
      have hne : a ≠ p := fun z => hm (z ▸ mem_of_at e1)
      have q := s.place k a ob e1 e2
      cases ob with
      | lst ds => obtain ⟨vs, q1, q2⟩ := q; exact ⟨vs, by rw [upd_ne hne]; exact q1, RelL.turn e _ _ q2⟩
      | dK ds => obtain ⟨vs, q1, q2⟩ := q; exact ⟨vs, by rw [upd_ne hne]; exact q1, Paired.mapR q2 fun _ _ z => ⟨z.1, RelD.turn e _ _ z.2⟩⟩
      | dT ds => obtain ⟨vs, q1, q2⟩ := q; exact ⟨vs, by rw [upd_ne hne]; exact q1, Paired.mapR q2 fun _ _ z => ⟨z.1, RelD.turn e _ _ z.2⟩⟩
    · have hk' : m.length ≤ k := Nat.le_of_not_lt hk
      rw [List.getElem?_append_right hk'] at e1
      rw [List.getElem?_append_right (by rw [← s.len]; exact hk'), ← s.len] at e2
      cases hz : k - m.length with
      | zero =>
        rw [hz] at e1 e2
        simp at e1 e2
        subst e1; subst e2
        exact ⟨kv, upd_same, Paired.mapR r fun _ _ z => ⟨z.1, RelD.turn e _ _ z.2⟩⟩
      | succ j => rw [hz] at e1; simp at e1
  · obtain ⟨xs, q⟩ := s.hid a ha
    exact ⟨xs, by rw [upd_ne (fun z => by rw [z, e] at q; cases q)]; exact q⟩
theorem disp_read {f : Expr → E → Bool} {ks : List (Option Expr)} {vs : List Expr} {es : List E} (hm : mE.mD f ks vs es = true) {σ : L2.St} {H : Hp} {Q : VK} (h : TR X W (lD X) [] [] (fun r st => (denL F es r st).bind fun ds st => match dispOf ds with
    | some kvs => if kvs.length ≤ 15 then .ok (.loc st.length) (st ++ [.dK (putAll [] kvs)]) else .stuck
    | none => .stuck) σ H Q) : tDisp (trsOf X W F es) σ H Q := by
  intro p hp
  obtain ⟨m, n, r, st, h1, h2, h3, h4⟩ := h
  have g0 : Go H m (upd H p (.dK [])) m := Go.free hp
  have hpm : p ∉ m := h1.notin hp
  have tl : TL X W (denL F es) σ (upd H p (.dK [])) fun ws H2 => H2 p = some (.dK []) ∧ ∃ kvs' : List (Key × V), ws = flat (kvs'.map fun kv => (kV kv.1, kv.2)) ∧ kvs'.length ≤ 15 ∧ Q (.ref p) (upd H2 p (.dK (mergeK [] kvs'))) := by
    refine ⟨m, n, r, st, h1.free hp, h2.go g0, .nil, h4.unbind.mono (fun ds st2 hq H2 m2 ws g2 s2 rl => ?_) fun _ _ q => q.go g0⟩
    have e2 : H2 p = some (.dK []) := g2.keep p _ upd_same hpm
    have hpm2 : p ∉ m2 := g2.out (o := .dK []) upd_same hpm
    refine ⟨e2, ?_⟩
    split at hq
    · rename_i kvs ek
      split at hq
      · rename_i hl
        obtain ⟨kvs', q1, q2⟩ := disp_rel ek rl
        refine ⟨kvs', q1, by rw [← q2.length]; exact hl, ?_⟩
        have s3 := s2.turn e2 hpm2 (put_rel q2 .nil)
        refine hq (upd H2 p (.dK (mergeK [] kvs'))) (m2 ++ [p]) _ ⟨?_, fun a o e hm => ?_, fun a ha => ?_⟩ s3 ?_
        · obtain ⟨q, e⟩ := g2.pre
          exact ⟨q ++ [p], by rw [e, List.append_assoc]⟩
        · rw [upd_ne (fun z => by rw [z, hp] at e; cases e)]
          exact g2.keep a o (by rw [upd_ne (fun z => by rw [z, hp] at e; cases e)]; exact e) hm
        · rcases List.mem_append.mp ha with z | z
          · rcases g2.new a z with q | q
            · exact .inl q
            · by_cases hap : a = p
              · rw [hap]; exact .inr hp
              · rw [upd_ne hap] at q; exact .inr q
          · rw [List.mem_singleton.mp z]; exact .inr hp
        · simp only [RelD]
          exact ⟨p, rfl, by rw [← s2.len]; simp⟩
      · exact False.elim hq
    · exact False.elim hq
  have go : ∀ {ts : List (TE × TE)} {σ : L2.St} {H : Hp} {Q Q' : List (V × V) → Hp → Prop} (es : List E), ts = trsOf X W F es → (∀ ps H', Q ps H' → Q' ps H') → tPairs ts σ H Q → tPairs ts σ H Q' := by
    intro ts
    induction ts with
    | nil => intro σ H Q Q' es _ hi h; exact hi _ _ h
    | cons t ts ih =>
      intro σ H Q Q' es e hi h
      match es, e with
      | [], e => cases e
      | [_], e => cases e
      | k :: v :: r, e =>
        simp only [trsOf, List.cons.injEq] at e
        obtain ⟨rfl, e2⟩ := e
        refine TR.mono h fun x H1 q => TR.mono q fun y H2 z => ih r e2 (fun ps H' w => hi _ _ w) z
  refine go es rfl (fun ps H' ⟨q1, kvs', q2, q3, q4⟩ => ⟨q1, kvs', flat_inj q2, q3, q4⟩) (pairs_read es ks vs hm tl)
end
end WT

set_option Elab.async false
set_option linter.all false
set_option maxRecDepth 100000
set_option maxHeartbeats 8000000
/-! WTg: every expression. -/
namespace WT
open PySem PySem.Spec PyProof.Rows L2
section
variable {c : Ctx} {F : Fun} {X : Cx} {W : L2.WX}
/-- both sides of an expression -/
def Both (F : Fun) (X : Cx) (W : L2.WX) (ex : Expr) (e : E) : Prop := PE X ex (TD X W (den F e)) ∧ PT X ex (TB X W (tst F e))
theorem both_of {ex : Expr} {e : E} (h : PE X ex (TD X W (den F e))) (he : ∀ whole, isTrue ex X.env whole = (do let v ← whole; standAt ex.pos; holding [v] (truthy v))) : Both F X W ex e := ⟨h, pt_dflt h he⟩
theorem TR.var {i : Nat} {σ : L2.St} {H : Hp} {Q : VK} (h : TD X W (den F (.var i)) σ H Q) : tVar i σ H Q := by
  obtain ⟨m, n, r, st, h1, h2, h3, h4⟩ := h
  simp only [den] at h4
  split at h4
  · rename_i d e
    obtain ⟨v, e1, e2⟩ := h2.2 i d e
    exact ⟨v, e1, h4 H m v (Go.refl _ _) h1 e2⟩
  · exact False.elim h4
theorem TR.const {d : D} {v : V} {σ : L2.St} {H : Hp} {Q : VK} {f : Env → Store → Res D} (hf : ∀ r st, f r st = .ok d st) (hr : ∀ m n, RelD X.K H m n d v) (h : TD X W f σ H Q) : tC v σ H Q := by
  obtain ⟨m, n, r, st, h1, h2, h3, h4⟩ := h
  rw [hf] at h4
  exact h4 H m v (Go.refl _ _) h1 (hr m n)
theorem den2 {a b : E} {k : D → D → Env → Store → Res D} {σ : L2.St} {H : Hp} {Q : VK} (h : TD X W (fun r st => (den F a r st).bind fun x st => (den F b r st).bind fun y st => k x y r st) σ H Q) :
    TD X W (den F a) σ H fun v H1 => TD X W (den F b) σ H1 fun w H2 => ∃ d d2, TR X W (lD X) [d2, d] [w, v] (k d d2) σ H2 Q := by
  have h' := TR.bindD (k := fun x r st => (den F b r st).bind fun y st => k x y r st) h
  refine h'.mono fun v H1 ⟨d, q⟩ => ?_
  have q' := TR.bindD (k := fun y r st => k d y r st) q
  exact q'.drop.mono fun w H2 ⟨d2, z⟩ => ⟨d, d2, z⟩
theorem tdisp_no {al : Bool} {st : Store} {b : Bool} : truth st (.bl b) = some b := rfl
theorem po_ok {l : Option Expr} {e : E} (h : l = none → e = .non) (hx : ∀ x, l = some x → e ≠ .non ∧ PE X x (TD X W (den F e))) :
    ∃ tl, PO X l tl ∧ (∀ (σ : L2.St) (H : Hp) (Q Q' : Option Int → Hp → Prop), (∀ o H', Q o H' → Q' o H') → tl σ H Q → tl σ H Q') ∧ ∀ {σ : L2.St} {H : Hp} {hs : List D} {xs : List V} {k : D → Env → Store → Res D} {Q : VK}, TR X W (lD X) hs xs (fun r st => (den F e r st).bind fun d st => if partOk e d then k d r st else .stuck) σ H Q →
      tl σ H fun o H1 => ∃ d v, partD d = some o ∧ TR X W (lD X) (d :: hs) (v :: xs) (k d) σ H1 Q := by
  cases l with
  | none =>
    have e0 := h rfl
    subst e0
    refine ⟨tNoPart, po_none, fun σ H Q Q' hi h => hi _ _ h, fun {σ H hs xs k Q} h => ?_⟩
    obtain ⟨m, n, r, st, h1, h2, h3, h4⟩ := h
    simp only [den, Res.bind_ok, partOk, if_true] at h4
    exact ⟨.non, .non, rfl, m, n, r, st, h1, h2, .cons rNon h3, h4⟩
  | some x =>
    obtain ⟨e0, hp⟩ := hx x rfl
    refine ⟨tPart (TD X W (den F e)), po_some hp, fun σ H Q Q' hi h => TR.mono h fun x H1 ⟨i, e1, q⟩ => ⟨i, e1, hi _ _ q⟩, fun {σ H hs xs k Q} h => ?_⟩
    refine (TR.bindD (k := fun d r st => if partOk e d then k d r st else .stuck) h).drop.mono fun v H1 ⟨d, q⟩ => ?_
    obtain ⟨m, n, r, st, h1, h2, h3, h4⟩ := q
    dsimp only at h4
    split at h4
    · rename_i hk
      obtain ⟨v', ws, ev, rd, r3⟩ := h3.uncons
      cases ev
      have hd : ∃ i, d = .int i := by
        cases d with
        | int i => exact ⟨i, rfl⟩
        | _ => cases e <;> first | (cases hk; done) | exact absurd rfl e0
      obtain ⟨i, rfl⟩ := hd
      simp only [RelD] at rd
      exact ⟨i, rd, .int i, v, rfl, m, n, r, st, h1, h2, h3, h4⟩
    · exact False.elim h4
end
end WT

set_option Elab.async false
set_option linter.all false
set_option maxRecDepth 100000
set_option maxHeartbeats 20000000
/-! WTh: the simulation of expressions. -/
namespace WT
open PySem PySem.Spec PyProof.Rows L2
theorem simE (n : Nat) : ∀ (c : Ctx) (F : Fun) (X : Cx) (W : L2.WX), CtxOk c F X W → ∀ (ex : Expr) (e : E), mE n c ex e = true → Both F X W ex e := by
  induction n with
  | zero => intro c F X W C ex e h; cases h
  | succ n ih =>
    intro c F X W C ex e h
    have ihe : ∀ ex e, mE n c ex e = true → PE X ex (TD X W (den F e)) := fun ex e h => (ih c F X W C ex e h).1
    have iht : ∀ ex e, mE n c ex e = true → PT X ex (TB X W (tst F e)) := fun ex e h => (ih c F X W C ex e h).2
    have h0 : ∀ {xs : List Expr} {es : List E}, all2 (mE n c) xs es = true → xs = [] → ∀ r st, denL F es r st = .ok [] st := fun {xs es} h hx r st => by
      subst hx
      cases es with
      | nil => rw [denL_nil]
      | cons _ _ => cases h
    unfold mE at h
    cases e with
    | var i =>
      simp only at h
      split at h
      · rename_i x p
        simp only [Bool.and_eq_true] at h
        obtain ⟨⟨h1, h2⟩, h3⟩ := h
        exact both_of (imp_e (pe_var (C.slot h1) (C.vis h2) (okName1 h3).1 (okName1 h3).2) fun s H Q h => TR.var h) fun _ => rfl
      · cases h
    | int i =>
      simp only at h
      split at h
      · cases of_decide_eq_true h
        exact both_of (imp_e pe_int fun s H Q h => TR.const (d := .int i) (fun r st => by rw [den]) (fun m n => rInt) h) fun _ => rfl
      · cases h
    | bl i =>
      simp only at h
      split at h
      · cases of_decide_eq_true h
        exact both_of (imp_e pe_bl fun s H Q h => TR.const (d := .bl i) (fun r st => by rw [den]) (fun m n => rBl) h) fun _ => rfl
      · cases h
    | non =>
      simp only at h
      split at h
      · exact both_of (imp_e pe_non fun s H Q h => TR.const (d := .non) (fun r st => by rw [den]) (fun m n => rNon) h) fun _ => rfl
      · cases h
    | str i =>
      simp only at h
      split at h
      · cases of_decide_eq_true h
        exact both_of (imp_e pe_str fun s H Q h => TR.const (d := .str i) (fun r st => by rw [den]) (fun m n => rStr) h) fun _ => rfl
      · cases h
    | tup es =>
      simp only at h
      split at h
      · rename_i xs k p
        simp only [Bool.and_eq_true] at h
        refine both_of (imp_e (pe_tup (pa_list ihe xs es h.1 h.2)) fun s H Q h => ?_) fun _ => rfl
        have e : den F (.tup es) = fun r st => (denL F es r st).bind fun ds st => if ds.length ≤ sizeLine then Res.ok (D.tup ds) st else Res.stuck := by funext r st; rw [den]
        rw [e] at h
        refine (TR.bindL (k := fun ds _ st => if ds.length ≤ sizeLine then Res.ok (D.tup ds) st else Res.stuck) h).mono fun vs H1 ⟨ds, q⟩ => ?_
        obtain ⟨m, n, r, st, h1, h2, h3, h4⟩ := q
        simp only [List.append_nil] at h3
        dsimp only at h4
        split at h4
        · rename_i hl
          exact ⟨by rw [← h3.length]; exact hl, newT_ok h1 h3 h4⟩
        · exact False.elim h4
      · cases h
    | lst al es =>
      simp only at h
      split at h
      · rename_i xs p
        simp only [Bool.and_eq_true] at h
        refine both_of (imp_e (pe_lst (pa_list ihe xs es h.1 h.2)) fun s H Q h => ?_) fun _ => rfl
        have e : den F (.lst al es) = fun r st => (denL F es r st).bind fun ds st => newL al ds st := by funext r st; rw [den]
        rw [e] at h
        refine (TR.bindL (k := fun ds _ st => newL al ds st) h).mono fun vs H1 ⟨ds, q⟩ => ?_
        obtain ⟨m, n, r, st, h1, h2, h3, h4⟩ := q
        simp only [List.append_nil] at h3
        exact newL_ok h1 h3 h4
      · cases h
    | dnew tk =>
      simp only at h
      split at h
      · cases tk with
        | true =>
          refine both_of (imp_e pe_dnewT fun s H Q h => ?_) fun _ => rfl
          obtain ⟨m, n, r, st, h1, h2, h3, h4⟩ := h
          simp only [den, if_true] at h4
          intro p hp
          have g : Go H m (upd H p (.dT [])) (m ++ [p]) := Go.newp hp
          exact h4 _ (m ++ [p]) _ g (h1.newp hp ⟨[], upd_same, .nil⟩) (by simp only [RelD]; exact ⟨p, rfl, by rw [← h1.len]; simp⟩)
        | false =>
          refine both_of (imp_e pe_dnewK fun s H Q h => ?_) fun _ => rfl
          obtain ⟨m, n, r, st, h1, h2, h3, h4⟩ := h
          simp only [den, Bool.false_eq_true, if_false] at h4
          intro p hp
          have g : Go H m (upd H p (.dK [])) (m ++ [p]) := Go.newp hp
          exact h4 _ (m ++ [p]) _ g (h1.newp hp ⟨[], upd_same, .nil⟩) (by simp only [RelD]; exact ⟨p, rfl, by rw [← h1.len]; simp⟩)
      · cases h
    | disp es =>
      simp only at h
      split at h
      · rename_i ks vs p
        simp only [Bool.and_eq_true, decide_eq_true_eq, Bool.not_eq_true'] at h
        obtain ⟨⟨h1, h2⟩, h3⟩ := h
        obtain ⟨g1, g2, g3⟩ := pps_ok (F := F) (W := W) (pos := p) ihe es ks vs h1
        refine both_of (imp_e (pe_disp g1 g2 g3 (fun z => by rw [z] at h3; cases h3) h2) fun s H Q h => ?_) fun _ => rfl
        refine disp_read h1 ?_
        have e : den F (.disp es) = fun r st => (denL F es r st).bind fun ds st => match dispOf ds with
          | some kvs => if kvs.length ≤ 15 then .ok (.loc st.length) (st ++ [.dK (putAll [] kvs)]) else .stuck
          | none => .stuck := by funext r st; rw [den] <;> rfl
        rw [e] at h; exact h
      · cases h
    | bin al op a b =>
      simp only at h
      split at h
      · rename_i xa op' xb p
        simp only [Bool.and_eq_true, decide_eq_true_eq] at h
        obtain ⟨⟨rfl, ha⟩, hb⟩ := h
        refine both_of (imp_e (pe_op (op_bin (al := al)) (ihe xa a ha) (ihe xb b hb)) fun s H Q h => ?_) fun _ => rfl
        have e : den F (.bin al op a b) = fun r st => (den F a r st).bind fun x st => (den F b r st).bind fun y st => binD al op x y st := by funext r st; rw [den]
        rw [e] at h
        exact (den2 (k := fun x y _ st => binD al op x y st) h).mono fun v H1 q => q.mono fun w H2 ⟨d, d2, z⟩ => ⟨d, d2, z.vh⟩
      · cases h
    | neg a =>
      simp only at h
      split at h
      · rename_i xa p
        refine both_of (imp_e (pe_un un_neg (ihe xa a h)) fun s H Q h => ?_) fun _ => rfl
        have e : den F (.neg a) = fun r st => (den F a r st).bind fun x st => match x with
          | .int i => .ok (.int (-i)) st
          | _ => .stuck := by funext r st; rw [den] <;> rfl
        rw [e] at h
        refine (TR.bindD (k := fun x _ st => match x with
          | .int i => Res.ok (D.int (-i)) st
          | _ => Res.stuck) h).mono fun v H1 ⟨d, q⟩ => ?_
        obtain ⟨m, n, r, st, h1, h2, h3, h4⟩ := q
        obtain ⟨v', ev, rd⟩ := h3.one
        cases ev
        cases d with
        | int i =>
          simp only [RelD] at rd
          exact ⟨i, rd, here h4 h1 rInt⟩
        | _ => exact False.elim h4
      · cases h
    | cmp op a b =>
      simp only at h
      split at h
      · rename_i xa op' xb p
        simp only [Bool.and_eq_true, decide_eq_true_eq] at h
        obtain ⟨⟨⟨rfl, hp⟩, ha⟩, hb⟩ := h
        have e : den F (.cmp op a b) = fun r st => (den F a r st).bind fun x st => (den F b r st).bind fun y st => optR ((cmpD op x y st).map D.bl) st := by funext r st; rw [den]
        have rd : ∀ {s : L2.St} {H : Hp} {Q : VK}, TD X W (den F (.cmp op a b)) s H Q → tOp (fun x y H Q => ∃ d e, VH X.K [e, d] [y, x] (fun st => optR ((cmpD op d e st).map D.bl) st) H Q) (TD X W (den F a)) (TD X W (den F b)) s H Q := fun {s H Q} h => by
          rw [e] at h
          exact (den2 (k := fun x y _ st => optR ((cmpD op x y st).map D.bl) st) h).mono fun v H1 q => q.mono fun w H2 ⟨d, d2, z⟩ => ⟨d, d2, z.vh⟩
        refine ⟨imp_e (pe_cmpR (op_cmp C.hu) (ihe xa a ha) (ihe xb b hb) (plain_in hp)) fun s H Q h => rd h, imp_t (pt_cmpR (op_cmp C.hu) (ihe xa a ha) (ihe xb b hb) (plain_in hp)) fun s H Q h => ?_⟩
        have h2 : TR X W lB [] [] (fun r st => (den F a r st).bind fun x st => (den F b r st).bind fun y st => optR (cmpD op x y st) st) s H Q := by
          have : tst F (.cmp op a b) = fun r st => (den F a r st).bind fun x st => (den F b r st).bind fun y st => optR (cmpD op x y st) st := by
            funext r st
            unfold tst
            rw [e]
            simp only [Res.bind_assoc]
            congr 1; funext x st; congr 1; funext y st
            cases cmpD op x y st <;> rfl
          rw [← this]; exact h
        have h3 := h2.toBl
        have : (fun r st => ((den F a r st).bind fun x st => (den F b r st).bind fun y st => optR (cmpD op x y st) st).bind fun k st => Res.ok (D.bl k) st) = den F (.cmp op a b) := by
          rw [e]
          funext r st
          simp only [Res.bind_assoc]
          congr 1; funext x st; congr 1; funext y st
          cases cmpD op x y st <;> rfl
        rw [this] at h3
        exact rd h3
      · cases h
    | chain op op2 a b d =>
      simp only at h
      split at h
      · rename_i xa op' op2' xb xd p
        simp only [Bool.and_eq_true, decide_eq_true_eq] at h
        obtain ⟨⟨⟨⟨⟨⟨rfl, rfl⟩, hp⟩, hp2⟩, ha⟩, hb⟩, hd⟩ := h
        have e : den F (.chain op op2 a b d) = fun r st => (den F a r st).bind fun x st => (den F b r st).bind fun y st => (optR (cmpD op x y st) st).bind fun k st =>
          if k then (den F d r st).bind fun z st => optR ((cmpD op2 y z st).map D.bl) st else .ok (.bl false) st := by funext r st; rw [den]
        have hm : lastMarks [op, op2] [xb, xd] = false := plain_in hp2
        have rd : ∀ {s : L2.St} {H : Hp} {Q : VK}, TD X W (den F (.chain op op2 a b d)) s H Q → tChain (fun x y H Q => ∃ d e, VH X.K [e, d] [y, x] (fun st => optR ((cmpD op d e st).map D.bl) st) H Q) (fun x y H Q => ∃ d e, VH X.K [e, d] [y, x] (fun st => optR ((cmpD op2 d e st).map D.bl) st) H Q) (TD X W (den F a)) (TD X W (den F b)) (TD X W (den F d)) s H Q := fun {s H Q} h => by
          rw [e] at h
          refine (den2 (k := fun x y r st => (optR (cmpD op x y st) st).bind fun k st =>
            if k then (den F d r st).bind fun z st => optR ((cmpD op2 y z st).map D.bl) st else Res.ok (D.bl false) st) h).mono fun v H1 q => q.mono fun w H2 ⟨d1, d2, z⟩ => ?_
          obtain ⟨m, n, r, st, h1, h2, h3, h4⟩ := z
          obtain ⟨k, ek, h4⟩ := optR_post h4.unbind
          refine ⟨d1, d2, m, n, st, ErD X.mg X.K n H2 m s W, h1, h3, ?_⟩
          dsimp only
          rw [ek]
          show (Res.ok (D.bl k) st).Post _ (ErD X.mg X.K n H2 m s W)
          intro H3 m3 v3 g s3 rv
          have rv' : RelD X.K H3 m3 n (.bl k) v3 := rv
          simp only [RelD] at rv'
          refine ⟨k, rv', ?_⟩
          cases k with
          | false =>
            simp only [Bool.false_eq_true, if_false] at h4 ⊢
            exact h4 H3 m3 _ g s3 rBl
          | true =>
            simp only [if_true] at h4 ⊢
            have r3 := RelL.go g _ _ h3
            refine ⟨m3, n, r, st, s3, h2.go g, .nil, h4.unbind.mono (fun z st4 hq H4 m4 u g4 s4 rz => ?_) fun _ _ q => q.go g⟩
            have r4 := RelL.go g4 _ _ r3
            obtain ⟨w', v', ew, rw2, _⟩ := r4.two
            cases ew
            exact ⟨d2, z, m4, n, st4, _, s4, .cons rz (.cons rw2 .nil), Res.Post.mono hq (fun _ _ q => (q.go g).go g4) fun _ _ q => q⟩
        refine ⟨imp_e (pe_chain (op_cmp C.hu) (op_cmp C.hu) (ihe xa a ha) (ihe xb b hb) (ihe xd d hd) hm) fun s H Q h => rd h, imp_t (pt_chain (op_cmp C.hu) (op_cmp C.hu) (ihe xa a ha) (ihe xb b hb) (ihe xd d hd) hm) fun s H Q h => ?_⟩
        have h2 : TR X W lB [] [] (fun r st => (den F a r st).bind fun x st => (den F b r st).bind fun y st => (optR (cmpD op x y st) st).bind fun k st => if k then (den F d r st).bind fun z st => optR (cmpD op2 y z st) st else .ok false st) s H Q := by
          have : tst F (.chain op op2 a b d) = fun r st => (den F a r st).bind fun x st => (den F b r st).bind fun y st => (optR (cmpD op x y st) st).bind fun k st => if k then (den F d r st).bind fun z st => optR (cmpD op2 y z st) st else .ok false st := by
            funext r st
            unfold tst
            rw [e]
            simp only [Res.bind_assoc]
            congr 1; funext x st; congr 1; funext y st; congr 1; funext k st
            cases k with
            | false => rfl
            | true =>
              simp only [if_true, Res.bind_assoc]
              congr 1; funext z st
              cases cmpD op2 y z st <;> rfl
          rw [← this]; exact h
        have h3 := h2.toBl
        have : (fun r st => ((den F a r st).bind fun x st => (den F b r st).bind fun y st => (optR (cmpD op x y st) st).bind fun k st => if k then (den F d r st).bind fun z st => optR (cmpD op2 y z st) st else .ok false st).bind fun k st => Res.ok (D.bl k) st) = den F (.chain op op2 a b d) := by
          rw [e]
          funext r st
          simp only [Res.bind_assoc]
          congr 1; funext x st; congr 1; funext y st; congr 1; funext k st
          cases k with
          | false => rfl
          | true =>
            simp only [if_true, Res.bind_assoc]
            congr 1; funext z st
            cases cmpD op2 y z st <;> rfl
        rw [this] at h3
        exact rd h3
      · cases h
    | and a b =>
      simp only at h
      split at h
      · rename_i xa xb rest p
        simp only [Bool.and_eq_true] at h
        have hb : Both F X W (.BoolOp .And (xb :: rest) p) b := by
          cases rest with
          | nil => exact ⟨pe_one (ihe xb b h.2), pt_pw (pw_and1 (iht xb b h.2))⟩
          | cons y ys => exact ih c F X W C _ b h.2
        have e : den F (.and a b) = fun r st => (den F a r st).bind fun x st => (optR (truth st x) st).bind fun k st => if k then den F b r st else .ok x st := by funext r st; rw [den]
        refine ⟨imp_e (pe_andT (ihe xa a h.1) hb.1) fun s H Q h => ?_, pt_pw (imp_w (pw_and (iht xa a h.1) (pw_bo hb.2)) fun s H Q h => ?_)⟩
        · rw [e] at h
          refine (TR.bindD (k := fun x r st => (optR (truth st x) st).bind fun k st => if k then den F b r st else .ok x st) h).mono fun v H1 ⟨d, q⟩ => ?_
          obtain ⟨k, h1, h2⟩ := TR.truth (k := fun k r st => if k then den F b r st else .ok d st) q
          refine ⟨k, h1, ?_⟩
          cases k with
          | true => simp only [if_true] at h2 ⊢; exact h2.drop
          | false =>
            simp only [Bool.false_eq_true, if_false] at h2 ⊢
            exact TR.ok (f := fun _ st => Res.ok d st) h2 fun m n r => by
              obtain ⟨v', ev, rd⟩ := r.one
              cases ev; exact rd
        · have : tst F (.and a b) = fun r st => (tst F a r st).bind fun k st => if k then tst F b r st else .ok false st := by
            funext r st
            unfold tst
            rw [e]
            simp only [Res.bind_assoc]
            congr 1; funext x st
            cases ht : truth st x with
            | none => rfl
            | some k =>
              cases k with
              | true => rfl
              | false => show optR (truth st x) st = _; rw [ht]; rfl
          rw [show TB X W (tst F (.and a b)) = TB X W (fun r st => (tst F a r st).bind fun k st => if k then tst F b r st else .ok false st) by rw [this]] at h
          refine (TR.bindB (k := fun k r st => if k then tst F b r st else .ok false st) h).mono fun k H1 q => ?_
          cases k with
          | true => exact q
          | false =>
            obtain ⟨m, n, r, st, h1, h2, h3, h4⟩ := q
            exact h4 H1 m false (Go.refl _ _) h1 rfl
      · cases h
    | or a b =>
      simp only at h
      split at h
      · rename_i xa xb rest p
        simp only [Bool.and_eq_true] at h
        have hb : Both F X W (.BoolOp .Or (xb :: rest) p) b := by
          cases rest with
          | nil => exact ⟨pe_one (ihe xb b h.2), pt_pw (pw_or1 (iht xb b h.2))⟩
          | cons y ys => exact ih c F X W C _ b h.2
        have e : den F (.or a b) = fun r st => (den F a r st).bind fun x st => (optR (truth st x) st).bind fun k st => if k then .ok x st else den F b r st := by funext r st; rw [den]
        refine ⟨imp_e (pe_orT (ihe xa a h.1) hb.1) fun s H Q h => ?_, pt_pw (imp_w (pw_or (iht xa a h.1) (pw_bo hb.2)) fun s H Q h => ?_)⟩
        · rw [e] at h
          refine (TR.bindD (k := fun x r st => (optR (truth st x) st).bind fun k st => if k then .ok x st else den F b r st) h).mono fun v H1 ⟨d, q⟩ => ?_
          obtain ⟨k, h1, h2⟩ := TR.truth (k := fun k r st => if k then .ok d st else den F b r st) q
          refine ⟨k, h1, ?_⟩
          cases k with
          | false => simp only [Bool.false_eq_true, if_false] at h2 ⊢; exact h2.drop
          | true =>
            simp only [if_true] at h2 ⊢
            exact TR.ok (f := fun _ st => Res.ok d st) h2 fun m n r => by
              obtain ⟨v', ev, rd⟩ := r.one
              cases ev; exact rd
        · have : tst F (.or a b) = fun r st => (tst F a r st).bind fun k st => if k then .ok true st else tst F b r st := by
            funext r st
            unfold tst
            rw [e]
            simp only [Res.bind_assoc]
            congr 1; funext x st
            cases ht : truth st x with
            | none => rfl
            | some k =>
              cases k with
              | false => rfl
              | true => show optR (truth st x) st = _; rw [ht]; rfl
          rw [show TB X W (tst F (.or a b)) = TB X W (fun r st => (tst F a r st).bind fun k st => if k then .ok true st else tst F b r st) by rw [this]] at h
          refine (TR.bindB (k := fun k r st => if k then .ok true st else tst F b r st) h).mono fun k H1 q => ?_
          cases k with
          | false => exact q
          | true =>
            obtain ⟨m, n, r, st, h1, h2, h3, h4⟩ := q
            exact h4 H1 m true (Go.refl _ _) h1 rfl
      · cases h
    | not a =>
      simp only at h
      split at h
      · rename_i xa p
        have e : den F (.not a) = fun r st => (den F a r st).bind fun x st => optR ((truth st x).map fun k => D.bl (!k)) st := by funext r st; rw [den]
        refine ⟨imp_e (pe_notT (ihe xa a h)) fun s H Q h => ?_, imp_t (pt_not (iht xa a h)) fun s H Q h => ?_⟩
        · rw [e] at h
          refine (TR.bindD (k := fun x _ st => optR ((truth st x).map fun k => D.bl (!k)) st) h).mono fun v H1 ⟨d, q⟩ => ?_
          have : (fun (r : Env) st => optR ((truth st d).map fun k => D.bl (!k)) st) = fun r st => (optR (truth st d) st).bind fun k st => .ok (.bl (!k)) st := by
            funext r st
            cases truth st d <;> rfl
          rw [this] at q
          obtain ⟨k, h1, h2⟩ := TR.truth (k := fun k _ st => Res.ok (D.bl (!k)) st) q
          exact ⟨k, h1, TR.ok (f := fun _ st => Res.ok (D.bl (!k)) st) h2 fun m n r => rBl⟩
        · have : tst F (.not a) = fun r st => (tst F a r st).bind fun k st => .ok (!k) st := by
            funext r st
            unfold tst
            rw [e]
            simp only [Res.bind_assoc]
            congr 1; funext x st
            cases truth st x <;> rfl
          rw [show TB X W (tst F (.not a)) = TB X W (fun r st => (tst F a r st).bind fun k st => .ok (!k) st) by rw [this]] at h
          refine (TR.bindB (k := fun k _ st => .ok (!k) st) h).mono fun k H1 q => ?_
          obtain ⟨m, n, r, st, h1, h2, h3, h4⟩ := q
          exact h4 H1 m _ (Go.refl _ _) h1 rfl
      · cases h
    | ite d a b =>
      simp only at h
      split at h
      · rename_i xd xa xb p
        simp only [Bool.and_eq_true] at h
        obtain ⟨⟨hd, ha⟩, hb⟩ := h
        have e : den F (.ite d a b) = fun r st => (tst F d r st).bind fun k st => if k then den F a r st else den F b r st := by
          funext r st; rw [den]; unfold tst; simp only [Res.bind_assoc]
        have e2 : tst F (.ite d a b) = fun r st => (tst F d r st).bind fun k st => if k then tst F a r st else tst F b r st := by
          funext r st
          conv => lhs; unfold tst
          rw [e]
          simp only [Res.bind_assoc]
          congr 1; funext k st
          cases k <;> rfl
        refine ⟨imp_e (pe_ifExp (iht xd d hd) (ihe xa a ha) (ihe xb b hb)) fun s H Q h => ?_, imp_t (pt_ite (iht xd d hd) (iht xa a ha) (iht xb b hb)) fun s H Q h => ?_⟩
        · rw [e] at h
          refine (TR.bindB (k := fun k r st => if k then den F a r st else den F b r st) h).mono fun k H1 q => ?_
          cases k <;> exact q
        · rw [show TB X W (tst F (.ite d a b)) = TB X W (fun r st => (tst F d r st).bind fun k st => if k then tst F a r st else tst F b r st) by rw [e2]] at h
          refine (TR.bindB (k := fun k r st => if k then tst F a r st else tst F b r st) h).mono fun k H1 q => ?_
          cases k <;> exact q
      · cases h
    | ix a b =>
      simp only at h
      split at h
      · rename_i xa xb p
        simp only [Bool.and_eq_true] at h
        obtain ⟨⟨hp, ha⟩, hb⟩ := h
        refine both_of (imp_e (pe_ix (ix_ok C.hu1) (ihe xa a ha) (ihe xb b hb) (plain_ix hp)) fun s H Q h => ?_) fun _ => rfl
        have e : den F (.ix a b) = fun r st => (den F a r st).bind fun x st => (den F b r st).bind fun y st => ixD x y st := by funext r st; rw [den]
        rw [e] at h
        exact (den2 (k := fun x y _ st => ixD x y st) h).mono fun v H1 q => q.mono fun w H2 ⟨d, d2, z⟩ => ⟨d, d2, z.vh⟩
      · cases h
    | sl al a lo hi =>
      simp only at h
      split at h
      · rename_i xa l hh p p2
        simp only [Bool.and_eq_true] at h
        obtain ⟨⟨ha, hl⟩, hu⟩ := h
        obtain ⟨tl, pl, ml, rl⟩ := po_ok (W := W) (F := F) (l := l) (e := lo) (fun z => by
          subst z
          simp only at hl
          split at hl
          · rfl
          · cases hl) (fun x z => by
          subst z
          simp only [Bool.and_eq_true, Bool.not_eq_true'] at hl
          exact ⟨fun q => by rw [q] at hl; exact Bool.noConfusion (show isNonE .non = false from hl.1), ihe x lo hl.2⟩)
        obtain ⟨th, ph, mh, rh⟩ := po_ok (W := W) (F := F) (l := hh) (e := hi) (fun z => by
          subst z
          simp only at hu
          split at hu
          · rfl
          · cases hu) (fun x z => by
          subst z
          simp only [Bool.and_eq_true, Bool.not_eq_true'] at hu
          exact ⟨fun q => by rw [q] at hu; exact Bool.noConfusion (show isNonE .non = false from hu.1), ihe x hi hu.2⟩)
        refine both_of (imp_e (pe_slice (sl_ok (al := al)) (ihe xa a ha) pl ph) fun s H Q h => ?_) fun _ => rfl
        have e : den F (.sl al a lo hi) = fun r st => (den F a r st).bind fun x st => (den F lo r st).bind fun l st => if partOk lo l then (den F hi r st).bind fun h st => if partOk hi h then slD al x l h st else .stuck else .stuck := by funext r st; rw [den]
        rw [e] at h
        refine (TR.bindD (k := fun x r st => (den F lo r st).bind fun l st => if partOk lo l then (den F hi r st).bind fun h st => if partOk hi h then slD al x l h st else .stuck else .stuck) h).mono fun v H1 ⟨d, q⟩ => ?_
        refine ml _ _ _ _ (fun o H2 z => ?_) (rl (k := fun l r st => (den F hi r st).bind fun h st => if partOk hi h then slD al d l h st else .stuck) q)
        obtain ⟨dl, vl, e1, z⟩ := z
        refine mh _ _ _ _ (fun u H3 y => ?_) (rh (k := fun h _ st => slD al d dl h st) z)
        obtain ⟨dh, vh, e2, y⟩ := y
        obtain ⟨m, n, r, st, h1, h2, h3, h4⟩ := y
        obtain ⟨_, ws, ew, _, h5⟩ := h3.uncons
        cases ew
        obtain ⟨_, ws2, ew, _, h6⟩ := h5.uncons
        cases ew
        exact ⟨d, dl, dh, ⟨m, n, st, _, h1, h6, h4⟩, e1, e2⟩
      · cases h
    | rev al a =>
      simp only at h
      split at h
      · rename_i xa k p1 p2 p3 pos
        refine both_of (imp_e (pe_revL (ihe xa a h)) fun s H Q h => ?_) fun _ => rfl
        have e : den F (.rev al a) = fun r st => (den F a r st).bind fun x st => revD al x st := by funext r st; rw [den]
        rw [e] at h
        refine (TR.bindD (k := fun x _ st => revD al x st) h).mono fun v H1 ⟨d, q⟩ => ?_
        obtain ⟨m, n, r, st, h1, h2, h3, h4⟩ := q
        obtain ⟨v', ev, rd⟩ := h3.one
        cases ev
        unfold revD at h4
        dsimp only at h4
        split at h4
        · rename_i ys ev
          obtain ⟨a', vs, e1, e2, e3⟩ := view_lst h1 rd ev
          exact ⟨a', vs, e1, SqL.of e2, (newL_ok h1 e3.rev h4).2⟩
        · exact False.elim h4
      · cases h
    | call f es =>
      simp only at h
      split at h
      · rename_i x p xs pos
        simp only [Bool.and_eq_true, decide_eq_true_eq] at h
        obtain ⟨⟨⟨⟨⟨rfl, h1⟩, h2⟩, h3⟩, h4⟩, h5⟩ := h
        refine both_of (imp_e (call_ok C h1 h2 h3 h4 (pa_list ihe xs es h4 h5) (h0 h5)) fun s H Q h => ?_) fun _ => rfl
        have e : den F (.call x es) = fun r st => (denL F es r st).bind fun ds st => F x ds st := by funext r st; rw [den]
        rw [← e]; exact h
      · cases h
    | bi al b es =>
      have e : den F (.bi al b es) = fun r st => (denL F es r st).bind fun ds st => biD al b ds st := by funext r st; rw [den]
      simp only at h
      split at h
      · rename_i x p y pos
        simp only [Bool.and_eq_true, decide_eq_true_eq] at h
        obtain ⟨⟨rfl, hg⟩, h⟩ := h
        have one : plainE y = true ∧ all2 (mE n c) [y] es = true → PA X [y] (TL X W (denL F es)) ∧ plainE y = true := fun z => ⟨pa_list ihe [y] es (by simp [z.1]) z.2, z.1⟩
        cases b with
        | dict => cases h
        | listR =>
          simp only at h
          split at h
          · rename_i z p2 xs pos2
            simp only [Bool.and_eq_true, decide_eq_true_eq] at h
            obtain ⟨⟨⟨⟨⟨rfl, hg2⟩, hp⟩, h2⟩, hl1⟩, hl2⟩ := h
            rcases xs with _ | ⟨x1, _ | ⟨x2, _ | ⟨x3, tl⟩⟩⟩
            · simp at hl1
            · rcases es with _ | ⟨e1, _ | ⟨e2, tl⟩⟩
              · cases h2
              · simp only [all2, Bool.and_true] at h2
                refine both_of ?_ fun _ => rfl
                rw [e, denL_one]
                exact rg1_ok (.inl ⟨rfl, rfl⟩) C hg hg2 (by simpa using hp) (ihe x1 e1 h2)
              · simp [all2] at h2
            · rcases es with _ | ⟨e1, _ | ⟨e2, _ | ⟨e3, tl⟩⟩⟩
              · cases h2
              · simp [all2] at h2
              · simp only [all2, Bool.and_true, Bool.and_eq_true] at h2
                simp only [List.all_cons, List.all_nil, Bool.and_true, Bool.and_eq_true] at hp
                refine both_of ?_ fun _ => rfl
                rw [e, denL_two]
                exact rg2_ok (.inl ⟨rfl, rfl⟩) C hg hg2 hp.1 hp.2 (ihe x1 e1 h2.1) (ihe x2 e2 h2.2)
              · simp [all2] at h2
            · simp at hl2
          · cases h
        | tupleR =>
          simp only at h
          split at h
          · rename_i z p2 xs pos2
            simp only [Bool.and_eq_true, decide_eq_true_eq] at h
            obtain ⟨⟨⟨⟨⟨rfl, hg2⟩, hp⟩, h2⟩, hl1⟩, hl2⟩ := h
            rcases xs with _ | ⟨x1, _ | ⟨x2, _ | ⟨x3, tl⟩⟩⟩
            · simp at hl1
            · rcases es with _ | ⟨e1, _ | ⟨e2, tl⟩⟩
              · cases h2
              · simp only [all2, Bool.and_true] at h2
                refine both_of ?_ fun _ => rfl
                rw [e, denL_one]
                exact rg1_ok (.inr ⟨rfl, rfl⟩) C hg hg2 (by simpa using hp) (ihe x1 e1 h2)
              · simp [all2] at h2
            · rcases es with _ | ⟨e1, _ | ⟨e2, _ | ⟨e3, tl⟩⟩⟩
              · cases h2
              · simp [all2] at h2
              · simp only [all2, Bool.and_true, Bool.and_eq_true] at h2
                simp only [List.all_cons, List.all_nil, Bool.and_true, Bool.and_eq_true] at hp
                refine both_of ?_ fun _ => rfl
                rw [e, denL_two]
                exact rg2_ok (.inr ⟨rfl, rfl⟩) C hg hg2 hp.1 hp.2 (ihe x1 e1 h2.1) (ihe x2 e2 h2.2)
              · simp [all2] at h2
            · simp at hl2
          · cases h
        | len => simp only [Bool.and_eq_true] at h; refine both_of ?_ fun _ => rfl; rw [e]; exact bi_fn C (len_ok (al := al)) hg (by decide +kernel) b_len (one h).2 rfl (one h).1 (by decide +kernel) (by decide +kernel)
        | abs => simp only [Bool.and_eq_true] at h; refine both_of ?_ fun _ => rfl; rw [e]; exact bi_fn C (abs_ok (al := al)) hg (by decide +kernel) b_abs (one h).2 rfl (one h).1 (by decide +kernel) (by decide +kernel)
        | repr => simp only [Bool.and_eq_true] at h; refine both_of ?_ fun _ => rfl; rw [e]; exact bi_fn C (repr_ok (al := al) C.gd C.hu) hg (by decide +kernel) b_repr (one h).2 rfl (one h).1 (by decide +kernel) (by decide +kernel)
        | sorted => simp only [Bool.and_eq_true] at h; refine both_of ?_ fun _ => rfl; rw [e]; exact bi_fn C (sorted_ok (al := al) C.hu) hg (by decide +kernel) b_sorted (one h).2 rfl (one h).1 (by decide +kernel) (by decide +kernel)
        | sum => simp only [Bool.and_eq_true] at h; refine both_of ?_ fun _ => rfl; rw [e]; exact bi_fn C (sum_ok (al := al) C.calm) hg (by decide +kernel) b_sum (one h).2 rfl (one h).1 (by decide +kernel) (by decide +kernel)
        | max => simp only [Bool.and_eq_true] at h; refine both_of ?_ fun _ => rfl; rw [e]; exact bi_fn C (max_ok (al := al) C.calm) hg (by decide +kernel) b_max (one h).2 rfl (one h).1 (by decide +kernel) (by decide +kernel)
        | min => simp only [Bool.and_eq_true] at h; refine both_of ?_ fun _ => rfl; rw [e]; exact bi_fn C (min_ok (al := al) C.calm) hg (by decide +kernel) b_min (one h).2 rfl (one h).1 (by decide +kernel) (by decide +kernel)
        | all => simp only [Bool.and_eq_true] at h; refine both_of ?_ fun _ => rfl; rw [e]; exact bi_fn C (all_ok (al := al) C.calm) hg (by decide +kernel) b_all (one h).2 rfl (one h).1 (by decide +kernel) (by decide +kernel)
        | any => simp only [Bool.and_eq_true] at h; refine both_of ?_ fun _ => rfl; rw [e]; exact bi_fn C (any_ok (al := al) C.calm) hg (by decide +kernel) b_any (one h).2 rfl (one h).1 (by decide +kernel) (by decide +kernel)
        | int => simp only [Bool.and_eq_true] at h; refine both_of ?_ fun _ => rfl; rw [e]; exact bi_ty C (int_ok (al := al)) hg (by decide +kernel) b_int (one h).2 rfl (one h).1 (by decide +kernel) (by decide +kernel)
        | str => simp only [Bool.and_eq_true] at h; refine both_of ?_ fun _ => rfl; rw [e]; exact bi_ty C (str_ok (al := al)) hg (by decide +kernel) b_str (one h).2 rfl (one h).1 (by decide +kernel) (by decide +kernel)
        | tuple => simp only [Bool.and_eq_true] at h; refine both_of ?_ fun _ => rfl; rw [e]; exact bi_ty C (tuple_ok (al := al)) hg (by decide +kernel) b_tuple (one h).2 rfl (one h).1 (by decide +kernel) (by decide +kernel)
        | list => simp only [Bool.and_eq_true] at h; refine both_of ?_ fun _ => rfl; rw [e]; exact bi_ty C (list_ok (al := al) C.calm) hg (by decide +kernel) b_list (one h).2 rfl (one h).1 (by decide +kernel) (by decide +kernel)
      · rename_i x p y z pos
        simp only [Bool.and_eq_true, decide_eq_true_eq] at h
        obtain ⟨⟨rfl, hg⟩, h⟩ := h
        cases b with
        | max =>
          simp only [Bool.and_eq_true] at h
          refine both_of ?_ fun _ => rfl
          rw [e]
          exact bi_fn C (max_ok (al := al) C.calm) hg (by decide +kernel) b_max h.1.1 (by simp [h.1.2]) (pa_list ihe [y, z] es (by simp [h.1.1, h.1.2]) h.2) (by decide +kernel) (by decide +kernel)
        | min =>
          simp only [Bool.and_eq_true] at h
          refine both_of ?_ fun _ => rfl
          rw [e]
          exact bi_fn C (min_ok (al := al) C.calm) hg (by decide +kernel) b_min h.1.1 (by simp [h.1.2]) (pa_list ihe [y, z] es (by simp [h.1.1, h.1.2]) h.2) (by decide +kernel) (by decide +kernel)
        | _ => cases h
      · cases h
    | mt m o es =>
      simp only at h
      split at h
      · rename_i xo name apos xs cpos
        simp only [Bool.and_eq_true, decide_eq_true_eq] at h
        obtain ⟨⟨⟨⟨⟨⟨⟨rfl, h1⟩, h2⟩, h3⟩, h4⟩, h5⟩, h6⟩, h7⟩ := h
        refine both_of (imp_e (mt_ok C h1 h2 h3 h4 h5 (ihe xo o h6) (pa_list ihe xs es h4 h7) (h0 h7)) fun s H Q h => ?_) fun _ => rfl
        have e : den F (.mt m o es) = fun r st => (den F o r st).bind fun x st => if mtOk m x st then (denL F es r st).bind fun ds st => mtD m x ds st else .stuck := by funext r st; rw [den]
        rw [← e]; exact h
      · cases h
    | comp al elt tg k es ifs own =>
      simp only at h
      split at h
      · rename_i xe xt xi xifs scope pos
        simp only [Bool.and_eq_true, decide_eq_true_eq, List.all_eq_true] at h
        obtain ⟨⟨⟨⟨⟨⟨⟨hb, hp⟩, hi⟩, ht⟩, hf⟩, hl⟩, he⟩, ho⟩ := h
        have eo : (ownOf c.N own).map (·.2) = own := by unfold ownOf; rw [List.map_map]; exact List.map_id own
        have bk : BlkOk X.N X.env.scope scope (ownOf c.N own) := by
          rw [C.eN, C.esc]; exact blkOk_by hb
        have pts : ∀ (s : Shared) (H : Hp) (C' : Addr) (cl : List (Str × Addr)) (fp : List Addr), PTs (X.blk s H scope (compEnvC scope cl C' X.env) fp) xifs (TB X W0 (denIf F ifs)) := fun s H C' cl fp => by
          have C2 := C.blk s H scope C' cl fp
          rcases xifs with _ | ⟨x1, _ | ⟨x2, tl⟩⟩
          · cases ifs with
            | nil =>
              refine ⟨fun pins s σ H Q I hw => pts_nil.run pins s σ H Q I ?_⟩
              obtain ⟨m, n, r, st, h1, h2, h3, h4⟩ := hw
              simp only [denIf] at h4
              exact h4 H m true (Go.refl _ _) h1 rfl
            | cons _ _ => cases hf
          · rcases ifs with _ | ⟨e1, _ | ⟨e2, tl⟩⟩
            · cases hf
            · simp only [all2, Bool.and_true] at hf
              have q := (ih _ F _ W0 C2 x1 e1 hf).2
              have eq : denIf F [e1] = tst F e1 := by
                funext r st
                simp only [denIf, tst]
                congr 1; funext x st
                cases truth st x with
                | none => rfl
                | some k => cases k <;> rfl
              rw [eq]
              exact pts_one q
            · simp [all2] at hf
          · simp at hl
        have pl := pe_lc (elt := xe) (pos := pos) (te := TD X W0 (den F elt)) (tt := TB X W0 (denIf F ifs)) (g := gD X.K tg) C.calm C.nd (mI_ok C ihe hi) bk (fun s H C' cl fp => mT_ok (C.blk s H scope C' cl fp) n xt tg ht) pts (fun s H C' cl fp => (ih _ F _ W0 (C.blk s H scope C' cl fp) xe elt he).1) (plain_set hp)
        rw [eo] at pl
        refine both_of (imp_e pl fun s H Q h => ?_) fun _ => rfl
        refine lc_read (al := al) ho ?_
        have e : den F (.comp al elt tg k es ifs own) = fun r st => (denL F es r st).bind fun ds st => (optR (srcOf k ds st) st).bind fun src st => (optR (srcItems st src) st).bind fun all st =>
          (goComp (den F elt) (denIf F ifs) tg (wipeE r own) src all all st).safe.bind fun xs st => newL al xs st := by funext r st; rw [den]
        rw [← e]; exact h
      · cases h
    | isi e t =>
      simp only at h
      split at h
      · rename_i x p y z p2 pos
        simp only [Bool.and_eq_true, decide_eq_true_eq] at h
        obtain ⟨⟨⟨⟨⟨h1, h2⟩, h3⟩, h4⟩, h5⟩, h6⟩ := h
        exact both_of (pe_isi C h1 h2 h3 h4 h5 (ihe y e h6)) fun _ => rfl
      · cases h
    | bad =>
      refine ⟨⟨fun pins s σ H Q I hw => ?_⟩, ⟨fun pins s σ H Q I hw => ?_⟩⟩
      · obtain ⟨_, _, _, _, _, _, _, h4⟩ := hw
        simp only [den] at h4
        exact False.elim h4
      · obtain ⟨_, _, _, _, _, _, _, h4⟩ := hw
        simp only [tst, den, Res.bind_stuck] at h4
        exact False.elim h4
end WT

set_option Elab.async false
set_option linter.all false
set_option maxRecDepth 100000
set_option maxHeartbeats 20000000
/-! WTi: the simulation of statements. -/
namespace WT
open PySem PySem.Spec PyProof.Rows L2
def compScope : Expr → Option Scope
  | .ListComp _ _ s _ => some s | .SetComp _ _ s _ => some s | .DictComp _ _ _ s _ => some s | _ => none
def swB (sc : Scope) (value target : Expr) : Bool := match compScope value, target with
  | some s, .Name t pos => (sc.names.lookup t == some .local) && pos.line == value.pos.line && !(s.names.any fun (n, k) => n == t && (k == .local || k == .cell))
  | _, _ => false
def isStar : Expr → Bool
  | .Starred .. => true | _ => false
def swS (sc : Scope) (tg value : Expr) : Option (Option (List Str)) := match tg, value with
  | .Tuple ts _ _, .Tuple vs _ _ =>
    if (!(ts.length == 2 || ts.length == 3) || vs.length != ts.length) = true then some none
    else if vs.any isStar then some none
    else
      let names := ts.filterMap fun
        | .Name id pos => if sc.names.lookup id == some .local && pos.line == (ts.head?.map (·.pos.line)).getD 0 then some id else none
        | _ => none
      if names.length != ts.length || names.eraseDups.length != names.length then some none
      else if vs.all (foldedForSure 8) then some none
      else if vs.all (constantsAlone 8) then none
      else some (some names)
  | .List _ _, .Tuple _ _ _ => none
  | _, _ => some none
theorem swS_ok {sc : Scope} {tg value : Expr} {env : PySem.Env} {o : Option (List Str)} (hs : env.scope = sc) (hk : sc.kind = .function) (h : swS sc tg value = some o) : swappedStores [tg] value env = pure o := by
  have hb : env.blockKind = .function := by unfold Env.blockKind; rw [hs, hk]; rfl
  have hkd : ∀ x, env.kindOf x = sc.names.lookup x := fun x => by rw [← hs]; rfl
  unfold swS at h
  split at h
  · rename_i ts k p vs k2 p2
    unfold swappedStores
    simp only [hb, hkd]
    split at h
    · rename_i h1
      cases h
      simp only [Bool.or_eq_true] at h1
      have : (!(ts.length == 2 || ts.length == 3) || vs.length != ts.length || ScopeKind.function != ScopeKind.function) = true := by
        simp only [Bool.or_eq_true]; exact .inl h1
      rw [if_pos this]
    · rename_i h1
      have : ¬ (!(ts.length == 2 || ts.length == 3) || vs.length != ts.length || ScopeKind.function != ScopeKind.function) = true := by
        simpa using h1
      rw [if_neg this]
      split at h
      · rename_i h2
        cases h
        exact if_pos h2
      · rename_i h2
        refine (if_neg h2).trans ?_
        dsimp only at h
        split at h
        · rename_i h3
          cases h
          exact if_pos h3
        · rename_i h3
          refine (if_neg h3).trans ?_
          split at h
          · rename_i h4; cases h; exact if_pos h4
          · rename_i h4
            refine (if_neg h4).trans ?_
            split at h
            · cases h
            · rename_i h5; cases h; exact if_neg h5
  · cases h
  · cases h
    rename_i h1 h2
    unfold swappedStores
    cases tg <;> first | rfl | skip
    · rename_i es p
      cases value <;> first | rfl | exact absurd rfl (h2 es p _ _ _ rfl)
    · rename_i es k p
      cases value <;> first | rfl | exact absurd rfl (h1 es k p _ _ _ rfl)
theorem swB_ok {sc : Scope} {value tg : Expr} {l : Nat} {env : PySem.Env} (hs : env.scope = sc) (hk : sc.kind = .function) : swapsWith value (some tg) l env = pure (swB sc value tg) := by
  have hb : env.blockKind = .function := by unfold Env.blockKind; rw [hs, hk]; rfl
  have hkd : ∀ x, env.kindOf x = sc.names.lookup x := fun x => by rw [← hs]; rfl
  unfold swapsWith swB
  simp only [hb, hkd]
  cases value <;> first | rfl | skip
  all_goals (cases tg <;> first | rfl | skip)
end WT

set_option Elab.async false
set_option linter.all false
set_option maxRecDepth 100000
set_option maxHeartbeats 20000000
/-! WTj: the simulation of statements. -/
namespace WT
open PySem PySem.Spec PyProof.Rows L2
def isCompE : Expr → Bool
  | .ListComp _ _ _ _ => true | _ => false
def Ctx.loc (c : Ctx) (x : Str) : Bool := decide (c.sc.names.lookup x = some .local)
def mS : Nat → Ctx → Stmt → S → Bool
  | 0, _, _, _ => false
  | n + 1, c, ex, s => match s with
    | .asg tg e => (match ex with
      | .Assign [xt] xe _ => plainE xt && (match swS c.sc xt xe with
        | none => false
        | some none => if swB c.sc xe xt then (match tg, xt with
            | .nm i, .Name x _ => c.slot i x && c.loc x && isCompE xe && mE n c xe e
            | _, _ => false) else mT n c xt tg && mE n c xe e
        | some (some names) => (match tg, e, xt, xe with
          | .tp [.nm i, .nm j], .tup [a, b], .Tuple [.Name x _, .Name y _] _ _, .Tuple [xa, xb] _ _ =>
            decide (names = [x, y]) && c.slot i x && c.slot j y && decide (i ≠ j) && c.loc x && c.loc y && plainE xa && plainE xb && mE n c xa a && mE n c xb b
          | .tp [.nm i, .nm j, .nm k], .tup [a, b, d], .Tuple [.Name x _, .Name y _, .Name z _] _ _, .Tuple [xa, xb, xd] _ _ =>
            decide (names = [x, y, z]) && c.slot i x && c.slot j y && c.slot k z && decide (i ≠ j) && decide (i ≠ k) && decide (j ≠ k) && c.loc x && c.loc y && c.loc z && plainE xa && plainE xb && plainE xd && mE n c xa a && mE n c xb b && mE n c xd d
          | _, _, _, _ => false))
      | _ => false)
    | .aug i op e => (match ex with
      | .AugAssign (.Name x _) op' xe _ => decide (op = op') && c.slot i x && c.sto x && mE n c xe e
      | _ => false)
    | .setIx o i v => (match ex with
      | .Assign [.Subscript xo xi _] xv _ => plainE xi && mE n c xo o && mE n c xi i && mE n c xv v
      | _ => false)
    | .augIx o i op v => (match ex with
      | .AugAssign (.Subscript xo xi _) op' xv _ => decide (op = op') && plainE xi && mE n c xo o && mE n c xi i && mE n c xv v
      | _ => false)
    | .ex e => (match ex with
      | .Expr xe _ => (compScope xe).isNone && mE n c xe e
      | _ => false)
    | .ret e => (match ex with
      | .Return (some xe) _ => mE n c xe e
      | _ => false)
    | .retN => (match ex with
      | .Return none _ => true
      | _ => false)
    | .ite d a b => (match ex with
      | .If xd xa xb _ => mE n c xd d && all2 (mS n c) xa a && all2 (mS n c) xb b
      | _ => false)
    | .loop d b => (match ex with
      | .While xd xb [] _ => mE n c xd d && all2 (mS n c) xb b
      | _ => false)
    | .for_ tg k es b => (match ex with
      | .For xt xi xb [] _ => plainE xi && mE.mI (mE n c) c xt xi k es && mT n c xt tg && all2 (mS n c) xb b
      | _ => false)
    | .bad => true
    | .brk => (match ex with
      | .Break _ => true
      | _ => false)
    | .cont => (match ex with
      | .Continue _ => true
      | _ => false)
    | .pass => (match ex with
      | .Pass _ => true
      | .Expr (.Constant (.str _) _ _) _ => true
      | _ => false)
section
variable {c : Ctx} {F : Fun} {X : Cx} {E' : L2.XK}
theorem plain_asg {e : Expr} {env : PySem.Env} (h : plainE e = true) : (assignEach [e] env).map (·.2) = [assign e env] := by
  rw [asg_of h]; rfl
theorem plain_sw {e : Expr} {l : Nat} {env : PySem.Env} (h : (compScope e).isNone = true) : swapsWith e none l env = pure false := by
  cases e <;> first | rfl | (cases h; done)
/-- x = [.. for ..], on one line -/
theorem lc_set {n : Nat} (C : CtxOk c F X (wE E')) {i : Nat} {x : Str} {px pos : Pos} {xe : Expr} {e : E} (hi : c.slot i x = true) (hl : c.loc x = true) (hc : isCompE xe = true) (hsw : swapsWith xe (some (.Name x px)) pos.line X.env = pure true) (h : mE n c xe e = true) :
    PS X (.Assign [.Name x px] xe pos) (tAsg (TD X (wE E') (den F e)) (gName i)) := by
  have hyl : X.env.scope.names.lookup x = some .local := by rw [C.esc]; exact of_decide_eq_true hl
  cases n with
  | zero => cases h
  | succ n =>
    have ihe : ∀ ex e, mE n c ex e = true → PE X ex (TD X (wE E') (den F e)) := fun ex e h => (simE n c F X (wE E') C ex e h).1
    unfold mE at h
    cases e with
    | comp al elt tg k es ifs own =>
      simp only at h
      split at h
      · rename_i xe' xt xi xifs scope pos'
        simp only [Bool.and_eq_true, decide_eq_true_eq, List.all_eq_true] at h
        obtain ⟨⟨⟨⟨⟨⟨⟨hb, hp⟩, hii⟩, ht⟩, hf⟩, hl'⟩, he⟩, ho⟩ := h
        have eo : (ownOf c.N own).map (·.2) = own := by unfold ownOf; rw [List.map_map]; exact List.map_id own
        have bk : BlkOk X.N X.env.scope scope (ownOf c.N own) := by
          rw [C.eN, C.esc]; exact blkOk_by hb
        have pts : ∀ (s : Shared) (H : Hp) (C' : Addr) (cl : List (Str × Addr)) (fp : List Addr), PTs (X.blk s H scope (compEnvC scope cl C' X.env) fp) xifs (TB X W0 (denIf F ifs)) := fun s H C' cl fp => by
          have C2 := C.blk s H scope C' cl fp
          rcases xifs with _ | ⟨x1, _ | ⟨x2, tl⟩⟩
          · cases ifs with
            | nil =>
              refine ⟨fun pins s σ H Q I hw => pts_nil.run pins s σ H Q I ?_⟩
              obtain ⟨m, n, r, st, h1, h2, h3, h4⟩ := hw
              simp only [denIf] at h4
              exact h4 H m true (Go.refl _ _) h1 rfl
            | cons _ _ => cases hf
          · rcases ifs with _ | ⟨e1, _ | ⟨e2, tl⟩⟩
            · cases hf
            · simp only [all2, Bool.and_true] at hf
              have q := (simE n _ F _ W0 C2 x1 e1 hf).2
              have eq : denIf F [e1] = tst F e1 := by
                funext r st
                simp only [denIf, tst]
                congr 1; funext x st
                cases truth st x with
                | none => rfl
                | some k => cases k <;> rfl
              rw [eq]
              exact pts_one q
            · simp [all2] at hf
          · simp at hl'
        have pl := ps_setLc (elt := xe') (pos := pos') (te := TD X W0 (den F elt)) (tt := TB X W0 (denIf F ifs)) (g := gD X.K tg) C.calm C.nd (C.slot hi) hyl hsw (mI_ok C ihe hii) bk (fun s H C' cl fp => mT_ok (C.blk s H scope C' cl fp) n xt tg ht) pts (fun s H C' cl fp => (simE n _ F _ W0 (C.blk s H scope C' cl fp) xe' elt he).1) (plain_set hp)
        rw [eo] at pl
        refine imp_s pl fun s H D h => ?_
        refine lc_read (al := al) ho ?_
        have e : den F (.comp al elt tg k es ifs own) = fun r st => (denL F es r st).bind fun ds st => (optR (srcOf k ds st) st).bind fun src st => (optR (srcItems st src) st).bind fun all st =>
          (goComp (den F elt) (denIf F ifs) tg (wipeE r own) src all all st).safe.bind fun xs st => newL al xs st := by funext r st; rw [den]
        rw [← e]; exact h
      · cases h
    | bad =>
      refine ⟨fun pins s σ H Z I hw => ?_⟩
      obtain ⟨_, _, _, _, _, _, _, h4⟩ := hw
      simp only [den] at h4
      exact False.elim h4
    | _ => cases xe <;> first | (cases hc; done) | cases h
theorem gNm_of {i : Nat} {v : V} {σ : L2.St} {H : Hp} {Q : L2.St → Hp → Prop} (h : gD X.K (.nm i) v σ H Q) : gName i v σ H Q := gD_nm h
/-- x, y = a, b -/
theorem TSr.par {tg : Tg} {es : List E} {Z : Ends} {σ : L2.St} {H : Hp} (h : TSr X E' (fun r st => (den F (.tup es) r st).bind fun d st => (optR (asgT tg d r) st).bind fun r st => .ok (.nx, r) st) Z σ H) :
    TL X (wE E') (denL F es) σ H fun vs H1 => ∃ m n ds r r', RelL X.K H1 m n ds vs ∧ EnvR X.K H1 m n r σ ∧ asgT tg (.tup ds) r = some r' ∧ ∀ σ', EnvR X.K H1 m n r' σ' → Z.nx σ' H1 := by
  obtain ⟨m, n, r, st, h1, h2, h3⟩ := h
  have e : ((den F (.tup es) r st).bind fun d st => (optR (asgT tg d r) st).bind fun r st => Res.ok (Fl.nx, r) st) = (denL F es r st).bind fun ds st => if ds.length ≤ sizeLine then (optR (asgT tg (.tup ds) r) st).bind fun r st => Res.ok (Fl.nx, r) st else Res.stuck := by
    rw [den, Res.bind_assoc]
    congr 1; funext ds st
    split <;> rfl
  dsimp only at h3
  rw [e] at h3
  refine ⟨m, n, r, st, h1, h2, .nil, h3.unbind.mono (fun ds st1 hq H1 m1 vs g s1 rl => ?_) fun _ _ q => q⟩
  split at hq
  · obtain ⟨r', er, hq⟩ := optR_post hq.unbind
    exact ⟨m1, n, ds, r, r', rl, h2.go g, er, fun σ' en => hq H1 m1 σ' g s1 en⟩
  · exact False.elim hq
theorem par2_read {i j : Nat} {a b : E} {Z : Ends} {σ : L2.St} {H : Hp} (h : TSr X E' (fun r st => (den F (.tup [a, b]) r st).bind fun d st => (optR (asgT (.tp [.nm i, .nm j]) d r) st).bind fun r st => .ok (.nx, r) st) Z σ H) : tPar i j (TL X (wE E') (denL F [a, b])) Z σ H := by
  refine (TSr.par h).mono fun vs H1 ⟨m, n, ds, r, r', h1, h2, h3, h4⟩ => ?_
  simp only [asgT] at h3
  match ds, h1, h3 with
  | [], h1, h3 => simp [asgTs] at h3
  | [_], h1, h3 => simp [asgTs, asgT] at h3
  | _ :: _ :: _ :: _, h1, h3 => simp [asgTs, asgT] at h3
  | [d1, d2], h1, h3 =>
    simp only [asgTs, asgT, Option.some.injEq] at h3
    obtain ⟨v, w, e1, r1, r2⟩ := h1.two
    exact ⟨v, w, e1, h4 _ (by rw [← h3]; exact (h2.set r1 i).set r2 j)⟩
theorem par3_read {i j k : Nat} {a b d : E} {Z : Ends} {σ : L2.St} {H : Hp} (h : TSr X E' (fun r st => (den F (.tup [a, b, d]) r st).bind fun x st => (optR (asgT (.tp [.nm i, .nm j, .nm k]) x r) st).bind fun r st => .ok (.nx, r) st) Z σ H) : tPar3 i j k (TL X (wE E') (denL F [a, b, d])) Z σ H := by
  refine (TSr.par h).mono fun vs H1 ⟨m, n, ds, r, r', h1, h2, h3, h4⟩ => ?_
  simp only [asgT] at h3
  match ds, h1, h3 with
  | [], h1, h3 => simp [asgTs] at h3
  | [_], h1, h3 => simp [asgTs, asgT] at h3
  | [_, _], h1, h3 => simp [asgTs, asgT] at h3
  | _ :: _ :: _ :: _ :: _, h1, h3 => simp [asgTs, asgT] at h3
  | [d1, d2, d3], h1, h3 =>
    simp only [asgTs, asgT, Option.some.injEq] at h3
    obtain ⟨v, ws, e1, r1, h5⟩ := h1.uncons
    obtain ⟨w, u, e2, r2, r3⟩ := h5.two
    exact ⟨v, w, u, by rw [e1, e2], h4 _ (by rw [← h3]; exact ((h2.set r1 i).set r2 j).set r3 k)⟩
theorem pss_ok {f : Stmt → S → Bool} (ih : ∀ st s, f st s = true → PS X st (TSr X E' (denS F s))) : ∀ (sts : List Stmt) (ss : List S), all2 f sts ss = true → PSs X sts (TSr X E' (denSs F ss)) := by
  intro sts
  induction sts with
  | nil =>
    intro ss h
    cases ss with
    | nil =>
      refine imp_ss pss_nil fun s H D h => ?_
      obtain ⟨m, n, r, st, h1, h2, h3⟩ := h
      simp only [denSs] at h3
      exact h3 H m s (Go.refl _ _) h1 h2
    | cons _ _ => cases h
  | cons st sts ihs =>
    intro ss h
    cases ss with
    | nil => cases h
    | cons s ss =>
      simp only [all2, Bool.and_eq_true] at h
      refine imp_ss (pss_cons (ih st s h.1) (ihs ss h.2)) fun s' H D q => ?_
      have e : denSs F (s :: ss) = fun r st => (denS F s r st).bind fun fr st => match fr.1 with
        | .nx => denSs F ss fr.2 st
        | .bk => .ok (.bk, fr.2) st
        | .ct => .ok (.ct, fr.2) st
        | .rt d => .ok (.rt d, fr.2) st := by funext r st; rw [denSs] <;> rfl
      rw [e] at q
      exact TSr.seq q
theorem simS (n : Nat) (C : CtxOk c F X (wE E')) (hk : c.sc.kind = .function) (hp : PassesOwn (model X.prog X.w) X.A X.env X.xe) : ∀ (st : Stmt) (s : S), mS n c st s = true → PS X st (TSr X E' (denS F s)) := by
  induction n with
  | zero => intro st s h; cases h
  | succ n ih =>
    intro st s h
    have ihe : ∀ ex e, mE n c ex e = true → PE X ex (TD X (wE E') (den F e)) := fun ex e h => (simE n c F X (wE E') C ex e h).1
    have iht : ∀ ex e, mE n c ex e = true → PT X ex (TB X (wE E') (tst F e)) := fun ex e h => (simE n c F X (wE E') C ex e h).2
    unfold mS at h
    cases s with
    | asg tg e =>
      have ed : denS F (.asg tg e) = fun r st => (den F e r st).bind fun d st => (optR (asgT tg d r) st).bind fun r st => .ok (.nx, r) st := by funext r st; rw [denS]
      rw [ed]
      simp only at h
      split at h
      · rename_i xt xe pos
        simp only [Bool.and_eq_true] at h
        obtain ⟨hpl, h⟩ := h
        cases eq : swS c.sc xt xe with
        | none => rw [eq] at h; cases h
        | some o =>
          have hss := swS_ok (env := X.env) C.esc hk eq
          rw [eq] at h
          cases o with
          | none =>
            simp only at h
            split at h
            · rename_i hsw
              split at h
              · rename_i i x px
                simp only [Bool.and_eq_true] at h
                obtain ⟨⟨⟨h1, h2⟩, h3⟩, h4⟩ := h
                refine imp_s (lc_set C h1 h2 h3 (by rw [swB_ok C.esc hk, hsw]) h4) fun s H D q => ?_
                exact (show TR X (wE E') (lD X) [] [] (den F e) s H _ from TSr.asg q).mono fun v H1 g => gD_nm g
              · cases h
            · rename_i hsw
              simp only [Bool.and_eq_true] at h
              refine imp_s (ps_asg (ihe xe e h.2) (mT_ok C n xt tg h.1) ?_ hss (plain_asg hpl)) fun s H D q => TSr.asg q
              show swapsWith xe (some xt) pos.line X.env = pure false
              rw [swB_ok C.esc hk, Bool.eq_false_iff.mpr hsw]
          | some names =>
            simp only at h
            split at h
            · rename_i i j a b x px y py k p xa xb k2 p2
              simp only [Bool.and_eq_true, decide_eq_true_eq] at h
              obtain ⟨⟨⟨⟨⟨⟨⟨⟨⟨rfl, h1⟩, h2⟩, h3⟩, h4⟩, h5⟩, h6⟩, h7⟩, h8⟩, h9⟩ := h
              have pa : PA X [xa, xb] (TL X (wE E') (denL F [a, b])) := pa_list ihe [xa, xb] [a, b] (by simp [h6, h7]) (by simp [all2, h8, h9])
              exact imp_s (ps_par C.calm C.nd (C.slot h1) (C.slot h2) h3 (by rw [C.esc]; exact of_decide_eq_true h4) (by rw [C.esc]; exact of_decide_eq_true h5) pa hss rfl) fun s H D q => par2_read q
            · rename_i i j l a b d x px y py z pz k p xa xb xd k2 p2
              simp only [Bool.and_eq_true, decide_eq_true_eq] at h
              obtain ⟨⟨⟨⟨⟨⟨⟨⟨⟨⟨⟨⟨⟨⟨⟨rfl, h1⟩, h2⟩, h3⟩, h4⟩, h5⟩, h6⟩, h7⟩, h8⟩, h9⟩, g1⟩, g2⟩, g3⟩, g4⟩, g5⟩, g6⟩ := h
              have pa : PA X [xa, xb, xd] (TL X (wE E') (denL F [a, b, d])) := pa_list ihe [xa, xb, xd] [a, b, d] (by simp [g1, g2, g3]) (by simp [all2, g4, g5, g6])
              exact imp_s (ps_par3 C.calm C.nd (C.slot h1) (C.slot h2) (C.slot h3) h4 h5 h6 (by rw [C.esc]; exact of_decide_eq_true h7) (by rw [C.esc]; exact of_decide_eq_true h8) (by rw [C.esc]; exact of_decide_eq_true h9) pa hss rfl) fun s H D q => par3_read q
            · cases h
      · cases h
    | aug i op e =>
      have ed : denS F (.aug i op e) = fun r st => match r[i]? with
        | some (some x) => (den F e r st).bind fun y st => (augD op x y st).bind fun z st => .ok (.nx, r.set i (some z)) st
        | _ => .stuck := by funext r st; rw [denS] <;> rfl
      rw [ed]
      simp only at h
      split at h
      · simp only [Bool.and_eq_true, decide_eq_true_eq] at h
        obtain ⟨⟨⟨rfl, h1⟩, h2⟩, h3⟩ := h
        obtain ⟨q1, q2⟩ := C.sto h2
        exact imp_s (ps_aug C.nd (C.slot h1) q1 (ihe _ e h3) aug_ok q2) fun s H D q => TSr.aug q
      · cases h
    | setIx o i v =>
      have ed : denS F (.setIx o i v) = fun r st => (den F v r st).bind fun v st => (den F o r st).bind fun o st => (den F i r st).bind fun i st => match setD o i v st with
        | some st => .ok (.nx, r) st
        | none => .stuck := by funext r st; rw [denS] <;> rfl
      rw [ed]
      simp only at h
      split at h
      · rename_i xo xi p xv pos
        simp only [Bool.and_eq_true] at h
        obtain ⟨⟨⟨h1, h2⟩, h3⟩, h4⟩ := h
        refine imp_s (ps_asg (ihe xv v h4) (pg_sub (ihe xo o h2) (ihe xi i h3) (set_ok C.hu1) (plain_sub h1)) ?_ ?_ (plain_asg rfl)) fun s H D q => TSr.setIx q
        · show swapsWith xv (some (.Subscript xo xi p)) pos.line X.env = pure false
          rw [swB_ok C.esc hk]
          unfold swB
          cases compScope xv <;> rfl
        · exact swS_ok C.esc hk (by cases xv <;> rfl)
      · cases h
    | augIx o i op v =>
      have ed : denS F (.augIx o i op v) = fun r st => (den F o r st).bind fun o st => (den F i r st).bind fun i st => (ixD o i st).bind fun x st => (den F v r st).bind fun y st => (augD op x y st).bind fun z st => match setD o i z st with
        | some st => .ok (.nx, r) st
        | none => .stuck := by funext r st; rw [denS] <;> rfl
      rw [ed]
      simp only at h
      split at h
      · simp only [Bool.and_eq_true, decide_eq_true_eq] at h
        obtain ⟨⟨⟨⟨rfl, h1⟩, h2⟩, h3⟩, h4⟩ := h
        exact imp_s (ps_augS (ihe _ o h2) (ihe _ i h3) (pget_ok C.hu1) (ihe _ v h4) aug_ok (set_ok C.hu1) (plain_aug h1)) fun s H D q => TSr.augIx q
      · cases h
    | ex e =>
      have ed : denS F (.ex e) = fun r st => (den F e r st).bind fun _ st => .ok (.nx, r) st := by funext r st; rw [denS]
      rw [ed]
      simp only at h
      split at h
      · simp only [Bool.and_eq_true] at h
        exact imp_s (ps_expr (ihe _ e h.2) (plain_sw h.1)) fun s H D q => TSr.drop q
      · cases h
    | ret e =>
      have ed : denS F (.ret e) = fun r st => (den F e r st).bind fun d st => .ok (.rt d, r) st := by funext r st; rw [denS]
      rw [ed]
      simp only at h
      split at h
      · exact imp_s (ps_ret (ihe _ e h)) fun s H D q => TSr.ret q
      · cases h
    | retN =>
      have ed : denS F .retN = fun r st => .ok (.rt .non, r) st := by funext r st; rw [denS]
      rw [ed]
      simp only at h
      split at h
      · exact imp_s ps_retN fun s H D q => TSr.retN q
      · cases h
    | ite d a b =>
      have ed : denS F (.ite d a b) = fun r st => (tst F d r st).bind fun k st => if k then denSs F a r st else denSs F b r st := by
        funext r st; rw [denS]; unfold tst; simp only [Res.bind_assoc]
      rw [ed]
      simp only at h
      split at h
      · simp only [Bool.and_eq_true] at h
        obtain ⟨⟨h1, h2⟩, h3⟩ := h
        exact imp_s (ps_if (iht _ d h1) (pss_ok ih _ a h2) (pss_ok ih _ b h3)) fun s H D q => TSr.ite q
      · cases h
    | loop d b =>
      have ed : denS F (.loop d b) = fun r st => limR fun n => loopW (tst F d) (denSs F b) n r st := by
        funext r st; rw [denS] <;> rfl
      rw [ed]
      simp only at h
      split at h
      · simp only [Bool.and_eq_true] at h
        exact imp_s (ps_while hp (iht _ d h.1) (pss_ok ih _ b h.2)) fun s H D q => TSr.loop q
      · cases h
    | for_ tg k es b =>
      have ed : denS F (.for_ tg k es b) = fun r st => (denL F es r st).bind fun ds st => (optR (srcOf k ds st) st).bind fun src st => if fixedS src then (optR (srcItems st src) st).bind fun ds st => loopF tg (denSs F b) ds r st
          else limR fun n => loopL tg (denSs F b) src n 0 r st := by funext r st; rw [denS]
      rw [ed]
      simp only at h
      split at h
      · simp only [Bool.and_eq_true] at h
        obtain ⟨⟨⟨h1, h2⟩, h3⟩, h4⟩ := h
        exact imp_s (ps_for hp C.calm (mI_ok C ihe h2) (mT_ok C n _ tg h3) (pss_ok ih _ b h4) (plain_set h1)) fun s H D q => TSr.for_ q
      · cases h
    | bad =>
      refine ⟨fun pins s σ H Z I hw => ?_⟩
      obtain ⟨_, _, _, _, _, _, h4⟩ := hw
      simp only [denS] at h4
      exact False.elim h4
    | brk =>
      have ed : denS F .brk = fun r st => .ok (.bk, r) st := by funext r st; rw [denS]
      rw [ed]
      simp only at h
      split at h
      · exact imp_s ps_break fun s H D q => TSr.here (fr := (.bk, [])) q
      · cases h
    | cont =>
      have ed : denS F .cont = fun r st => .ok (.ct, r) st := by funext r st; rw [denS]
      rw [ed]
      simp only at h
      split at h
      · exact imp_s ps_continue fun s H D q => TSr.here (fr := (.ct, [])) q
      · cases h
    | pass =>
      have ed : denS F .pass = fun r st => .ok (.nx, r) st := by funext r st; rw [denS]
      rw [ed]
      simp only at h
      split at h
      · exact imp_s ps_pass fun s H D q => TSr.here (fr := (.nx, [])) q
      · exact imp_s ps_doc fun s H D q => TSr.here (fr := (.nx, [])) q
      · cases h
end
end WT

set_option Elab.async false
set_option linter.all false
set_option maxRecDepth 100000
set_option maxHeartbeats 20000000
/-! WTk: defs, the program, the law. -/
namespace WT
open PySem PySem.Spec PyProof.Rows L2
/-! ### behind a call -/
section
variable {K : PySem.W.Frag} {H H' : Hp} {m m' n : List Addr} {st0 st' : Store}
mutual
theorem RelD.isLow : ∀ (d : D) (v : V), RelD K H m n d v → D.low d m.length = true
  | .non, _, _ => rfl
  | .bl _, _, _ => rfl
  | .int _, _, _ => rfl
  | .str _, _, _ => rfl
  | .tup ds, v, h => by
    simp only [RelD] at h
    obtain ⟨a, vs, e, t, r⟩ := h
    simp only [D.low]; exact RelL.isLow ds vs r
  | .lst ds, v, h => by
    simp only [RelD] at h
    obtain ⟨a, vs, e, t, _, _, r⟩ := h
    simp only [D.low]; exact RelL.isLow ds vs r
  | .scr ds, v, h => by
    simp only [RelD] at h
    obtain ⟨a, vs, e, t, r⟩ := h
    simp only [D.low]; exact RelL.isLow ds vs r
  | .loc k, v, h => by
    simp only [RelD] at h
    obtain ⟨a, e1, e2⟩ := h
    simp only [D.low]; exact decide_eq_true (List.getElem?_eq_some_iff.mp e2).1
theorem RelL.isLow : ∀ (ds : List D) (vs : List V), RelL K H m n ds vs → D.lowL ds m.length = true
  | [], _, _ => rfl
  | d :: ds, vs, h => by
    simp only [RelL] at h
    obtain ⟨v, r, e, h1, h2⟩ := h
    simp only [D.lowL, RelD.isLow d v h1, RelL.isLow ds r h2, Bool.and_self]
end
mutual
/-- what names no younger place lies under the elder ones -/
theorem RelD.under (hm : ∀ a, a ∈ m → a ∈ m') (hp : ∀ k, k < m.length → m'[k]? = m[k]?) : ∀ (d : D) (v : V), D.low d m.length = true → RelD K H m' n d v → RelD K H m n d v
  | .non, _, _, h => h
  | .bl _, _, _, h => h
  | .int _, _, _, h => h
  | .str _, _, _, h => h
  | .tup ds, v, l, h => by
    simp only [RelD] at h ⊢
    simp only [D.low] at l
    obtain ⟨a, vs, e, t, r⟩ := h
    exact ⟨a, vs, e, ⟨t.1, fun z => t.2 (hm a z)⟩, RelL.under hm hp ds vs l r⟩
  | .lst ds, v, l, h => by
    simp only [RelD] at h ⊢
    simp only [D.low] at l
    obtain ⟨a, vs, e, t, h1, h2, r⟩ := h
    exact ⟨a, vs, e, t, fun z => h1 (hm a z), h2, RelL.under hm hp ds vs l r⟩
  | .scr ds, v, l, h => by
    simp only [RelD] at h ⊢
    simp only [D.low] at l
    obtain ⟨a, vs, e, t, r⟩ := h
    refine ⟨a, vs, e, ?_, RelL.under hm hp ds vs l r⟩
    rcases t with t | ⟨t, h2⟩
    · exact .inl t
    · exact .inr ⟨t, fun z => h2 (hm a z)⟩
  | .loc k, v, l, h => by
    simp only [RelD] at h ⊢
    simp only [D.low, decide_eq_true_eq] at l
    obtain ⟨a, e1, e2⟩ := h
    exact ⟨a, e1, by rw [← hp k l]; exact e2⟩
theorem RelL.under (hm : ∀ a, a ∈ m → a ∈ m') (hp : ∀ k, k < m.length → m'[k]? = m[k]?) : ∀ (ds : List D) (vs : List V), D.lowL ds m.length = true → RelL K H m' n ds vs → RelL K H m n ds vs
  | [], _, _, h => h
  | d :: ds, vs, l, h => by
    simp only [RelL] at h ⊢
    simp only [D.lowL, Bool.and_eq_true] at l
    obtain ⟨v, r, e, h1, h2⟩ := h
    exact ⟨v, r, e, RelD.under hm hp d v l.1 h1, RelL.under hm hp ds r l.2 h2⟩
end
theorem kv_under {κ : Type} (hm : ∀ a, a ∈ m → a ∈ m') (hp : ∀ k, k < m.length → m'[k]? = m[k]?) : ∀ {kvs : List (κ × D)} {kvs' : List (κ × V)}, (kvs.all fun p => D.low p.2 m.length) = true → KVr (RelD K H m' n) kvs kvs' → KVr (RelD K H m n) kvs kvs'
  | _, _, _, .nil => .nil
  | _, _, l, .cons h t => by
    simp only [List.all_cons, Bool.and_eq_true] at l
    exact .cons ⟨h.1, RelD.under hm hp _ _ l.1 h.2⟩ (kv_under hm hp l.2 t)
theorem ObR.under {a : Addr} {ob : Ob} (hm : ∀ a, a ∈ m → a ∈ m') (hp : ∀ k, k < m.length → m'[k]? = m[k]?) (l : ob.low m.length = true) (h : ObR K H m' n a ob) : ObR K H m n a ob := by
  cases ob with
  | lst ds => obtain ⟨vs, h1, h2⟩ := h; exact ⟨vs, h1, RelL.under hm hp _ _ l h2⟩
  | dK kvs => obtain ⟨vs, h1, h2⟩ := h; exact ⟨vs, h1, kv_under hm hp l h2⟩
  | dT kvs => obtain ⟨vs, h1, h2⟩ := h; exact ⟨vs, h1, kv_under hm hp l h2⟩
theorem kv_low {κ : Type} : ∀ {kvs : List (κ × D)} {kvs' : List (κ × V)}, KVr (RelD K H m n) kvs kvs' → (kvs.all fun p => D.low p.2 m.length) = true
  | _, _, .nil => rfl
  | _, _, .cons h t => by simp only [List.all_cons, RelD.isLow _ _ h.2, kv_low t, Bool.and_self]
theorem ObR.isLow {a : Addr} {ob : Ob} (h : ObR K H m n a ob) : ob.low m.length = true := by
  cases ob with
  | lst ds => obtain ⟨vs, h1, h2⟩ := h; exact RelL.isLow _ _ h2
  | dK kvs => obtain ⟨vs, h1, h2⟩ := h; exact kv_low h2
  | dT kvs => obtain ⟨vs, h1, h2⟩ := h; exact kv_low h2
theorem go_take (g : Go H m H' m') : (∀ a, a ∈ m → a ∈ m') ∧ (∀ k, k < m.length → m'[k]? = m[k]?) := by
  refine ⟨fun a h => g.sub h, fun k hk => ?_⟩
  obtain ⟨r, e⟩ := g.pre
  rw [e, List.getElem?_append_left hk]
theorem finish_ok (g : Go H m H' m') (s : StR K H m n st0) (s' : StR K H' m' n st') (c : closed st0 st' = true) : Go H m H' m ∧ StR K H' m n (st'.take st0.length) := by
  obtain ⟨hm, hp⟩ := go_take g
  refine ⟨⟨⟨[], by simp⟩, g.keep, fun a h => .inl h⟩, ⟨?_, s.nd, fun a h => s'.dis a (hm a h), fun k a ob e1 e2 => ?_, s'.hid⟩⟩
  · have h1 := s.len
    have h2 := s'.len
    obtain ⟨r, e⟩ := g.pre
    have h3 : m'.length = m.length + r.length := by rw [e, List.length_append]
    rw [List.length_take]
    omega
  · have hk : k < m.length := (List.getElem?_eq_some_iff.mp e1).1
    have hk0 : k < st0.length := by rw [← s.len]; exact hk
    rw [List.getElem?_take, if_pos hk0] at e2
    have e1' : m'[k]? = some a := by rw [hp k hk]; exact e1
    have q := s'.place k a ob e1' e2
    refine q.under hm hp ?_
    unfold closed at c
    rw [List.all_eq_true] at c
    have ck := c k (List.mem_range.mpr hk0)
    rcases Bool.or_eq_true _ _ ▸ ck with z | z
    · have e3 : st0[k]? = some ob := (of_decide_eq_true z).symm.trans e2
      exact (s.place k a ob e1 e3).isLow
    · rw [e2] at z
      have z' : ob.low st0.length = true := z
      rw [← s.len] at z'
      exact z'
theorem fin_post {d : D} {v : V} {Q : VK} {Er : Ex → Store → Prop} (g : Go H m H' m') (s : StR K H m n st0) (s' : StR K H' m' n st') (r : RelD K H' m' n d v) (h : (finish st0 d st').Post (QV K n H m Q) Er) : Q v H' := by
  unfold finish at h
  split at h
  · rename_i c
    simp only [Bool.and_eq_true] at c
    obtain ⟨g2, s2⟩ := finish_ok g s s' c.2
    obtain ⟨hm, hp⟩ := go_take g
    refine h H' m v g2 s2 (RelD.under hm hp d v ?_ r)
    rw [s.len]; exact c.1
  · exact h H' m' v g s' r
end
/-! ### a def -/
/-- a def of the text and its pure one -/
structure DefOk (K : PySem.W.Frag) (mg : Str → Option Value) (P : Prog) (funs : List Str) (x : Str) : Prop where
  ex : ∃ (st : Stmt) (f : Addr) (oc kV doc pm cdv ct : Value) (od an : Option Addr) (osl : Array (Option Value)) (N ps : List Str) (df : Df) (fuel : Nat),
    K.lookup f = some ⟨oc, od, .func (PySem.W.fnOf x x (defArgs st) (defBody st) (defScope st) .none kV doc pm an cdv ct), osl⟩ ∧ PySem.W.codeIn K cdv x = true ∧ PySem.W.keepIn K (.ref f) = true ∧ mg x = some (.ref f) ∧
    FnScope N ps (defScope st) ∧ (∀ us : List Value, us.length = ps.length → bindArgs (PySem.W.fnOf x x (defArgs st) (defBody st) (defScope st) .none kV doc pm an cdv ct) ⟨us, []⟩ = pure (ps.zip us)) ∧
    P x = some df ∧ df.np = ps.length ∧ df.ns = N.length ∧ all2 (mS fuel ⟨N, defScope st, funs, fun _ => true⟩) (defBody st) df.body = true
section
variable {P : Program} {w : World} {K : PySem.W.Frag} {mg : Str → Option Value} {base : Heap}
theorem env_start {H : Hp} {m n : List Addr} {ds : List D} {vs : List V} {N : List Str} {np ns : Nat} (r : RelL K H m n ds vs) (h1 : ns = N.length) (h2 : ds.length = np) : EnvR K H m n (ds.map some ++ List.replicate (ns - np) none) (start N vs) := by
  have hl := r.length
  unfold L2.start
  refine ⟨by rw [List.length_append, List.length_append, List.length_map, List.length_map, List.length_replicate, List.length_replicate]; omega, fun i d e => ?_⟩
  by_cases hi : i < ds.length
  · rw [List.getElem?_append_left (by simpa using hi), List.getElem?_map] at e
    obtain ⟨d', e1, e2⟩ := Option.map_eq_some_iff.mp e
    cases e2
    obtain ⟨v, g1, g2⟩ := r.get e1
    exact ⟨v, by rw [List.getElem?_append_left (by simp; omega), List.getElem?_map, g1]; rfl, g2⟩
  · rw [List.getElem?_append_right (by simpa using Nat.le_of_not_lt hi), List.getElem?_replicate] at e
    split at e <;> cases e
/-- a def by its body, no guard about -/
theorem fnG_of {k : Nat} {f : Addr} {x : Str} {st : Stmt} {kV doc pm cdv ct oc : Value} {an od : Option Addr} {osl : Array (Option Value)} {N ps : List Str} {sp : Sp}
    (lk : K.lookup f = some ⟨oc, od, .func (PySem.W.fnOf x x (defArgs st) (defBody st) (defScope st) .none kV doc pm an cdv ct), osl⟩) (hcd : PySem.W.codeIn K cdv x = true) (S : FnScope N ps (defScope st))
    (len : ∀ vs H Q E, sp vs H Q E → vs.length = ps.length)
    (body : ∀ (A : Around) (outer : List PySem.Env) (s : Shared) (H : Hp) (vs : List V) (Q : VK) (E : XK), Room k (A.deeper (envOfC x (defScope st) s.heap.objs.size f cdv)) → A.guards = some [] → sp vs H Q E →
      ∃ t, PSs (cxOf (L2.CX P w) P w K mg base N x (defScope st) f cdv A outer s H E) (defBody st) t ∧ t { nx := fun _ H' => Q .non H', rt := Q } (start N vs) H) :
    FnG P w K mg base (k + 1) f (PySem.W.fnOf x x (defArgs st) (defBody st) (defScope st) .none kV doc pm an cdv ct) ps sp := by
  refine ⟨len, fun A outer s H args us vs Q E hr hg e0 hb r hsp => ?_⟩
  have hlen := len _ _ _ _ hsp
  have KIn : K.In s.heap := e0.mod.kin.keeps fun b o e => (e0.bs b o e).1
  have nolim : s.heap.NoLimit := e0.mod.nolimit.keeps fun b o e => (e0.bs b o e).1
  have kinds : ∀ y ∈ ps.zip us, (defScope st).names.lookup y.1 = some .local ∨ ((defScope st).names.lookup y.1 = some .cell ∧ ((cellsFrom (s.heap.objs.size + 1) (defScope st).names []).lookup y.1).isSome = true) := fun ⟨nm, val⟩ hy =>
    (S.par nm (List.of_mem_zip hy).1).imp_right fun q => ⟨q, PySem.W.cellsFrom_some _ _ _ (.inl q)⟩
  refine codeAny_call_function hr.depth (KIn _ _ lk) rfl S.co S.gen rfl (PySem.W.codeRec_of KIn hcd) (hb _ _ _ _ (wpAny_newFunctionEnv_cells S.kind kinds fun env he s1 ic => ?_))
  subst he
  refine ⟨nolim.keeps ic.toInCall.keep, codeAny_func ?_⟩
  obtain ⟨t, ht, hq⟩ := body A outer s H vs Q E (hr.deeper _) hg hsp
  have J : Inv (cxOf (L2.CX P w) P w K mg base N x (defScope st) f cdv A outer s H E) [] (start N vs) H s1 := inv_start S hr.hd e0 hlen r ic
  refine wpAny_mono (ht.run [] s1 (start N vs) H _ J hq) (fun fl s' hs => ?_) fun e s' hs => hs
  cases fl with
  | ret u =>
    obtain ⟨v, σ', H', J', rv, q⟩ := hs
    exact ⟨v, H', J'.os, J'.bare, J'.base, J'.hok, rv, q⟩
  | next =>
    obtain ⟨σ', H', J', q⟩ := hs
    exact ⟨.non, H', J'.os, J'.bare, J'.base, J'.hok, rfl, q⟩
  | brk =>
    obtain ⟨_, _, _, q⟩ := hs
    exact q.elim
  | cont =>
    obtain ⟨_, _, _, q⟩ := hs
    exact q.elim
/-- every def of the text, at every depth -/
theorem levels {Pr : Prog} {funs : List Str} (mgB : ∀ x, x ∈ bNames → mg x = none) (all : ∀ x, x ∈ funs → DefOk K mg Pr funs x) :
    ∀ (k : Nat) (x : Str), x ∈ funs → ∃ (f : Addr) (fd : FuncData) (ps : List Str), mg x = some (.ref f) ∧ PySem.W.keepIn K (.ref f) = true ∧ (∀ us : List Value, us.length = ps.length → bindArgs fd ⟨us, []⟩ = pure (ps.zip us)) ∧ (∀ base : Heap, FnG P w K mg base k f fd ps (spF K mg (phi Pr k) x ps.length)) ∧ (∀ ds st, phi Pr k x ds st ≠ .stuck → ds.length = ps.length) ∧
      ∀ (df : Df), Pr x = some df → df.np = ps.length := by
  intro k
  induction k with
  | zero =>
    intro x hx
    obtain ⟨st, f, oc, kV, doc, pm, cdv, ct, od, an, osl, N, ps, df, fuel, h1, h2, h3, h4, h5, h6, h7, h8, h9, h10⟩ := (all x hx).ex
    refine ⟨f, _, ps, h4, h3, h6, fun base => ⟨fun vs H Q E h => h.1, fun A outer s H args us vs Q E _ _ _ _ _ h => ?_⟩, fun ds st h => absurd rfl h, fun df' e => by rw [h7] at e; cases e; exact h8⟩
    obtain ⟨_, ds, m, n, st', _, _, q⟩ := h
    exact q.elim
  | succ k ih =>
    intro x hx
    obtain ⟨st, f, oc, kV, doc, pm, cdv, ct, od, an, osl, N, ps, df, fuel, h1, h2, h3, h4, h5, h6, h7, h8, h9, h10⟩ := (all x hx).ex
    refine ⟨f, _, ps, h4, h3, h6, fun base => fnG_of h1 h2 h5 (fun vs H Q E h => h.1) fun A outer s H vs Q E hr hg hsp => ?_, fun ds st' h => ?_, fun df' e => by rw [h7] at e; cases e; exact h8⟩
    · have C : CtxOk ⟨N, defScope st, funs, fun _ => true⟩ (phi Pr k) (cxOf (L2.CX P w) P w K mg base N x (defScope st) f cdv A outer s H E) (wE E) := {
        calm := rfl
        hu := by
          have := hr.un
          show (A.deeper _).units + 65 < cLine
          omega
        gd := hg
        nd := h5.nd
        eN := rfl
        esc := rfl
        fc := rfl
        mgB := mgB
        call := fun g hgm => by
          obtain ⟨f', fd', ps', q1, q2, q3, q4, q5, _⟩ := ih g hgm
          exact ⟨k, f', fd', ps', hr, q1, q2, .all q3, q4 base, q5⟩
        lets := passes_call (takes_of rfl rfl rfl rfl) fun _ _ _ _ q => q }
      refine ⟨_, pss_ok (simS fuel C h5.kind (passes_of rfl)) _ _ h10, ?_⟩
      obtain ⟨hl, ds, m, n, st0, s0, r0, hp⟩ := hsp
      have hd : ds.length = df.np := by rw [r0.length, hl, h8]
      have ep : phi Pr (k + 1) x ds st0 = (denSs (phi Pr k) df.body (ds.map some ++ List.replicate (df.ns - df.np) none) st0).bind (endOf st0) := by
        rw [phi, h7]
        exact if_pos hd
      rw [ep] at hp
      refine ⟨m, n, _, st0, s0, env_start r0 h9 hd, hp.unbind.mono (fun fr st' hq H' m' σ' g s' en => ?_) fun _ _ q => q⟩
      cases fr with
      | mk fl r' =>
        cases fl with
        | nx => exact fin_post g s0 s' rNon hq
        | rt d => exact fun v rv => fin_post g s0 s' rv hq
        | bk => exact hq.elim
        | ct => exact hq.elim
    · by_cases hd : ds.length = df.np
      · rw [hd, h8]
      · exact absurd (by rw [phi, h7]; exact if_neg hd) h
end
end WT

set_option Elab.async false
set_option linter.all false
set_option maxRecDepth 100000
set_option maxHeartbeats 20000000
/-! WTl: the law. -/
namespace WT
open PySem PySem.Spec PyProof.Rows L2
/-- what the pure law says of every script, lies at the head's goal -/
abbrev LawOk (Pr : Prog) (k most : Nat) : Prop := ∀ ns : List Int, ns.length ≤ most → (phi Pr k "law" [.scr (ns.map D.int)] []).Post (fun d _ => d = .bl true) fun _ _ => False
theorem sp_law {Pr : Prog} {k most : Nat} (h : LawOk Pr k most) {K : PySem.W.Frag} {mg : Str → Option Value} {H : Hp} {a : Addr} {ns : List Int} (hl : ns.length ≤ most) (ho : Only H) (hs : SqL K H a (ns.map V.int)) :
    spF K mg (phi Pr k) "law" 1 [.ref a] H (fun v _ => v = .bl true) fun _ _ _ => False := by
  have hscr : ScrAt K H [] a (ns.map V.int) := by
    rcases hs with (hs | hs) | hs
    · rcases ho a with q | ⟨o, xs, q⟩
      · rw [q] at hs; cases hs
      · rw [q] at hs; cases hs
    · exact .inr ⟨hs, by simp⟩
    · exact .inl hs
  refine ⟨rfl, [.scr (ns.map D.int)], [], [], [], ⟨rfl, List.nodup_nil, fun a h => (by cases h), fun k a ob e => (by simp at e), fun a h => (by cases h)⟩, .cons ?_ .nil, ?_⟩
  · simp only [RelD]
    exact ⟨a, _, rfl, hscr, RelL.ints ns⟩
  · refine (h ns hl).mono (fun d st e H' m' v g s r => ?_) fun _ _ q => q.elim
    subst e
    simpa only [RelD] using r
theorem no_cx {P : Program} {w : World} {outer : List PySem.Env} {H : Hp} {s s' : Shared} {e : Value} (h : L2.CX P w outer H s (fun _ _ _ => False) e s') : False := by
  obtain ⟨_, _, _, _, _, _, _, _, _, _, _, _, z⟩ := h
  exact z
/-- the head: the law's call -/
theorem law_runs {P : Program} {w : World} {K : PySem.W.Frag} {mg mb : Str → Option Value} {k : Nat} {fa a : Addr} {fd : FuncData} {x : Str} {sp : Sp} {s₁ : Shared} {vs : List Value} {ns : List Int}
    (KX : K.In s₁.heap) (hns : s₁.heap.Ns mainGlobals mg) (hb : s₁.heap.Ns builtinsNs mb) (hbb : ∀ y : Str, y ≠ "__name__" → mb y = bootBuiltins y) (nolim : s₁.heap.NoLimit) (hg : s₁.gens = #[])
    (ha : s₁.heap.get? a = some { cls := .type "list", data := .seq vs.toArray }) (hi : IntsAre vs ns) (hl : ns.length ≤ sizeLine) (room : Room k callerA)
    (F : ∀ base : Heap, K.In base → base.Ns mainGlobals mg → FnG P w K mg base k fa fd [x] sp) (bind : ∀ (s : Shared) (u : Value), BindsTo s fd ⟨[u], []⟩ [(x, u)])
    (say : ∀ H : Hp, Only H → SqL K H a (ns.map V.int) → sp [.ref a] H (fun v _ => v = .bl true) fun _ _ _ => False) :
    codeAny (model P w) callerA (.call (.ref fa) ⟨[.ref a], []⟩) (fun r s' => r = .ok (.ret (.bool true)) ∧ OldK s₁.heap s'.heap ∧ s'.os = s₁.os ∧ AllBare s'.gens) s₁ := by
  have vals := vals_ints hi
  have nv := hi.length
  -- the tracked part is the script, or nothing
  have main : ∀ T : Option HO, (∀ u, T = some u → u = .frz { cls := .type "list", data := .seq vs.toArray } (.lst (ns.map V.int)) ∧ K.lookup a = none) → SqL K (fun b => if b = a then T else none) a (ns.map V.int) →
      codeAny (model P w) callerA (.call (.ref fa) ⟨[.ref a], []⟩) (fun r s' => r = .ok (.ret (.bool true)) ∧ OldK s₁.heap s'.heap ∧ s'.os = s₁.os ∧ AllBare s'.gens) s₁ := by
    intro T hT sq
    generalize eH : (fun b => if b = a then T else none : Hp) = H at sq
    have atH : ∀ b u, H b = some u → b = a ∧ T = some u := fun b u e => by
      rw [← eH] at e
      by_cases z : b = a
      · exact ⟨z, by rw [← e]; exact (if_pos z).symm⟩
      · have : (none : Option HO) = some u := (if_neg z).symm.trans e
        cases this
    have only : Only H := fun b => by
      cases e : H b with
      | none => exact .inl rfl
      | some u =>
        obtain ⟨_, e2⟩ := atH b u e
        exact .inr ⟨_, _, by rw [(hT u e2).1]⟩
    have okH : HOk P w H s₁.heap := fun b u e => by
      obtain ⟨rfl, e2⟩ := atH b u e
      rw [(hT u e2).1]
      exact ⟨ha, by rw [List.length_map]; exact hl, vs, _, vals, ha⟩
    have under : ∀ {b : Addr} {o : Obj}, s₁.heap.get? b = some o → H b = none → (hidT s₁.heap H).get? b = some o := fun e n => hidT_get e n
    have dictFree : ∀ {b : Addr} {o : Obj} {es : Array DictEntry} {ep : Nat}, s₁.heap.get? b = some o → o.data = .dict es ep → H b = none := fun {b o es ep} e d => by
      cases q : H b with
      | none => rfl
      | some u =>
        obtain ⟨rfl, _⟩ := atH b u q
        rw [ha] at e; cases e
        have d' : Data.seq vs.toArray _ = Data.dict es ep := d
        cases d'
    have nsU : ∀ {b : Addr} {m : Str → Option Value}, s₁.heap.Ns b m → (hidT s₁.heap H).Ns b m := fun {b m} ⟨o, es, ep, e, d, r⟩ => ⟨o, es, ep, under e (dictFree e d), d, r⟩
    have inU : K.In (hidT s₁.heap H) := fun b o e => under (KX b o e) (by
      cases q : H b with
      | none => rfl
      | some u =>
        obtain ⟨rfl, e2⟩ := atH b u q
        rw [(hT u e2).2] at e; cases e)
    have hM : Mod K mg (hidT s₁.heap H) := ⟨inU, nsU hns, ⟨mb, nsU hb, hbb⟩, let ⟨mc, g1, g2⟩ := nolim; ⟨mc, nsU g1, g2⟩⟩
    have e0 : Env0 P w K mg (hidT s₁.heap H) callerA [] s₁ H := ⟨rfl, hM, fun b o e => of_hidT e, Nat.le_of_eq (hidT_size _ _), trivial, fun b hb => absurd (show b ∈ ([] : List Addr) from hb) (by simp), okH, .of_eq hg⟩
    refine codeAny_mono ((F _ inU (nsU hns)).run callerA [] s₁ H ⟨[.ref a], []⟩ [.ref a] [.ref a] _ _ room rfl e0 (bind s₁ (.ref a)) (.cons rfl .nil) (say H only sq)) fun r s' h => ?_
    cases r with
    | error e => exact (no_cx h).elim
    | ok fl =>
      cases fl with
      | next => exact False.elim h
      | brk => exact False.elim h
      | cont => exact False.elim h
      | ret u =>
        obtain ⟨v, H', os, bare, un, ok', rv, q⟩ := h
        have q' : v = .bl true := q
        subst q'
        obtain rfl : u = Value.bool true := rv
        refine ⟨rfl, OldK.of_keep fun b o e => ?_, os, bare⟩
        cases q : H b with
        | none => exact un.keep b o e q (by intro z; exact absurd (show b ∈ ([] : List Addr) from z) (by simp)) (by simp)
        | some u =>
          obtain ⟨rfl, e2⟩ := atH b u q
          rw [(hT u e2).1] at q
          have z2 := un.frzs b _ _ q
          obtain ⟨e1, _⟩ := ok' b _ z2
          rw [ha] at e; cases e
          exact e1
  cases hk : K.lookup a with
  | some o =>
    have e := KX a o hk
    rw [ha] at e
    cases e
    refine main none (fun u z => by cases z) (.inr ⟨_, vs.toArray, _, hk, rfl, rfl, rfl, by rw [List.size_toArray, nv]; exact hl, by simpa using vals⟩)
  | none =>
    exact main (some (.frz { cls := .type "list", data := .seq vs.toArray } (.lst (ns.map V.int)))) (fun u z => by cases z; exact ⟨rfl, hk⟩) (.inl (.inr ⟨{ cls := .type "list", data := .seq vs.toArray }, if_pos rfl⟩))
/-- the goal that the head leaves -/
theorem walk {l : PySem.W.OpenLaw} {n k : Nat} {q : Program} {loose : List Str} {XP : (Str → Option Value) → Heap → Prop} {YP : World → Heap → Prop} {d : DefRec} {K : Params → PySem.W.Frag} {Pr : Prog} {funs : List Str}
    (hn : l.most = some n) (hn2 : n ≤ sizeLine) (hdf : d.params.defaults = []) (hr : Room k callerA) (hname : d.name = "law") (hlaw : ("law" : Str) ∈ funs) (hdfl : ∃ df, Pr "law" = some df ∧ df.np = 1)
    (hY : ∀ (w : World) (h : Heap), YP w h → (K w.params).In h)
    (mgB : ∀ (w : World) (mg : Str → Option Value) (h : Heap), (K w.params).In h → h.Ns mainGlobals mg → ∀ x, x ∈ bNames → mg x = none)
    (all : ∀ (w : World) (mg : Str → Option Value) (h : Heap), (K w.params).In h → h.Ns mainGlobals mg → ∀ x, x ∈ funs → DefOk (K w.params) mg Pr funs x)
    (law : LawOk Pr k n) : PySem.W.WalkO q loose XP YP l.row.toRowW d [] (fun f vs => PySem.call f vs) := by
  refine Att.attach_call hn hdf fun w s₀ s₁ mg mb fa o pm cd doc a vs ns G Y ho hd hcd hmg hobj hints hlen hg => ?_
  have KX := hY w _ Y
  obtain ⟨f, fd, ps, h1, h2, h3, h4, h5, h6⟩ := levels (P := l.prog) (w := w) (mgB w mg _ KX G.T.g) (all w mg _ KX G.T.g) k "law" hlaw
  obtain ⟨df, e1, e2⟩ := hdfl
  have hps : ps.length = 1 := by rw [← h6 df e1]; exact e2
  rw [hname] at hmg
  have ef := h1.symm.trans hmg
  cases ef
  obtain ⟨x, rfl⟩ : ∃ x, ps = [x] := by
    match ps, hps with
    | [x], _ => exact ⟨x, rfl⟩
  exact law_runs KX G.T.g G.T.b G.T.builtins G.T.nolimit hg hobj hints (Nat.le_trans hlen hn2) hr (fun base _ _ => h4 base) (fun s u => .of_eq (h3 [u] rfl)) fun H hO hS => sp_law law hlen hO hS
end WT

set_option Elab.async false
set_option linter.all false
set_option maxRecDepth 100000
set_option maxHeartbeats 4000000
/-! WTm: reasoning about pure programs. -/
namespace WT
open PySem
/-! ### texts -/
theorem char_inj {a b : Char} (h : a.toNat = b.toNat) : a = b := by
  apply Char.ext
  apply UInt32.toNat_inj.mp
  exact h
theorem str_inj (a b : String) : Str.ofString a = Str.ofString b ↔ a = b := by
  constructor
  · intro h
    rw [Str.ofString_eq_toList, Str.ofString_eq_toList] at h
    have h1 : a.toList.map Char.toNat = b.toList.map Char.toNat := by
      have := congrArg Str.cps h
      simpa using this
    have h2 : a.toList = b.toList := by
      generalize a.toList = l at h1
      generalize b.toList = l' at h1
      induction l generalizing l' with
      | nil => cases l' <;> first | rfl | (simp at h1)
      | cons x xs ih =>
        cases l' with
        | nil => simp at h1
        | cons y ys =>
          simp only [List.map_cons, List.cons.injEq] at h1
          rw [char_inj h1.1, ih _ h1.2]
    exact String.toList_inj.mp h2
  · intro h; rw [h]
/-! ### it ends well, with .. -/
inductive OkP {α : Type} (r : Res α) (Q : α → Store → Prop) : Prop where
  | mk (a : α) (st : Store) (e : r = .ok a st) (q : Q a st)
section
variable {α β : Type}
theorem okP_ok {a : α} {st : Store} {Q : α → Store → Prop} : OkP (Res.ok a st) Q ↔ Q a st := ⟨fun h => by cases h with | mk a st e q => cases e; exact q, fun q => .mk _ _ rfl q⟩
theorem OkP.ex {r : Res α} {Q : α → Store → Prop} (h : OkP r Q) : ∃ a st, r = .ok a st ∧ Q a st := by
  cases h with
  | mk a st e q => exact ⟨a, st, e, q⟩
theorem OkP.of_eq {r : Res α} {a : α} {st : Store} {Q : α → Store → Prop} (h : r = .ok a st) (q : Q a st) : OkP r Q := .mk a st h q
theorem okP_post {r : Res α} {Q : α → Store → Prop} : OkP r Q ↔ r.Post Q fun _ _ => False := by
  constructor
  · intro h
    obtain ⟨a, st, e, q⟩ := h.ex
    rw [e]; exact q
  · intro h
    cases r with
    | stuck => exact h.elim
    | ok a st => exact .mk _ _ rfl h
    | err _ _ => exact h.elim
theorem okP_bind {r : Res α} {f : α → Store → Res β} {Q : β → Store → Prop} : OkP (r.bind f) Q ↔ OkP r fun a st => OkP (f a st) Q := by
  cases r with
  | stuck => rw [Res.bind_stuck]; exact ⟨fun h => absurd h.ex (by rintro ⟨_, _, e, _⟩; cases e), fun h => absurd h.ex (by rintro ⟨_, _, e, _⟩; cases e)⟩
  | ok a st => rw [Res.bind_ok, okP_ok]
  | err _ _ => rw [Res.bind_err]; exact ⟨fun h => absurd h.ex (by rintro ⟨_, _, e, _⟩; cases e), fun h => absurd h.ex (by rintro ⟨_, _, e, _⟩; cases e)⟩
theorem okP_safe {r : Res α} {Q : α → Store → Prop} : OkP r.safe Q ↔ OkP r Q := by
  cases r with
  | stuck => exact Iff.rfl
  | ok a st => exact Iff.rfl
  | err _ _ => exact ⟨fun h => absurd h.ex (by rintro ⟨_, _, e, _⟩; cases e), fun h => absurd h.ex (by rintro ⟨_, _, e, _⟩; cases e)⟩
theorem OkP.imp {r : Res α} {Q Q' : α → Store → Prop} (h : OkP r Q) (hi : ∀ a st, Q a st → Q' a st) : OkP r Q' := by
  obtain ⟨a, st, e, q⟩ := h.ex
  exact .mk a st e (hi _ _ q)
theorem OkP.bind {r : Res α} {f : α → Store → Res β} {P : α → Store → Prop} {Q : β → Store → Prop} (h : OkP r P) (hf : ∀ a st, P a st → OkP (f a st) Q) : OkP (r.bind f) Q := okP_bind.mpr (h.imp hf)
end
@[simp] theorem optR_some {α : Type} (a : α) (st : Store) : optR (some a) st = .ok a st := rfl
/-! ### calls -/
theorem phi_def {Pr : Prog} {f : Str} {df : Df} {k : Nat} {ds : List D} {st : Store} (h : Pr f = some df) (hn : ds.length = df.np) :
    phi Pr (k + 1) f ds st = (denSs (phi Pr k) df.body (ds.map some ++ List.replicate (df.ns - df.np) none) st).bind (endOf st) := by
  rw [phi, h]
  exact if_pos hn
theorem finish_len {st st' : Store} {d : D} (h : st'.length = st.length) : finish st d st' = .ok d st' := by
  unfold finish
  split
  · rw [← h, List.take_length]
  · rfl
theorem finish_app {st g : Store} {d : D} (h : D.low d st.length = true) : finish st d (st ++ g) = .ok d st := by
  unfold finish
  have c : closed st (st ++ g) = true := by
    unfold closed
    rw [List.all_eq_true]
    intro i hi
    rw [List.getElem?_append_left (List.mem_range.mp hi)]
    simp
  rw [h, c]
  simp
/-- places behind are dropped: the ones in front are the old ones, or name none behind -/
theorem finish_drop {st st1 g : Store} {d : D} (hl : st1.length = st.length) (h : D.low d st.length = true) (hc : ∀ i, i < st.length → st1[i]? = st[i]? ∨ ∃ ob, st1[i]? = some ob ∧ ob.low st.length = true) : finish st d (st1 ++ g) = .ok d st1 := by
  unfold finish
  have c : closed st (st1 ++ g) = true := by
    unfold closed
    rw [List.all_eq_true]
    intro i hi
    have hi' := List.mem_range.mp hi
    rw [List.getElem?_append_left (by rw [hl]; exact hi')]
    rcases hc i hi' with e | ⟨ob, e, hb⟩
    · rw [e]; simp
    · rw [e]
      simp only [Option.any_some, hb, Bool.or_true]
  rw [h, c]
  simp [← hl]
/-! ### loops -/
theorem loopF_inv {tg : Tg} {b : Env → Store → Res (Fl × Env)} {Q : Fl × Env → Store → Prop} {ds : List D} (I : Nat → Env → Store → Prop) {r : Env} {st : Store} (h0 : I 0 r st)
    (hs : ∀ i d r st, ds[i]? = some d → I i r st → ∃ r', asgT tg d r = some r' ∧ OkP (b r' st) fun fr st' => match fr.1 with
      | .nx => I (i + 1) fr.2 st'
      | .ct => I (i + 1) fr.2 st'
      | .bk => Q (.nx, fr.2) st'
      | .rt v => Q (.rt v, fr.2) st')
    (hd : ∀ r st, I ds.length r st → Q (.nx, r) st) : OkP (loopF tg b ds r st) Q := by
  have main : ∀ (n i : Nat) (r : Env) (st : Store), n = ds.length - i → i ≤ ds.length → I i r st → OkP (loopF tg b (ds.drop i) r st) Q := by
    intro n
    induction n with
    | zero =>
      intro i r st hn hi hI
      have e : i = ds.length := by omega
      subst e
      rw [List.drop_length, loopF, okP_ok]
      exact hd r st hI
    | succ n ih =>
      intro i r st hn hi hI
      have hlt : i < ds.length := by omega
      rw [List.drop_eq_getElem_cons hlt]
      obtain ⟨r', e1, e2⟩ := hs i _ r st (List.getElem?_eq_getElem hlt) hI
      simp only [loopF, e1]
      refine e2.bind fun fr st' q => ?_
      cases fr with
      | mk fl r2 =>
        cases fl with
        | nx => exact ih (i + 1) r2 st' (by omega) hlt q
        | ct => exact ih (i + 1) r2 st' (by omega) hlt q
        | bk => exact okP_ok.mpr q
        | rt v => exact okP_ok.mpr q
  have := main ds.length 0 r st rfl (Nat.zero_le _) h0
  rwa [List.drop_zero] at this
theorem loopW_more {c : Env → Store → Res Bool} {b : Env → Store → Res (Fl × Env)} : ∀ (n : Nat) (r : Env) (st : Store), loopW c b n r st ≠ .stuck → loopW c b (n + 1) r st = loopW c b n r st := by
  intro n
  induction n with
  | zero => intro r st h; exact absurd rfl h
  | succ n ih =>
    intro r st h
    rw [loopW] at h
    conv => lhs; rw [loopW]
    conv => rhs; rw [loopW]
    cases hc : c r st with
    | stuck => rfl
    | err _ _ => rfl
    | ok k st1 =>
      rw [hc] at h
      simp only [Res.bind_ok] at h ⊢
      cases k with
      | false => rfl
      | true =>
        simp only [if_true] at h ⊢
        cases hb : b r st1 with
        | stuck => rfl
        | err _ _ => rfl
        | ok fr st2 =>
          rw [hb] at h
          simp only [Res.bind_ok] at h ⊢
          cases fr with
          | mk fl r2 =>
            cases fl with
            | nx => exact ih r2 st2 h
            | ct => exact ih r2 st2 h
            | bk => rfl
            | rt v => rfl
theorem limR_of {α : Type} {g : Nat → Res α} (mono : ∀ n, g n ≠ .stuck → g (n + 1) = g n) {n : Nat} (h : g n ≠ .stuck) : limR g = g n := by
  have up : ∀ k n, g n ≠ .stuck → g (n + k) = g n := by
    intro k
    induction k with
    | zero => intro n _; rfl
    | succ k ih =>
      intro n hn
      have := ih n hn
      rw [← Nat.add_assoc, mono (n + k) (by rw [this]; exact hn), this]
  have ex : ∃ n, g n ≠ .stuck := ⟨n, h⟩
  unfold limR
  rw [dif_pos ex]
  have h2 := ex.choose_spec
  rcases Nat.le_total n ex.choose with q | q
  · have := up (ex.choose - n) n h
    rw [← this]; congr 1; omega
  · have := up (n - ex.choose) _ h2
    rw [← this]; congr 1; omega
theorem okP_ne {α : Type} {r : Res α} {Q : α → Store → Prop} (h : OkP r Q) : r ≠ .stuck := fun z => by obtain ⟨_, _, e, _⟩ := h.ex; rw [z] at e; cases e
/-- while: an invariant with a measure -/
theorem loop_inv {c : Env → Store → Res Bool} {b : Env → Store → Res (Fl × Env)} {Q : Fl × Env → Store → Prop} (I : Nat → Env → Store → Prop) {m : Nat} {r : Env} {st : Store} (h0 : I m r st)
    (hs : ∀ m r st, I m r st → OkP (c r st) fun k st1 => if k = true then OkP (b r st1) fun fr st2 => (match fr.1 with
      | .nx => ∃ m', m' < m ∧ I m' fr.2 st2
      | .ct => ∃ m', m' < m ∧ I m' fr.2 st2
      | .bk => Q (.nx, fr.2) st2
      | .rt v => Q (.rt v, fr.2) st2) else Q (.nx, r) st1) : OkP (limR fun n => loopW c b n r st) Q := by
  have main : ∀ (m : Nat) (r : Env) (st : Store), I m r st → ∀ N, m < N → OkP (loopW c b N r st) Q := by
    intro m
    induction m using Nat.strongRecOn with
    | ind m ih =>
      intro r st hI N hN
      cases N with
      | zero => omega
      | succ N =>
        rw [loopW]
        refine (hs m r st hI).bind fun k st1 hk => ?_
        cases k with
        | false => simp only [Bool.false_eq_true, if_false] at hk ⊢; exact okP_ok.mpr hk
        | true =>
          simp only [if_true] at hk ⊢
          refine hk.bind fun fr st2 q => ?_
          cases fr with
          | mk fl r2 =>
            cases fl with
            | nx =>
              obtain ⟨m', h1, h2⟩ := q
              exact ih m' h1 r2 st2 h2 N (by omega)
            | ct =>
              obtain ⟨m', h1, h2⟩ := q
              exact ih m' h1 r2 st2 h2 N (by omega)
            | bk => exact okP_ok.mpr q
            | rt v => exact okP_ok.mpr q
  have := main m r st h0 (m + 1) (Nat.lt_succ_self _)
  rw [limR_of (g := fun n => loopW c b n r st) (fun n hn => loopW_more n r st hn) (okP_ne this)]
  exact this
/-! ### comprehensions -/
/-- a comprehension, with an invariant: acc is what has been gathered -/
theorem comp_inv {elt : Env → Store → Res D} {tst : Env → Store → Res Bool} {tg : Tg} {r : Env} {src : Src} {all : List D} {Q : List D → Store → Prop} (I : Nat → List D → Store → Prop) {st : Store} (h0 : I 0 [] st) (hok : ∀ i acc st, I i acc st → srcOk st all src = true)
    (hs : ∀ i d acc st, all[i]? = some d → I i acc st → ∃ r', asgT tg d r = some r' ∧ OkP (tst r' st) fun b st1 => if b = true then OkP (elt r' st1) fun x st2 => I (i + 1) (acc ++ [x]) st2 else I (i + 1) acc st1)
    (hd : ∀ acc st, I all.length acc st → Q acc st) : OkP (goComp elt tst tg r src all all st) Q := by
  have main : ∀ (n i : Nat) (acc : List D) (st : Store), n = all.length - i → i ≤ all.length → I i acc st → OkP (goComp elt tst tg r src all (all.drop i) st) fun xs st => Q (acc ++ xs) st := by
    intro n
    induction n with
    | zero =>
      intro i acc st hn hi hI
      have e : i = all.length := by omega
      subst e
      rw [List.drop_length, goComp, if_pos (hok _ _ _ hI), okP_ok]
      rw [List.append_nil]; exact hd _ _ hI
    | succ n ih =>
      intro i acc st hn hi hI
      have hlt : i < all.length := by omega
      rw [List.drop_eq_getElem_cons hlt]
      obtain ⟨r', e1, e2⟩ := hs i _ acc st (List.getElem?_eq_getElem hlt) hI
      rw [goComp, if_pos (hok _ _ _ hI)]
      simp only [e1]
      refine e2.bind fun b st1 hb => ?_
      cases b with
      | false => simp only [Bool.false_eq_true, if_false] at hb ⊢; exact ih (i + 1) acc st1 (by omega) hlt hb
      | true =>
        simp only [if_true] at hb ⊢
        refine hb.bind fun x st2 hx => ?_
        refine (ih (i + 1) (acc ++ [x]) st2 (by omega) hlt hx).bind fun xs st3 hq => ?_
        rw [okP_ok]
        rw [List.append_assoc] at hq; exact hq
  have := main all.length 0 [] st rfl (Nat.zero_le _) h0
  rw [List.drop_zero] at this
  exact this.imp fun xs st q => by simpa using q
/-- a comprehension that leaves the store -/
theorem comp_pure {elt : Env → Store → Res D} {tst : Env → Store → Res Bool} {tg : Tg} {r : Env} {src : Src} {all : List D} {st : Store} (p : D → Bool) (g : D → D) (hok : srcOk st all src = true)
    (hs : ∀ d, d ∈ all → ∃ r', asgT tg d r = some r' ∧ tst r' st = .ok (p d) st ∧ (p d = true → elt r' st = .ok (g d) st)) : goComp elt tst tg r src all all st = .ok ((all.filter p).map g) st := by
  have main : ∀ ds : List D, (∀ d, d ∈ ds → d ∈ all) → goComp elt tst tg r src all ds st = .ok ((ds.filter p).map g) st := by
    intro ds
    induction ds with
    | nil => intro _; rw [goComp, if_pos hok]; rfl
    | cons d ds ih =>
      intro hm
      obtain ⟨r', e1, e2, e3⟩ := hs d (hm d (List.mem_cons_self ..))
      rw [goComp, if_pos hok]
      simp only [e1, e2, Res.bind_ok]
      have := ih fun x hx => hm x (List.mem_cons_of_mem _ hx)
      cases hp : p d with
      | false => simp only [Bool.false_eq_true, if_false]; rw [this, List.filter_cons_of_neg (by simp [hp])]
      | true =>
        simp only [if_true]
        rw [e3 hp, Res.bind_ok, this, Res.bind_ok, List.filter_cons_of_pos hp, List.map_cons]
  exact main all fun d h => h
end WT

set_option Elab.async false
set_option linter.all false
set_option maxRecDepth 100000
set_option maxHeartbeats 4000000
/-! WTn: evaluating pure programs by simp; data. -/
namespace WT
open PySem
section
variable (F : Fun) (r : Env) (st : Store)
@[simp] theorem ev_var (i : Nat) : den F (.var i) r st = (match r[i]? with | some (some d) => .ok d st | _ => .stuck) := by rw [den] <;> rfl
@[simp] theorem ev_int (i : Int) : den F (.int i) r st = .ok (.int i) st := by rw [den]
@[simp] theorem ev_bl (b : Bool) : den F (.bl b) r st = .ok (.bl b) st := by rw [den]
@[simp] theorem ev_non : den F .non r st = .ok .non st := by rw [den]
@[simp] theorem ev_str (x : Str) : den F (.str x) r st = .ok (.str x) st := by rw [den]
@[simp] theorem ev_tup (es : List E) : den F (.tup es) r st = (denL F es r st).bind fun ds st => if ds.length ≤ sizeLine then .ok (.tup ds) st else .stuck := by rw [den]
@[simp] theorem ev_lst (al : Bool) (es : List E) : den F (.lst al es) r st = (denL F es r st).bind fun ds st => newL al ds st := by rw [den]
@[simp] theorem ev_dnew (tk : Bool) : den F (.dnew tk) r st = .ok (.loc st.length) (st ++ [if tk then .dT [] else .dK []]) := by rw [den]
@[simp] theorem ev_disp (es : List E) : den F (.disp es) r st = (denL F es r st).bind fun ds st => (match dispOf ds with
    | some kvs => if kvs.length ≤ 15 then .ok (.loc st.length) (st ++ [.dK (putAll [] kvs)]) else .stuck
    | none => .stuck) := by rw [den] <;> rfl
@[simp] theorem ev_bin (al : Bool) (op : Operator) (a b : E) : den F (.bin al op a b) r st = (den F a r st).bind fun x st => (den F b r st).bind fun y st => binD al op x y st := by rw [den]
@[simp] theorem ev_neg (a : E) : den F (.neg a) r st = (den F a r st).bind fun x st => (match x with | .int i => .ok (.int (-i)) st | _ => .stuck) := by rw [den] <;> rfl
@[simp] theorem ev_cmp (op : CmpOp) (a b : E) : den F (.cmp op a b) r st = (den F a r st).bind fun x st => (den F b r st).bind fun y st => optR ((cmpD op x y st).map D.bl) st := by rw [den]
@[simp] theorem ev_chain (op op2 : CmpOp) (a b c : E) : den F (.chain op op2 a b c) r st = (den F a r st).bind fun x st => (den F b r st).bind fun y st => (optR (cmpD op x y st) st).bind fun k st =>
      if k then (den F c r st).bind fun z st => optR ((cmpD op2 y z st).map D.bl) st else .ok (.bl false) st := by rw [den]
@[simp] theorem ev_and (a b : E) : den F (.and a b) r st = (den F a r st).bind fun x st => (optR (truth st x) st).bind fun k st => if k then den F b r st else .ok x st := by rw [den]
@[simp] theorem ev_or (a b : E) : den F (.or a b) r st = (den F a r st).bind fun x st => (optR (truth st x) st).bind fun k st => if k then .ok x st else den F b r st := by rw [den]
@[simp] theorem ev_not (a : E) : den F (.not a) r st = (den F a r st).bind fun x st => optR ((truth st x).map fun k => D.bl (!k)) st := by rw [den]
@[simp] theorem ev_ite (c a b : E) : den F (.ite c a b) r st = (den F c r st).bind fun x st => (optR (truth st x) st).bind fun k st => if k then den F a r st else den F b r st := by rw [den]
@[simp] theorem ev_ix (a b : E) : den F (.ix a b) r st = (den F a r st).bind fun x st => (den F b r st).bind fun y st => ixD x y st := by rw [den]
@[simp] theorem ev_sl (al : Bool) (a lo hi : E) : den F (.sl al a lo hi) r st = (den F a r st).bind fun x st => (den F lo r st).bind fun l st => if partOk lo l then (den F hi r st).bind fun h st => if partOk hi h then slD al x l h st else .stuck else .stuck := by rw [den]
@[simp] theorem ev_rev (al : Bool) (a : E) : den F (.rev al a) r st = (den F a r st).bind fun x st => revD al x st := by rw [den]
@[simp] theorem ev_call (f : Str) (es : List E) : den F (.call f es) r st = (denL F es r st).bind fun ds st => F f ds st := by rw [den]
@[simp] theorem ev_bi (al : Bool) (b : Bi) (es : List E) : den F (.bi al b es) r st = (denL F es r st).bind fun ds st => biD al b ds st := by rw [den]
@[simp] theorem ev_mt (m : Mt) (o : E) (es : List E) : den F (.mt m o es) r st = (den F o r st).bind fun x st => if mtOk m x st then (denL F es r st).bind fun ds st => mtD m x ds st else .stuck := by rw [den]
@[simp] theorem ev_comp (al : Bool) (elt : E) (tg : Tg) (k : ItK) (es ifs : List E) (own : List Nat) : den F (.comp al elt tg k es ifs own) r st = (denL F es r st).bind fun ds st => (optR (srcOf k ds st) st).bind fun src st => (optR (srcItems st src) st).bind fun all st =>
      (goComp (den F elt) (denIf F ifs) tg (wipeE r own) src all all st).safe.bind fun xs st => newL al xs st := by rw [den]
@[simp] theorem ev_nil : denL F [] r st = .ok [] st := by rw [denL]
@[simp] theorem ev_cons (e : E) (es : List E) : denL F (e :: es) r st = (den F e r st).bind fun x st => (denL F es r st).bind fun xs st => .ok (x :: xs) st := by rw [denL]
@[simp] theorem ev_ifn : denIf F [] r st = .ok true st := by rw [denIf]
@[simp] theorem ev_ifc (e : E) (es : List E) : denIf F (e :: es) r st = (den F e r st).bind fun x st => (optR (truth st x) st).bind fun k st => if k then denIf F es r st else .ok false st := by rw [denIf]
@[simp] theorem ev_asg (tg : Tg) (e : E) : denS F (.asg tg e) r st = (den F e r st).bind fun d st => (optR (asgT tg d r) st).bind fun r st => .ok (.nx, r) st := by rw [denS]
@[simp] theorem ev_aug (i : Nat) (op : Operator) (e : E) : denS F (.aug i op e) r st = (match r[i]? with
    | some (some x) => (den F e r st).bind fun y st => (augD op x y st).bind fun z st => .ok (.nx, r.set i (some z)) st
    | _ => .stuck) := by rw [denS] <;> rfl
@[simp] theorem ev_setIx (o i v : E) : denS F (.setIx o i v) r st = (den F v r st).bind fun v st => (den F o r st).bind fun o st => (den F i r st).bind fun i st => (match setD o i v st with
    | some st => .ok (.nx, r) st
    | none => .stuck) := by rw [denS] <;> rfl
@[simp] theorem ev_augIx (o i v : E) (op : Operator) : denS F (.augIx o i op v) r st = (den F o r st).bind fun o st => (den F i r st).bind fun i st => (ixD o i st).bind fun x st => (den F v r st).bind fun y st => (augD op x y st).bind fun z st => (match setD o i z st with
    | some st => .ok (.nx, r) st
    | none => .stuck) := by rw [denS] <;> rfl
@[simp] theorem ev_ex (e : E) : denS F (.ex e) r st = (den F e r st).bind fun _ st => .ok (.nx, r) st := by rw [denS]
@[simp] theorem ev_ret (e : E) : denS F (.ret e) r st = (den F e r st).bind fun d st => .ok (.rt d, r) st := by rw [denS]
@[simp] theorem ev_retN : denS F .retN r st = .ok (.rt .non, r) st := by rw [denS]
@[simp] theorem ev_if (c : E) (a b : List S) : denS F (.ite c a b) r st = (den F c r st).bind fun x st => (optR (truth st x) st).bind fun k st => if k then denSs F a r st else denSs F b r st := by rw [denS]
@[simp] theorem ev_loop (c : E) (b : List S) : denS F (.loop c b) r st = limR fun n => loopW (fun r st => (den F c r st).bind fun x st => optR (truth st x) st) (denSs F b) n r st := by rw [denS]
@[simp] theorem ev_for (tg : Tg) (k : ItK) (es : List E) (b : List S) : denS F (.for_ tg k es b) r st = (denL F es r st).bind fun ds st => (optR (srcOf k ds st) st).bind fun src st => if fixedS src then (optR (srcItems st src) st).bind fun ds st => loopF tg (denSs F b) ds r st
      else limR fun n => loopL tg (denSs F b) src n 0 r st := by rw [denS]
@[simp] theorem ev_brk : denS F .brk r st = .ok (.bk, r) st := by rw [denS]
@[simp] theorem ev_cont : denS F .cont r st = .ok (.ct, r) st := by rw [denS]
@[simp] theorem ev_pass : denS F .pass r st = .ok (.nx, r) st := by rw [denS]
@[simp] theorem ev_snil : denSs F [] r st = .ok (.nx, r) st := by rw [denSs]
/-- what follows a statement -/
noncomputable def andThen (F : Fun) (ss : List S) (fr : Fl × Env) (st : Store) : Res (Fl × Env) := match fr.1 with
  | .nx => denSs F ss fr.2 st
  | .bk => .ok (.bk, fr.2) st
  | .ct => .ok (.ct, fr.2) st
  | .rt d => .ok (.rt d, fr.2) st
@[simp] theorem ev_scons (s : S) (ss : List S) : denSs F (s :: ss) r st = (denS F s r st).bind (andThen F ss) := by rw [denSs] <;> rfl
@[simp] theorem then_nx (ss : List S) (r : Env) : andThen F ss (.nx, r) st = denSs F ss r st := by unfold andThen; exact Eq.refl _
@[simp] theorem then_rt (ss : List S) (r : Env) (d : D) : andThen F ss (.rt d, r) st = .ok (.rt d, r) st := by unfold andThen; exact Eq.refl _
@[simp] theorem then_bk (ss : List S) (r : Env) : andThen F ss (.bk, r) st = .ok (.bk, r) st := by unfold andThen; exact Eq.refl _
@[simp] theorem then_ct (ss : List S) (r : Env) : andThen F ss (.ct, r) st = .ok (.ct, r) st := by unfold andThen; exact Eq.refl _
@[simp] theorem end_rt (st0 : Store) (d : D) : endOf st0 (.rt d, r) st = finish st0 d st := by unfold endOf; exact Eq.refl _
@[simp] theorem end_nx (st0 : Store) : endOf st0 (.nx, r) st = finish st0 .non st := by unfold endOf; exact Eq.refl _
@[simp] theorem optR_none {α : Type} : optR (none : Option α) st = .stuck := rfl
@[simp] theorem finish_self (d : D) : finish st d st = .ok d st := finish_len rfl
@[simp] theorem newL_f (ds : List D) (h : ds.length ≤ sizeLine) : newL false ds st = .ok (.lst ds) st := by unfold newL; rw [if_pos h]; rfl
theorem newL_t (ds : List D) (h : ds.length ≤ sizeLine) : newL true ds st = .ok (.loc st.length) (st ++ [.lst ds]) := by unfold newL; rw [if_pos h]; rfl
@[simp] theorem asg_nm (i : Nat) (d : D) : asgT (.nm i) d r = some (r.set i (some d)) := by rw [asgT]
@[simp] theorem asg_tp (ts : List Tg) (ds : List D) : asgT (.tp ts) (.tup ds) r = asgTs ts ds r := by rw [asgT]
@[simp] theorem asg_nil : asgTs [] [] r = some r := by rw [asgTs]
@[simp] theorem asg_cons (t : Tg) (ts : List Tg) (d : D) (ds : List D) : asgTs (t :: ts) (d :: ds) r = (asgT t d r).bind fun r => asgTs ts ds r := by rw [asgTs]; cases asgT t d r <;> rfl
@[simp] theorem view_tupS (ds : List D) : view st (.tup ds) = .tup ds := rfl
@[simp] theorem view_lstS (ds : List D) : view st (.lst ds) = .lst ds := rfl
@[simp] theorem view_intS (i : Int) : view st (.int i) = .int i := rfl
@[simp] theorem view_strS (i : Str) : view st (.str i) = .str i := rfl
@[simp] theorem view_blS (i : Bool) : view st (.bl i) = .bl i := rfl
@[simp] theorem truth_bl (b : Bool) : truth st (.bl b) = some b := rfl
@[simp] theorem truth_int (b : Int) : truth st (.int b) = some (b != 0) := rfl
end
/-- a list or a tuple of few things -/
theorem few {n : Nat} (h : n ≤ 1000) : n ≤ sizeLine := by rw [sizeLine_eq]; omega
/-! ### data: no truth value, no none within: == is = -/
mutual
def D.flat : D → Bool
  | .int _ => true | .str _ => true
  | .tup xs => D.flatL xs | .lst xs => D.flatL xs
  | _ => false
def D.flatL : List D → Bool
  | [] => true
  | x :: xs => D.flat x && D.flatL xs
end
mutual
theorem eqv_flat : ∀ (a b : D), a.flat = true → b.flat = true → (D.eqv a b = true ↔ a = b)
  | .int i, b, _, hb => by
    cases b <;> first | (simp [D.flat] at hb; done) | (simp [D.eqv, D.py, PyData.eqv])
  | .str i, b, _, hb => by
    cases b <;> first | (simp [D.flat] at hb; done) | (simp [D.eqv, D.py, PyData.eqv])
  | .tup xs, b, ha, hb => by
    simp only [D.flat] at ha
    cases b with
    | tup ys =>
      simp only [D.flat] at hb
      simp only [D.eqv, D.py, PyData.eqv, D.tup.injEq]
      exact eqv_flatL xs ys ha hb
    | _ => first | (simp [D.flat] at hb; done) | (simp [D.eqv, D.py, PyData.eqv])
  | .lst xs, b, ha, hb => by
    simp only [D.flat] at ha
    cases b with
    | lst ys =>
      simp only [D.flat] at hb
      simp only [D.eqv, D.py, PyData.eqv, D.lst.injEq]
      exact eqv_flatL xs ys ha hb
    | _ => first | (simp [D.flat] at hb; done) | (simp [D.eqv, D.py, PyData.eqv])
  | .non, _, ha, _ => by simp [D.flat] at ha
  | .bl _, _, ha, _ => by simp [D.flat] at ha
  | .scr _, _, ha, _ => by simp [D.flat] at ha
  | .loc _, _, ha, _ => by simp [D.flat] at ha
theorem eqv_flatL : ∀ (a b : List D), D.flatL a = true → D.flatL b = true → (PyData.eqvAll (D.pyL a) (D.pyL b) = true ↔ a = b)
  | [], [], _, _ => by simp [D.pyL, PyData.eqvAll]
  | [], _ :: _, _, _ => by simp [D.pyL, PyData.eqvAll]
  | _ :: _, [], _, _ => by simp [D.pyL, PyData.eqvAll]
  | x :: xs, y :: ys, ha, hb => by
    simp only [D.flatL, Bool.and_eq_true] at ha hb
    have h1 := eqv_flat x y ha.1 hb.1
    have h2 := eqv_flatL xs ys ha.2 hb.2
    simp only [D.eqv] at h1
    simp only [D.pyL, PyData.eqvAll, Bool.and_eq_true, h1, h2, List.cons.injEq]
end
theorem eqv_dec {a b : D} (ha : a.flat = true) (hb : b.flat = true) : D.eqv a b = decide (a = b) := by
  have := eqv_flat a b ha hb
  by_cases h : a = b
  · rw [this.mpr h, decide_eq_true h]
  · rw [decide_eq_false h]; exact Bool.eq_false_iff.mpr fun z => h (this.mp z)
mutual
theorem data_mono : ∀ (d : D) (j k : Nat), j ≤ k → d.data j = true → d.data k = true
  | .non, _, _, _, h => h
  | .bl _, _, _, _, h => h
  | .int _, _, _, _, h => h
  | .str _, _, _, _, h => h
  | .loc _, _, _, _, h => by simp [D.data] at h
  | .scr _, _, _, _, h => by simp [D.data] at h
  | .tup xs, 0, _, _, h => by simp [D.data] at h
  | .lst xs, 0, _, _, h => by simp [D.data] at h
  | .tup xs, j + 1, 0, hl, _ => by omega
  | .lst xs, j + 1, 0, hl, _ => by omega
  | .tup xs, j + 1, k + 1, hl, h => by simp only [D.data] at h ⊢; exact data_monoL xs j k (by omega) h
  | .lst xs, j + 1, k + 1, hl, h => by simp only [D.data] at h ⊢; exact data_monoL xs j k (by omega) h
theorem data_monoL : ∀ (ds : List D) (j k : Nat), j ≤ k → D.dataL ds j = true → D.dataL ds k = true
  | [], _, _, _, _ => rfl
  | x :: xs, j, k, hl, h => by
    simp only [D.dataL, Bool.and_eq_true] at h ⊢
    exact ⟨data_mono x j k hl h.1, data_monoL xs j k hl h.2⟩
end
theorem dataL_all {ds : List D} {k : Nat} (h : ∀ d, d ∈ ds → d.data k = true) : D.dataL ds k = true := by
  induction ds with
  | nil => rfl
  | cons d ds ih => simp only [D.dataL, h d (List.mem_cons_self ..), ih fun x hx => h x (List.mem_cons_of_mem _ hx), Bool.and_self]
theorem flatL_all {ds : List D} (h : ∀ d, d ∈ ds → d.flat = true) : D.flatL ds = true := by
  induction ds with
  | nil => rfl
  | cons d ds ih => simp only [D.flatL, h d (List.mem_cons_self ..), ih fun x hx => h x (List.mem_cons_of_mem _ hx), Bool.and_self]
/-! ### repr -/
mutual
/-- its ints are short, no text within -/
def D.short : D → Bool
  | .non => true | .bl _ => true | .int i => decide (i.natAbs < 10 ^ 12)
  | .tup xs => D.shortL xs | .lst xs => D.shortL xs
  | _ => false
def D.shortL : List D → Bool
  | [] => true
  | x :: xs => D.short x && D.shortL xs
end
mutual
def D.sz : D → Nat
  | .tup xs => D.szL xs | .lst xs => D.szL xs
  | .int _ => 40
  | _ => 0
def D.szL : List D → Nat
  | [] => 0
  | x :: xs => D.sz x + 1 + D.szL xs
end
theorem log2_short {i : Int} (h : i.natAbs < 10 ^ 12) : i.natAbs.log2 < 40 := by
  by_cases h0 : i.natAbs = 0
  · rw [h0]; decide
  · exact (Nat.log2_lt h0).mpr (by omega)
mutual
theorem short_show : ∀ d : D, d.short = true → d.py.showable = true ∧ d.py.leavesShort 13 = true ∧ d.py.weight ≤ d.sz
  | .non, _ => ⟨rfl, rfl, Nat.le_refl _⟩
  | .bl _, _ => ⟨rfl, rfl, Nat.le_refl _⟩
  | .int i, h => by
    simp only [D.short, decide_eq_true_eq] at h
    have hl := log2_short h
    refine ⟨?_, ?_, ?_⟩
    · simp only [D.py, PyData.showable, decide_eq_true_eq]; omega
    · simp only [D.py, PyData.leavesShort, decide_eq_true_eq]; exact PyData.shown_int_le h
    · simp only [D.py, PyData.weight, D.sz]; split <;> omega
  | .str _, h => by simp [D.short] at h
  | .loc _, h => by simp [D.short] at h
  | .scr _, h => by simp [D.short] at h
  | .tup xs, h => by
    simp only [D.short] at h
    have q := short_showL xs h
    exact ⟨by simpa [D.py, PyData.showable] using q.1, by simpa [D.py, PyData.leavesShort] using q.2.1, by simpa [D.py, PyData.weight, D.sz] using q.2.2⟩
  | .lst xs, h => by
    simp only [D.short] at h
    have q := short_showL xs h
    exact ⟨by simpa [D.py, PyData.showable] using q.1, by simpa [D.py, PyData.leavesShort] using q.2.1, by simpa [D.py, PyData.weight, D.sz] using q.2.2⟩
theorem short_showL : ∀ ds : List D, D.shortL ds = true → PyData.showableAll (D.pyL ds) = true ∧ PyData.leavesShortAll 13 (D.pyL ds) = true ∧ PyData.weightAll (D.pyL ds) ≤ D.szL ds
  | [], _ => ⟨rfl, rfl, Nat.le_refl _⟩
  | x :: xs, h => by
    simp only [D.shortL, Bool.and_eq_true] at h
    have h1 := short_show x h.1
    have h2 := short_showL xs h.2
    refine ⟨?_, ?_, ?_⟩
    · simp only [D.pyL, PyData.showableAll, h1.1, h2.1, Bool.and_self]
    · simp only [D.pyL, PyData.leavesShortAll, h1.2.1, h2.2.1, Bool.and_self]
    · simp only [D.pyL, PyData.weightAll, D.szL]; omega
end
theorem shows_of {d : D} (h1 : d.data 60 = true) (h2 : d.short = true) (h3 : d.sz ≤ 2 ^ 20) : d.shows = true := by
  obtain ⟨q1, q2, q3⟩ := short_show d h2
  unfold D.shows
  rw [h1, q1, Bool.true_and, Bool.true_and, decide_eq_true_eq]
  exact PyData.shown_fits (by decide) (by decide) q2 (by omega)
theorem shortL_all {ds : List D} (h : ∀ d, d ∈ ds → d.short = true) : D.shortL ds = true := by
  induction ds with
  | nil => rfl
  | cons d ds ih => simp only [D.shortL, h d (List.mem_cons_self ..), ih fun x hx => h x (List.mem_cons_of_mem _ hx), Bool.and_self]
theorem szL_all {ds : List D} {b : Nat} (h : ∀ d, d ∈ ds → d.sz ≤ b) : D.szL ds ≤ ds.length * (b + 1) := by
  induction ds with
  | nil => simp [D.szL]
  | cons d ds ih =>
    have h1 := h d (List.mem_cons_self ..)
    have h2 := ih fun x hx => h x (List.mem_cons_of_mem _ hx)
    simp only [D.szL, List.length_cons, Nat.add_mul, Nat.one_mul]
    omega
/-! ### lists of ints -/
abbrev intL (ns : List Int) : List D := ns.map D.int
theorem intsD_map (ns : List Int) : intsD (intL ns) = some ns := by
  induction ns with
  | nil => rfl
  | cons n ns ih => simp only [intL, List.map_cons, intsD]; rw [show List.map D.int ns = intL ns from rfl, ih]; rfl
theorem dataL_ints (ns : List Int) (k : Nat) : D.dataL (intL ns) k = true := dataL_all fun d hd => by
  obtain ⟨i, _, rfl⟩ := List.mem_map.mp hd; rfl
theorem flatL_ints (ns : List Int) : D.flatL (intL ns) = true := flatL_all fun d hd => by
  obtain ⟨i, _, rfl⟩ := List.mem_map.mp hd; rfl
theorem intL_inj {a b : List Int} (h : intL a = intL b) : a = b := by
  induction a generalizing b with
  | nil => cases b <;> first | rfl | cases h
  | cons x a ih =>
    cases b with
    | nil => cases h
    | cons y b =>
      simp only [intL, List.map_cons, List.cons.injEq, D.int.injEq] at h
      rw [h.1, ih h.2]
end WT

set_option Elab.async false
set_option linter.all false
set_option maxRecDepth 100000
set_option maxHeartbeats 4000000
/-! WTo: comprehensions as maps; ranges, zip, enumerate. -/
namespace WT
open PySem
theorem comp_map {α : Type} {elt : Env → Store → Res D} {tst : Env → Store → Res Bool} {tg : Tg} {r : Env} {src : Src} {st : Store} (l : List α) (e : α → D) (p : α → Bool) (g : α → D) (hok : srcItems st src = some (l.map e))
    (hs : ∀ x, x ∈ l → ∃ r', asgT tg (e x) r = some r' ∧ tst r' st = .ok (p x) st ∧ (p x = true → elt r' st = .ok (g x) st)) : goComp elt tst tg r src (l.map e) (l.map e) st = .ok ((l.filter p).map g) st := by
  have ok : srcOk st (l.map e) src = true := by unfold srcOk; rw [hok]; simp
  have main : ∀ l' : List α, (∀ d, d ∈ l' → d ∈ l) → goComp elt tst tg r src (l.map e) (l'.map e) st = .ok ((l'.filter p).map g) st := by
    intro l'
    induction l' with
    | nil => intro _; rw [List.map_nil, goComp, if_pos ok]; rfl
    | cons d ds ih =>
      intro hm
      obtain ⟨r', e1, e2, e3⟩ := hs d (hm d (List.mem_cons_self ..))
      rw [List.map_cons, goComp, if_pos ok]
      simp only [e1, e2, Res.bind_ok]
      have := ih fun x hx => hm x (List.mem_cons_of_mem _ hx)
      cases hp : p d with
      | false => simp only [Bool.false_eq_true, if_false]; rw [this, List.filter_cons_of_neg (by simp [hp])]
      | true =>
        simp only [if_true]
        rw [e3 hp, Res.bind_ok, this, Res.bind_ok, List.filter_cons_of_pos hp, List.map_cons]
  exact main l fun d h => h
/-- a comprehension of a value list, nothing written -/
theorem ev_cmap {α : Type} {F : Fun} {elt : E} {tg : Tg} {k : ItK} {es ifs : List E} {own : List Nat} {r : Env} {st : Store} (ds : List D) (src : Src) (l : List α) (e : α → D) (p : α → Bool) (g : α → D) (h1 : denL F es r st = .ok ds st) (h2 : srcOf k ds st = some src) (h3 : srcItems st src = some (l.map e))
    (hl : l.length ≤ sizeLine) (hs : ∀ x, x ∈ l → ∃ r', asgT tg (e x) (wipeE r own) = some r' ∧ denIf F ifs r' st = .ok (p x) st ∧ (p x = true → den F elt r' st = .ok (g x) st)) :
    den F (.comp false elt tg k es ifs own) r st = .ok (.lst ((l.filter p).map g)) st := by
  rw [ev_comp, h1, Res.bind_ok, h2, optR_some, Res.bind_ok, h3, optR_some, Res.bind_ok, comp_map l e p g h3 hs]
  simp only [Res.safe, Res.bind_ok]
  refine newL_f st _ ?_
  rw [List.length_map]
  exact Nat.le_trans (List.length_filter_le _ _) hl
/-- .. with no test -/
theorem ev_cmap1 {α : Type} {F : Fun} {elt : E} {tg : Tg} {k : ItK} {es : List E} {own : List Nat} {r : Env} {st : Store} (ds : List D) (src : Src) (l : List α) (e : α → D) (g : α → D) (h1 : denL F es r st = .ok ds st) (h2 : srcOf k ds st = some src) (h3 : srcItems st src = some (l.map e))
    (hl : l.length ≤ sizeLine) (hs : ∀ x, x ∈ l → ∃ r', asgT tg (e x) (wipeE r own) = some r' ∧ den F elt r' st = .ok (g x) st) :
    den F (.comp false elt tg k es [] own) r st = .ok (.lst (l.map g)) st := by
  have := ev_cmap (F := F) (elt := elt) (tg := tg) (k := k) (es := es) (ifs := []) (own := own) (r := r) (st := st) ds src l e (fun _ => true) g h1 h2 h3 hl fun x hx => by
    obtain ⟨r', q1, q2⟩ := hs x hx
    exact ⟨r', q1, by rw [ev_ifn], fun _ => q2⟩
  rw [this, List.filter_eq_self.mpr fun _ _ => rfl]
theorem range0 (n : Nat) : rangeL 0 (n : Int) = (List.range n).map fun i => D.int (i : Nat) := by
  unfold rangeL
  simp
theorem in62 {n : Nat} (h : n < 2 ^ 62) : In62 ((n : Nat) : Int) := by unfold In62; omega
theorem in63 {n : Nat} (h : n < 2 ^ 62) : In63 ((n : Nat) : Int) := by unfold In63; omega
theorem srcOf_rng {st : Store} (n : Nat) (h : n < 2 ^ 62) : srcOf .rng [.int (n : Nat)] st = some (.rng 0 (n : Nat)) := by
  have e : srcOf .rng [.int (n : Nat)] st = if In62 ((n : Nat) : Int) then some (.rng 0 ((n : Nat) : Int)) else none := rfl
  rw [e, if_pos (in62 h)]
theorem items_rng {st : Store} (n : Nat) : srcItems st (.rng 0 (n : Nat)) = some ((List.range n).map fun i => D.int (i : Nat)) := by
  show some (rangeL 0 (n : Int)) = _
  rw [range0]
/-- .. over range(n) -/
theorem ev_crng {F : Fun} {elt : E} {i : Nat} {e : E} {own : List Nat} {r : Env} {st : Store} (n : Nat) (g : Nat → D) (h1 : den F e r st = .ok (.int (n : Nat)) st) (hl : n ≤ sizeLine) (hs : ∀ x, x < n → den F elt ((wipeE r own).set i (some (.int (x : Nat)))) st = .ok (g x) st) :
    den F (.comp false elt (.nm i) .rng [e] [] own) r st = .ok (.lst ((List.range n).map g)) st :=
  ev_cmap1 [.int (n : Nat)] (.rng 0 (n : Nat)) (List.range n) (fun i => .int (i : Nat)) g (by simp [h1]) (srcOf_rng n (by rw [sizeLine_eq] at hl; omega)) (items_rng n) (by rw [List.length_range]; exact hl) fun x hx => ⟨_, asg_nm _ _ _, hs x (List.mem_range.mp hx)⟩
/-- .. with a test -/
theorem ev_crngf {F : Fun} {elt t : E} {i : Nat} {e : E} {own : List Nat} {r : Env} {st : Store} (n : Nat) (p : Nat → Bool) (g : Nat → D) (h1 : den F e r st = .ok (.int (n : Nat)) st) (hl : n ≤ sizeLine) (hs : ∀ x, x < n → (den F t ((wipeE r own).set i (some (.int (x : Nat)))) st).bind (fun x st => optR (truth st x) st) = .ok (p x) st ∧ (p x = true → den F elt ((wipeE r own).set i (some (.int (x : Nat)))) st = .ok (g x) st)) :
    den F (.comp false elt (.nm i) .rng [e] [t] own) r st = .ok (.lst (((List.range n).filter p).map g)) st :=
  ev_cmap [.int (n : Nat)] (.rng 0 (n : Nat)) (List.range n) (fun i => .int (i : Nat)) p g (by simp [h1]) (srcOf_rng n (by rw [sizeLine_eq] at hl; omega)) (items_rng n) (by rw [List.length_range]; exact hl) fun x hx => by
    obtain ⟨q1, q2⟩ := hs x (List.mem_range.mp hx)
    refine ⟨_, asg_nm _ _ _, ?_, q2⟩
    rw [ev_ifc, ← Res.bind_assoc, q1]
    cases p x <;> rfl
/-- .. over a value -/
theorem ev_cval {α : Type} {F : Fun} {elt : E} {i : Nat} {e : E} {own : List Nat} {r : Env} {st : Store} (d : D) (l : List α) (f : α → D) (g : α → D) (h1 : den F e r st = .ok d st) (h2 : seqS st d = some (l.map f)) (hl : l.length ≤ sizeLine) (hs : ∀ x, x ∈ l → den F elt ((wipeE r own).set i (some (f x))) st = .ok (g x) st) :
    den F (.comp false elt (.nm i) .val [e] [] own) r st = .ok (.lst (l.map g)) st :=
  ev_cmap1 [d] (.val d) l f g (by simp [h1]) (by show (seqS st d).map (fun _ => Src.val d) = _; rw [h2]; rfl) h2 hl fun x hx => ⟨_, asg_nm _ _ _, hs x hx⟩
theorem ev_cvalf {α : Type} {F : Fun} {elt t : E} {i : Nat} {e : E} {own : List Nat} {r : Env} {st : Store} (d : D) (l : List α) (f : α → D) (p : α → Bool) (g : α → D) (h1 : den F e r st = .ok d st) (h2 : seqS st d = some (l.map f)) (hl : l.length ≤ sizeLine)
    (hs : ∀ x, x ∈ l → (den F t ((wipeE r own).set i (some (f x))) st).bind (fun x st => optR (truth st x) st) = .ok (p x) st ∧ (p x = true → den F elt ((wipeE r own).set i (some (f x))) st = .ok (g x) st)) :
    den F (.comp false elt (.nm i) .val [e] [t] own) r st = .ok (.lst ((l.filter p).map g)) st :=
  ev_cmap [d] (.val d) l f p g (by simp [h1]) (by show (seqS st d).map (fun _ => Src.val d) = _; rw [h2]; rfl) h2 hl fun x hx => by
    obtain ⟨q1, q2⟩ := hs x hx
    refine ⟨_, asg_nm _ _ _, ?_, q2⟩
    rw [ev_ifc, ← Res.bind_assoc, q1]
    cases p x <;> rfl
theorem zip2_map {α β : Type} (f : α → D) (g : β → D) : ∀ (xs : List α) (ys : List β), zip2 (xs.map f) (ys.map g) = (xs.zip ys).map fun p => .tup [f p.1, g p.2]
  | [], ys => by simp [zip2]
  | x :: xs, [] => by simp [zip2]
  | x :: xs, y :: ys => by simp only [List.map_cons, zip2, List.zip_cons_cons, zip2_map f g xs ys]
/-- .. over zip of two -/
theorem ev_czip {α β : Type} {F : Fun} {elt : E} {i j : Nat} {e e2 : E} {own : List Nat} {r : Env} {st : Store} (d d2 : D) (xs : List α) (ys : List β) (f : α → D) (f2 : β → D) (g : α × β → D) (h1 : den F e r st = .ok d st) (h2 : den F e2 r st = .ok d2 st) (h3 : seqOf st d = some (xs.map f)) (h4 : seqOf st d2 = some (ys.map f2))
    (hl : xs.length ≤ sizeLine) (hs : ∀ p, p ∈ xs.zip ys → den F elt (((wipeE r own).set i (some (f p.1))).set j (some (f2 p.2))) st = .ok (g p) st) :
    den F (.comp false elt (.tp [.nm i, .nm j]) (.zip false) [e, e2] [] own) r st = .ok (.lst ((xs.zip ys).map g)) st :=
  ev_cmap1 [d, d2] (.zip d d2) (xs.zip ys) (fun p => .tup [f p.1, f2 p.2]) g (by simp [h1, h2]) (by show (match seqOf st d, seqOf st d2 with | some _, some _ => some (Src.zip d d2) | _, _ => none) = _; rw [h3, h4])
    (by show (match seqOf st d, seqOf st d2 with | some xs, some ys => some (zip2 xs ys) | _, _ => none) = _; rw [h3, h4]; simp only [zip2_map]) (by rw [List.length_zip]; exact Nat.le_trans (Nat.min_le_left _ _) hl) fun p hp => ⟨_, by simp, hs p hp⟩
theorem enumL_map {α : Type} (f : α → D) : ∀ (xs : List α) (k : Nat), enumL (xs.map f) k = (xs.zipIdx k).map fun p => .tup [.int (p.2 : Nat), f p.1]
  | [], k => by simp [enumL]
  | x :: xs, k => by simp only [List.map_cons, enumL, List.zipIdx_cons, enumL_map f xs (k + 1)]
/-- .. over enumerate -/
theorem ev_cenum {α : Type} {F : Fun} {elt : E} {i j : Nat} {e : E} {own : List Nat} {r : Env} {st : Store} (d : D) (xs : List α) (f : α → D) (g : α × Nat → D) (h1 : den F e r st = .ok d st) (h3 : seqOf st d = some (xs.map f))
    (hl : xs.length ≤ sizeLine) (hs : ∀ p, p ∈ xs.zipIdx → den F elt (((wipeE r own).set i (some (.int (p.2 : Nat)))).set j (some (f p.1))) st = .ok (g p) st) :
    den F (.comp false elt (.tp [.nm i, .nm j]) .enum [e] [] own) r st = .ok (.lst (xs.zipIdx.map g)) st :=
  ev_cmap1 [d] (.enum d) xs.zipIdx (fun p => .tup [.int (p.2 : Nat), f p.1]) g (by simp [h1]) (by show (seqOf st d).map (fun _ => Src.enum d) = _; rw [h3]; rfl)
    (by show (seqOf st d).map (fun xs => enumL xs 0) = _; rw [h3]; simp only [Option.map_some, enumL_map]) (by rw [List.length_zipIdx]; exact hl) fun p hp => ⟨_, by simp, hs p hp⟩
@[simp] theorem seqS_tup (st : Store) (ds : List D) : seqS st (.tup ds) = some ds := rfl
@[simp] theorem seqS_lst (st : Store) (ds : List D) : seqS st (.lst ds) = some ds := rfl
@[simp] theorem seqO_tup (st : Store) (ds : List D) : seqOf st (.tup ds) = some ds := rfl
@[simp] theorem seqO_lst (st : Store) (ds : List D) : seqOf st (.lst ds) = some ds := rfl
@[simp] theorem bi_tuple_lst (al : Bool) (st : Store) (ds : List D) : biD al .tuple [.lst ds] st = .ok (.tup ds) st := rfl
@[simp] theorem bi_tuple_tup (al : Bool) (st : Store) (ds : List D) : biD al .tuple [.tup ds] st = .ok (.tup ds) st := rfl
theorem bi_sum_ints (al : Bool) (st : Store) (ns : List Int) : biD al .sum [.lst (intL ns)] st = .ok (.int ns.sum) st := by
  show optR ((intsD (intL ns)).map fun ns => D.int ns.sum) st = _
  rw [intsD_map]; rfl
end WT

set_option Elab.async false
set_option linter.all false
set_option maxRecDepth 100000
set_option maxHeartbeats 4000000
/-! WTp: comprehensions and loops by rewriting alone. -/
namespace WT
open PySem
/-! ### comprehensions -/
/-- the turns of a comprehension over a list that stands -/
def cM {α : Type} (f : α → Store → Res (Option D)) : List α → Store → Res (List D)
  | [], st => .ok [] st
  | x :: xs, st => (f x st).bind fun o st => (cM f xs st).bind fun r st => .ok (match o with | some d => d :: r | none => r) st
/-- one turn -/
def stepC (elt : Env → Store → Res D) (tst : Env → Store → Res Bool) (tg : Tg) (r : Env) (d : D) (st : Store) : Res (Option D) :=
  (optR (asgT tg d r) st).bind fun r st => (tst r st).bind fun b st => if b = true then (elt r st).bind fun x st => .ok (some x) st else .ok none st
theorem stepC_eq (elt : Env → Store → Res D) (tst : Env → Store → Res Bool) (tg : Tg) (r : Env) (d : D) : stepC elt tst tg r d = fun st => (optR (asgT tg d r) st).bind fun r st => (tst r st).bind fun b st => if b = true then (elt r st).bind fun x st => .ok (some x) st else .ok none st := by
  funext st; rfl
theorem go_fixed {elt : Env → Store → Res D} {tst : Env → Store → Res Bool} {tg : Tg} {r : Env} {src : Src} {all : List D} (h : fixedS src = true) : ∀ (ds : List D) (st : Store), goComp elt tst tg r src all ds st = cM (stepC elt tst tg r) ds st
  | [], st => by
    have ok : srcOk st all src = true := by unfold srcOk; rw [h]; rfl
    rw [goComp, if_pos ok, cM]
  | d :: ds, st => by
    have ok : srcOk st all src = true := by unfold srcOk; rw [h]; rfl
    rw [goComp, if_pos ok, cM, stepC]
    cases e : asgT tg d r with
    | none => simp only [optR_none, Res.bind_stuck]
    | some r' =>
      simp only [optR_some, Res.bind_ok, Res.bind_assoc]
      congr 1
      funext b st
      cases b with
      | true => simp only [if_true, Res.bind_assoc, Res.bind_ok]; congr 1; funext x st; rw [go_fixed h ds st]
      | false => simp only [Bool.false_eq_true, if_false, Res.bind_ok]; rw [go_fixed h ds st]; cases cM (stepC elt tst tg r) ds st <;> simp
/-- a comprehension, behind its arguments -/
def compK (al : Bool) (elt : Env → Store → Res D) (tst : Env → Store → Res Bool) (tg : Tg) (r : Env) (k : ItK) (ds : List D) (st : Store) : Res D :=
  (optR (srcOf k ds st) st).bind fun src st => (optR (srcItems st src) st).bind fun all st => (goComp elt tst tg r src all all st).safe.bind fun xs st => newL al xs st
theorem ev_comp2 (F : Fun) (r : Env) (st : Store) (al : Bool) (elt : E) (tg : Tg) (k : ItK) (es ifs : List E) (own : List Nat) : den F (.comp al elt tg k es ifs own) r st = (denL F es r st).bind fun ds st => compK al (den F elt) (denIf F ifs) tg (wipeE r own) k ds st := by
  rw [ev_comp]; rfl
theorem compK_eq {al : Bool} {elt : Env → Store → Res D} {tst : Env → Store → Res Bool} {tg : Tg} {r : Env} {k : ItK} {ds : List D} {st : Store} {src : Src} {all : List D} (h1 : srcOf k ds st = some src) (h2 : srcItems st src = some all) (h3 : fixedS src = true) :
    compK al elt tst tg r k ds st = (cM (stepC elt tst tg r) all st).safe.bind fun xs st => newL al xs st := by
  rw [compK, h1, optR_some, Res.bind_ok, h2, optR_some, Res.bind_ok, go_fixed h3]
section
variable (al : Bool) (elt : Env → Store → Res D) (tst : Env → Store → Res Bool) (tg : Tg) (r : Env) (st : Store)
theorem compK_tup (ds : List D) : compK al elt tst tg r .val [.tup ds] st = (cM (stepC elt tst tg r) ds st).safe.bind fun xs st => newL al xs st := compK_eq rfl rfl rfl
theorem compK_lst (ds : List D) : compK al elt tst tg r .val [.lst ds] st = (cM (stepC elt tst tg r) ds st).safe.bind fun xs st => newL al xs st := compK_eq rfl rfl rfl
theorem compK_scr (ds : List D) : compK al elt tst tg r .val [.scr ds] st = (cM (stepC elt tst tg r) ds st).safe.bind fun xs st => newL al xs st := compK_eq rfl rfl rfl
theorem compK_rng (n : Nat) (h : n ≤ sizeLine) : compK al elt tst tg r .rng [.int (n : Nat)] st = (cM (fun (x : Nat) => stepC elt tst tg r (.int (x : Nat))) (List.range n) st).safe.bind fun xs st => newL al xs st := by
  rw [compK_eq (srcOf_rng n (by rw [sizeLine_eq] at h; omega)) (items_rng n) rfl]
  congr 2
  generalize List.range n = l
  induction l generalizing st with
  | nil => rfl
  | cons x l ih => rw [List.map_cons, cM, cM]; congr 1; funext o st; rw [ih]
theorem cM_map {α β : Type} (f : β → Store → Res (Option D)) (e : α → β) (l : List α) (st : Store) : cM f (l.map e) st = cM (fun x => f (e x)) l st := by
  induction l generalizing st with
  | nil => rfl
  | cons x l ih => rw [List.map_cons, cM, cM]; congr 1; funext o st; rw [ih]
theorem compK_enum {α : Type} (e : α → D) (l : List α) : compK al elt tst tg r .enum [.tup (l.map e)] st = (cM (fun (x : α × Nat) => stepC elt tst tg r (.tup [.int (x.2 : Nat), e x.1])) l.zipIdx st).safe.bind fun xs st => newL al xs st := by
  rw [compK_eq (src := .enum (.tup (l.map e))) rfl (by show some (enumL (l.map e) 0) = _; rw [enumL_map]) rfl, cM_map]
theorem compK_enumL {α : Type} (e : α → D) (l : List α) : compK al elt tst tg r .enum [.lst (l.map e)] st = (cM (fun (x : α × Nat) => stepC elt tst tg r (.tup [.int (x.2 : Nat), e x.1])) l.zipIdx st).safe.bind fun xs st => newL al xs st := by
  rw [compK_eq (src := .enum (.lst (l.map e))) rfl (by show some (enumL (l.map e) 0) = _; rw [enumL_map]) rfl, cM_map]
/-- what is a fixed list of things -/
inductive Seq : D → List D → Prop where
  | tup (ds : List D) : Seq (.tup ds) ds
  | lst (ds : List D) : Seq (.lst ds) ds
theorem Seq.of {d : D} {ds : List D} (h : Seq d ds) (st : Store) : seqOf st d = some ds ∧ d.isLoc = false := by cases h <;> exact ⟨rfl, rfl⟩
theorem compK_zip {α β : Type} (e : α → D) (l : List α) (e2 : β → D) (l2 : List β) {d d2 : D} (h : Seq d (l.map e)) (h2 : Seq d2 (l2.map e2)) : compK al elt tst tg r (.zip false) [d, d2] st = (cM (fun (x : α × β) => stepC elt tst tg r (.tup [e x.1, e2 x.2])) (l.zip l2) st).safe.bind fun xs st => newL al xs st := by
  obtain ⟨q1, q2⟩ := h.of st
  obtain ⟨q3, q4⟩ := h2.of st
  rw [compK_eq (src := .zip d d2) (all := (l.zip l2).map fun x => .tup [e x.1, e2 x.2]) (by show (match seqOf st d, seqOf st d2 with | some _, some _ => some (Src.zip d d2) | _, _ => none) = _; rw [q1, q3]) (by show (match seqOf st d, seqOf st d2 with | some xs, some ys => some (zip2 xs ys) | _, _ => none) = _; rw [q1, q3]; simp only [zip2_map]) (by simp [fixedS, q2, q4]), cM_map]
end
theorem cM_congr {α : Type} {f g : α → Store → Res (Option D)} {l : List α} (h : ∀ x, x ∈ l → ∀ st, f x st = g x st) (st : Store) : cM f l st = cM g l st := by
  induction l generalizing st with
  | nil => rfl
  | cons x l ih =>
    rw [cM, cM, h x (List.mem_cons_self ..)]
    congr 1; funext o st; rw [ih fun y hy => h y (List.mem_cons_of_mem _ hy)]
theorem cM_ok {α : Type} (g : α → D) (l : List α) (st : Store) : cM (fun x st => .ok (some (g x)) st) l st = .ok (l.map g) st := by
  induction l with
  | nil => rfl
  | cons x l ih => rw [cM, Res.bind_ok, ih, Res.bind_ok]; rfl
theorem cM_if {α : Type} (p : α → Prop) [DecidablePred p] (g : α → D) (l : List α) (st : Store) : cM (fun x st => if p x then .ok (some (g x)) st else .ok none st) l st = .ok ((l.filter fun x => decide (p x)).map g) st := by
  induction l with
  | nil => rfl
  | cons x l ih =>
    rw [cM]
    by_cases h : p x
    · rw [if_pos h, Res.bind_ok, ih, Res.bind_ok, List.filter_cons_of_pos (by simpa using h)]; rfl
    · rw [if_neg h, Res.bind_ok, ih, Res.bind_ok, List.filter_cons_of_neg (by simpa using h)]
theorem cM_if2 {α : Type} (p q : α → Prop) [DecidablePred p] [DecidablePred q] (g : α → D) (l : List α) (st : Store) : cM (fun x st => if p x then (if q x then .ok (some (g x)) st else .ok none st) else .ok none st) l st = .ok ((l.filter fun x => decide (p x) && decide (q x)).map g) st := by
  have := cM_if (fun x => p x ∧ q x) g l st
  have e : (fun x st => if p x then (if q x then Res.ok (some (g x)) st else .ok none st) else .ok none st) = fun x st => if p x ∧ q x then Res.ok (some (g x)) st else .ok none st := by
    funext x st
    by_cases h : p x <;> by_cases h2 : q x <;> simp [h, h2]
  rw [e, this]
  congr 2
  exact List.filter_congr fun x _ => by simp
theorem bind_ite {α β : Type} (c : Prop) [Decidable c] (x y : Res α) (f : α → Store → Res β) : (if c then x else y).bind f = if c then x.bind f else y.bind f := by
  split <;> rfl
theorem ite_else {α : Type} {p : Prop} [Decidable p] (a b c : α) : (if p then a else if p then b else c) = if p then a else c := by
  split <;> rfl
theorem cM_no {α : Type} (l : List α) (st : Store) : cM (fun x st => .ok none st) l st = .ok [] st := by
  induction l with
  | nil => rfl
  | cons x l ih => rw [cM, Res.bind_ok, ih, Res.bind_ok]
theorem cM_to {α : Type} {f : α → Store → Res (Option D)} {l : List α} (g : α → D) (h : ∀ x, x ∈ l → ∀ st, f x st = .ok (some (g x)) st) (st : Store) : cM f l st = .ok (l.map g) st := by
  rw [cM_congr h, cM_ok]
theorem cM_toIf {α : Type} {f : α → Store → Res (Option D)} {l : List α} (p : α → Bool) (g : α → D) (h : ∀ x, x ∈ l → ∀ st, f x st = if p x = true then .ok (some (g x)) st else .ok none st) (st : Store) : cM f l st = .ok ((l.filter p).map g) st := by
  rw [cM_congr h, cM_if]
  congr 3
  funext x
  simp
theorem cM_nil {α : Type} (f : α → Store → Res (Option D)) (st : Store) : cM f [] st = .ok [] st := rfl
theorem cM_cons {α : Type} (f : α → Store → Res (Option D)) (x : α) (l : List α) (st : Store) : cM f (x :: l) st = (f x st).bind fun o st => (cM f l st).bind fun r st => .ok (match o with | some d => d :: r | none => r) st := rfl
/-- with a store that changes: an invariant -/
theorem cM_inv {α : Type} {f : α → Store → Res (Option D)} {l : List α} {Q : List D → Store → Prop} (I : List α → List D → Store → Prop) {st : Store} (h0 : I [] [] st)
    (hs : ∀ l1 x l2 acc st, l = l1 ++ x :: l2 → I l1 acc st → OkP (f x st) fun o st' => I (l1 ++ [x]) (acc ++ o.toList) st') (hd : ∀ acc st, I l acc st → Q acc st) : OkP (cM f l st) Q := by
  have main : ∀ (l2 l1 : List α) (acc : List D) (st : Store), l = l1 ++ l2 → I l1 acc st → OkP (cM f l2 st) fun r st => Q (acc ++ r) st := by
    intro l2
    induction l2 with
    | nil =>
      intro l1 acc st e hI
      rw [List.append_nil] at e
      subst e
      rw [cM, okP_ok, List.append_nil]; exact hd _ _ hI
    | cons x l2 ih =>
      intro l1 acc st e hI
      rw [cM]
      refine (hs l1 x l2 acc st e hI).bind fun o st1 h1 => ?_
      refine (ih (l1 ++ [x]) (acc ++ o.toList) st1 (by rw [e, List.append_assoc]; rfl) h1).bind fun r st2 h2 => ?_
      cases o with
      | none => rw [okP_ok]; simpa using h2
      | some d => rw [okP_ok]; simpa using h2
  simpa using main l [] [] st rfl h0
theorem safe_ok {α : Type} (a : α) (st : Store) : (Res.ok a st).safe = .ok a st := by unfold Res.safe; exact Eq.refl _
/-! ### loops -/
noncomputable def forK (tg : Tg) (b : Env → Store → Res (Fl × Env)) (r : Env) (k : ItK) (ds : List D) (st : Store) : Res (Fl × Env) :=
  (optR (srcOf k ds st) st).bind fun src st => if fixedS src then (optR (srcItems st src) st).bind fun ds st => loopF tg b ds r st else limR fun n => loopL tg b src n 0 r st
theorem ev_for2 (F : Fun) (r : Env) (st : Store) (tg : Tg) (k : ItK) (es : List E) (b : List S) : denS F (.for_ tg k es b) r st = (denL F es r st).bind fun ds st => forK tg (denSs F b) r k ds st := by
  rw [ev_for]; rfl
theorem forK_eq {tg : Tg} {b : Env → Store → Res (Fl × Env)} {r : Env} {k : ItK} {ds : List D} {st : Store} {src : Src} {all : List D} (h1 : srcOf k ds st = some src) (h2 : srcItems st src = some all) (h3 : fixedS src = true) : forK tg b r k ds st = loopF tg b all r st := by
  rw [forK, h1, optR_some, Res.bind_ok, if_pos h3, h2, optR_some, Res.bind_ok]
section
variable (tg : Tg) (b : Env → Store → Res (Fl × Env)) (r : Env) (st : Store)
theorem forK_tup (ds : List D) : forK tg b r .val [.tup ds] st = loopF tg b ds r st := forK_eq rfl rfl rfl
theorem forK_lst (ds : List D) : forK tg b r .val [.lst ds] st = loopF tg b ds r st := forK_eq rfl rfl rfl
theorem forK_scr (ds : List D) : forK tg b r .val [.scr ds] st = loopF tg b ds r st := forK_eq rfl rfl rfl
theorem forK_rng (n : Nat) (h : n ≤ sizeLine) : forK tg b r .rng [.int (n : Nat)] st = loopF tg b ((List.range n).map fun i => D.int (i : Nat)) r st := forK_eq (srcOf_rng n (by rw [sizeLine_eq] at h; omega)) (items_rng n) rfl
theorem forK_enum {α : Type} (e : α → D) (l : List α) : forK tg b r .enum [.tup (l.map e)] st = loopF tg b (l.zipIdx.map fun x => .tup [.int (x.2 : Nat), e x.1]) r st := forK_eq (src := .enum (.tup (l.map e))) rfl (by show some (enumL (l.map e) 0) = _; rw [enumL_map]) rfl
theorem forK_enumL {α : Type} (e : α → D) (l : List α) : forK tg b r .enum [.lst (l.map e)] st = loopF tg b (l.zipIdx.map fun x => .tup [.int (x.2 : Nat), e x.1]) r st := forK_eq (src := .enum (.lst (l.map e))) rfl (by show some (enumL (l.map e) 0) = _; rw [enumL_map]) rfl
end
/-- a loop over the things of a list: what holds ahead of each -/
theorem loop_list {α : Type} {tg : Tg} {b : Env → Store → Res (Fl × Env)} {Q : Fl × Env → Store → Prop} {l : List α} {e : α → D} (I : List α → Env → Store → Prop) {r : Env} {st : Store} (h0 : I [] r st)
    (hs : ∀ l1 x l2 r st, l = l1 ++ x :: l2 → I l1 r st → ∃ r', asgT tg (e x) r = some r' ∧ OkP (b r' st) fun fr st' => match fr.1 with
      | .nx => I (l1 ++ [x]) fr.2 st'
      | .ct => I (l1 ++ [x]) fr.2 st'
      | .bk => Q (.nx, fr.2) st'
      | .rt v => Q (.rt v, fr.2) st')
    (hd : ∀ r st, I l r st → Q (.nx, r) st) : OkP (loopF tg b (l.map e) r st) Q := by
  refine loopF_inv (fun i r st => I (l.take i) r st) (by simpa using h0) (fun i d r st hi hI => ?_) fun r st hI => ?_
  · rw [List.getElem?_map] at hi
    obtain ⟨x, h1, rfl⟩ := Option.map_eq_some_iff.mp hi
    obtain ⟨hlt, h2⟩ := List.getElem?_eq_some_iff.mp h1
    have e1 : l = l.take i ++ x :: l.drop (i + 1) := by
      rw [← h2]; simp
    have e2 : l.take (i + 1) = l.take i ++ [x] := by rw [List.take_succ, h1]; rfl
    obtain ⟨r', q1, q2⟩ := hs _ x _ r st e1 hI
    refine ⟨r', q1, q2.imp fun fr st' q => ?_⟩
    rw [e2]
    exact q
  · rw [List.length_map, List.take_length] at hI
    exact hd r st hI
end WT

set_option Elab.async false
set_option linter.all false
set_option maxRecDepth 100000
set_option maxHeartbeats 4000000
/-! WTq: operators on plain values, as rewriting rules. -/
namespace WT
open PySem
section
variable {al : Bool} (st : Store)
theorem b_add (i j : Int) : binD al .Add (.int i) (.int j) st = .ok (.int (i + j)) st := rfl
theorem b_sub (i j : Int) : binD al .Sub (.int i) (.int j) st = .ok (.int (i - j)) st := rfl
theorem b_mod {j : Int} (i : Int) (h : j ≠ 0) : binD al .Mod (.int i) (.int j) st = .ok (.int (i.fmod j)) st := by
  have e : binD al .Mod (.int i) (.int j) st = if j ≠ 0 then .ok (.int (i.fmod j)) st else .stuck := rfl
  rw [e, if_pos h]
theorem b_div {j : Int} (i : Int) (h : j ≠ 0) (h2 : j.natAbs < 1073741824) : binD al .FloorDiv (.int i) (.int j) st = .ok (.int (i.fdiv j)) st := by
  have e : binD al .FloorDiv (.int i) (.int j) st = if j ≠ 0 ∧ j.natAbs < 1073741824 then .ok (.int (i.fdiv j)) st else .stuck := rfl
  rw [e, if_pos ⟨h, h2⟩]
theorem bitsLow {i : Int} (h : i.natAbs < 2 ^ 40) : Builtin.Int.intBits i ≤ 64 := by
  unfold Builtin.Int.intBits
  split
  · omega
  · rename_i h0
    have h0' : i.natAbs ≠ 0 := fun z => h0 (by simp; omega)
    have := (Nat.log2_lt h0').mpr (show i.natAbs < 2 ^ 40 from h)
    omega
theorem b_mul {i j : Int} (h : i.natAbs < 2 ^ 40 ∨ j.natAbs < 2 ^ 40) : binD al .Mult (.int i) (.int j) st = .ok (.int (i * j)) st := by
  have e : binD al .Mult (.int i) (.int j) st = if IntMulOk i j then .ok (.int (i * j)) st else .stuck := rfl
  rcases h with h | h
  · rw [e, if_pos (IntMulOk.of_left (bitsLow h))]
  · rw [e, if_pos (IntMulOk.of_right (bitsLow h))]
theorem b_tup (xs ys : List D) (h : xs.length + ys.length ≤ sizeLine) : binD al .Add (.tup xs) (.tup ys) st = .ok (.tup (xs ++ ys)) st := by
  have e : binD al .Add (.tup xs) (.tup ys) st = if xs.length + ys.length ≤ sizeLine then .ok (.tup (xs ++ ys)) st else .stuck := rfl
  rw [e, if_pos h]
theorem b_lst (xs ys : List D) (h : xs.length + ys.length ≤ sizeLine) : binD false .Add (.lst xs) (.lst ys) st = .ok (.lst (xs ++ ys)) st := by
  have e : binD false .Add (.lst xs) (.lst ys) st = newL false (xs ++ ys) st := rfl
  rw [e, newL_f st _ (by rw [List.length_append]; exact h)]
theorem b_tupmul (x : D) (n : Nat) (h : n ≤ 1000) : binD al .Mult (.tup [x]) (.int (n : Nat)) st = .ok (.tup (List.replicate n x)) st := by
  have e : binD al .Mult (.tup [x]) (.int (n : Nat)) st = if -1000 ≤ ((n : Nat) : Int) ∧ ((n : Nat) : Int) ≤ 1000 ∧ [x].length ≤ 1000 then .ok (.tup (List.replicate ((n : Nat) : Int).toNat [x]).flatten) st else .stuck := rfl
  have e2 : ∀ m : Nat, (List.replicate m [x]).flatten = List.replicate m x := by
    intro m
    induction m with
    | zero => rfl
    | succ m ih => simp only [List.replicate_succ, List.flatten_cons, ih]; rfl
  rw [e, if_pos ⟨by omega, by omega, by simp⟩, Int.toNat_natCast, e2]
theorem b_eq (i j : Int) : cmpD .Eq (.int i) (.int j) st = some (decide (i = j)) := by
  have : cmpD .Eq (.int i) (.int j) st = some (D.eqv (.int i) (.int j)) := rfl
  rw [this, eqv_dec rfl rfl]
  simp
theorem b_ne (i j : Int) : cmpD .NotEq (.int i) (.int j) st = some (!decide (i = j)) := by
  have : cmpD .NotEq (.int i) (.int j) st = (cmpD .Eq (.int i) (.int j) st).map (!·) := rfl
  rw [this, b_eq]; rfl
theorem b_lt (i j : Int) : cmpD .Lt (.int i) (.int j) st = some (decide (i < j)) := by
  show ltD (.int i) (.int j) = _
  simp [ltD, D.data, alikeD, D.isNon, D.py, PySem.W.dataLt, PySem.W.alike, PySem.W.keyToks, PyProof.Rows.lexLt, PyProof.Rows.itemOrd, PyProof.Rows.itemLt]
theorem b_le (i j : Int) : cmpD .LtE (.int i) (.int j) st = some (decide (i ≤ j)) := rfl
theorem b_gt (i j : Int) : cmpD .Gt (.int i) (.int j) st = some (decide (j < i)) := rfl
theorem b_ge (i j : Int) : cmpD .GtE (.int i) (.int j) st = some (decide (j ≤ i)) := rfl
theorem b_flat {a b : D} (h1 : a.flat = true) (h2 : b.flat = true) (h3 : a.data 64 = true) (h4 : b.data 64 = true) : cmpD .Eq a b st = some (decide (a = b)) := by
  rw [← eqv_dec h1 h2]
  cases a <;> cases b <;> first | (simp [D.flat] at h1; done) | (simp [D.flat] at h2; done) | (simp only [cmpD, eqD, view, h3, h4, Bool.and_self, if_true]; done) | (rw [eqv_dec h1 h2]; simp [cmpD, eqD])
theorem b_flatN {a b : D} (h1 : a.flat = true) (h2 : b.flat = true) (h3 : a.data 64 = true) (h4 : b.data 64 = true) : cmpD .NotEq a b st = some (!decide (a = b)) := by
  have : cmpD .NotEq a b st = (cmpD .Eq a b st).map (!·) := rfl
  rw [this, b_flat st h1 h2 h3 h4]; rfl
theorem u_abs (i : Int) : biD al .abs [.int i] st = .ok (.int (if i < 0 then -i else i)) st := rfl
theorem u_int (i : Int) : biD al .int [.int i] st = .ok (.int i) st := rfl
theorem u_intb (b : Bool) : biD al .int [.bl b] st = .ok (.int (if b then 1 else 0)) st := rfl
theorem u_tuple_l (ds : List D) : biD al .tuple [.lst ds] st = .ok (.tup ds) st := rfl
theorem u_tuple_t (ds : List D) : biD al .tuple [.tup ds] st = .ok (.tup ds) st := rfl
theorem u_len_l (ds : List D) : biD al .len [.lst ds] st = .ok (.int (ds.length : Nat)) st := rfl
theorem u_len_t (ds : List D) : biD al .len [.tup ds] st = .ok (.int (ds.length : Nat)) st := rfl
theorem u_max (i j : Int) : biD al .max [.int i, .int j] st = .ok (.int (max i j)) st := by
  have e : biD al .max [.int i, .int j] st = .ok (.int (if j > i then j else i)) st := rfl
  rw [e]; congr 2; split <;> omega
theorem u_min (i j : Int) : biD al .min [.int i, .int j] st = .ok (.int (min i j)) st := by
  have e : biD al .min [.int i, .int j] st = .ok (.int (if j < i then j else i)) st := rfl
  rw [e]; congr 2; split <;> omega
theorem x_tup (ds : List D) (i : Nat) : ixD (.tup ds) (.int (i : Nat)) st = optR ds[i]? st := by
  have e : ixD (.tup ds) (.int (i : Nat)) st = optR (at? ds ((i : Nat) : Int)) st := rfl
  rw [e]; unfold at?; rw [if_pos (by omega), Int.toNat_natCast]
theorem x_tup0 (x : D) (xs : List D) : ixD (.tup (x :: xs)) (.int 0) st = .ok x st := rfl
theorem x_tup1 (x y : D) (xs : List D) : ixD (.tup (x :: y :: xs)) (.int 1) st = .ok y st := rfl
theorem x_lst (ds : List D) (i : Nat) : ixD (.lst ds) (.int (i : Nat)) st = optR ds[i]? st := by
  have e : ixD (.lst ds) (.int (i : Nat)) st = optR (at? ds ((i : Nat) : Int)) st := rfl
  rw [e]; unfold at?; rw [if_pos (by omega), Int.toNat_natCast]
end
end WT

set_option Elab.async false
set_option linter.all false
set_option maxRecDepth 100000
set_option maxHeartbeats 4000000
/-! WSa: the source of draws: a dict at place 1, its cells at place 0. -/
namespace WT
open PySem
def srcT (l m t : Int) : List ((Int ⊕ Str) × D) := [(Sum.inr (Str.ofString "cells"), .loc 0), (Sum.inr (Str.ofString "left"), .int l), (Sum.inr (Str.ofString "mixed"), .int m), (Sum.inr (Str.ofString "turn"), .int t)]
structure SrcAt (st : Store) (l m t : Int) (cs : List Int) : Prop where
  cell : st[0]? = some (.lst (intL cs))
  few : cs.length ≤ 63
  tab : st[1]? = some (.dK (srcT l m t))
/-- a source, whatever it holds -/
def Source (st : Store) : Prop := ∃ l m t cs, SrcAt st l m t cs
/-- all but the source stays -/
def Kept (st0 st : Store) : Prop := st.length = st0.length ∧ ∀ i, 2 ≤ i → st[i]? = st0[i]?
theorem Kept.refl (st : Store) : Kept st st := ⟨rfl, fun _ _ => rfl⟩
theorem Kept.trans {a b c : Store} (h : Kept a b) (h2 : Kept b c) : Kept a c := ⟨h2.1.trans h.1, fun i hi => (h2.2 i hi).trans (h.2 i hi)⟩
theorem kept_set (st : Store) (n : Nat) (hn : n < 2) (o : Ob) : Kept st (st.set n o) := ⟨by simp, fun i hi => by rw [List.getElem?_set_ne (by omega)]⟩
section
variable {st : Store} {l m t : Int} {cs : List Int}
theorem s_cells (h : SrcAt st l m t cs) : ixD (.loc 1) (.str "cells") st = .ok (.loc 0) st := by
  have e : view st (.loc 1) = .loc 1 := by simp only [view, h.tab]
  simp only [ixD, e, getD, h.tab]
  rfl
theorem s_left (h : SrcAt st l m t cs) : ixD (.loc 1) (.str "left") st = .ok (.int l) st := by
  have e : view st (.loc 1) = .loc 1 := by simp only [view, h.tab]
  simp only [ixD, e, getD, h.tab]
  rfl
theorem s_mixed (h : SrcAt st l m t cs) : ixD (.loc 1) (.str "mixed") st = .ok (.int m) st := by
  have e : view st (.loc 1) = .loc 1 := by simp only [view, h.tab]
  simp only [ixD, e, getD, h.tab]
  rfl
theorem s_turn (h : SrcAt st l m t cs) : ixD (.loc 1) (.str "turn") st = .ok (.int t) st := by
  have e : view st (.loc 1) = .loc 1 := by simp only [view, h.tab]
  simp only [ixD, e, getD, h.tab]
  rfl
theorem srcT_few : (srcT l m t).length < sizeLine := by rw [sizeLine_eq]; simp [srcT]
theorem s_setLeft (h : SrcAt st l m t cs) (v : Int) : setD (.loc 1) (.str "left") (.int v) st = some (st.set 1 (.dK (srcT v m t))) := by
  have k : (D.str (Str.ofString "left")).key = some (Sum.inr (Str.ofString "left")) := rfl
  simp only [setD, h.tab, k, if_pos srcT_few]
  rfl
theorem s_setTurn (h : SrcAt st l m t cs) (v : Int) : setD (.loc 1) (.str "turn") (.int v) st = some (st.set 1 (.dK (srcT l m v))) := by
  have k : (D.str (Str.ofString "turn")).key = some (Sum.inr (Str.ofString "turn")) := rfl
  simp only [setD, h.tab, k, if_pos srcT_few]
  rfl
theorem s_setMixed (h : SrcAt st l m t cs) (v : Int) : setD (.loc 1) (.str "mixed") (.int v) st = some (st.set 1 (.dK (srcT l v t))) := by
  have k : (D.str (Str.ofString "mixed")).key = some (Sum.inr (Str.ofString "mixed")) := rfl
  simp only [setD, h.tab, k, if_pos srcT_few]
  rfl
theorem SrcAt.len (h : SrcAt st l m t cs) : 1 < st.length := by
  have := h.tab
  rcases Nat.lt_or_ge 1 st.length with q | q
  · exact q
  · rw [List.getElem?_eq_none q] at this; cases this
theorem SrcAt.tabs (h : SrcAt st l m t cs) (l' m' t' : Int) : SrcAt (st.set 1 (.dK (srcT l' m' t'))) l' m' t' cs :=
  ⟨by rw [List.getElem?_set_ne (by omega)]; exact h.cell, h.few, by rw [List.getElem?_set_self h.len]⟩
theorem SrcAt.cells (h : SrcAt st l m t cs) : SrcAt (st.set 0 (.lst (intL cs.dropLast))) l m t cs.dropLast :=
  ⟨by rw [List.getElem?_set_self (by have := h.len; omega)], by have := h.few; simp; omega, by rw [List.getElem?_set_ne (by omega)]; exact h.tab⟩
theorem s_pop (h : SrcAt st l m t cs) (hc : cs ≠ []) : mtD .pop (.loc 0) [] st = .ok (.int (cs.getLast hc)) (st.set 0 (.lst (intL cs.dropLast))) := by
  have e : (intL cs)[(intL cs).length - 1]? = some (.int (cs.getLast hc)) := by
    rw [← List.getLast?_eq_getElem?]
    unfold intL
    rw [List.getLast?_map, List.getLast?_eq_getLast hc]
    rfl
  have e2 : (intL cs).dropLast = intL cs.dropLast := by unfold intL; rw [List.map_dropLast]
  simp only [mtD, h.cell, e, e2]
theorem s_popOk (h : SrcAt st l m t cs) : mtOk .pop (.loc 0) st = true := by simp only [mtOk, view, h.cell]
theorem s_len (h : SrcAt st l m t cs) : biD false .len [.loc 0] st = .ok (.int (cs.length : Nat)) st := by
  show optR (Option.map (fun n => D.int ((n : Nat) : Int)) (lenD st (D.loc 0))) st = _
  simp only [lenD, view, h.cell]
  simp [intL]
end
/-! ### a draw -/
/-- it ends, all but the source stays, the source is one -/
def Dr (st : Store) (r : Res D) (P : D → Prop) : Prop := OkP r fun d st' => Kept st st' ∧ Source st' ∧ P d
theorem dr_ok {st st' : Store} {d : D} {P : D → Prop} (h1 : Kept st st') (h2 : Source st') (h3 : P d) : Dr st (.ok d st') P := okP_ok.mpr ⟨h1, h2, h3⟩
theorem Dr.ex {st : Store} {r : Res D} {P : D → Prop} (h : Dr st r P) : ∃ d st', r = .ok d st' ∧ Kept st st' ∧ Source st' ∧ P d := OkP.ex h
theorem Dr.bind {st : Store} {r : Res D} {P : D → Prop} {f : D → Store → Res D} {Q : D → Prop} (h : Dr st r P) (hf : ∀ d st', Kept st st' → Source st' → P d → Dr st' (f d st') Q) : Dr st (r.bind f) Q :=
  OkP.bind h fun d st' q => (hf d st' q.1 q.2.1 q.2.2).imp fun d2 st2 q2 => ⟨q.1.trans q2.1, q2.2⟩
def Drawn (n : Int) (d : D) : Prop := ∃ r : Int, d = .int r ∧ 0 ≤ r ∧ r < max 1 n
theorem endOf_rt {st0 st : Store} {r : Env} {d : D} (h : st.length = st0.length) : endOf st0 (.rt d, r) st = .ok d st := by rw [end_rt, finish_len h]
theorem fmod_in {i n : Int} (h : 0 < n) : 0 ≤ i.fmod n ∧ i.fmod n < n := ⟨Int.fmod_nonneg_of_pos i h, Int.fmod_lt_of_pos i h⟩
def d_pick1 : Df := ⟨2, 6, [
  .ite (.cmp .Lt (.var 1) (.int 2)) [.ret (.int 0)] [],
  .asg (.nm 2) (.ix (.var 0) (.str "cells")),
  .loop (.and (.cmp .Lt (.ix (.var 0) (.str "left")) (.int 2)) (.cmp .Gt (.bi false .len [(.var 2)]) (.int 0))) [.setIx (.var 0) (.str "left") (.mt .pop (.var 2) [])],
  .asg (.nm 3) (.ix (.var 0) (.str "left")),
  .ite (.cmp .Gt (.var 3) (.int 1)) [.setIx (.var 0) (.str "left") (.bin false .FloorDiv (.var 3) (.var 1)), .ret (.bin false .Mod (.bi false .int [(.var 3)]) (.var 1))] [],
  .setIx (.var 0) (.str "turn") (.bin true .Add (.ix (.var 0) (.str "turn")) (.int 1)),
  .asg (.nm 4) (.ix (.var 0) (.str "turn")),
  .asg (.nm 5) (.bin false .Mod (.bi false .int [(.bin false .Add (.ix (.var 0) (.str "mixed")) (.bin false .Mult (.var 4) (.int 104729)))]) (.int 998244353)),
  .asg (.nm 5) (.bin false .Mod (.bi false .int [(.bin false .Add (.bin false .Mult (.var 5) (.var 5)) (.bin false .Mult (.var 4) (.int 17)))]) (.int 2147483647)),
  .ret (.bin false .Mod (.bi false .int [(.bin false .FloorDiv (.var 5) (.int 16))]) (.var 1))]⟩
theorem smallA (i : Int) : (i.fmod 998244353).natAbs < 2 ^ 40 := by
  have h1 := Int.fmod_nonneg_of_pos i (show (0 : Int) < 998244353 by decide)
  have h2 := Int.fmod_lt_of_pos i (show (0 : Int) < 998244353 by decide)
  omega
theorem nzA : (998244353 : Int) ≠ 0 := by decide
theorem nzB : (2147483647 : Int) ≠ 0 := by decide
theorem nz16 : (16 : Int) ≠ 0 := by decide
theorem lo16 : (16 : Int).natAbs < 1073741824 := by decide
theorem lo17 : (17 : Int).natAbs < 2 ^ 40 := by decide
theorem lok : (104729 : Int).natAbs < 2 ^ 40 := by decide
section
variable {F : Fun} {st : Store} {l m t : Int} {cs : List Int}
theorem s_loop1 (h : SrcAt st l m t cs) (x : D) : OkP (denS F (.loop (.and (.cmp .Lt (.ix (.var 0) (.str "left")) (.int 2)) (.cmp .Gt (.bi false .len [(.var 2)]) (.int 0))) [.setIx (.var 0) (.str "left") (.mt .pop (.var 2) [])]) [some (.loc 1), some x, some (.loc 0), none, none, none] st) fun fr st' => fr = (.nx, [some (.loc 1), some x, some (.loc 0), none, none, none]) ∧ Kept st st' ∧ ∃ l' cs', SrcAt st' l' m t cs' := by
  rw [ev_loop]
  refine loop_inv (fun n r s => r = [some (.loc 1), some x, some (.loc 0), none, none, none] ∧ Kept st s ∧ ∃ l' cs', SrcAt s l' m t cs' ∧ n = cs'.length) (m := cs.length) ⟨rfl, Kept.refl st, l, cs, h, rfl⟩ fun n r s hI => ?_
  obtain ⟨rfl, hk, l', cs', hs, rfl⟩ := hI
  simp only [ev_var, ev_int, ev_bl, ev_non, ev_str, ev_tup, ev_lst, ev_dnew, ev_disp, ev_bin, ev_neg, ev_cmp, ev_chain, ev_and, ev_or, ev_not, ev_ite, ev_ix, ev_sl, ev_rev, ev_call, ev_bi, ev_mt, ev_comp2, ev_nil, ev_cons, ev_ifn, ev_ifc,  ev_asg, ev_aug, ev_setIx, ev_augIx, ev_ex, ev_ret, ev_retN, ev_if, ev_for2, ev_brk, ev_cont, ev_pass, ev_snil, ev_scons, then_nx, then_rt, then_bk, then_ct, end_rt, end_nx, optR_some, finish_self, asg_nm, asg_tp, asg_nil, asg_cons,  truth_bl, truth_int, Res.bind_ok, safe_ok, List.getElem?_cons_zero, List.getElem?_cons_succ, List.set_cons_zero, List.set_cons_succ, List.length_cons, List.length_nil, Option.map_some, Option.bind_some, Option.bind_eq_bind, wipeE, if_true, if_false, Bool.false_eq_true, ite_true, ite_false, reduceIte, reduceCtorEq, b_add, b_sub, b_eq, b_ne, b_lt, b_le, b_gt, b_ge, u_abs, u_int, u_intb, u_tuple_l, u_tuple_t, u_len_l, u_len_t, eq_self, decide_true, decide_false, s_left hs, s_len hs]
  by_cases hc : l' < 2
  · by_cases h0 : cs' = []
    · subst h0
      simp only [ev_var, ev_int, ev_bl, ev_non, ev_str, ev_tup, ev_lst, ev_dnew, ev_disp, ev_bin, ev_neg, ev_cmp, ev_chain, ev_and, ev_or, ev_not, ev_ite, ev_ix, ev_sl, ev_rev, ev_call, ev_bi, ev_mt, ev_comp2, ev_nil, ev_cons, ev_ifn, ev_ifc,  ev_asg, ev_aug, ev_setIx, ev_augIx, ev_ex, ev_ret, ev_retN, ev_if, ev_for2, ev_brk, ev_cont, ev_pass, ev_snil, ev_scons, then_nx, then_rt, then_bk, then_ct, end_rt, end_nx, optR_some, finish_self, asg_nm, asg_tp, asg_nil, asg_cons,  truth_bl, truth_int, Res.bind_ok, safe_ok, List.getElem?_cons_zero, List.getElem?_cons_succ, List.set_cons_zero, List.set_cons_succ, List.length_cons, List.length_nil, Option.map_some, Option.bind_some, Option.bind_eq_bind, wipeE, if_true, if_false, Bool.false_eq_true, ite_true, ite_false, reduceIte, reduceCtorEq, b_add, b_sub, b_eq, b_ne, b_lt, b_le, b_gt, b_ge, u_abs, u_int, u_intb, u_tuple_l, u_tuple_t, u_len_l, u_len_t, eq_self, decide_true, decide_false, hc, decide_true, okP_ok, Int.natCast_zero, Int.lt_irrefl]
      exact ⟨trivial, hk, l', [], hs⟩
    · have h1 : (0 : Int) < (cs'.length : Nat) := by have := List.length_pos_iff.mpr h0; omega
      simp only [ev_var, ev_int, ev_bl, ev_non, ev_str, ev_tup, ev_lst, ev_dnew, ev_disp, ev_bin, ev_neg, ev_cmp, ev_chain, ev_and, ev_or, ev_not, ev_ite, ev_ix, ev_sl, ev_rev, ev_call, ev_bi, ev_mt, ev_comp2, ev_nil, ev_cons, ev_ifn, ev_ifc,  ev_asg, ev_aug, ev_setIx, ev_augIx, ev_ex, ev_ret, ev_retN, ev_if, ev_for2, ev_brk, ev_cont, ev_pass, ev_snil, ev_scons, then_nx, then_rt, then_bk, then_ct, end_rt, end_nx, optR_some, finish_self, asg_nm, asg_tp, asg_nil, asg_cons,  truth_bl, truth_int, Res.bind_ok, safe_ok, List.getElem?_cons_zero, List.getElem?_cons_succ, List.set_cons_zero, List.set_cons_succ, List.length_cons, List.length_nil, Option.map_some, Option.bind_some, Option.bind_eq_bind, wipeE, if_true, if_false, Bool.false_eq_true, ite_true, ite_false, reduceIte, reduceCtorEq, b_add, b_sub, b_eq, b_ne, b_lt, b_le, b_gt, b_ge, u_abs, u_int, u_intb, u_tuple_l, u_tuple_t, u_len_l, u_len_t, eq_self, decide_true, decide_false, hc, h1, decide_true, okP_ok, s_popOk hs, s_pop hs h0, s_setLeft hs.cells, s_len hs]
      refine ⟨cs'.dropLast.length, by have := List.length_pos_iff.mpr h0; simp; omega, trivial, ?_, _, _, hs.cells.tabs _ _ _, rfl⟩
      exact (hk.trans (kept_set _ 0 (by omega) _)).trans (kept_set _ 1 (by omega) _)
  · simp only [ev_var, ev_int, ev_bl, ev_non, ev_str, ev_tup, ev_lst, ev_dnew, ev_disp, ev_bin, ev_neg, ev_cmp, ev_chain, ev_and, ev_or, ev_not, ev_ite, ev_ix, ev_sl, ev_rev, ev_call, ev_bi, ev_mt, ev_comp2, ev_nil, ev_cons, ev_ifn, ev_ifc,  ev_asg, ev_aug, ev_setIx, ev_augIx, ev_ex, ev_ret, ev_retN, ev_if, ev_for2, ev_brk, ev_cont, ev_pass, ev_snil, ev_scons, then_nx, then_rt, then_bk, then_ct, end_rt, end_nx, optR_some, finish_self, asg_nm, asg_tp, asg_nil, asg_cons,  truth_bl, truth_int, Res.bind_ok, safe_ok, List.getElem?_cons_zero, List.getElem?_cons_succ, List.set_cons_zero, List.set_cons_succ, List.length_cons, List.length_nil, Option.map_some, Option.bind_some, Option.bind_eq_bind, wipeE, if_true, if_false, Bool.false_eq_true, ite_true, ite_false, reduceIte, reduceCtorEq, hc, decide_false, okP_ok]
    exact ⟨trivial, hk, l', cs', hs⟩
end
theorem pick1_ok {Pr : Prog} (hp : Pr "_law_pick" = some d_pick1) (k : Nat) {st : Store} (h : Source st) (n : Int) (hn : n.natAbs < 1073741824) : Dr st (phi Pr (k + 1) "_law_pick" [.loc 1, .int n] st) (Drawn n) := by
  obtain ⟨l, m, t, cs, hs⟩ := h
  rw [phi_def hp rfl]
  show Dr st ((denSs (phi Pr k) [.ite (.cmp .Lt (.var 1) (.int 2)) [.ret (.int 0)] [],
  .asg (.nm 2) (.ix (.var 0) (.str "cells")),
  .loop (.and (.cmp .Lt (.ix (.var 0) (.str "left")) (.int 2)) (.cmp .Gt (.bi false .len [(.var 2)]) (.int 0))) [.setIx (.var 0) (.str "left") (.mt .pop (.var 2) [])],
  .asg (.nm 3) (.ix (.var 0) (.str "left")),
  .ite (.cmp .Gt (.var 3) (.int 1)) [.setIx (.var 0) (.str "left") (.bin false .FloorDiv (.var 3) (.var 1)), .ret (.bin false .Mod (.bi false .int [(.var 3)]) (.var 1))] [],
  .setIx (.var 0) (.str "turn") (.bin true .Add (.ix (.var 0) (.str "turn")) (.int 1)),
  .asg (.nm 4) (.ix (.var 0) (.str "turn")),
  .asg (.nm 5) (.bin false .Mod (.bi false .int [(.bin false .Add (.ix (.var 0) (.str "mixed")) (.bin false .Mult (.var 4) (.int 104729)))]) (.int 998244353)),
  .asg (.nm 5) (.bin false .Mod (.bi false .int [(.bin false .Add (.bin false .Mult (.var 5) (.var 5)) (.bin false .Mult (.var 4) (.int 17)))]) (.int 2147483647)),
  .ret (.bin false .Mod (.bi false .int [(.bin false .FloorDiv (.var 5) (.int 16))]) (.var 1))] [some (.loc 1), some (.int n), none, none, none, none] st).bind (endOf st)) (Drawn n)
  by_cases hn2 : n < 2
  · simp only [ev_var, ev_int, ev_bl, ev_non, ev_str, ev_tup, ev_lst, ev_dnew, ev_disp, ev_bin, ev_neg, ev_cmp, ev_chain, ev_and, ev_or, ev_not, ev_ite, ev_ix, ev_sl, ev_rev, ev_call, ev_bi, ev_mt, ev_comp2, ev_nil, ev_cons, ev_ifn, ev_ifc,  ev_asg, ev_aug, ev_setIx, ev_augIx, ev_ex, ev_ret, ev_retN, ev_if, ev_for2, ev_brk, ev_cont, ev_pass, ev_snil, ev_scons, then_nx, then_rt, then_bk, then_ct, end_rt, end_nx, optR_some, finish_self, asg_nm, asg_tp, asg_nil, asg_cons,  truth_bl, truth_int, Res.bind_ok, safe_ok, List.getElem?_cons_zero, List.getElem?_cons_succ, List.set_cons_zero, List.set_cons_succ, List.length_cons, List.length_nil, Option.map_some, Option.bind_some, Option.bind_eq_bind, wipeE, if_true, if_false, Bool.false_eq_true, ite_true, ite_false, reduceIte, reduceCtorEq, b_add, b_sub, b_eq, b_ne, b_lt, b_le, b_gt, b_ge, u_abs, u_int, u_intb, u_tuple_l, u_tuple_t, u_len_l, u_len_t, eq_self, decide_true, decide_false, hn2]
    exact dr_ok (Kept.refl st) ⟨l, m, t, cs, hs⟩ ⟨0, rfl, by omega, by omega⟩
  · have hn0 : n ≠ 0 := by omega
    obtain ⟨fr, st1, e, rfl, hk, l1, cs1, hs1⟩ := (s_loop1 (F := phi Pr k) hs (.int n)).ex
    simp only [ev_var, ev_int, ev_bl, ev_non, ev_str, ev_tup, ev_lst, ev_dnew, ev_disp, ev_bin, ev_neg, ev_cmp, ev_chain, ev_and, ev_or, ev_not, ev_ite, ev_ix, ev_sl, ev_rev, ev_call, ev_bi, ev_mt, ev_comp2, ev_nil, ev_cons, ev_ifn, ev_ifc,  ev_asg, ev_aug, ev_setIx, ev_augIx, ev_ex, ev_ret, ev_retN, ev_if, ev_for2, ev_brk, ev_cont, ev_pass, ev_snil, ev_scons, then_nx, then_rt, then_bk, then_ct, end_rt, end_nx, optR_some, finish_self, asg_nm, asg_tp, asg_nil, asg_cons,  truth_bl, truth_int, Res.bind_ok, safe_ok, List.getElem?_cons_zero, List.getElem?_cons_succ, List.set_cons_zero, List.set_cons_succ, List.length_cons, List.length_nil, Option.map_some, Option.bind_some, Option.bind_eq_bind, wipeE, if_true, if_false, Bool.false_eq_true, ite_true, ite_false, reduceIte, reduceCtorEq, b_add, b_sub, b_eq, b_ne, b_lt, b_le, b_gt, b_ge, u_abs, u_int, u_intb, u_tuple_l, u_tuple_t, u_len_l, u_len_t, eq_self, decide_true, decide_false, hn2, s_cells hs, e, s_left hs1]
    have hq : ∀ i : Int, Drawn n (.int (i.fmod n)) := fun i => ⟨_, rfl, (fmod_in (by omega)).1, by have := (fmod_in (i := i) (n := n) (by omega)).2; omega⟩
    by_cases hl : 1 < l1
    · simp only [ev_var, ev_int, ev_bl, ev_non, ev_str, ev_tup, ev_lst, ev_dnew, ev_disp, ev_bin, ev_neg, ev_cmp, ev_chain, ev_and, ev_or, ev_not, ev_ite, ev_ix, ev_sl, ev_rev, ev_call, ev_bi, ev_mt, ev_comp2, ev_nil, ev_cons, ev_ifn, ev_ifc,  ev_asg, ev_aug, ev_setIx, ev_augIx, ev_ex, ev_ret, ev_retN, ev_if, ev_for2, ev_brk, ev_cont, ev_pass, ev_snil, ev_scons, then_nx, then_rt, then_bk, then_ct, end_rt, end_nx, optR_some, finish_self, asg_nm, asg_tp, asg_nil, asg_cons,  truth_bl, truth_int, Res.bind_ok, safe_ok, List.getElem?_cons_zero, List.getElem?_cons_succ, List.set_cons_zero, List.set_cons_succ, List.length_cons, List.length_nil, Option.map_some, Option.bind_some, Option.bind_eq_bind, wipeE, if_true, if_false, Bool.false_eq_true, ite_true, ite_false, reduceIte, reduceCtorEq, b_add, b_sub, b_eq, b_ne, b_lt, b_le, b_gt, b_ge, u_abs, u_int, u_intb, u_tuple_l, u_tuple_t, u_len_l, u_len_t, eq_self, decide_true, decide_false, hl, b_div _ _ hn0 hn, s_setLeft hs1, b_mod _ _ hn0]
      rw [finish_len (by rw [List.length_set]; exact hk.1)]
      exact dr_ok (hk.trans (kept_set _ 1 (by omega) _)) ⟨_, _, _, _, hs1.tabs _ _ _⟩ (hq _)
    · simp only [ev_var, ev_int, ev_bl, ev_non, ev_str, ev_tup, ev_lst, ev_dnew, ev_disp, ev_bin, ev_neg, ev_cmp, ev_chain, ev_and, ev_or, ev_not, ev_ite, ev_ix, ev_sl, ev_rev, ev_call, ev_bi, ev_mt, ev_comp2, ev_nil, ev_cons, ev_ifn, ev_ifc,  ev_asg, ev_aug, ev_setIx, ev_augIx, ev_ex, ev_ret, ev_retN, ev_if, ev_for2, ev_brk, ev_cont, ev_pass, ev_snil, ev_scons, then_nx, then_rt, then_bk, then_ct, end_rt, end_nx, optR_some, finish_self, asg_nm, asg_tp, asg_nil, asg_cons,  truth_bl, truth_int, Res.bind_ok, safe_ok, List.getElem?_cons_zero, List.getElem?_cons_succ, List.set_cons_zero, List.set_cons_succ, List.length_cons, List.length_nil, Option.map_some, Option.bind_some, Option.bind_eq_bind, wipeE, if_true, if_false, Bool.false_eq_true, ite_true, ite_false, reduceIte, reduceCtorEq, b_add, b_sub, b_eq, b_ne, b_lt, b_le, b_gt, b_ge, u_abs, u_int, u_intb, u_tuple_l, u_tuple_t, u_len_l, u_len_t, eq_self, decide_true, decide_false, hl, s_turn hs1, s_setTurn hs1, s_turn (hs1.tabs l1 m (t + 1)), s_mixed (hs1.tabs l1 m (t + 1)), b_mul _ (.inr lok), b_mul _ (.inr lo17), b_mul _ (.inl (smallA _)), b_mod _ _ nzA, b_mod _ _ nzB, b_div _ _ nz16 lo16, b_mod _ _ hn0]
      rw [finish_len (by rw [List.length_set]; exact hk.1)]
      exact dr_ok (hk.trans (kept_set _ 1 (by omega) _)) ⟨_, _, _, _, hs1.tabs _ _ _⟩ (hq _)
end WT

set_option Elab.async false
set_option linter.all false
set_option maxRecDepth 100000
set_option maxHeartbeats 4000000
/-! WSb: the source opened; a thing drawn of some. -/
namespace WT
open PySem
def d_cells1 : Df := ⟨1, 4, [
  .asg (.nm 1) (.int 11),
  .for_ (.nm 2) .val [(.var 0)] [.asg (.nm 1) (.bin false .Mod (.bi false .int [(.bin false .Add (.bin false .Add (.bin false .Mult (.var 1) (.int 69069)) (.bin false .Mult (.var 2) (.int 31))) (.int 5))]) (.int 2147483629))],
  .asg (.nm 3) (.comp false (.bi false .abs [(.var 2)]) (.nm 2) .val [(.var 0)] [] [2]),
  .ret (.disp [(.str "cells"), (.rev true (.var 3)), (.str "left"), (.int 1), (.str "mixed"), (.var 1), (.str "turn"), (.int 0)])]⟩
theorem lo31 : (31 : Int).natAbs < 2 ^ 40 := by decide
theorem loM : (69069 : Int).natAbs < 2 ^ 40 := by decide
theorem nzC : (2147483629 : Int) ≠ 0 := by decide
theorem stir_loop {F : Fun} (ns : List Int) (x2 : Option D) (i : Int) (rest : List (Option D)) (x0 : Option D) (st : Store) : OkP (loopF (.nm 2) (denSs F [.asg (.nm 1) (.bin false .Mod (.bi false .int [(.bin false .Add (.bin false .Add (.bin false .Mult (.var 1) (.int 69069)) (.bin false .Mult (.var 2) (.int 31))) (.int 5))]) (.int 2147483629))]) (ns.map D.int) (x0 :: some (.int i) :: x2 :: rest) st)
    fun fr st' => st' = st ∧ ∃ j y, fr = (.nx, x0 :: some (.int j) :: y :: rest) := by
  refine loop_list (fun _ r s => s = st ∧ ∃ j y, r = x0 :: some (.int j) :: y :: rest) ⟨rfl, _, _, rfl⟩ (fun l1 x l2 r s _ hI => ?_) fun r s hI => ?_
  · obtain ⟨rfl, j, y, rfl⟩ := hI
    refine ⟨_, asg_nm _ _ _, ?_⟩
    simp only [ev_var, ev_int, ev_bl, ev_non, ev_str, ev_tup, ev_lst, ev_dnew, ev_disp, ev_bin, ev_neg, ev_cmp, ev_chain, ev_and, ev_or, ev_not, ev_ite, ev_ix, ev_sl, ev_rev, ev_call, ev_bi, ev_mt, ev_comp2, ev_nil, ev_cons, ev_ifn, ev_ifc,  ev_asg, ev_aug, ev_setIx, ev_augIx, ev_ex, ev_ret, ev_retN, ev_if, ev_for2, ev_brk, ev_cont, ev_pass, ev_snil, ev_scons, then_nx, then_rt, then_bk, then_ct, end_rt, end_nx, optR_some, finish_self, asg_nm, asg_tp, asg_nil, asg_cons,  truth_bl, truth_int, Res.bind_ok, safe_ok, List.getElem?_cons_zero, List.getElem?_cons_succ, List.set_cons_zero, List.set_cons_succ, List.length_cons, List.length_nil, Option.map_some, Option.bind_some, Option.bind_eq_bind, wipeE, if_true, if_false, Bool.false_eq_true, ite_true, ite_false, reduceIte, reduceCtorEq, b_add, b_sub, b_eq, b_ne, b_lt, b_le, b_gt, b_ge, u_abs, u_int, u_intb, u_tuple_l, u_tuple_t, u_len_l, u_len_t, eq_self, decide_true, decide_false, b_mul _ (.inr loM), b_mul _ (.inr lo31), b_mod _ _ nzC, okP_ok]
    exact ⟨trivial, _, _, rfl⟩
  · obtain ⟨rfl, j, y, rfl⟩ := hI
    exact ⟨rfl, j, y, rfl⟩
theorem rev_t {ds : List D} (st : Store) (h : ds.length ≤ sizeLine) : revD true (.lst ds) st = .ok (.loc st.length) (st ++ [.lst ds.reverse]) := by
  have e : revD true (.lst ds) st = newL true ds.reverse st := rfl
  rw [e, newL_t _ _ (by rw [List.length_reverse]; exact h)]
theorem disp_src (m : Int) : dispOf [.str "cells", .loc 0, .str "left", .int 1, .str "mixed", .int m, .str "turn", .int 0] = some (srcT 1 m 0) := rfl
theorem put_src (m : Int) : putAll [] (srcT 1 m 0) = srcT 1 m 0 := by
  unfold srcT
  simp only [putAll, List.foldl_cons, List.foldl_nil, putA, List.any_nil, Bool.false_eq_true, if_false, List.nil_append, List.any_cons, Bool.or_false, decide_eq_true_eq]
  rfl
theorem src_made (ns : List Int) (h : ns.length ≤ 63) (m : Int) : Source [.lst ((ns.map fun i => D.int (if i < 0 then -i else i)).reverse), .dK (srcT 1 m 0)] :=
  ⟨1, m, 0, (ns.map fun i => if i < 0 then -i else i).reverse, ⟨by simp [intL], by simpa using h, rfl⟩⟩
def OpenOk (d : D) (st : Store) : Prop := d = .loc 1 ∧ Source st ∧ st.length = 2
theorem cells1_ok {Pr : Prog} (hp : Pr "_law_open_cells" = some d_cells1) (k : Nat) (ns : List Int) (h : ns.length ≤ 63) : OkP (phi Pr (k + 1) "_law_open_cells" [.scr (ns.map D.int)] []) OpenOk := by
  rw [phi_def hp rfl]
  have hl : ns.length ≤ sizeLine := few (by omega)
  obtain ⟨fr, st', e, rfl, j, y, rfl⟩ := (stir_loop (F := phi Pr k) ns none 11 [none] (some (.scr (ns.map D.int))) []).ex
  simp only [d_cells1, List.map_cons, List.map_nil, List.replicate, List.cons_append, List.nil_append, ev_var, ev_int, ev_bl, ev_non, ev_str, ev_tup, ev_lst, ev_dnew, ev_disp, ev_bin, ev_neg, ev_cmp, ev_chain, ev_and, ev_or, ev_not, ev_ite, ev_ix, ev_sl, ev_rev, ev_call, ev_bi, ev_mt, ev_comp2, ev_nil, ev_cons, ev_ifn, ev_ifc,  ev_asg, ev_aug, ev_setIx, ev_augIx, ev_ex, ev_ret, ev_retN, ev_if, ev_for2, ev_brk, ev_cont, ev_pass, ev_snil, ev_scons, then_nx, then_rt, then_bk, then_ct, end_rt, end_nx, optR_some, finish_self, asg_nm, asg_tp, asg_nil, asg_cons,  truth_bl, truth_int, Res.bind_ok, safe_ok, List.getElem?_cons_zero, List.getElem?_cons_succ, List.set_cons_zero, List.set_cons_succ, List.length_cons, List.length_nil, Option.map_some, Option.bind_some, Option.bind_eq_bind, wipeE, if_true, if_false, Bool.false_eq_true, ite_true, ite_false, reduceIte, reduceCtorEq, forK_scr, e, compK_tup, compK_lst, compK_scr, compK_rng, compK_enum, compK_enumL, stepC_eq, cM_map, cM_ok, cM_if, cM_if2, bind_ite, ite_else, cM_nil, cM_cons, b_add, b_sub, b_eq, b_ne, b_lt, b_le, b_gt, b_ge, u_abs, u_int, u_intb, u_tuple_l, u_tuple_t, u_len_l, u_len_t, eq_self, decide_true, decide_false, newL_f, List.length_map, hl, rev_t, disp_src]
  rw [put_src, if_pos (show (srcT 1 j 0).length ≤ 15 from by simp [srcT])]
  try simp only [ev_var, ev_int, ev_bl, ev_non, ev_str, ev_tup, ev_lst, ev_dnew, ev_disp, ev_bin, ev_neg, ev_cmp, ev_chain, ev_and, ev_or, ev_not, ev_ite, ev_ix, ev_sl, ev_rev, ev_call, ev_bi, ev_mt, ev_comp2, ev_nil, ev_cons, ev_ifn, ev_ifc,  ev_asg, ev_aug, ev_setIx, ev_augIx, ev_ex, ev_ret, ev_retN, ev_if, ev_for2, ev_brk, ev_cont, ev_pass, ev_snil, ev_scons, then_nx, then_rt, then_bk, then_ct, end_rt, end_nx, optR_some, finish_self, asg_nm, asg_tp, asg_nil, asg_cons,  truth_bl, truth_int, Res.bind_ok, safe_ok, List.getElem?_cons_zero, List.getElem?_cons_succ, List.set_cons_zero, List.set_cons_succ, List.length_cons, List.length_nil, Option.map_some, Option.bind_some, Option.bind_eq_bind, wipeE, if_true, if_false, Bool.false_eq_true, ite_true, ite_false, reduceIte, reduceCtorEq]
  have f : finish [] (.loc 1) [Ob.lst ((ns.map fun i => D.int (if i < 0 then -i else i)).reverse), .dK (srcT 1 j 0)] = .ok (.loc 1) [Ob.lst ((ns.map fun i => D.int (if i < 0 then -i else i)).reverse), .dK (srcT 1 j 0)] := by
    unfold finish
    rw [if_neg (by simp [D.low])]
  show OkP (finish [] (.loc 1) [Ob.lst ((ns.map fun i => D.int (if i < 0 then -i else i)).reverse), .dK (srcT 1 j 0)]) OpenOk
  rw [f]
  exact okP_ok.mpr ⟨rfl, src_made ns h j, rfl⟩
def d_cells2 : Df := ⟨1, 3, [
  .asg (.nm 1) (.int 11),
  .for_ (.nm 2) .val [(.var 0)] [.asg (.nm 1) (.bin false .Mod (.bi false .int [(.bin false .Add (.bin false .Add (.bin false .Mult (.var 1) (.int 69069)) (.bin false .Mult (.var 2) (.int 31))) (.int 5))]) (.int 2147483629))],
  .ret (.disp [(.str "cells"), (.rev true (.comp false (.bi false .abs [(.var 2)]) (.nm 2) .val [(.var 0)] [] [2])), (.str "left"), (.int 1), (.str "mixed"), (.var 1), (.str "turn"), (.int 0)])]⟩
theorem cells2_ok {Pr : Prog} (hp : Pr "_law_source" = some d_cells2) (k : Nat) (ns : List Int) (h : ns.length ≤ 63) : OkP (phi Pr (k + 1) "_law_source" [.scr (ns.map D.int)] []) OpenOk := by
  rw [phi_def hp rfl]
  have hl : ns.length ≤ sizeLine := few (by omega)
  obtain ⟨fr, st', e, rfl, j, y, rfl⟩ := (stir_loop (F := phi Pr k) ns none 11 [] (some (.scr (ns.map D.int))) []).ex
  simp only [d_cells2, List.map_cons, List.map_nil, List.replicate, List.cons_append, List.nil_append, ev_var, ev_int, ev_bl, ev_non, ev_str, ev_tup, ev_lst, ev_dnew, ev_disp, ev_bin, ev_neg, ev_cmp, ev_chain, ev_and, ev_or, ev_not, ev_ite, ev_ix, ev_sl, ev_rev, ev_call, ev_bi, ev_mt, ev_comp2, ev_nil, ev_cons, ev_ifn, ev_ifc,  ev_asg, ev_aug, ev_setIx, ev_augIx, ev_ex, ev_ret, ev_retN, ev_if, ev_for2, ev_brk, ev_cont, ev_pass, ev_snil, ev_scons, then_nx, then_rt, then_bk, then_ct, end_rt, end_nx, optR_some, finish_self, asg_nm, asg_tp, asg_nil, asg_cons,  truth_bl, truth_int, Res.bind_ok, safe_ok, List.getElem?_cons_zero, List.getElem?_cons_succ, List.set_cons_zero, List.set_cons_succ, List.length_cons, List.length_nil, Option.map_some, Option.bind_some, Option.bind_eq_bind, wipeE, if_true, if_false, Bool.false_eq_true, ite_true, ite_false, reduceIte, reduceCtorEq, forK_scr, e, compK_tup, compK_lst, compK_scr, compK_rng, compK_enum, compK_enumL, stepC_eq, cM_map, cM_ok, cM_if, cM_if2, bind_ite, ite_else, cM_nil, cM_cons, b_add, b_sub, b_eq, b_ne, b_lt, b_le, b_gt, b_ge, u_abs, u_int, u_intb, u_tuple_l, u_tuple_t, u_len_l, u_len_t, eq_self, decide_true, decide_false, newL_f, List.length_map, hl, rev_t, disp_src]
  rw [put_src, if_pos (show (srcT 1 j 0).length ≤ 15 from by simp [srcT])]
  try simp only [ev_var, ev_int, ev_bl, ev_non, ev_str, ev_tup, ev_lst, ev_dnew, ev_disp, ev_bin, ev_neg, ev_cmp, ev_chain, ev_and, ev_or, ev_not, ev_ite, ev_ix, ev_sl, ev_rev, ev_call, ev_bi, ev_mt, ev_comp2, ev_nil, ev_cons, ev_ifn, ev_ifc,  ev_asg, ev_aug, ev_setIx, ev_augIx, ev_ex, ev_ret, ev_retN, ev_if, ev_for2, ev_brk, ev_cont, ev_pass, ev_snil, ev_scons, then_nx, then_rt, then_bk, then_ct, end_rt, end_nx, optR_some, finish_self, asg_nm, asg_tp, asg_nil, asg_cons,  truth_bl, truth_int, Res.bind_ok, safe_ok, List.getElem?_cons_zero, List.getElem?_cons_succ, List.set_cons_zero, List.set_cons_succ, List.length_cons, List.length_nil, Option.map_some, Option.bind_some, Option.bind_eq_bind, wipeE, if_true, if_false, Bool.false_eq_true, ite_true, ite_false, reduceIte, reduceCtorEq]
  have f : finish [] (.loc 1) [Ob.lst ((ns.map fun i => D.int (if i < 0 then -i else i)).reverse), .dK (srcT 1 j 0)] = .ok (.loc 1) [Ob.lst ((ns.map fun i => D.int (if i < 0 then -i else i)).reverse), .dK (srcT 1 j 0)] := by
    unfold finish
    rw [if_neg (by simp [D.low])]
  show OkP (finish [] (.loc 1) [Ob.lst ((ns.map fun i => D.int (if i < 0 then -i else i)).reverse), .dK (srcT 1 j 0)]) OpenOk
  rw [f]
  exact okP_ok.mpr ⟨rfl, src_made ns h j, rfl⟩
/-! ### a draw, whichever of the two programs -/
/-- what every law of this layer leans on: its draws -/
structure Draws (Pr : Prog) : Prop where
  pick : ∀ (k : Nat) {st : Store}, Source st → ∀ n : Int, n.natAbs < 1073741824 → Dr st (phi Pr (k + 1) "_law_pick" [.loc 1, .int n] st) (Drawn n)
theorem Drawn.nat {n : Nat} {d : D} (h : Drawn (n : Nat) d) (h0 : 0 < n) : ∃ r : Nat, r < n ∧ d = .int (r : Nat) := by
  obtain ⟨r, rfl, h1, h2⟩ := h
  refine ⟨r.toNat, by omega, ?_⟩
  congr 1; omega
def d_of : Df := ⟨2, 2, [.ret (.ix (.var 1) (.call "_law_pick" [(.var 0), (.bi false .len [(.var 1)])]))]⟩
theorem Dr.of_eq {st : Store} {d : D} {P : D → Prop} (h : Source st) (hp : P d) : Dr st (.ok d st) P := dr_ok (Kept.refl st) h hp
theorem Dr.imp {st : Store} {r : Res D} {P Q : D → Prop} (h : Dr st r P) (f : ∀ d, P d → Q d) : Dr st r Q := OkP.imp h fun d st q => ⟨q.1, q.2.1, f d q.2.2⟩
theorem of_ok {Pr : Prog} (W : Draws Pr) (hp : Pr "_law_of" = some d_of) (k : Nat) {st : Store} (h : Source st) {d : D} {ds : List D} (hd : Seq d ds) (h0 : ds ≠ []) (hl : ds.length ≤ 1000) : Dr st (phi Pr (k + 2) "_law_of" [.loc 1, d] st) (fun x => x ∈ ds) := by
  have hz : 0 < ds.length := List.length_pos_iff.mpr h0
  obtain ⟨x, st1, e, hk, hs, hx⟩ := (W.pick k h (ds.length : Nat) (by omega)).ex
  obtain ⟨r, hr, rfl⟩ := hx.nat hz
  clear hx
  rw [phi_def hp rfl]
  cases hd with
  | tup _ =>
    simp only [d_of, List.map_cons, List.map_nil, List.replicate, List.append_nil, Nat.sub_self, ev_var, ev_int, ev_bl, ev_non, ev_str, ev_tup, ev_lst, ev_dnew, ev_disp, ev_bin, ev_neg, ev_cmp, ev_chain, ev_and, ev_or, ev_not, ev_ite, ev_ix, ev_sl, ev_rev, ev_call, ev_bi, ev_mt, ev_comp2, ev_nil, ev_cons, ev_ifn, ev_ifc,  ev_asg, ev_aug, ev_setIx, ev_augIx, ev_ex, ev_ret, ev_retN, ev_if, ev_for2, ev_brk, ev_cont, ev_pass, ev_snil, ev_scons, then_nx, then_rt, then_bk, then_ct, end_rt, end_nx, optR_some, finish_self, asg_nm, asg_tp, asg_nil, asg_cons,  truth_bl, truth_int, Res.bind_ok, safe_ok, List.getElem?_cons_zero, List.getElem?_cons_succ, List.set_cons_zero, List.set_cons_succ, List.length_cons, List.length_nil, Option.map_some, Option.bind_some, Option.bind_eq_bind, wipeE, if_true, if_false, Bool.false_eq_true, ite_true, ite_false, reduceIte, reduceCtorEq, b_add, b_sub, b_eq, b_ne, b_lt, b_le, b_gt, b_ge, u_abs, u_int, u_intb, u_tuple_l, u_tuple_t, u_len_l, u_len_t, eq_self, decide_true, decide_false, e, x_tup, List.getElem?_eq_getElem hr]
    rw [finish_len hk.1]
    exact dr_ok hk hs (List.getElem_mem _)
  | lst _ =>
    simp only [d_of, List.map_cons, List.map_nil, List.replicate, List.append_nil, Nat.sub_self, ev_var, ev_int, ev_bl, ev_non, ev_str, ev_tup, ev_lst, ev_dnew, ev_disp, ev_bin, ev_neg, ev_cmp, ev_chain, ev_and, ev_or, ev_not, ev_ite, ev_ix, ev_sl, ev_rev, ev_call, ev_bi, ev_mt, ev_comp2, ev_nil, ev_cons, ev_ifn, ev_ifc,  ev_asg, ev_aug, ev_setIx, ev_augIx, ev_ex, ev_ret, ev_retN, ev_if, ev_for2, ev_brk, ev_cont, ev_pass, ev_snil, ev_scons, then_nx, then_rt, then_bk, then_ct, end_rt, end_nx, optR_some, finish_self, asg_nm, asg_tp, asg_nil, asg_cons,  truth_bl, truth_int, Res.bind_ok, safe_ok, List.getElem?_cons_zero, List.getElem?_cons_succ, List.set_cons_zero, List.set_cons_succ, List.length_cons, List.length_nil, Option.map_some, Option.bind_some, Option.bind_eq_bind, wipeE, if_true, if_false, Bool.false_eq_true, ite_true, ite_false, reduceIte, reduceCtorEq, b_add, b_sub, b_eq, b_ne, b_lt, b_le, b_gt, b_ge, u_abs, u_int, u_intb, u_tuple_l, u_tuple_t, u_len_l, u_len_t, eq_self, decide_true, decide_false, e, x_lst, List.getElem?_eq_getElem hr]
    rw [finish_len hk.1]
    exact dr_ok hk hs (List.getElem_mem _)
/-! ### a row of draws -/
theorem cM_draw {α : Type} {f : α → Store → Res (Option D)} {l : List α} (P : α → D → Prop) {st : Store} (h : Source st) (hs : ∀ x, x ∈ l → ∀ st, Source st → OkP (f x st) fun o st' => Kept st st' ∧ Source st' ∧ ∃ d, o = some d ∧ P x d) :
    OkP (cM f l st) fun ds st' => Kept st st' ∧ Source st' ∧ ds.length = l.length ∧ ∀ p, p ∈ l.zip ds → P p.1 p.2 := by
  induction l generalizing st with
  | nil => exact okP_ok.mpr ⟨Kept.refl st, h, rfl, fun p hp => by cases hp⟩
  | cons x l ih =>
    rw [cM]
    refine (hs x (List.mem_cons_self ..) st h).bind fun o st1 q => ?_
    obtain ⟨k1, s1, d, rfl, pd⟩ := q
    refine (ih s1 fun y hy => hs y (List.mem_cons_of_mem _ hy)).bind fun ds st2 q2 => ?_
    obtain ⟨k2, s2, e2, z2⟩ := q2
    refine okP_ok.mpr ⟨k1.trans k2, s2, by simp [e2], fun p hp => ?_⟩
    rcases List.mem_cons.mp (show p ∈ (x, d) :: l.zip ds from hp) with rfl | hp
    · exact pd
    · exact z2 p hp
end WT

set_option Elab.async false
set_option linter.all false
set_option maxRecDepth 100000
set_option maxHeartbeats 4000000
/-! WSc: stores with more places; nets drawn into a dict. -/
namespace WT
open PySem
theorem Source.len {s : Store} (h : Source s) : 1 < s.length := by
  obtain ⟨l, m, t, cs, h⟩ := h; exact h.len
theorem Source.of_same {s t : Store} (h : Source s) (h0 : t[0]? = s[0]?) (h1 : t[1]? = s[1]?) : Source t := by
  obtain ⟨l, m, tt, cs, h⟩ := h
  exact ⟨l, m, tt, cs, ⟨h0.trans h.cell, h.few, h1.trans h.tab⟩⟩
theorem Source.app {s : Store} (h : Source s) (g : Store) : Source (s ++ g) := by
  have := h.len
  exact h.of_same (List.getElem?_append_left (by omega)) (List.getElem?_append_left (by omega))
theorem Kept.app {s g t : Store} (h : Source s) (hk : Kept (s ++ g) t) (ht : Source t) : ∃ s', t = s' ++ g ∧ Kept s s' ∧ Source s' := by
  have hl := h.len
  have hlen : t.length = s.length + g.length := by rw [hk.1, List.length_append]
  have e : t.drop s.length = g := by
    apply List.ext_getElem?
    intro i
    rw [List.getElem?_drop, hk.2 _ (by omega), List.getElem?_append_right (by omega)]
    congr 1; omega
  refine ⟨t.take s.length, ?_, ⟨by rw [List.length_take]; omega, fun i hi => ?_⟩, ht.of_same ?_ ?_⟩
  · conv => lhs; rw [← List.take_append_drop s.length t, e]
  · rw [List.getElem?_take]
    split
    · rw [hk.2 i hi, List.getElem?_append_left (by omega)]
    · rw [List.getElem?_eq_none (by omega)]
  · rw [List.getElem?_take, if_pos (by omega)]
  · rw [List.getElem?_take, if_pos (by omega)]
theorem lowL_ints (ns : List Int) (n : Nat) : D.lowL (intL ns) n = true := by
  unfold intL
  induction ns with
  | nil => rfl
  | cons x ns ih => simp only [List.map_cons, D.lowL, D.low, Bool.true_and]; exact ih
/-- behind a call: the source may have moved, all else stays, what lies behind is dropped -/
theorem finish_src {st s g : Store} {d : D} (hk : Kept st s) (hs : Source s) (hd : D.low d st.length = true) : finish st d (s ++ g) = .ok d s := by
  have hl := hs.len
  refine finish_drop hk.1 hd fun i hi => ?_
  rcases Nat.lt_or_ge i 2 with q | q
  · right
    obtain ⟨l, m, t, cs, h⟩ := hs
    have : i = 0 ∨ i = 1 := by omega
    rcases this with rfl | rfl
    · exact ⟨_, h.cell, lowL_ints _ _⟩
    · refine ⟨_, h.tab, ?_⟩
      have z : 0 < st.length := by omega
      simp [Ob.low, srcT, D.low, z]
  · exact .inl (hk.2 i q)
/-- a draw beside other places -/
theorem pick_app {Pr : Prog} (W : Draws Pr) (k : Nat) {s : Store} (h : Source s) (g : Store) (n : Int) (hn : n.natAbs < 1073741824) : OkP (phi Pr (k + 1) "_law_pick" [.loc 1, .int n] (s ++ g)) fun d t => ∃ s', t = s' ++ g ∧ Kept s s' ∧ Source s' ∧ Drawn n d :=
  OkP.imp (W.pick k (h.app g) n hn) fun d t q => by
    obtain ⟨s', e, k1, s1⟩ := Kept.app h q.1 q.2.1
    exact ⟨s', e, k1, s1, q.2.2⟩
/-! ### nets -/
abbrev Arrow := Int × Int × Int
def arD (a : Arrow) : D := .tup [.int a.1, .int a.2.1, .int a.2.2]
def netD (p d : Nat) (as : List Arrow) : D := .tup [.int p, .int d, .tup (as.map arD)]
/-- an arrow within -/
def InN (p d : Nat) (a : Arrow) : Prop := (∃ (q t : Nat), q < p ∧ t < d ∧ a = (0, (q : Int), (t : Int))) ∨ ∃ (q t : Nat), q < p ∧ t < d ∧ a = (1, (t : Int), (q : Int))
theorem nodup_sub {α : Type} [DecidableEq α] {l m : List α} (h : l.Nodup) (hs : ∀ x, x ∈ l → x ∈ m) : l.length ≤ m.length := by
  induction l generalizing m with
  | nil => simp
  | cons x l ih =>
    have hx := hs x (List.mem_cons_self ..)
    have hn := List.nodup_cons.mp h
    have := ih (m := m.erase x) hn.2 fun y hy => by
      refine (List.mem_erase_of_ne ?_).mpr (hs y (List.mem_cons_of_mem _ hy))
      rintro rfl; exact hn.1 hy
    rw [List.length_erase_of_mem hx] at this
    have h0 : 0 < m.length := List.length_pos_of_mem hx
    simp only [List.length_cons]; omega
def allAr (p d : Nat) : List Arrow := ((List.range p).flatMap fun q : Nat => (List.range d).map fun t : Nat => ((0, (q : Int), (t : Int)) : Arrow)) ++ ((List.range p).flatMap fun q : Nat => (List.range d).map fun t : Nat => ((1, (t : Int), (q : Int)) : Arrow))
theorem flat_len {α : Type} (f : Nat → List α) (d : Nat) (hf : ∀ q, (f q).length = d) : ∀ l : List Nat, (l.flatMap f).length = l.length * d
  | [] => by simp
  | x :: l => by rw [List.flatMap_cons, List.length_append, hf, flat_len f d hf l, List.length_cons, Nat.add_mul]; omega
theorem allAr_len (p d : Nat) : (allAr p d).length = 2 * (p * d) := by
  unfold allAr
  rw [List.length_append, flat_len _ d (by simp), flat_len _ d (by simp), List.length_range]; omega
theorem allAr_mem {p d : Nat} {a : Arrow} (h : InN p d a) : a ∈ allAr p d := by
  unfold allAr
  rw [List.mem_append, List.mem_flatMap, List.mem_flatMap]
  rcases h with ⟨q, t, hq, ht, rfl⟩ | ⟨q, t, hq, ht, rfl⟩
  · exact .inl ⟨q, List.mem_range.mpr hq, List.mem_map.mpr ⟨t, List.mem_range.mpr ht, rfl⟩⟩
  · exact .inr ⟨q, List.mem_range.mpr hq, List.mem_map.mpr ⟨t, List.mem_range.mpr ht, rfl⟩⟩
theorem net_few {p d : Nat} {as : List Arrow} (h : as.Nodup) (hi : ∀ a, a ∈ as → InN p d a) : as.length ≤ 2 * (p * d) := by
  rw [← allAr_len]; exact nodup_sub h fun a ha => allAr_mem (hi a ha)
/-! ### a dict of arrows -/
def arK (a : Arrow) : List (Int ⊕ Str) := [.inl a.1, .inl a.2.1, .inl a.2.2]
theorem arK_inj {a b : Arrow} (h : arK a = arK b) : a = b := by
  obtain ⟨a1, a2, a3⟩ := a; obtain ⟨b1, b2, b3⟩ := b
  simp only [arK, List.cons.injEq, Sum.inl.injEq] at h
  rw [h.1, h.2.1, h.2.2.1]
theorem arK_of (a : Arrow) : (arD a).keyT = some (arK a) := rfl
theorem arK_d (a : Arrow) : keyTd (arK a) = arD a := rfl
def kvT (as : List Arrow) : List (List (Int ⊕ Str) × D) := as.map fun a => (arK a, .bl true)
theorem put_kvT (as : List Arrow) (a : Arrow) : ∃ as', putA (kvT as) (arK a) (.bl true) = kvT as' ∧ (as.Nodup → as'.Nodup) ∧ ∀ x, x ∈ as' ↔ x = a ∨ x ∈ as := by
  unfold putA
  by_cases h : a ∈ as
  · refine ⟨as, ?_, id, fun x => ⟨.inr, fun q => q.elim (fun e => e ▸ h) id⟩⟩
    have hx : (kvT as).any (fun p => decide (p.1 = arK a)) = true := List.any_eq_true.mpr ⟨(arK a, .bl true), List.mem_map.mpr ⟨a, h, rfl⟩, by simp⟩
    rw [if_pos hx]
    unfold kvT
    rw [List.map_map]
    refine List.map_congr_left fun x _ => ?_
    simp only [Function.comp_def]
    split <;> rfl
  · refine ⟨as ++ [a], ?_, fun hn => ?_, fun x => by simp; exact or_comm⟩
    · have hx : ¬ (kvT as).any (fun p => decide (p.1 = arK a)) = true := fun q => by
        obtain ⟨x, hx, e⟩ := List.any_eq_true.mp q
        obtain ⟨b, hb, rfl⟩ := List.mem_map.mp hx
        simp only [decide_eq_true_eq] at e
        rw [arK_inj e] at hb; exact h hb
      rw [if_neg hx]
      unfold kvT
      rw [List.map_append]; rfl
    · rw [List.nodup_append]
      exact ⟨hn, by simp, fun x hx y hy => by rw [List.mem_singleton] at hy; rintro rfl; subst hy; exact h hx⟩
/-! ### a net on the way: the dict behind the elder places -/
def NetSt (st : Store) (p d : Nat) (t : Store) : Prop := ∃ s as, t = s ++ [.dT (kvT as)] ∧ Kept st s ∧ Source s ∧ as.Nodup ∧ ∀ a, a ∈ as → InN p d a
theorem pick_net {Pr : Prog} (W : Draws Pr) (k : Nat) {st t : Store} {p d : Nat} (h : NetSt st p d t) (n : Int) (hn : n.natAbs < 1073741824) : OkP (phi Pr (k + 1) "_law_pick" [.loc 1, .int n] t) fun x t' => NetSt st p d t' ∧ Drawn n x := by
  obtain ⟨s, as, rfl, hk, hs, h1, h2⟩ := h
  exact (pick_app W k hs _ n hn).imp fun x t' q => by
    obtain ⟨s', rfl, k1, s1, dr⟩ := q
    exact ⟨⟨s', as, rfl, hk.trans k1, s1, h1, h2⟩, dr⟩
theorem put_net {st t : Store} {p d : Nat} (h : NetSt st p d t) (hp : p ≤ 20) (hd : d ≤ 20) {a : Arrow} (ha : InN p d a) : ∃ t', setD (.loc st.length) (.tup [.int a.1, .int a.2.1, .int a.2.2]) (.bl true) t = some t' ∧ NetSt st p d t' := by
  obtain ⟨s, as, rfl, hk, hs, h1, h2⟩ := h
  obtain ⟨as', e, n1, m1⟩ := put_kvT as a
  have hz : (kvT as).length < sizeLine := by
    have q := net_few h1 h2
    have : p * d ≤ 20 * 20 := Nat.mul_le_mul hp hd
    rw [sizeLine_eq]; simp only [kvT, List.length_map]; omega
  refine ⟨s ++ [.dT (kvT as')], ?_, s, as', rfl, hk, hs, n1 h1, fun x hx => ?_⟩
  · have g : (s ++ [Ob.dT (kvT as)])[st.length]? = some (.dT (kvT as)) := by
      rw [← hk.1, List.getElem?_append_right (Nat.le_refl _), Nat.sub_self]; rfl
    have g2 : (s ++ [Ob.dT (kvT as)]).set st.length (.dT (kvT as')) = s ++ [.dT (kvT as')] := by
      rw [← hk.1, List.set_append_right _ _ (Nat.le_refl _), Nat.sub_self]; rfl
    have kk : (D.tup [.int a.1, .int a.2.1, .int a.2.2]).keyT = some (arK a) := rfl
    simp only [setD, g, kk, if_pos hz, e, g2]
  · rcases (m1 x).mp hx with rfl | hx
    · exact ha
    · exact h2 x hx
end WT

set_option Elab.async false
set_option linter.all false
set_option maxRecDepth 100000
set_option maxHeartbeats 4000000
/-! WSd: the net of laws k26 and its like. -/
namespace WT
open PySem
def loopA : List S := [.for_ (.nm 4) .rng [(.var 6)] [.ite (.cmp .Eq (.call "_law_pick" [(.var 0), (.var 8)]) (.int 0)) [.setIx (.var 9) (.tup [(.int 0), (.var 3), (.var 4)]) (.bl true)] [], .ite (.cmp .Eq (.call "_law_pick" [(.var 0), (.var 8)]) (.int 0)) [.setIx (.var 9) (.tup [(.int 1), (.var 4), (.var 3)]) (.bl true)] []]]
def loopB : List S := [.ite (.cmp .Eq (.call "_law_pick" [(.var 0), (.var 8)]) (.int 0)) [.setIx (.var 9) (.tup [(.int 0), (.var 3), (.var 4)]) (.bl true)] [], .ite (.cmp .Eq (.call "_law_pick" [(.var 0), (.var 8)]) (.int 0)) [.setIx (.var 9) (.tup [(.int 1), (.var 4), (.var 3)]) (.bl true)] []]
def loopC : List S := [.setIx (.var 9) (.tup [(.int 0), (.call "_law_pick" [(.var 0), (.var 5)]), (.var 4)]) (.bl true), .setIx (.var 9) (.tup [(.int 1), (.var 4), (.call "_law_pick" [(.var 0), (.var 5)])]) (.bl true)]
def loopD : List S := [.setIx (.var 9) (.tup [(.int 0), (.bin false .Mod (.bi false .int [(.var 4)]) (.var 5)), (.var 4)]) (.bl true), .setIx (.var 9) (.tup [(.int 1), (.var 4), (.bin false .Mod (.bi false .int [(.bin false .Add (.var 4) (.int 1))]) (.var 5))]) (.bl true)]
def d_net1 : Df := ⟨3, 10, [
  .asg (.tp [(.nm 5), (.nm 6), (.nm 7)]) (.tup [(.bin false .Add (.int 1) (.call "_law_pick" [(.var 0), (.var 1)])), (.bin false .Add (.int 1) (.call "_law_pick" [(.var 0), (.var 2)])), (.call "_law_pick" [(.var 0), (.int 4)])]),
  .asg (.tp [(.nm 8), (.nm 9)]) (.tup [(.bin false .Add (.int 2) (.call "_law_pick" [(.var 0), (.int 4)])), (.dnew true)]),
  .for_ (.nm 3) .rng [(.var 5)] loopA,
  .for_ (.nm 4) .rng [(.ite (.cmp .Lt (.var 7) (.int 2)) (.var 6) (.int 0))] loopC,
  .for_ (.nm 4) .rng [(.ite (.cmp .Eq (.var 7) (.int 2)) (.var 6) (.int 0))] loopD,
  .ret (.tup [(.var 5), (.var 6), (.bi false .tuple [(.bi false .sorted [(.bi false .list [(.var 9)])])])])]⟩
section
variable {Pr : Prog} {k : Nat} {st t : Store} {p d : Nat}
/-- the slots -/
abbrev envN (a b : D) (q t : Option D) (p d : Nat) (w sh : Int) (n : Nat) : Env := [some (.loc 1), some a, some b, q, t, some (.int (p : Nat)), some (.int (d : Nat)), some (.int w), some (.int sh), some (.loc n)]
theorem net_roundB (W : Draws Pr) (h : NetSt st p d t) (hp : p ≤ 20) (hd : d ≤ 20) {a b : D} {w sh : Int} (hs : sh.natAbs < 1073741824) {q u : Nat} (hq : q < p) (hu : u < d) :
    OkP (denSs (phi Pr (k + 1)) loopB (envN a b (some (.int (q : Nat))) (some (.int (u : Nat))) p d w sh st.length) t) fun fr t' => fr = (.nx, envN a b (some (.int (q : Nat))) (some (.int (u : Nat))) p d w sh st.length) ∧ NetSt st p d t' := by
  have second : ∀ t, NetSt st p d t → OkP (denSs (phi Pr (k + 1)) [.ite (.cmp .Eq (.call "_law_pick" [(.var 0), (.var 8)]) (.int 0)) [.setIx (.var 9) (.tup [(.int 1), (.var 4), (.var 3)]) (.bl true)] []] (envN a b (some (.int (q : Nat))) (some (.int (u : Nat))) p d w sh st.length) t) fun fr t' => fr = (.nx, envN a b (some (.int (q : Nat))) (some (.int (u : Nat))) p d w sh st.length) ∧ NetSt st p d t' := by
    intro t h
    obtain ⟨x, t1, e, h1, i, rfl, _⟩ := (pick_net (k := k) W h sh hs).ex
    by_cases hi : i = 0
    · obtain ⟨t2, e2, h2⟩ := put_net h1 hp hd (a := (1, (u : Int), (q : Int))) (.inr ⟨q, u, hq, hu, rfl⟩)
      simp only [envN, ev_var, ev_int, ev_bl, ev_non, ev_str, ev_tup, ev_lst, ev_dnew, ev_disp, ev_bin, ev_neg, ev_cmp, ev_chain, ev_and, ev_or, ev_not, ev_ite, ev_ix, ev_sl, ev_rev, ev_call, ev_bi, ev_mt, ev_comp2, ev_nil, ev_cons, ev_ifn, ev_ifc,  ev_asg, ev_aug, ev_setIx, ev_augIx, ev_ex, ev_ret, ev_retN, ev_if, ev_for2, ev_brk, ev_cont, ev_pass, ev_snil, ev_scons, then_nx, then_rt, then_bk, then_ct, end_rt, end_nx, optR_some, finish_self, asg_nm, asg_tp, asg_nil, asg_cons,  truth_bl, truth_int, Res.bind_ok, safe_ok, List.getElem?_cons_zero, List.getElem?_cons_succ, List.set_cons_zero, List.set_cons_succ, List.length_cons, List.length_nil, Option.map_some, Option.bind_some, Option.bind_eq_bind, wipeE, if_true, if_false, Bool.false_eq_true, ite_true, ite_false, reduceIte, reduceCtorEq, b_add, b_sub, b_eq, b_ne, b_lt, b_le, b_gt, b_ge, u_abs, u_int, u_intb, u_tuple_l, u_tuple_t, u_len_l, u_len_t, eq_self, decide_true, decide_false, e, hi, e2, few (show 0 + 1 + 1 + 1 ≤ 1000 by decide), okP_ok]
      exact ⟨trivial, h2⟩
    · simp only [envN, ev_var, ev_int, ev_bl, ev_non, ev_str, ev_tup, ev_lst, ev_dnew, ev_disp, ev_bin, ev_neg, ev_cmp, ev_chain, ev_and, ev_or, ev_not, ev_ite, ev_ix, ev_sl, ev_rev, ev_call, ev_bi, ev_mt, ev_comp2, ev_nil, ev_cons, ev_ifn, ev_ifc,  ev_asg, ev_aug, ev_setIx, ev_augIx, ev_ex, ev_ret, ev_retN, ev_if, ev_for2, ev_brk, ev_cont, ev_pass, ev_snil, ev_scons, then_nx, then_rt, then_bk, then_ct, end_rt, end_nx, optR_some, finish_self, asg_nm, asg_tp, asg_nil, asg_cons,  truth_bl, truth_int, Res.bind_ok, safe_ok, List.getElem?_cons_zero, List.getElem?_cons_succ, List.set_cons_zero, List.set_cons_succ, List.length_cons, List.length_nil, Option.map_some, Option.bind_some, Option.bind_eq_bind, wipeE, if_true, if_false, Bool.false_eq_true, ite_true, ite_false, reduceIte, reduceCtorEq, b_add, b_sub, b_eq, b_ne, b_lt, b_le, b_gt, b_ge, u_abs, u_int, u_intb, u_tuple_l, u_tuple_t, u_len_l, u_len_t, eq_self, decide_true, decide_false, e, hi, okP_ok]
      exact ⟨trivial, h1⟩
  obtain ⟨x, t1, e, h1, i, rfl, _⟩ := (pick_net (k := k) W h sh hs).ex
  rw [loopB, ev_scons]
  by_cases hi : i = 0
  · obtain ⟨t2, e2, h2⟩ := put_net h1 hp hd (a := (0, (q : Int), (u : Int))) (.inl ⟨q, u, hq, hu, rfl⟩)
    have z : denS (phi Pr (k + 1)) (.ite (.cmp .Eq (.call "_law_pick" [(.var 0), (.var 8)]) (.int 0)) [.setIx (.var 9) (.tup [(.int 0), (.var 3), (.var 4)]) (.bl true)] []) (envN a b (some (.int (q : Nat))) (some (.int (u : Nat))) p d w sh st.length) t = .ok (.nx, envN a b (some (.int (q : Nat))) (some (.int (u : Nat))) p d w sh st.length) t2 := by
      simp only [envN, ev_var, ev_int, ev_bl, ev_non, ev_str, ev_tup, ev_lst, ev_dnew, ev_disp, ev_bin, ev_neg, ev_cmp, ev_chain, ev_and, ev_or, ev_not, ev_ite, ev_ix, ev_sl, ev_rev, ev_call, ev_bi, ev_mt, ev_comp2, ev_nil, ev_cons, ev_ifn, ev_ifc,  ev_asg, ev_aug, ev_setIx, ev_augIx, ev_ex, ev_ret, ev_retN, ev_if, ev_for2, ev_brk, ev_cont, ev_pass, ev_snil, ev_scons, then_nx, then_rt, then_bk, then_ct, end_rt, end_nx, optR_some, finish_self, asg_nm, asg_tp, asg_nil, asg_cons,  truth_bl, truth_int, Res.bind_ok, safe_ok, List.getElem?_cons_zero, List.getElem?_cons_succ, List.set_cons_zero, List.set_cons_succ, List.length_cons, List.length_nil, Option.map_some, Option.bind_some, Option.bind_eq_bind, wipeE, if_true, if_false, Bool.false_eq_true, ite_true, ite_false, reduceIte, reduceCtorEq, b_add, b_sub, b_eq, b_ne, b_lt, b_le, b_gt, b_ge, u_abs, u_int, u_intb, u_tuple_l, u_tuple_t, u_len_l, u_len_t, eq_self, decide_true, decide_false, e, hi, e2, few (show 0 + 1 + 1 + 1 ≤ 1000 by decide)]
    rw [z, Res.bind_ok, then_nx]
    exact second t2 h2
  · have z : denS (phi Pr (k + 1)) (.ite (.cmp .Eq (.call "_law_pick" [(.var 0), (.var 8)]) (.int 0)) [.setIx (.var 9) (.tup [(.int 0), (.var 3), (.var 4)]) (.bl true)] []) (envN a b (some (.int (q : Nat))) (some (.int (u : Nat))) p d w sh st.length) t = .ok (.nx, envN a b (some (.int (q : Nat))) (some (.int (u : Nat))) p d w sh st.length) t1 := by
      simp only [envN, ev_var, ev_int, ev_bl, ev_non, ev_str, ev_tup, ev_lst, ev_dnew, ev_disp, ev_bin, ev_neg, ev_cmp, ev_chain, ev_and, ev_or, ev_not, ev_ite, ev_ix, ev_sl, ev_rev, ev_call, ev_bi, ev_mt, ev_comp2, ev_nil, ev_cons, ev_ifn, ev_ifc,  ev_asg, ev_aug, ev_setIx, ev_augIx, ev_ex, ev_ret, ev_retN, ev_if, ev_for2, ev_brk, ev_cont, ev_pass, ev_snil, ev_scons, then_nx, then_rt, then_bk, then_ct, end_rt, end_nx, optR_some, finish_self, asg_nm, asg_tp, asg_nil, asg_cons,  truth_bl, truth_int, Res.bind_ok, safe_ok, List.getElem?_cons_zero, List.getElem?_cons_succ, List.set_cons_zero, List.set_cons_succ, List.length_cons, List.length_nil, Option.map_some, Option.bind_some, Option.bind_eq_bind, wipeE, if_true, if_false, Bool.false_eq_true, ite_true, ite_false, reduceIte, reduceCtorEq, b_add, b_sub, b_eq, b_ne, b_lt, b_le, b_gt, b_ge, u_abs, u_int, u_intb, u_tuple_l, u_tuple_t, u_len_l, u_len_t, eq_self, decide_true, decide_false, e, hi]
    rw [z, Res.bind_ok, then_nx]
    exact second t1 h1
theorem loopA_eq : loopA = [.for_ (.nm 4) .rng [(.var 6)] loopB] := rfl
theorem few_of {n : Nat} (h : n ≤ 20) : n ≤ sizeLine := few (by omega)
theorem net_loopA (W : Draws Pr) (h : NetSt st p d t) (hp : p ≤ 20) (hd : d ≤ 20) {a b : D} {w sh : Int} (hs : sh.natAbs < 1073741824) {q : Nat} (hq : q < p) (u0 : Option D) :
    OkP (denSs (phi Pr (k + 1)) loopA (envN a b (some (.int (q : Nat))) u0 p d w sh st.length) t) fun fr t' => (∃ u, fr = (.nx, envN a b (some (.int (q : Nat))) u p d w sh st.length)) ∧ NetSt st p d t' := by
  have inner : OkP (loopF (.nm 4) (denSs (phi Pr (k + 1)) loopB) ((List.range d).map fun i => D.int (i : Nat)) (envN a b (some (.int (q : Nat))) u0 p d w sh st.length) t) fun fr t' => (∃ u, fr = (.nx, envN a b (some (.int (q : Nat))) u p d w sh st.length)) ∧ NetSt st p d t' := by
    refine loop_list (fun _ r s => (∃ u, r = envN a b (some (.int (q : Nat))) u p d w sh st.length) ∧ NetSt st p d s) ⟨⟨u0, rfl⟩, h⟩ (fun l1 x l2 r s hx hI => ?_) fun r s hI => ?_
    · obtain ⟨⟨u, rfl⟩, hs1⟩ := hI
      have hxd : x < d := List.mem_range.mp (by rw [hx]; simp)
      refine ⟨_, asg_nm _ _ _, ?_⟩
      refine OkP.imp (net_roundB W hs1 hp hd hs hq hxd) fun fr t' q => ?_
      obtain ⟨rfl, q2⟩ := q
      exact ⟨⟨_, rfl⟩, q2⟩
    · obtain ⟨⟨u, rfl⟩, hs1⟩ := hI
      exact ⟨⟨u, rfl⟩, hs1⟩
  have z : denSs (phi Pr (k + 1)) loopA (envN a b (some (.int (q : Nat))) u0 p d w sh st.length) t = (loopF (.nm 4) (denSs (phi Pr (k + 1)) loopB) ((List.range d).map fun i => D.int (i : Nat)) (envN a b (some (.int (q : Nat))) u0 p d w sh st.length) t).bind (andThen (phi Pr (k + 1)) []) := by
    simp only [loopA_eq, envN, ev_var, ev_int, ev_bl, ev_non, ev_str, ev_tup, ev_lst, ev_dnew, ev_disp, ev_bin, ev_neg, ev_cmp, ev_chain, ev_and, ev_or, ev_not, ev_ite, ev_ix, ev_sl, ev_rev, ev_call, ev_bi, ev_mt, ev_comp2, ev_nil, ev_cons, ev_ifn, ev_ifc,  ev_asg, ev_aug, ev_setIx, ev_augIx, ev_ex, ev_ret, ev_retN, ev_if, ev_for2, ev_brk, ev_cont, ev_pass, ev_snil, ev_scons, then_nx, then_rt, then_bk, then_ct, end_rt, end_nx, optR_some, finish_self, asg_nm, asg_tp, asg_nil, asg_cons,  truth_bl, truth_int, Res.bind_ok, safe_ok, List.getElem?_cons_zero, List.getElem?_cons_succ, List.set_cons_zero, List.set_cons_succ, List.length_cons, List.length_nil, Option.map_some, Option.bind_some, Option.bind_eq_bind, wipeE, if_true, if_false, Bool.false_eq_true, ite_true, ite_false, reduceIte, reduceCtorEq, forK_rng _ _ _ _ _ (few_of hd)]
  rw [z]
  refine OkP.bind inner fun fr t' hq => ?_
  obtain ⟨⟨u, rfl⟩, h1⟩ := hq
  rw [then_nx, ev_snil, okP_ok]
  exact ⟨⟨u, rfl⟩, h1⟩
theorem net_loopC (W : Draws Pr) (h : NetSt st p d t) (hp : p ≤ 20) (hd : d ≤ 20) (hp0 : 0 < p) {a b : D} {w sh : Int} {u : Nat} (hu : u < d) {q : Option D} :
    OkP (denSs (phi Pr (k + 1)) loopC (envN a b q (some (.int (u : Nat))) p d w sh st.length) t) fun fr t' => fr = (.nx, envN a b q (some (.int (u : Nat))) p d w sh st.length) ∧ NetSt st p d t' := by
  obtain ⟨x, t1, e, h1, hx⟩ := (pick_net (k := k) W h (p : Nat) (by omega)).ex
  obtain ⟨i, hi, rfl⟩ := hx.nat hp0
  clear hx
  obtain ⟨t2, e2, h2⟩ := put_net h1 hp hd (a := (0, (i : Int), (u : Int))) (.inl ⟨i, u, hi, hu, rfl⟩)
  obtain ⟨x, t3, e3, h3, hx⟩ := (pick_net (k := k) W h2 (p : Nat) (by omega)).ex
  obtain ⟨j, hj, rfl⟩ := hx.nat hp0
  clear hx
  obtain ⟨t4, e4, h4⟩ := put_net h3 hp hd (a := (1, (u : Int), (j : Int))) (.inr ⟨j, u, hj, hu, rfl⟩)
  simp only [loopC, envN, ev_var, ev_int, ev_bl, ev_non, ev_str, ev_tup, ev_lst, ev_dnew, ev_disp, ev_bin, ev_neg, ev_cmp, ev_chain, ev_and, ev_or, ev_not, ev_ite, ev_ix, ev_sl, ev_rev, ev_call, ev_bi, ev_mt, ev_comp2, ev_nil, ev_cons, ev_ifn, ev_ifc,  ev_asg, ev_aug, ev_setIx, ev_augIx, ev_ex, ev_ret, ev_retN, ev_if, ev_for2, ev_brk, ev_cont, ev_pass, ev_snil, ev_scons, then_nx, then_rt, then_bk, then_ct, end_rt, end_nx, optR_some, finish_self, asg_nm, asg_tp, asg_nil, asg_cons,  truth_bl, truth_int, Res.bind_ok, safe_ok, List.getElem?_cons_zero, List.getElem?_cons_succ, List.set_cons_zero, List.set_cons_succ, List.length_cons, List.length_nil, Option.map_some, Option.bind_some, Option.bind_eq_bind, wipeE, if_true, if_false, Bool.false_eq_true, ite_true, ite_false, reduceIte, reduceCtorEq, b_add, b_sub, b_eq, b_ne, b_lt, b_le, b_gt, b_ge, u_abs, u_int, u_intb, u_tuple_l, u_tuple_t, u_len_l, u_len_t, eq_self, decide_true, decide_false, e, e2, e3, e4, few (show 0 + 1 + 1 + 1 ≤ 1000 by decide), okP_ok]
  exact ⟨trivial, h4⟩
theorem fmod_nat (a b : Nat) : ((a : Nat) : Int).fmod ((b : Nat) : Int) = ((a % b : Nat) : Int) := by
  rw [Int.fmod_eq_emod_of_nonneg _ (by omega)]; rfl
theorem net_loopD (h : NetSt st p d t) (hp : p ≤ 20) (hd : d ≤ 20) (hp0 : 0 < p) {F : Fun} {a b : D} {w sh : Int} {u : Nat} (hu : u < d) {q : Option D} :
    OkP (denSs F loopD (envN a b q (some (.int (u : Nat))) p d w sh st.length) t) fun fr t' => fr = (.nx, envN a b q (some (.int (u : Nat))) p d w sh st.length) ∧ NetSt st p d t' := by
  have hz : ((p : Nat) : Int) ≠ 0 := by omega
  obtain ⟨t2, e2, h2⟩ := put_net h hp hd (a := (0, ((u % p : Nat) : Int), (u : Int))) (.inl ⟨u % p, u, Nat.mod_lt _ hp0, hu, rfl⟩)
  obtain ⟨t4, e4, h4⟩ := put_net h2 hp hd (a := (1, (u : Int), (((u + 1) % p : Nat) : Int))) (.inr ⟨(u + 1) % p, u, Nat.mod_lt _ hp0, hu, rfl⟩)
  have e1 : ((u : Nat) : Int) + 1 = ((u + 1 : Nat) : Int) := by omega
  simp only [loopD, envN, ev_var, ev_int, ev_bl, ev_non, ev_str, ev_tup, ev_lst, ev_dnew, ev_disp, ev_bin, ev_neg, ev_cmp, ev_chain, ev_and, ev_or, ev_not, ev_ite, ev_ix, ev_sl, ev_rev, ev_call, ev_bi, ev_mt, ev_comp2, ev_nil, ev_cons, ev_ifn, ev_ifc,  ev_asg, ev_aug, ev_setIx, ev_augIx, ev_ex, ev_ret, ev_retN, ev_if, ev_for2, ev_brk, ev_cont, ev_pass, ev_snil, ev_scons, then_nx, then_rt, then_bk, then_ct, end_rt, end_nx, optR_some, finish_self, asg_nm, asg_tp, asg_nil, asg_cons,  truth_bl, truth_int, Res.bind_ok, safe_ok, List.getElem?_cons_zero, List.getElem?_cons_succ, List.set_cons_zero, List.set_cons_succ, List.length_cons, List.length_nil, Option.map_some, Option.bind_some, Option.bind_eq_bind, wipeE, if_true, if_false, Bool.false_eq_true, ite_true, ite_false, reduceIte, reduceCtorEq, b_add, b_sub, b_eq, b_ne, b_lt, b_le, b_gt, b_ge, u_abs, u_int, u_intb, u_tuple_l, u_tuple_t, u_len_l, u_len_t, eq_self, decide_true, decide_false, b_mod _ _ hz, e1, fmod_nat, e2, e4, few (show 0 + 1 + 1 + 1 ≤ 1000 by decide), okP_ok]
  exact ⟨trivial, h4⟩
/-- a loop over range n that keeps a net on the way -/
theorem net_for {F : Fun} {B : List S} (h : NetSt st p d t) {a b : D} {w sh : Int} {u0 q : Option D} {n : Nat}
    (hb : ∀ (u : Nat) t, u < n → NetSt st p d t → OkP (denSs F B (envN a b q (some (.int (u : Nat))) p d w sh st.length) t) fun fr t' => fr = (.nx, envN a b q (some (.int (u : Nat))) p d w sh st.length) ∧ NetSt st p d t') :
    OkP (loopF (.nm 4) (denSs F B) ((List.range n).map fun i => D.int (i : Nat)) (envN a b q u0 p d w sh st.length) t) fun fr t' => (∃ u, fr = (.nx, envN a b q u p d w sh st.length)) ∧ NetSt st p d t' := by
  refine loop_list (fun _ r s => (∃ u, r = envN a b q u p d w sh st.length) ∧ NetSt st p d s) ⟨⟨u0, rfl⟩, h⟩ (fun l1 x l2 r s hx hI => ?_) fun r s hI => ?_
  · obtain ⟨⟨u, rfl⟩, hs1⟩ := hI
    have hxd : x < n := List.mem_range.mp (by rw [hx]; simp)
    refine ⟨_, asg_nm _ _ _, ?_⟩
    refine OkP.imp (hb x s hxd hs1) fun fr t' q => ?_
    obtain ⟨rfl, q2⟩ := q
    exact ⟨⟨_, rfl⟩, q2⟩
  · obtain ⟨⟨u, rfl⟩, hs1⟩ := hI
    exact ⟨⟨u, rfl⟩, hs1⟩
end
/-! ### sorted arrows -/
theorem ar_alike (a b : Arrow) : alikeD (arD a) (arD b) = true := by
  simp [alikeD, arD, D.py, D.pyL, PySem.W.alike, PySem.W.alikeAll, PySem.W.keyToks]
theorem ar_sortable (as : List Arrow) : sortable (as.map arD) = true := by
  unfold sortable
  rw [Bool.and_eq_true, Bool.and_eq_true]
  refine ⟨⟨dataL_all fun d hd => ?_, ?_⟩, ?_⟩
  · obtain ⟨x, _, rfl⟩ := List.mem_map.mp hd; rfl
  · rw [List.all_eq_true]; intro x hx
    rw [List.all_eq_true]; intro y hy
    obtain ⟨a, _, rfl⟩ := List.mem_map.mp hx
    obtain ⟨b, _, rfl⟩ := List.mem_map.mp hy
    exact ar_alike a b
  · rw [Bool.or_eq_true]; left
    rw [List.all_eq_true]; intro x hx
    obtain ⟨a, _, rfl⟩ := List.mem_map.mp hx; rfl
def unAr : D → Arrow
  | .tup [.int a, .int b, .int c] => (a, b, c)
  | _ => (0, 0, 0)
theorem un_ar (a : Arrow) : unAr (arD a) = a := rfl
theorem perm_map {l : List D} {as : List Arrow} (h : List.Perm l (as.map arD)) : ∃ bs, l = bs.map arD ∧ List.Perm bs as := by
  refine ⟨l.map unAr, ?_, ?_⟩
  · rw [List.map_map]
    conv => lhs; rw [← List.map_id l]
    refine List.map_congr_left fun x hx => ?_
    obtain ⟨a, _, rfl⟩ := List.mem_map.mp (h.mem_iff.mp hx)
    rfl
  · have := h.map unAr
    rw [List.map_map] at this
    have e : as.map (unAr ∘ arD) = as := by
      conv => rhs; rw [← List.map_id as]
      exact List.map_congr_left fun x _ => un_ar x
    rw [e] at this
    exact this
theorem sort_map (as : List Arrow) : ∃ bs, sortD (as.map arD) = bs.map arD ∧ List.Perm bs as := perm_map (List.mergeSort_perm ..)
theorem low_net (p d : Nat) (as : List Arrow) (n : Nat) : D.low (.tup [.int (p : Nat), .int (d : Nat), .tup (as.map arD)]) n = true := by
  simp only [D.low, D.lowL, Bool.true_and, Bool.and_true]
  induction as with
  | nil => rfl
  | cons b bs ih => simp only [List.map_cons, D.lowL, ih, Bool.and_true]; rfl
/-- what a drawn net is -/
structure NetOk (p d : Nat) (as : List Arrow) : Prop where
  nd : as.Nodup
  ins : ∀ a, a ∈ as → InN p d a
def Nets (mp md : Int) (x : D) : Prop := ∃ p d as, x = netD p d as ∧ NetOk p d as ∧ 1 ≤ p ∧ 1 ≤ d ∧ (p : Int) ≤ max 1 mp ∧ (d : Int) ≤ max 1 md
theorem net1_ok {Pr : Prog} (W : Draws Pr) (hp : Pr "_law_net" = some d_net1) (k : Nat) {st : Store} (h : Source st) (mp md : Int) (h1 : mp ≤ 20) (h2 : md ≤ 20) (h3 : 1 ≤ mp) (h4 : 1 ≤ md) : Dr st (phi Pr (k + 2) "_law_net" [.loc 1, .int mp, .int md] st) (Nets mp md) := by
  rw [phi_def hp rfl]
  obtain ⟨x1, s1, e1, k1, g1, i, rfl, i1, i2⟩ := (W.pick k h mp (by omega)).ex
  obtain ⟨x2, s2, e2, k2, g2, j, rfl, j1, j2⟩ := (W.pick k g1 md (by omega)).ex
  obtain ⟨x3, s3, e3, k3, g3, w, rfl, w1, w2⟩ := (W.pick k g2 4 (by decide)).ex
  obtain ⟨x4, s4, e4, k4, g4, sh, rfl, t1, t2⟩ := (W.pick k g3 4 (by decide)).ex
  obtain ⟨p, hpp⟩ : ∃ p : Nat, 1 + i = (p : Int) := ⟨(1 + i).toNat, by omega⟩
  obtain ⟨d, hdd⟩ : ∃ d : Nat, 1 + j = (d : Int) := ⟨(1 + j).toNat, by omega⟩
  have bp : p ≤ 20 := by omega
  have bd : d ≤ 20 := by omega
  have hsh0 : (2 + sh).natAbs < 1073741824 := by omega
  have kk : Kept st s4 := ((k1.trans k2).trans k3).trans k4
  have start : NetSt s4 p d (s4 ++ [.dT (kvT [])]) := ⟨s4, [], rfl, Kept.refl _, g4, List.nodup_nil, fun a h => by cases h⟩
  obtain ⟨fr, t5, e5, ⟨q5, u5, rfl⟩, n5⟩ : ∃ fr t5, loopF (.nm 3) (denSs (phi Pr (k + 1)) loopA) ((List.range p).map fun i => D.int (i : Nat)) (envN (.int mp) (.int md) none none p d w (2 + sh) s4.length) (s4 ++ [.dT (kvT [])]) = .ok fr t5 ∧ (∃ q u, fr = (.nx, envN (.int mp) (.int md) q u p d w (2 + sh) s4.length)) ∧ NetSt s4 p d t5 := by
    refine OkP.ex (loop_list (fun _ r s => (∃ q u, r = envN (.int mp) (.int md) q u p d w (2 + sh) s4.length) ∧ NetSt s4 p d s) ⟨⟨_, _, rfl⟩, start⟩ (fun l1 x l2 r s hx hI => ?_) fun r s hI => ?_)
    · obtain ⟨⟨q, u, rfl⟩, hs1⟩ := hI
      have hxd : x < p := List.mem_range.mp (by rw [hx]; simp)
      refine ⟨_, asg_nm _ _ _, ?_⟩
      have hb := net_loopA (k := k) W hs1 bp bd (a := .int mp) (b := .int md) (w := w) (sh := 2 + sh) hsh0 hxd u
      simp only [envN, List.set_cons_zero, List.set_cons_succ] at hb ⊢
      refine OkP.imp hb fun fr t' z => ?_
      obtain ⟨⟨u', rfl⟩, q2⟩ := z
      exact ⟨⟨_, _, rfl⟩, q2⟩
    · obtain ⟨⟨q, u, rfl⟩, hs1⟩ := hI
      exact ⟨⟨q, u, rfl⟩, hs1⟩
  obtain ⟨n6, hn6, b6⟩ : ∃ n : Nat, (if w < 2 then D.int (d : Nat) else .int 0) = .int (n : Nat) ∧ n ≤ d := by
    by_cases hw : w < 2
    · exact ⟨d, by rw [if_pos hw], Nat.le_refl _⟩
    · exact ⟨0, by rw [if_neg hw]; rfl, Nat.zero_le _⟩
  obtain ⟨n7, hn7, b7⟩ : ∃ n : Nat, (if w = 2 then D.int (d : Nat) else .int 0) = .int (n : Nat) ∧ n ≤ d := by
    by_cases hw : w = 2
    · exact ⟨d, by rw [if_pos hw], Nat.le_refl _⟩
    · exact ⟨0, by rw [if_neg hw]; rfl, Nat.zero_le _⟩
  obtain ⟨fr, t6, e6, ⟨u6, rfl⟩, m6⟩ := (net_for (F := phi Pr (k + 1)) (B := loopC) n5 (a := .int mp) (b := .int md) (w := w) (sh := 2 + sh) (u0 := u5) (q := q5) (n := n6) fun u t hu ht => net_loopC W ht bp bd (by omega) (by omega)).ex
  obtain ⟨fr, t7, e7, ⟨u7, rfl⟩, m7⟩ := (net_for (F := phi Pr (k + 1)) (B := loopD) m6 (a := .int mp) (b := .int md) (w := w) (sh := 2 + sh) (u0 := u6) (q := q5) (n := n7) fun u t hu ht => net_loopD ht bp bd (by omega) (by omega)).ex
  obtain ⟨s8, as, rfl, k8, g8, nd8, in8⟩ := m7
  obtain ⟨bs, hb, pb⟩ := sort_map as
  have gt : (s8 ++ [Ob.dT (kvT as)])[s4.length]? = some (.dT (kvT as)) := by
    rw [← k8.1, List.getElem?_append_right (Nat.le_refl _), Nat.sub_self]; rfl
  have e8 : biD false .list [.loc s4.length] (s8 ++ [Ob.dT (kvT as)]) = .ok (.lst (as.map arD)) (s8 ++ [Ob.dT (kvT as)]) := by
    have z : items (s8 ++ [Ob.dT (kvT as)]) (.loc s4.length) = some (as.map arD) := by
      have v : view (s8 ++ [Ob.dT (kvT as)]) (.loc s4.length) = .loc s4.length := by simp only [view, gt]
      simp only [items, v, gt]
      simp only [kvT, List.map_map, Function.comp_def, arK_d]
    have q := net_few nd8 in8
    have : p * d ≤ 20 * 20 := Nat.mul_le_mul bp bd
    have e : biD false .list [.loc s4.length] (s8 ++ [Ob.dT (kvT as)]) = (match items (s8 ++ [Ob.dT (kvT as)]) (.loc s4.length) with | some xs => newL false xs (s8 ++ [Ob.dT (kvT as)]) | none => .stuck) := rfl
    rw [e, z]
    exact newL_f _ _ (by rw [List.length_map]; exact few (by omega))
  have e9 : biD false .sorted [.lst (as.map arD)] (s8 ++ [Ob.dT (kvT as)]) = .ok (.lst (bs.map arD)) (s8 ++ [Ob.dT (kvT as)]) := by
    have e : biD false .sorted [.lst (as.map arD)] (s8 ++ [Ob.dT (kvT as)]) = if sortable (as.map arD) then newL false (sortD (as.map arD)) (s8 ++ [Ob.dT (kvT as)]) else .stuck := rfl
    have q := net_few nd8 in8
    have : p * d ≤ 20 * 20 := Nat.mul_le_mul bp bd
    have hl := pb.length_eq
    rw [e, if_pos (ar_sortable as), hb]
    exact newL_f _ _ (by rw [List.length_map]; exact few (by omega))
  have hfin : finish st (.tup [.int (p : Nat), .int (d : Nat), .tup (bs.map arD)]) (s8 ++ [Ob.dT (kvT as)]) = .ok (netD p d bs) s8 := finish_src (kk.trans k8) g8 (low_net p d bs _)
  have c3 : 0 + 1 + 1 + 1 ≤ sizeLine := few (by decide)
  have c2 : 0 + 1 + 1 ≤ sizeLine := few (by decide)
  have e5' : loopF (.nm 3) (denSs (phi Pr (k + 1)) loopA) ((List.range p).map fun i => D.int (i : Nat)) [some (.loc 1), some (.int mp), some (.int md), none, none, some (.int (p : Nat)), some (.int (d : Nat)), some (.int w), some (.int (2 + sh)), some (.loc s4.length)] (s4 ++ [.dT []]) = .ok (.nx, envN (.int mp) (.int md) q5 u5 p d w (2 + sh) s4.length) t5 := e5
  simp only [d_net1, List.map_cons, List.map_nil, List.replicate, List.cons_append, List.nil_append, Nat.reduceSub, ev_var, ev_int, ev_bl, ev_non, ev_str, ev_tup, ev_lst, ev_dnew, ev_disp, ev_bin, ev_neg, ev_cmp, ev_chain, ev_and, ev_or, ev_not, ev_ite, ev_ix, ev_sl, ev_rev, ev_call, ev_bi, ev_mt, ev_comp2, ev_nil, ev_cons, ev_ifn, ev_ifc,  ev_asg, ev_aug, ev_setIx, ev_augIx, ev_ex, ev_ret, ev_retN, ev_if, ev_for2, ev_brk, ev_cont, ev_pass, ev_snil, ev_scons, then_nx, then_rt, then_bk, then_ct, end_rt, end_nx, optR_some, finish_self, asg_nm, asg_tp, asg_nil, asg_cons,  truth_bl, truth_int, Res.bind_ok, safe_ok, List.getElem?_cons_zero, List.getElem?_cons_succ, List.set_cons_zero, List.set_cons_succ, List.length_cons, List.length_nil, Option.map_some, Option.bind_some, Option.bind_eq_bind, wipeE, if_true, if_false, Bool.false_eq_true, ite_true, ite_false, reduceIte, reduceCtorEq, b_add, b_sub, b_eq, b_ne, b_lt, b_le, b_gt, b_ge, u_abs, u_int, u_intb, u_tuple_l, u_tuple_t, u_len_l, u_len_t, eq_self, decide_true, decide_false, e1, e2, e3, e4, hpp, hdd, c3, c2, forK_rng _ _ _ _ _ (few_of bp), e5', envN]
  have g6 : (if decide (w < 2) = true then Res.ok (D.int (d : Nat)) t5 else Res.ok (D.int 0) t5) = .ok (.int (n6 : Nat)) t5 := by
    rw [← hn6]
    by_cases hw : w < 2 <;> simp [hw]
  have g7 : (if decide (w = 2) = true then Res.ok (D.int (d : Nat)) t6 else Res.ok (D.int 0) t6) = .ok (.int (n7 : Nat)) t6 := by
    rw [← hn7]
    by_cases hw : w = 2 <;> simp [hw]
  simp only [envN] at e6 e7
  simp only [g6, ev_var, ev_int, ev_bl, ev_non, ev_str, ev_tup, ev_lst, ev_dnew, ev_disp, ev_bin, ev_neg, ev_cmp, ev_chain, ev_and, ev_or, ev_not, ev_ite, ev_ix, ev_sl, ev_rev, ev_call, ev_bi, ev_mt, ev_comp2, ev_nil, ev_cons, ev_ifn, ev_ifc,  ev_asg, ev_aug, ev_setIx, ev_augIx, ev_ex, ev_ret, ev_retN, ev_if, ev_for2, ev_brk, ev_cont, ev_pass, ev_snil, ev_scons, then_nx, then_rt, then_bk, then_ct, end_rt, end_nx, optR_some, finish_self, asg_nm, asg_tp, asg_nil, asg_cons,  truth_bl, truth_int, Res.bind_ok, safe_ok, List.getElem?_cons_zero, List.getElem?_cons_succ, List.set_cons_zero, List.set_cons_succ, List.length_cons, List.length_nil, Option.map_some, Option.bind_some, Option.bind_eq_bind, wipeE, if_true, if_false, Bool.false_eq_true, ite_true, ite_false, reduceIte, reduceCtorEq, forK_rng _ _ _ _ _ (few_of (Nat.le_trans b6 bd)), e6, b_add, b_sub, b_eq, b_ne, b_lt, b_le, b_gt, b_ge, u_abs, u_int, u_intb, u_tuple_l, u_tuple_t, u_len_l, u_len_t, eq_self, decide_true, decide_false]
  simp only [g7, ev_var, ev_int, ev_bl, ev_non, ev_str, ev_tup, ev_lst, ev_dnew, ev_disp, ev_bin, ev_neg, ev_cmp, ev_chain, ev_and, ev_or, ev_not, ev_ite, ev_ix, ev_sl, ev_rev, ev_call, ev_bi, ev_mt, ev_comp2, ev_nil, ev_cons, ev_ifn, ev_ifc,  ev_asg, ev_aug, ev_setIx, ev_augIx, ev_ex, ev_ret, ev_retN, ev_if, ev_for2, ev_brk, ev_cont, ev_pass, ev_snil, ev_scons, then_nx, then_rt, then_bk, then_ct, end_rt, end_nx, optR_some, finish_self, asg_nm, asg_tp, asg_nil, asg_cons,  truth_bl, truth_int, Res.bind_ok, safe_ok, List.getElem?_cons_zero, List.getElem?_cons_succ, List.set_cons_zero, List.set_cons_succ, List.length_cons, List.length_nil, Option.map_some, Option.bind_some, Option.bind_eq_bind, wipeE, if_true, if_false, Bool.false_eq_true, ite_true, ite_false, reduceIte, reduceCtorEq, forK_rng _ _ _ _ _ (few_of (Nat.le_trans b7 bd)), e7, b_add, b_sub, b_eq, b_ne, b_lt, b_le, b_gt, b_ge, u_abs, u_int, u_intb, u_tuple_l, u_tuple_t, u_len_l, u_len_t, eq_self, decide_true, decide_false, e8, e9, c3, hfin]
  refine dr_ok (kk.trans k8) g8 ⟨p, d, bs, rfl, ⟨pb.nodup_iff.mpr nd8, fun a ha => in8 a (pb.mem_iff.mp ha)⟩, by omega, by omega, by omega, by omega⟩
end WT

set_option Elab.async false
set_option linter.all false
set_option maxRecDepth 100000
set_option maxHeartbeats 4000000
/-! WSe: lists of draws. -/
namespace WT
open PySem
theorem compK_rng' (al : Bool) (elt : Env → Store → Res D) (tst : Env → Store → Res Bool) (tg : Tg) (r : Env) (st : Store) (n : Nat) (h : n ≤ 1000) : compK al elt tst tg r .rng [.int (n : Nat)] st = (cM (fun (x : Nat) => stepC elt tst tg r (.int (x : Nat))) (List.range n) st).safe.bind fun xs st => newL al xs st := compK_rng _ _ _ _ _ _ n (few h)
/-- a comprehension over range n whose things are drawn -/
theorem rng_draws {F : Fun} {elt e : E} {i : Nat} {own : List Nat} {r : Env} {st : Store} (n : Nat) (P : D → Prop) (h : Source st) (h1 : den F e r st = .ok (.int (n : Nat)) st) (hn : n ≤ 1000)
    (hs : ∀ (x : Nat) s, x < n → Source s → OkP (den F elt ((wipeE r own).set i (some (.int (x : Nat)))) s) fun d s' => Kept s s' ∧ Source s' ∧ P d) :
    OkP (den F (.comp false elt (.nm i) .rng [e] [] own) r st) fun d st' => Kept st st' ∧ Source st' ∧ ∃ ds, d = .lst ds ∧ ds.length = n ∧ ∀ x, x ∈ ds → P x := by
  simp only [ev_var, ev_int, ev_bl, ev_non, ev_str, ev_tup, ev_lst, ev_dnew, ev_disp, ev_bin, ev_neg, ev_cmp, ev_chain, ev_and, ev_or, ev_not, ev_ite, ev_ix, ev_sl, ev_rev, ev_call, ev_bi, ev_mt, ev_comp2, ev_nil, ev_cons, ev_ifn, ev_ifc,  ev_asg, ev_aug, ev_setIx, ev_augIx, ev_ex, ev_ret, ev_retN, ev_if, ev_for2, ev_brk, ev_cont, ev_pass, ev_snil, ev_scons, then_nx, then_rt, then_bk, then_ct, end_rt, end_nx, optR_some, finish_self, asg_nm, asg_tp, asg_nil, asg_cons,  truth_bl, truth_int, Res.bind_ok, safe_ok, List.getElem?_cons_zero, List.getElem?_cons_succ, List.set_cons_zero, List.set_cons_succ, List.length_cons, List.length_nil, Option.map_some, Option.bind_some, Option.bind_eq_bind, wipeE, if_true, if_false, Bool.false_eq_true, ite_true, ite_false, reduceIte, reduceCtorEq, h1, compK_rng' _ _ _ _ _ _ _ hn, stepC_eq]
  have q : OkP (cM (fun (x : Nat) st => (den F elt ((wipeE r own).set i (some (.int (x : Nat)))) st).bind fun x st => Res.ok (some x) st) (List.range n) st) fun ds st' => Kept st st' ∧ Source st' ∧ ds.length = (List.range n).length ∧ ∀ p, p ∈ (List.range n).zip ds → P p.2 := by
    refine cM_draw (fun _ d => P d) h fun x hx s hs' => ?_
    refine OkP.bind (hs x s (List.mem_range.mp hx) hs') fun d s' q => okP_ok.mpr ?_
    exact ⟨q.1, q.2.1, d, rfl, q.2.2⟩
  refine OkP.bind (okP_safe.mpr q) fun ds st' q => ?_
  obtain ⟨q1, q2, q3, q4⟩ := q
  rw [List.length_range] at q3
  rw [newL_f _ _ (by rw [q3]; exact few hn), okP_ok]
  refine ⟨q1, q2, ds, rfl, q3, fun x hx => ?_⟩
  obtain ⟨j, hj, rfl⟩ := List.mem_iff_getElem.mp hx
  refine q4 (j, ds[j]) (List.mem_iff_getElem?.mpr ⟨j, ?_⟩)
  rw [List.getElem?_zip_eq_some]
  exact ⟨List.getElem?_range (by omega), List.getElem?_eq_getElem hj⟩
theorem ints_of {P : Int → Prop} {ds : List D} (h : ∀ x, x ∈ ds → ∃ i, x = .int i ∧ P i) : ∃ ns, ds = intL ns ∧ ns.length = ds.length ∧ ∀ i, i ∈ ns → P i := by
  induction ds with
  | nil => exact ⟨[], rfl, rfl, fun i hi => by cases hi⟩
  | cons x ds ih =>
    obtain ⟨ns, rfl, h2, h3⟩ := ih fun y hy => h y (List.mem_cons_of_mem _ hy)
    obtain ⟨i, rfl, hi⟩ := h x (List.mem_cons_self ..)
    refine ⟨i :: ns, rfl, by simp [intL], fun j hj => ?_⟩
    rcases List.mem_cons.mp hj with rfl | hj
    · exact hi
    · exact h3 j hj
end WT

set_option Elab.async false
set_option linter.all false
set_option maxRecDepth 100000
set_option maxHeartbeats 4000000
/-! WSf: what repr may be asked of; sums. -/
namespace WT
open PySem
structure Sh (k b : Nat) (d : D) : Prop where
  data : d.data k = true
  short : d.short = true
  sz : d.sz ≤ b
  noloc : d.isLoc = false
theorem Sh.int (k : Nat) {i : Int} (h : i.natAbs < 10 ^ 12) : Sh k 40 (.int i) := ⟨rfl, by simp only [D.short, decide_eq_true_eq]; exact h, Nat.le_refl _, rfl⟩
theorem Sh.bl (k : Nat) (b : Bool) : Sh k 0 (.bl b) := ⟨rfl, rfl, Nat.le_refl _, rfl⟩
theorem Sh.non (k : Nat) : Sh k 0 .non := ⟨rfl, rfl, Nat.le_refl _, rfl⟩
theorem Sh.tup {k b n : Nat} {ds : List D} (h : ∀ x, x ∈ ds → Sh k b x) (hl : ds.length ≤ n) : Sh (k + 1) (n * (b + 1)) (.tup ds) :=
  ⟨by simp only [D.data]; exact dataL_all fun x hx => (h x hx).data, by simp only [D.short]; exact shortL_all fun x hx => (h x hx).short, by
    simp only [D.sz]; exact Nat.le_trans (szL_all fun x hx => (h x hx).sz) (Nat.mul_le_mul_right _ hl), rfl⟩
theorem Sh.lst {k b n : Nat} {ds : List D} (h : ∀ x, x ∈ ds → Sh k b x) (hl : ds.length ≤ n) : Sh (k + 1) (n * (b + 1)) (.lst ds) :=
  ⟨by simp only [D.data]; exact dataL_all fun x hx => (h x hx).data, by simp only [D.short]; exact shortL_all fun x hx => (h x hx).short, by
    simp only [D.sz]; exact Nat.le_trans (szL_all fun x hx => (h x hx).sz) (Nat.mul_le_mul_right _ hl), rfl⟩
theorem Sh.le {k b k2 b2 : Nat} {d : D} (h : Sh k b d) (h1 : k ≤ k2) (h2 : b ≤ b2) : Sh k2 b2 d := ⟨data_mono d k k2 h1 h.data, h.short, Nat.le_trans h.sz h2, h.noloc⟩
theorem Sh.shows {k b : Nat} {d : D} (h : Sh k b d) (h1 : k ≤ 60) (h2 : b ≤ 2 ^ 20) : d.shows = true := shows_of (data_mono d k 60 h1 h.data) h.short (Nat.le_trans h.sz h2)
theorem view_noloc {d : D} (h : d.isLoc = false) (st : Store) : view st d = d := by cases d <;> first | rfl | cases h
/-- its text -/
def txt (d : D) : Str := d.py.shown
theorem Sh.repr {k b : Nat} {d : D} (h : Sh k b d) (h1 : k ≤ 60) (h2 : b ≤ 2 ^ 20) (al : Bool) (st : Store) : biD al .repr [d] st = .ok (.str (txt d)) st := by
  have e : biD al .repr [d] st = if (view st d).shows then .ok (.str (view st d).py.shown) st else .stuck := rfl
  rw [e, view_noloc h.noloc, if_pos (h.shows h1 h2)]; rfl
theorem b_strne (a b : Str) (st : Store) : cmpD .NotEq (.str a) (.str b) st = some (!decide (a = b)) := rfl
theorem b_streq (a b : Str) (st : Store) : cmpD .Eq (.str a) (.str b) st = some (decide (a = b)) := rfl
/-- its ints lie within b -/
def Bd (b : Nat) (ns : List Int) : Prop := ∀ i, i ∈ ns → i.natAbs ≤ b
theorem Sh.ints {b n : Nat} {ns : List Int} (h : Bd b ns) (hb : b < 10 ^ 12) (hl : ns.length ≤ n) : Sh 1 (n * 41) (.tup (intL ns)) :=
  Sh.tup (k := 0) (b := 40) (fun x hx => by
    obtain ⟨i, hi, rfl⟩ := List.mem_map.mp hx
    exact Sh.int 0 (Nat.lt_of_le_of_lt (h i hi) hb)) (by simpa [intL] using hl)
theorem Sh.net {p d : Nat} {as : List Arrow} (h : NetOk p d as) (hp : p ≤ 20) (hd : d ≤ 20) : Sh 3 300000 (netD p d as) := by
  have q : Sh 2 ((2 * (p * d)) * 124) (.tup (as.map arD)) := Sh.tup (k := 1) (b := 123) (fun x hx => by
    obtain ⟨a, ha, rfl⟩ := List.mem_map.mp hx
    refine Sh.tup (k := 0) (b := 40) (n := 3) (fun y hy => ?_) (by simp)
    simp only [List.mem_cons, List.not_mem_nil, or_false] at hy
    rcases h.ins a ha with ⟨q, t, hq, ht, rfl⟩ | ⟨q, t, hq, ht, rfl⟩ <;> rcases hy with rfl | rfl | rfl <;> exact Sh.int 0 (by simp only; omega)) (by rw [List.length_map]; exact net_few h.nd h.ins)
  have hpd : p * d ≤ 20 * 20 := Nat.mul_le_mul hp hd
  refine Sh.le (Sh.tup (k := 2) (b := 2 * (p * d) * 124 + 40) (n := 3) (fun y hy => ?_) (by simp)) (Nat.le_refl _) ?_
  · simp only [List.mem_cons, List.not_mem_nil, or_false] at hy
    rcases hy with rfl | rfl | rfl
    · exact (Sh.int 2 (by omega)).le (Nat.le_refl _) (by omega)
    · exact (Sh.int 2 (by omega)).le (Nat.le_refl _) (by omega)
    · exact q.le (Nat.le_refl _) (by omega)
  · have : 2 * (p * d) * 124 ≤ 99200 := by omega
    omega
/-! ### sums -/
def sumN (n : Nat) (f : Nat → Int) : Int := ((List.range n).map f).sum
theorem S_zero (f : Nat → Int) : sumN 0 f = 0 := rfl
theorem S_succ (n : Nat) (f : Nat → Int) : sumN (n + 1) f = sumN n f + f n := by
  unfold sumN; rw [List.range_succ, List.map_append, List.sum_append]; simp
theorem S_congr {n : Nat} {f g : Nat → Int} (h : ∀ i, i < n → f i = g i) : sumN n f = sumN n g := by
  unfold sumN; congr 1; exact List.map_congr_left fun i hi => h i (List.mem_range.mp hi)
theorem S_add (n : Nat) (f g : Nat → Int) : sumN n (fun i => f i + g i) = sumN n f + sumN n g := by
  induction n with
  | zero => rfl
  | succ n ih => rw [S_succ, S_succ, S_succ, ih]; omega
theorem S_mul (n : Nat) (c : Int) (f : Nat → Int) : sumN n (fun i => c * f i) = c * sumN n f := by
  induction n with
  | zero => simp [S_zero]
  | succ n ih => rw [S_succ, S_succ, ih, Int.mul_add]
theorem S_const0 (n : Nat) : sumN n (fun _ => 0) = 0 := by
  induction n with
  | zero => rfl
  | succ n ih => rw [S_succ, ih]; rfl
theorem S_swap (n m : Nat) (f : Nat → Nat → Int) : sumN n (fun i => sumN m (fun j => f i j)) = sumN m (fun j => sumN n (fun i => f i j)) := by
  induction n with
  | zero => simp only [S_zero]; rw [S_const0]
  | succ n ih => rw [S_succ, ih, ← S_add]; exact S_congr fun j _ => (S_succ n _).symm
theorem S_bd {n b : Nat} {f : Nat → Int} (h : ∀ i, i < n → (f i).natAbs ≤ b) : (sumN n f).natAbs ≤ n * b := by
  induction n with
  | zero => simp [S_zero]
  | succ n ih =>
    rw [S_succ, Nat.add_mul]
    have h1 := ih fun i hi => h i (by omega)
    have h2 := h n (by omega)
    omega
theorem list_range (ns : List Int) : ns = (List.range ns.length).map fun i => ns.getD i 0 := by
  apply List.ext_getElem?
  intro i
  rw [List.getElem?_map]
  by_cases h : i < ns.length
  · rw [List.getElem?_range h]; simp [h]
  · rw [List.getElem?_eq_none (by omega), List.getElem?_eq_none (by simp; omega)]; rfl
theorem getD_map (n : Nat) (f : Nat → Int) (i : Nat) (h : i < n) : ((List.range n).map f).getD i 0 = f i := by
  rw [List.getD_eq_getElem?_getD, List.getElem?_map, List.getElem?_range h]; rfl
theorem zip_range {α β : Type} (n : Nat) (f : Nat → α) (g : Nat → β) : ((List.range n).map f).zip ((List.range n).map g) = (List.range n).map fun i => (f i, g i) := by rw [List.zip_map']
end WT

set_option Elab.async false
set_option linter.all false
set_option maxRecDepth 100000
set_option maxHeartbeats 4000000
/-! WSg: a store over a source, with new places behind; draws of the second kind; things in any order. -/
namespace WT
open PySem
/-- t: all of st but the source as it was, and g behind -/
def On (st g t : Store) : Prop := ∃ s, t = s ++ g ∧ Kept st s ∧ Source s
theorem On.refl {st : Store} (h : Source st) : On st [] st := ⟨st, by simp, Kept.refl st, h⟩
theorem On.src {st g t : Store} (h : On st g t) : Source t := by
  obtain ⟨s, rfl, _, hs⟩ := h; exact hs.app g
theorem On.trans {st g t h t' : Store} (a : On st g t) (b : On t h t') : On st (g ++ h) t' := by
  obtain ⟨s, rfl, k, hs⟩ := a
  obtain ⟨s', rfl, k', hs'⟩ := b
  obtain ⟨s2, rfl, k2, hs2⟩ := Kept.app hs k' hs'
  exact ⟨s2, by rw [List.append_assoc], k.trans k2, hs2⟩
theorem On.len {st g t : Store} (h : On st g t) : t.length = st.length + g.length := by
  obtain ⟨s, rfl, k, _⟩ := h; rw [List.length_append, k.1]
theorem On.big {st g t : Store} (h : On st g t) : 2 ≤ st.length := by
  obtain ⟨s, rfl, k, hs⟩ := h
  have := hs.len
  have := k.1
  omega
theorem On.get {st g t : Store} (h : On st g t) (i : Nat) : t[st.length + i]? = g[i]? := by
  obtain ⟨s, rfl, k, _⟩ := h
  rw [List.getElem?_append_right (by rw [k.1]; omega)]
  congr 1
  rw [k.1]; omega
theorem On.old {st g t : Store} (h : On st g t) {i : Nat} (h2 : 2 ≤ i) (hi : i < st.length) : t[i]? = st[i]? := by
  obtain ⟨s, rfl, k, _⟩ := h
  rw [List.getElem?_append_left (by rw [k.1]; exact hi)]
  exact k.2 i h2
theorem On.push {st g t : Store} (h : On st g t) (o : Ob) : On st (g ++ [o]) (t ++ [o]) := by
  obtain ⟨s, rfl, k, hs⟩ := h
  exact ⟨s, by rw [List.append_assoc], k, hs⟩
theorem On.pushes {st g t : Store} (h : On st g t) (o : Store) : On st (g ++ o) (t ++ o) := by
  obtain ⟨s, rfl, k, hs⟩ := h
  exact ⟨s, by rw [List.append_assoc], k, hs⟩
theorem On.set {st g t : Store} (h : On st g t) (i : Nat) (o : Ob) : On st (g.set i o) (t.set (st.length + i) o) := by
  obtain ⟨s, rfl, k, hs⟩ := h
  refine ⟨s, ?_, k, hs⟩
  rw [List.set_append_right _ _ (by rw [k.1]; omega)]
  congr 2
  rw [k.1]; omega
theorem On.finish {st g t : Store} (h : On st g t) {d : D} (hd : D.low d st.length = true) : ∃ s, WT.finish st d t = .ok d s ∧ On st [] s := by
  obtain ⟨s, rfl, k, hs⟩ := h
  exact ⟨s, finish_src k hs hd, s, by simp, k, hs⟩
theorem On.of_dr {st : Store} {r : Res D} {P : D → Prop} (h : Dr st r P) : OkP r fun d t => On st [] t ∧ P d := OkP.imp h fun d t q => ⟨⟨t, by simp, q.1, q.2.1⟩, q.2.2⟩
theorem On.dr {st t : Store} (h : On st [] t) : Kept st t ∧ Source t := by
  obtain ⟨s, rfl, k, hs⟩ := h
  rw [List.append_nil]; exact ⟨k, hs⟩
theorem On.nil {st g t t' : Store} (a : On st g t) (b : On t [] t') : On st g t' := by
  have := a.trans b
  rwa [List.append_nil] at this
/-- a draw -/
theorem On.pick {Pr : Prog} (W : Draws Pr) (k : Nat) {st g t : Store} (h : On st g t) (n : Int) (hn : n.natAbs < 1073741824) : OkP (phi Pr (k + 1) "_law_pick" [.loc 1, .int n] t) fun d t' => On st g t' ∧ Drawn n d :=
  OkP.imp (On.of_dr (W.pick k h.src n hn)) fun d t' q => ⟨h.nil q.1, q.2⟩
theorem On.pickN {Pr : Prog} (W : Draws Pr) (k : Nat) {st g t : Store} (h : On st g t) (n : Nat) (h0 : 0 < n) (hn : n < 1000000) : ∃ (r : Nat) (t' : Store), phi Pr (k + 1) "_law_pick" [.loc 1, .int (n : Nat)] t = .ok (.int (r : Nat)) t' ∧ r < n ∧ On st g t' := by
  obtain ⟨d, t', e, o, hd⟩ := OkP.ex (h.pick W k (n : Nat) (by omega))
  obtain ⟨r, hr, rfl⟩ := hd.nat h0
  exact ⟨r, t', e, hr, o⟩
/-! ### the second `_law_pick` -/
def d_pick2 : Df := ⟨2, 4, [
  .loop (.and (.cmp .Gt (.var 1) (.int 1)) (.and (.cmp .Lt (.ix (.var 0) (.str "left")) (.int 2)) (.cmp .Gt (.bi false .len [(.ix (.var 0) (.str "cells"))]) (.int 0)))) [.setIx (.var 0) (.str "left") (.mt .pop (.ix (.var 0) (.str "cells")) [])],
  .asg (.nm 2) (.ix (.var 0) (.str "left")),
  .ite (.or (.cmp .Lt (.var 1) (.int 2)) (.cmp .Gt (.var 2) (.int 1))) [.setIx (.var 0) (.str "left") (.bin false .FloorDiv (.var 2) (.bi false .max [(.int 1), (.var 1)])), .ret (.bin false .Mod (.bi false .int [(.var 2)]) (.bi false .max [(.int 1), (.var 1)]))] [],
  .setIx (.var 0) (.str "turn") (.bin true .Add (.ix (.var 0) (.str "turn")) (.int 1)),
  .asg (.nm 3) (.bin false .Mod (.bi false .int [(.bin false .Add (.ix (.var 0) (.str "mixed")) (.bin false .Mult (.ix (.var 0) (.str "turn")) (.int 104729)))]) (.int 998244353)),
  .asg (.nm 3) (.bin false .Mod (.bi false .int [(.bin false .Add (.bin false .Mult (.var 3) (.var 3)) (.bin false .Mult (.ix (.var 0) (.str "turn")) (.int 17)))]) (.int 2147483647)),
  .setIx (.var 0) (.str "mixed") (.var 3),
  .ret (.bin false .Mod (.bi false .int [(.bin false .FloorDiv (.var 3) (.int 16))]) (.var 1))]⟩
theorem s_loop2 {F : Fun} {st : Store} {l m t : Int} {cs : List Int} (h : SrcAt st l m t cs) (n : Int) : OkP (denS F (.loop (.and (.cmp .Gt (.var 1) (.int 1)) (.and (.cmp .Lt (.ix (.var 0) (.str "left")) (.int 2)) (.cmp .Gt (.bi false .len [(.ix (.var 0) (.str "cells"))]) (.int 0)))) [.setIx (.var 0) (.str "left") (.mt .pop (.ix (.var 0) (.str "cells")) [])]) [some (.loc 1), some (.int n), none, none] st) fun fr st' => fr = (.nx, [some (.loc 1), some (.int n), none, none]) ∧ Kept st st' ∧ ∃ l' cs', SrcAt st' l' m t cs' := by
  rw [ev_loop]
  refine loop_inv (fun k r s => r = [some (.loc 1), some (.int n), none, none] ∧ Kept st s ∧ ∃ l' cs', SrcAt s l' m t cs' ∧ k = cs'.length) (m := cs.length) ⟨rfl, Kept.refl st, l, cs, h, rfl⟩ fun k r s hI => ?_
  obtain ⟨rfl, hk, l', cs', hs, rfl⟩ := hI
  by_cases hn : 1 < n
  · by_cases hc : l' < 2
    · by_cases h0 : cs' = []
      · subst h0
        simp only [ev_var, ev_int, ev_bl, ev_non, ev_str, ev_tup, ev_lst, ev_dnew, ev_disp, ev_bin, ev_neg, ev_cmp, ev_chain, ev_and, ev_or, ev_not, ev_ite, ev_ix, ev_sl, ev_rev, ev_call, ev_bi, ev_mt, ev_comp2, ev_nil, ev_cons, ev_ifn, ev_ifc,  ev_asg, ev_aug, ev_setIx, ev_augIx, ev_ex, ev_ret, ev_retN, ev_if, ev_for2, ev_brk, ev_cont, ev_pass, ev_snil, ev_scons, then_nx, then_rt, then_bk, then_ct, end_rt, end_nx, optR_some, finish_self, asg_nm, asg_tp, asg_nil, asg_cons,  truth_bl, truth_int, Res.bind_ok, safe_ok, List.getElem?_cons_zero, List.getElem?_cons_succ, List.set_cons_zero, List.set_cons_succ, List.length_cons, List.length_nil, Option.map_some, Option.bind_some, Option.bind_eq_bind, wipeE, if_true, if_false, Bool.false_eq_true, ite_true, ite_false, reduceIte, reduceCtorEq, b_add, b_sub, b_eq, b_ne, b_lt, b_le, b_gt, b_ge, u_abs, u_int, u_intb, u_tuple_l, u_tuple_t, u_len_l, u_len_t, eq_self, decide_true, decide_false, hn, s_left hs, s_cells hs, s_len hs, hc, decide_true, okP_ok, List.length_nil, Int.natCast_zero, Int.lt_irrefl]
        exact ⟨trivial, hk, l', [], hs⟩
      · have h1 : (0 : Int) < (cs'.length : Nat) := by have := List.length_pos_iff.mpr h0; omega
        simp only [ev_var, ev_int, ev_bl, ev_non, ev_str, ev_tup, ev_lst, ev_dnew, ev_disp, ev_bin, ev_neg, ev_cmp, ev_chain, ev_and, ev_or, ev_not, ev_ite, ev_ix, ev_sl, ev_rev, ev_call, ev_bi, ev_mt, ev_comp2, ev_nil, ev_cons, ev_ifn, ev_ifc,  ev_asg, ev_aug, ev_setIx, ev_augIx, ev_ex, ev_ret, ev_retN, ev_if, ev_for2, ev_brk, ev_cont, ev_pass, ev_snil, ev_scons, then_nx, then_rt, then_bk, then_ct, end_rt, end_nx, optR_some, finish_self, asg_nm, asg_tp, asg_nil, asg_cons,  truth_bl, truth_int, Res.bind_ok, safe_ok, List.getElem?_cons_zero, List.getElem?_cons_succ, List.set_cons_zero, List.set_cons_succ, List.length_cons, List.length_nil, Option.map_some, Option.bind_some, Option.bind_eq_bind, wipeE, if_true, if_false, Bool.false_eq_true, ite_true, ite_false, reduceIte, reduceCtorEq, b_add, b_sub, b_eq, b_ne, b_lt, b_le, b_gt, b_ge, u_abs, u_int, u_intb, u_tuple_l, u_tuple_t, u_len_l, u_len_t, eq_self, decide_true, decide_false, hn, s_left hs, s_cells hs, s_len hs, hc, h1, decide_true, okP_ok, s_popOk hs, s_pop hs h0, s_setLeft hs.cells]
        refine ⟨cs'.dropLast.length, by have := List.length_pos_iff.mpr h0; simp; omega, trivial, ?_, _, _, hs.cells.tabs _ _ _, rfl⟩
        exact (hk.trans (kept_set _ 0 (by omega) _)).trans (kept_set _ 1 (by omega) _)
    · simp only [ev_var, ev_int, ev_bl, ev_non, ev_str, ev_tup, ev_lst, ev_dnew, ev_disp, ev_bin, ev_neg, ev_cmp, ev_chain, ev_and, ev_or, ev_not, ev_ite, ev_ix, ev_sl, ev_rev, ev_call, ev_bi, ev_mt, ev_comp2, ev_nil, ev_cons, ev_ifn, ev_ifc,  ev_asg, ev_aug, ev_setIx, ev_augIx, ev_ex, ev_ret, ev_retN, ev_if, ev_for2, ev_brk, ev_cont, ev_pass, ev_snil, ev_scons, then_nx, then_rt, then_bk, then_ct, end_rt, end_nx, optR_some, finish_self, asg_nm, asg_tp, asg_nil, asg_cons,  truth_bl, truth_int, Res.bind_ok, safe_ok, List.getElem?_cons_zero, List.getElem?_cons_succ, List.set_cons_zero, List.set_cons_succ, List.length_cons, List.length_nil, Option.map_some, Option.bind_some, Option.bind_eq_bind, wipeE, if_true, if_false, Bool.false_eq_true, ite_true, ite_false, reduceIte, reduceCtorEq, b_add, b_sub, b_eq, b_ne, b_lt, b_le, b_gt, b_ge, u_abs, u_int, u_intb, u_tuple_l, u_tuple_t, u_len_l, u_len_t, eq_self, decide_true, decide_false, hn, s_left hs, hc, decide_true, decide_false, okP_ok]
      exact ⟨trivial, hk, l', cs', hs⟩
  · simp only [ev_var, ev_int, ev_bl, ev_non, ev_str, ev_tup, ev_lst, ev_dnew, ev_disp, ev_bin, ev_neg, ev_cmp, ev_chain, ev_and, ev_or, ev_not, ev_ite, ev_ix, ev_sl, ev_rev, ev_call, ev_bi, ev_mt, ev_comp2, ev_nil, ev_cons, ev_ifn, ev_ifc,  ev_asg, ev_aug, ev_setIx, ev_augIx, ev_ex, ev_ret, ev_retN, ev_if, ev_for2, ev_brk, ev_cont, ev_pass, ev_snil, ev_scons, then_nx, then_rt, then_bk, then_ct, end_rt, end_nx, optR_some, finish_self, asg_nm, asg_tp, asg_nil, asg_cons,  truth_bl, truth_int, Res.bind_ok, safe_ok, List.getElem?_cons_zero, List.getElem?_cons_succ, List.set_cons_zero, List.set_cons_succ, List.length_cons, List.length_nil, Option.map_some, Option.bind_some, Option.bind_eq_bind, wipeE, if_true, if_false, Bool.false_eq_true, ite_true, ite_false, reduceIte, reduceCtorEq, b_add, b_sub, b_eq, b_ne, b_lt, b_le, b_gt, b_ge, u_abs, u_int, u_intb, u_tuple_l, u_tuple_t, u_len_l, u_len_t, eq_self, decide_true, decide_false, hn, decide_false, okP_ok]
    exact ⟨trivial, hk, l', cs', hs⟩
theorem pick2_ok {Pr : Prog} (hp : Pr "_law_pick" = some d_pick2) (k : Nat) {st : Store} (h : Source st) (n : Int) (hn : n.natAbs < 1073741824) : Dr st (phi Pr (k + 1) "_law_pick" [.loc 1, .int n] st) (Drawn n) := by
  obtain ⟨l, m, t, cs, hs⟩ := h
  rw [phi_def hp rfl]
  obtain ⟨fr, st1, e, rfl, hk, l1, cs1, hs1⟩ := (s_loop2 (F := phi Pr k) hs n).ex
  have hm0 : max 1 n ≠ 0 := by omega
  have hmb : (max 1 n).natAbs < 1073741824 := by omega
  have hq : ∀ i : Int, Drawn n (.int (i.fmod (max 1 n))) := fun i => ⟨_, rfl, (fmod_in (by omega)).1, (fmod_in (by omega)).2⟩
  show Dr st ((denSs (phi Pr k) [
  .loop (.and (.cmp .Gt (.var 1) (.int 1)) (.and (.cmp .Lt (.ix (.var 0) (.str "left")) (.int 2)) (.cmp .Gt (.bi false .len [(.ix (.var 0) (.str "cells"))]) (.int 0)))) [.setIx (.var 0) (.str "left") (.mt .pop (.ix (.var 0) (.str "cells")) [])],
  .asg (.nm 2) (.ix (.var 0) (.str "left")),
  .ite (.or (.cmp .Lt (.var 1) (.int 2)) (.cmp .Gt (.var 2) (.int 1))) [.setIx (.var 0) (.str "left") (.bin false .FloorDiv (.var 2) (.bi false .max [(.int 1), (.var 1)])), .ret (.bin false .Mod (.bi false .int [(.var 2)]) (.bi false .max [(.int 1), (.var 1)]))] [],
  .setIx (.var 0) (.str "turn") (.bin true .Add (.ix (.var 0) (.str "turn")) (.int 1)),
  .asg (.nm 3) (.bin false .Mod (.bi false .int [(.bin false .Add (.ix (.var 0) (.str "mixed")) (.bin false .Mult (.ix (.var 0) (.str "turn")) (.int 104729)))]) (.int 998244353)),
  .asg (.nm 3) (.bin false .Mod (.bi false .int [(.bin false .Add (.bin false .Mult (.var 3) (.var 3)) (.bin false .Mult (.ix (.var 0) (.str "turn")) (.int 17)))]) (.int 2147483647)),
  .setIx (.var 0) (.str "mixed") (.var 3),
  .ret (.bin false .Mod (.bi false .int [(.bin false .FloorDiv (.var 3) (.int 16))]) (.var 1))] [some (.loc 1), some (.int n), none, none] st).bind (endOf st)) (Drawn n)
  rw [ev_scons, e, Res.bind_ok, then_nx]
  by_cases hl : n < 2 ∨ 1 < l1
  · have hb : (decide (n < 2) = true) ∨ (decide (n < 2) = false ∧ decide (1 < l1) = true) := by
      by_cases h1 : n < 2
      · exact .inl (decide_eq_true h1)
      · exact .inr ⟨decide_eq_false h1, decide_eq_true (hl.resolve_left h1)⟩
    rcases hb with hb | ⟨hb, hb2⟩
    · simp only [ev_var, ev_int, ev_bl, ev_non, ev_str, ev_tup, ev_lst, ev_dnew, ev_disp, ev_bin, ev_neg, ev_cmp, ev_chain, ev_and, ev_or, ev_not, ev_ite, ev_ix, ev_sl, ev_rev, ev_call, ev_bi, ev_mt, ev_comp2, ev_nil, ev_cons, ev_ifn, ev_ifc,  ev_asg, ev_aug, ev_setIx, ev_augIx, ev_ex, ev_ret, ev_retN, ev_if, ev_for2, ev_brk, ev_cont, ev_pass, ev_snil, ev_scons, then_nx, then_rt, then_bk, then_ct, end_rt, end_nx, optR_some, finish_self, asg_nm, asg_tp, asg_nil, asg_cons,  truth_bl, truth_int, Res.bind_ok, safe_ok, List.getElem?_cons_zero, List.getElem?_cons_succ, List.set_cons_zero, List.set_cons_succ, List.length_cons, List.length_nil, Option.map_some, Option.bind_some, Option.bind_eq_bind, wipeE, if_true, if_false, Bool.false_eq_true, ite_true, ite_false, reduceIte, reduceCtorEq, b_add, b_sub, b_eq, b_ne, b_lt, b_le, b_gt, b_ge, u_abs, u_int, u_intb, u_tuple_l, u_tuple_t, u_len_l, u_len_t, eq_self, decide_true, decide_false, s_left hs1, hb, u_max, b_div _ _ hm0 hmb, s_setLeft hs1, b_mod _ _ hm0]
      rw [finish_len (by rw [List.length_set]; exact hk.1)]
      exact dr_ok (hk.trans (kept_set _ 1 (by omega) _)) ⟨_, _, _, _, hs1.tabs _ _ _⟩ (hq _)
    · simp only [ev_var, ev_int, ev_bl, ev_non, ev_str, ev_tup, ev_lst, ev_dnew, ev_disp, ev_bin, ev_neg, ev_cmp, ev_chain, ev_and, ev_or, ev_not, ev_ite, ev_ix, ev_sl, ev_rev, ev_call, ev_bi, ev_mt, ev_comp2, ev_nil, ev_cons, ev_ifn, ev_ifc,  ev_asg, ev_aug, ev_setIx, ev_augIx, ev_ex, ev_ret, ev_retN, ev_if, ev_for2, ev_brk, ev_cont, ev_pass, ev_snil, ev_scons, then_nx, then_rt, then_bk, then_ct, end_rt, end_nx, optR_some, finish_self, asg_nm, asg_tp, asg_nil, asg_cons,  truth_bl, truth_int, Res.bind_ok, safe_ok, List.getElem?_cons_zero, List.getElem?_cons_succ, List.set_cons_zero, List.set_cons_succ, List.length_cons, List.length_nil, Option.map_some, Option.bind_some, Option.bind_eq_bind, wipeE, if_true, if_false, Bool.false_eq_true, ite_true, ite_false, reduceIte, reduceCtorEq, b_add, b_sub, b_eq, b_ne, b_lt, b_le, b_gt, b_ge, u_abs, u_int, u_intb, u_tuple_l, u_tuple_t, u_len_l, u_len_t, eq_self, decide_true, decide_false, s_left hs1, hb, hb2, u_max, b_div _ _ hm0 hmb, s_setLeft hs1, b_mod _ _ hm0]
      rw [finish_len (by rw [List.length_set]; exact hk.1)]
      exact dr_ok (hk.trans (kept_set _ 1 (by omega) _)) ⟨_, _, _, _, hs1.tabs _ _ _⟩ (hq _)
  · have h1 : ¬ n < 2 := fun z => hl (.inl z)
    have h2 : ¬ 1 < l1 := fun z => hl (.inr z)
    have hn0 : n ≠ 0 := by omega
    have em : max 1 n = n := by omega
    rw [em] at hq
    have t1 := hs1.tabs l1 m (t + 1)
    simp only [ev_var, ev_int, ev_bl, ev_non, ev_str, ev_tup, ev_lst, ev_dnew, ev_disp, ev_bin, ev_neg, ev_cmp, ev_chain, ev_and, ev_or, ev_not, ev_ite, ev_ix, ev_sl, ev_rev, ev_call, ev_bi, ev_mt, ev_comp2, ev_nil, ev_cons, ev_ifn, ev_ifc,  ev_asg, ev_aug, ev_setIx, ev_augIx, ev_ex, ev_ret, ev_retN, ev_if, ev_for2, ev_brk, ev_cont, ev_pass, ev_snil, ev_scons, then_nx, then_rt, then_bk, then_ct, end_rt, end_nx, optR_some, finish_self, asg_nm, asg_tp, asg_nil, asg_cons,  truth_bl, truth_int, Res.bind_ok, safe_ok, List.getElem?_cons_zero, List.getElem?_cons_succ, List.set_cons_zero, List.set_cons_succ, List.length_cons, List.length_nil, Option.map_some, Option.bind_some, Option.bind_eq_bind, wipeE, if_true, if_false, Bool.false_eq_true, ite_true, ite_false, reduceIte, reduceCtorEq, b_add, b_sub, b_eq, b_ne, b_lt, b_le, b_gt, b_ge, u_abs, u_int, u_intb, u_tuple_l, u_tuple_t, u_len_l, u_len_t, eq_self, decide_true, decide_false, h1, h2, s_left hs1, s_turn hs1, s_setTurn hs1, s_turn t1, s_mixed t1, s_setMixed t1, b_mul _ (.inr lok), b_mul _ (.inr lo17), b_mul _ (.inl (smallA _)), b_mod _ _ nzA, b_mod _ _ nzB, b_div _ _ nz16 lo16, b_mod _ _ hn0]
    rw [finish_len (by rw [List.length_set, List.length_set]; exact hk.1)]
    exact dr_ok ((hk.trans (kept_set _ 1 (by omega) _)).trans (kept_set _ 1 (by omega) _)) ⟨_, _, _, _, t1.tabs _ _ _⟩ (hq _)
/-! ### `_law_mixed`: all things, in any order -/
def d_mixed (al : Bool) : Df := ⟨2, 4, [
  .asg (.nm 2) (.bi true .list [(.var 1)]),
  .ret (.comp al (.mt .pop (.var 2) [(.call "_law_pick" [(.var 0), (.bi false .len [(.var 2)])])]) (.nm 3) .rng [(.bi false .len [(.var 2)])] [] [3])]⟩
theorem list_of {st : Store} {d : D} {ds : List D} (h : items st d = some ds) (hl : ds.length ≤ sizeLine) : biD true .list [d] st = .ok (.loc st.length) (st ++ [.lst ds]) := by
  have e : biD true .list [d] st = (match items st d with | some xs => newL true xs st | none => .stuck) := rfl
  rw [e, h]
  exact newL_t _ _ hl
theorem len_loc {st : Store} {n : Nat} {ds : List D} (h : st[n]? = some (.lst ds)) (al : Bool) : biD al .len [.loc n] st = .ok (.int (ds.length : Nat)) st := by
  show optR (Option.map (fun n => D.int ((n : Nat) : Int)) (lenD st (D.loc n))) st = _
  simp only [lenD, view, h]
  rfl
theorem popAt_loc {st : Store} {n : Nat} {ds : List D} (h : st[n]? = some (.lst ds)) {i : Nat} (hi : i < ds.length) (hb : ds.length ≤ 1000000) : mtD .pop (.loc n) [.int (i : Nat)] st = .ok ds[i] (st.set n (.lst (ds.eraseIdx i))) := by
  have e : ixN' ds.length ((i : Nat) : Int) = some i := by
    unfold ixN'; rw [if_pos (by omega), if_pos (by omega), Int.toNat_natCast]
  simp only [mtD, h, e, List.getElem?_eq_getElem hi]
  rw [if_pos (by omega)]
theorem mtOk_loc {st : Store} {n : Nat} {ds : List D} (h : st[n]? = some (.lst ds)) {m : Mt} (hm : m ≠ .get) : mtOk m (.loc n) st = true := by
  cases m <;> first | (simp only [mtOk, view, h]; done) | exact absurd rfl hm
theorem erase_perm : ∀ {ds : List D} {i : Nat} (h : i < ds.length), List.Perm (ds[i] :: ds.eraseIdx i) ds
  | d :: ds, 0, h => List.Perm.refl _
  | d :: ds, i + 1, h => by
    simp only [List.getElem_cons_succ, List.eraseIdx_cons_succ]
    exact (List.Perm.swap _ _ _).trans (List.Perm.cons d (erase_perm (by simpa using h)))
theorem mixed_ok {Pr : Prog} (W : Draws Pr) {al : Bool} (hp : Pr "_law_mixed" = some (d_mixed al)) (k : Nat) {st : Store} (h : Source st) {d : D} {ds : List D} (hd : items st d = some ds) (hl : ds.length ≤ 1000) :
    OkP (denSs (phi Pr (k + 1)) (d_mixed al).body [some (.loc 1), some d, none, none] st) fun fr t => ∃ ds' x r, List.Perm ds' ds ∧ fr = (.rt x, r) ∧ (if al = true then On st [.lst [], .lst ds'] t ∧ x = .loc (st.length + 1) else On st [.lst []] t ∧ x = .lst ds') := by
  have hs : st.length < (st ++ [Ob.lst ds]).length := by simp
  have g0 : (st ++ [Ob.lst ds])[st.length]? = some (.lst ds) := by rw [List.getElem?_append_right (Nat.le_refl _), Nat.sub_self]; rfl
  have C : OkP (cM (fun (x : Nat) => stepC (den (phi Pr (k + 1)) (.mt .pop (.var 2) [(.call "_law_pick" [(.var 0), (.bi false .len [(.var 2)])])])) (denIf (phi Pr (k + 1)) []) (.nm 3) [some (.loc 1), some d, some (.loc st.length), none] (.int (x : Nat))) (List.range ds.length) (st ++ [Ob.lst ds])) fun xs t => List.Perm xs ds ∧ On st [.lst []] t := by
    refine cM_inv (fun l1 acc t => ∃ rest, On st [.lst rest] t ∧ List.Perm (acc ++ rest) ds ∧ acc.length = l1.length) ⟨ds, (On.refl h).push _, List.Perm.refl _, rfl⟩ (fun l1 x l2 acc t hx hI => ?_) fun acc t hI => ?_
    · obtain ⟨rest, ho, hpm, ha⟩ := hI
      have hlen := congrArg List.length hx
      have hpl := hpm.length_eq
      simp only [List.length_range, List.length_append, List.length_cons] at hlen hpl
      have g1 : t[st.length]? = some (.lst rest) := by have := ho.get 0; simpa using this
      obtain ⟨r, t1, e1, hr, o1⟩ := ho.pickN W k rest.length (by omega) (by omega)
      have g2 : t1[st.length]? = some (.lst rest) := by have := o1.get 0; simpa using this
      have o2 := o1.set 0 (.lst (rest.eraseIdx r))
      simp only [Nat.add_zero, List.set_cons_zero] at o2
      simp only [stepC_eq, ev_var, ev_int, ev_bl, ev_non, ev_str, ev_tup, ev_lst, ev_dnew, ev_disp, ev_bin, ev_neg, ev_cmp, ev_chain, ev_and, ev_or, ev_not, ev_ite, ev_ix, ev_sl, ev_rev, ev_call, ev_bi, ev_mt, ev_comp2, ev_nil, ev_cons, ev_ifn, ev_ifc,  ev_asg, ev_aug, ev_setIx, ev_augIx, ev_ex, ev_ret, ev_retN, ev_if, ev_for2, ev_brk, ev_cont, ev_pass, ev_snil, ev_scons, then_nx, then_rt, then_bk, then_ct, end_rt, end_nx, optR_some, finish_self, asg_nm, asg_tp, asg_nil, asg_cons,  truth_bl, truth_int, Res.bind_ok, safe_ok, List.getElem?_cons_zero, List.getElem?_cons_succ, List.set_cons_zero, List.set_cons_succ, List.length_cons, List.length_nil, Option.map_some, Option.bind_some, Option.bind_eq_bind, wipeE, if_true, if_false, Bool.false_eq_true, ite_true, ite_false, reduceIte, reduceCtorEq, b_add, b_sub, b_eq, b_ne, b_lt, b_le, b_gt, b_ge, u_abs, u_int, u_intb, u_tuple_l, u_tuple_t, u_len_l, u_len_t, eq_self, decide_true, decide_false, mtOk_loc g1 (m := .pop) (by decide), len_loc g1, e1, popAt_loc g2 hr (by omega), okP_ok]
      refine ⟨rest.eraseIdx r, o2, ?_, by simp [ha]⟩
      simp only [Option.toList_some, List.append_assoc, List.singleton_append]
      exact (List.Perm.append_left acc (erase_perm hr)).trans hpm
    · obtain ⟨rest, ho, hpm, ha⟩ := hI
      rw [List.length_range] at ha
      have hpl := hpm.length_eq
      rw [List.length_append] at hpl
      have : rest = [] := List.length_eq_zero_iff.mp (by omega)
      subst this
      rw [List.append_nil] at hpm
      exact ⟨hpm, ho⟩
  obtain ⟨xs, t, e, hpm, ho⟩ := OkP.ex C
  have hz : xs.length ≤ sizeLine := by rw [hpm.length_eq]; exact few hl
  cases al with
  | false =>
    simp only [d_mixed, ev_var, ev_int, ev_bl, ev_non, ev_str, ev_tup, ev_lst, ev_dnew, ev_disp, ev_bin, ev_neg, ev_cmp, ev_chain, ev_and, ev_or, ev_not, ev_ite, ev_ix, ev_sl, ev_rev, ev_call, ev_bi, ev_mt, ev_comp2, ev_nil, ev_cons, ev_ifn, ev_ifc,  ev_asg, ev_aug, ev_setIx, ev_augIx, ev_ex, ev_ret, ev_retN, ev_if, ev_for2, ev_brk, ev_cont, ev_pass, ev_snil, ev_scons, then_nx, then_rt, then_bk, then_ct, end_rt, end_nx, optR_some, finish_self, asg_nm, asg_tp, asg_nil, asg_cons,  truth_bl, truth_int, Res.bind_ok, safe_ok, List.getElem?_cons_zero, List.getElem?_cons_succ, List.set_cons_zero, List.set_cons_succ, List.length_cons, List.length_nil, Option.map_some, Option.bind_some, Option.bind_eq_bind, wipeE, if_true, if_false, Bool.false_eq_true, ite_true, ite_false, reduceIte, reduceCtorEq, list_of hd (few hl), len_loc g0, compK_rng' _ _ _ _ _ _ _ hl, e, newL_f _ _ hz, okP_ok]
    exact ⟨xs, _, _, hpm, rfl, ho, rfl⟩
  | true =>
    simp only [d_mixed, ev_var, ev_int, ev_bl, ev_non, ev_str, ev_tup, ev_lst, ev_dnew, ev_disp, ev_bin, ev_neg, ev_cmp, ev_chain, ev_and, ev_or, ev_not, ev_ite, ev_ix, ev_sl, ev_rev, ev_call, ev_bi, ev_mt, ev_comp2, ev_nil, ev_cons, ev_ifn, ev_ifc,  ev_asg, ev_aug, ev_setIx, ev_augIx, ev_ex, ev_ret, ev_retN, ev_if, ev_for2, ev_brk, ev_cont, ev_pass, ev_snil, ev_scons, then_nx, then_rt, then_bk, then_ct, end_rt, end_nx, optR_some, finish_self, asg_nm, asg_tp, asg_nil, asg_cons,  truth_bl, truth_int, Res.bind_ok, safe_ok, List.getElem?_cons_zero, List.getElem?_cons_succ, List.set_cons_zero, List.set_cons_succ, List.length_cons, List.length_nil, Option.map_some, Option.bind_some, Option.bind_eq_bind, wipeE, if_true, if_false, Bool.false_eq_true, ite_true, ite_false, reduceIte, reduceCtorEq, list_of hd (few hl), len_loc g0, compK_rng' _ _ _ _ _ _ _ hl, e, newL_t _ _ hz, okP_ok]
    exact ⟨xs, _, _, hpm, rfl, ho.push _, by rw [ho.len]; rfl⟩
theorem lowL_mem {ds : List D} {n : Nat} (h : ∀ d, d ∈ ds → D.low d n = true) : D.lowL ds n = true := by
  induction ds with
  | nil => rfl
  | cons d ds ih => simp only [D.lowL, h d (List.mem_cons_self ..), ih fun x hx => h x (List.mem_cons_of_mem _ hx), Bool.and_self]
theorem mem_lowL {ds : List D} {n : Nat} (h : D.lowL ds n = true) : ∀ d, d ∈ ds → D.low d n = true := by
  induction ds with
  | nil => intro d hd; cases hd
  | cons x ds ih =>
    simp only [D.lowL, Bool.and_eq_true] at h
    intro d hd
    rcases List.mem_cons.mp hd with rfl | hd
    · exact h.1
    · exact ih h.2 d hd
/-- .. a list that nobody writes -/
theorem mixedF_ok {Pr : Prog} (W : Draws Pr) (hp : Pr "_law_mixed" = some (d_mixed false)) (k : Nat) {st : Store} (h : Source st) {d : D} {ds : List D} (hd : items st d = some ds) (hl : ds.length ≤ 1000) (hlow : D.lowL ds st.length = true) :
    Dr st (phi Pr (k + 2) "_law_mixed" [.loc 1, d] st) fun x => ∃ ds', List.Perm ds' ds ∧ x = .lst ds' := by
  rw [phi_def hp rfl]
  obtain ⟨fr, t, e, ds', x, r, hpm, rfl, hx⟩ := OkP.ex (mixed_ok W hp k h hd hl)
  simp only [Bool.false_eq_true, if_false] at hx
  obtain ⟨ho, rfl⟩ := hx
  have hw : D.low (.lst ds') st.length = true := by
    simp only [D.low]; exact lowL_mem fun y hy => mem_lowL hlow y (hpm.mem_iff.mp hy)
  obtain ⟨s, e2, o2⟩ := ho.finish hw
  show Dr st ((denSs (phi Pr (k + 1)) (d_mixed false).body [some (.loc 1), some d, none, none] st).bind (endOf st)) _
  rw [e, Res.bind_ok, end_rt, e2]
  exact dr_ok o2.dr.1 o2.dr.2 ⟨ds', hpm, rfl⟩
/-- .. a list at a new place -/
theorem mixedT_ok {Pr : Prog} (W : Draws Pr) (hp : Pr "_law_mixed" = some (d_mixed true)) (k : Nat) {st : Store} (h : Source st) {d : D} {ds : List D} (hd : items st d = some ds) (hl : ds.length ≤ 1000) :
    ∃ ds' t, phi Pr (k + 2) "_law_mixed" [.loc 1, d] st = .ok (.loc (st.length + 1)) t ∧ List.Perm ds' ds ∧ On st [.lst [], .lst ds'] t := by
  rw [phi_def hp rfl]
  obtain ⟨fr, t, e, ds', x, r, hpm, rfl, hx⟩ := OkP.ex (mixed_ok W hp k h hd hl)
  simp only [if_true] at hx
  obtain ⟨ho, rfl⟩ := hx
  refine ⟨ds', t, ?_, hpm, ho⟩
  show (denSs (phi Pr (k + 1)) (d_mixed true).body [some (.loc 1), some d, none, none] st).bind (endOf st) = _
  rw [e, Res.bind_ok, end_rt]
  unfold WT.finish
  rw [if_neg (by simp [D.low]; intro z; omega)]
end WT

set_option Elab.async false
set_option linter.all false
set_option maxRecDepth 100000
set_option maxHeartbeats 4000000
/-! WSh: lists at a place. -/
namespace WT
open PySem
theorem view_at {st : Store} {a : Nat} {ds : List D} (h : st[a]? = some (.lst ds)) : view st (.loc a) = .lst ds := by simp only [view, h]
section
variable {st : Store} {a : Nat} {ds : List D}
theorem x_at (h : st[a]? = some (.lst ds)) (i : Nat) : ixD (.loc a) (.int (i : Nat)) st = optR ds[i]? st := by
  have e : ixD (.loc a) (.int (i : Nat)) st = (match view st (.loc a), D.int (i : Nat) with
  | .tup xs, .int i => optR (at? xs i) st
  | .lst xs, .int i => optR (at? xs i) st
  | .str x, .int i => if x.length ≤ sizeLine then optR ((at? x.cps.toList i).map fun c => D.str ⟨#[c]⟩) st else .stuck
  | d, k => match getD d k st with
    | some (some v) => .ok v st
    | _ => .stuck) := rfl
  rw [e, view_at h]
  show optR (at? ds ((i : Nat) : Int)) st = _
  unfold at?; rw [if_pos (by omega), Int.toNat_natCast]
theorem x_last (h : st[a]? = some (.lst ds)) (h0 : 0 < ds.length) : ixD (.loc a) (.int (-1)) st = optR ds[ds.length - 1]? st := by
  have e : ixD (.loc a) (.int (-1)) st = (match view st (.loc a), D.int (-1) with
  | .tup xs, .int i => optR (at? xs i) st
  | .lst xs, .int i => optR (at? xs i) st
  | .str x, .int i => if x.length ≤ sizeLine then optR ((at? x.cps.toList i).map fun c => D.str ⟨#[c]⟩) st else .stuck
  | d, k => match getD d k st with
    | some (some v) => .ok v st
    | _ => .stuck) := rfl
  rw [e, view_at h]
  show optR (at? ds (-1)) st = _
  unfold at?
  rw [if_neg (by omega), if_pos (by omega)]
  congr 2; omega
theorem set_at (h : st[a]? = some (.lst ds)) {i : Nat} (hi : i < ds.length) (v : D) : setD (.loc a) (.int (i : Nat)) v st = some (st.set a (.lst (ds.set i v))) := by
  have e : ixN' ds.length ((i : Nat) : Int) = some i := by
    unfold ixN'; rw [if_pos (by omega), if_pos (by omega), Int.toNat_natCast]
  simp only [setD, h, e, Option.map_some]
theorem app_at (h : st[a]? = some (.lst ds)) (hl : ds.length < sizeLine) (d : D) : mtD .append (.loc a) [d] st = .ok .non (st.set a (.lst (ds ++ [d]))) := by
  simp only [mtD, h]; rw [if_pos hl]
theorem items_at (h : st[a]? = some (.lst ds)) : items st (.loc a) = some ds := by
  simp only [items, view_at h]
theorem seqS_at (h : st[a]? = some (.lst ds)) : seqS st (.loc a) = some ds := by simp only [seqS, view_at h]
theorem seqO_at (h : st[a]? = some (.lst ds)) : seqOf st (.loc a) = some ds := by simp only [seqOf, view_at h]
end
/-! ### comprehensions over a list at a place, nothing written -/
theorem compK_at {α : Type} {al : Bool} {elt : Env → Store → Res D} {tst : Env → Store → Res Bool} {tg : Tg} {r : Env} {st : Store} {a : Nat} (l : List α) (e : α → D) (p : α → Bool) (g : α → D) (h : st[a]? = some (.lst (l.map e)))
    (hs : ∀ x, x ∈ l → ∃ r', asgT tg (e x) r = some r' ∧ tst r' st = .ok (p x) st ∧ (p x = true → elt r' st = .ok (g x) st)) : compK al elt tst tg r .val [.loc a] st = newL al ((l.filter p).map g) st := by
  have e1 : srcOf .val [.loc a] st = some (.val (.loc a)) := by show (seqS st (.loc a)).map (fun _ => Src.val (.loc a)) = _; rw [seqS_at h]; rfl
  have e2 : srcItems st (.val (.loc a)) = some (l.map e) := seqS_at h
  rw [compK, e1, optR_some, Res.bind_ok, e2, optR_some, Res.bind_ok, comp_map l e p g e2 hs, safe_ok, Res.bind_ok]
theorem compK_enumAt {α : Type} {al : Bool} {elt : Env → Store → Res D} {tst : Env → Store → Res Bool} {tg : Tg} {r : Env} {st : Store} {a : Nat} (l : List α) (e : α → D) (p : α × Nat → Bool) (g : α × Nat → D) (h : st[a]? = some (.lst (l.map e)))
    (hs : ∀ x, x ∈ l.zipIdx → ∃ r', asgT tg (.tup [.int (x.2 : Nat), e x.1]) r = some r' ∧ tst r' st = .ok (p x) st ∧ (p x = true → elt r' st = .ok (g x) st)) : compK al elt tst tg r .enum [.loc a] st = newL al ((l.zipIdx.filter p).map g) st := by
  have e1 : srcOf .enum [.loc a] st = some (.enum (.loc a)) := by show (seqOf st (.loc a)).map (fun _ => Src.enum (.loc a)) = _; rw [seqO_at h]; rfl
  have e2 : srcItems st (.enum (.loc a)) = some (l.zipIdx.map fun x => .tup [.int (x.2 : Nat), e x.1]) := by show (seqOf st (.loc a)).map (fun xs => enumL xs 0) = _; rw [seqO_at h]; simp only [Option.map_some, enumL_map]
  rw [compK, e1, optR_some, Res.bind_ok, e2, optR_some, Res.bind_ok, comp_map l.zipIdx _ p g e2 hs, safe_ok, Res.bind_ok]
/-! ### loops over a list at a place that stays -/
theorem loopL_more {tg : Tg} {b : Env → Store → Res (Fl × Env)} {src : Src} : ∀ (n i : Nat) (r : Env) (st : Store), loopL tg b src n i r st ≠ .stuck → loopL tg b src (n + 1) i r st = loopL tg b src n i r st := by
  intro n
  induction n with
  | zero => intro i r st h; exact absurd rfl h
  | succ n ih =>
    intro i r st h
    rw [loopL] at h
    conv => lhs; rw [loopL]
    conv => rhs; rw [loopL]
    cases h1 : srcItems st src with
    | none => rfl
    | some ds =>
      rw [h1] at h
      simp only at h ⊢
      cases h2 : ds[i]? with
      | none => rfl
      | some d =>
        rw [h2] at h
        simp only at h ⊢
        cases h3 : asgT tg d r with
        | none => rfl
        | some r' =>
          rw [h3] at h
          simp only at h ⊢
          cases hb : b r' st with
          | stuck => rfl
          | err _ _ => rfl
          | ok fr st2 =>
            rw [hb] at h
            simp only [Res.bind_ok] at h ⊢
            cases fr with
            | mk fl r2 =>
              cases fl with
              | nx => exact ih _ r2 st2 h
              | ct => exact ih _ r2 st2 h
              | bk => rfl
              | rt v => rfl
theorem loopL_list {α : Type} {tg : Tg} {b : Env → Store → Res (Fl × Env)} {src : Src} {Q : Fl × Env → Store → Prop} {l : List α} {e : α → D} (I : List α → Env → Store → Prop) {r : Env} {st : Store} (h0 : I [] r st) (hsrc : ∀ l1 r st, I l1 r st → srcItems st src = some (l.map e))
    (hs : ∀ l1 x l2 r st, l = l1 ++ x :: l2 → I l1 r st → ∃ r', asgT tg (e x) r = some r' ∧ OkP (b r' st) fun fr st' => match fr.1 with
      | .nx => I (l1 ++ [x]) fr.2 st'
      | .ct => I (l1 ++ [x]) fr.2 st'
      | .bk => Q (.nx, fr.2) st'
      | .rt v => Q (.rt v, fr.2) st')
    (hd : ∀ r st, I l r st → Q (.nx, r) st) : OkP (limR fun n => loopL tg b src n 0 r st) Q := by
  have main : ∀ (l2 l1 : List α) (r : Env) (st : Store), l = l1 ++ l2 → I l1 r st → OkP (loopL tg b src (l2.length + 1) l1.length r st) Q := by
    intro l2
    induction l2 with
    | nil =>
      intro l1 r st e1 hI
      rw [List.append_nil] at e1
      subst e1
      rw [loopL, hsrc _ _ _ hI]
      have z : (l.map e)[l.length]? = none := List.getElem?_eq_none (by simp)
      simp only [z, List.length_map, if_true]
      exact okP_ok.mpr (hd _ _ hI)
    | cons x l2 ih =>
      intro l1 r st e1 hI
      rw [loopL, hsrc _ _ _ hI]
      have z : (l.map e)[l1.length]? = some (e x) := by rw [e1, List.getElem?_map, List.getElem?_append_right (Nat.le_refl _), Nat.sub_self]; rfl
      obtain ⟨r', g1, g2⟩ := hs l1 x l2 r st e1 hI
      simp only [z, g1]
      refine g2.bind fun fr st' q => ?_
      cases fr with
      | mk fl r2 =>
        cases fl with
        | nx =>
          have := ih (l1 ++ [x]) r2 st' (by rw [e1, List.append_assoc]; rfl) q
          rwa [List.length_append] at this
        | ct =>
          have := ih (l1 ++ [x]) r2 st' (by rw [e1, List.append_assoc]; rfl) q
          rwa [List.length_append] at this
        | bk => exact okP_ok.mpr q
        | rt v => exact okP_ok.mpr q
  have := main l [] r st rfl h0
  rw [limR_of (g := fun n => loopL tg b src n 0 r st) (fun n hn => loopL_more n 0 r st hn) (okP_ne this)]
  exact this
theorem forK_at {tg : Tg} {b : Env → Store → Res (Fl × Env)} {r : Env} {st : Store} {a : Nat} {ds : List D} (h : st[a]? = some (.lst ds)) : forK tg b r .val [.loc a] st = limR fun n => loopL tg b (.val (.loc a)) n 0 r st := by
  have e1 : srcOf .val [.loc a] st = some (.val (.loc a)) := by show (seqS st (.loc a)).map (fun _ => Src.val (.loc a)) = _; rw [seqS_at h]; rfl
  rw [forK, e1, optR_some, Res.bind_ok]
  rfl
theorem forK_enumAt {tg : Tg} {b : Env → Store → Res (Fl × Env)} {r : Env} {st : Store} {a : Nat} {ds : List D} (h : st[a]? = some (.lst ds)) : forK tg b r .enum [.loc a] st = limR fun n => loopL tg b (.enum (.loc a)) n 0 r st := by
  have e1 : srcOf .enum [.loc a] st = some (.enum (.loc a)) := by show (seqOf st (.loc a)).map (fun _ => Src.enum (.loc a)) = _; rw [seqO_at h]; rfl
  rw [forK, e1, optR_some, Res.bind_ok]
  rfl
theorem src_at {st : Store} {a : Nat} {ds : List D} (h : st[a]? = some (.lst ds)) : srcItems st (.val (.loc a)) = some ds := seqS_at h
theorem srcE_at {α : Type} {st : Store} {a : Nat} {l : List α} {e : α → D} (h : st[a]? = some (.lst (l.map e))) : srcItems st (.enum (.loc a)) = some (l.zipIdx.map fun x => .tup [.int (x.2 : Nat), e x.1]) := by
  show (seqOf st (.loc a)).map (fun xs => enumL xs 0) = _; rw [seqO_at h]; simp only [Option.map_some, enumL_map]
end WT

set_option Elab.async false
set_option linter.all false
set_option maxRecDepth 100000
set_option maxHeartbeats 4000000
/-! WSi: numbers in lists; all, any, min; comprehensions in one store. -/
namespace WT
open PySem
/-- a list of numbers -/
def nats (ns : List Nat) : List D := ns.map fun i => D.int (i : Nat)
theorem nats_len (ns : List Nat) : (nats ns).length = ns.length := by simp [nats]
theorem nats_app (a b : List Nat) : nats (a ++ b) = nats a ++ nats b := by simp [nats]
theorem nats_one (a : Nat) : nats [a] = [D.int (a : Nat)] := rfl
theorem nats_at (ns : List Nat) (i : Nat) : (nats ns)[i]? = ns[i]?.map fun i => D.int (i : Nat) := by simp [nats]
theorem nats_set (ns : List Nat) (i x : Nat) : (nats ns).set i (.int (x : Nat)) = nats (ns.set i x) := by unfold nats; rw [List.map_set]
theorem dataL_nats (ns : List Nat) (k : Nat) : D.dataL (nats ns) k = true := dataL_all fun d hd => by
  obtain ⟨i, _, rfl⟩ := List.mem_map.mp hd; rfl
theorem flatL_nats (ns : List Nat) : D.flatL (nats ns) = true := flatL_all fun d hd => by
  obtain ⟨i, _, rfl⟩ := List.mem_map.mp hd; rfl
theorem lowL_nats (ns : List Nat) (n : Nat) : D.lowL (nats ns) n = true := lowL_mem fun d hd => by
  obtain ⟨i, _, rfl⟩ := List.mem_map.mp hd; rfl
theorem eqv_int (i j : Int) : D.eqv (.int i) (.int j) = decide (i = j) := by
  rw [eqv_dec rfl rfl]; simp
theorem any_nats (ns : List Nat) (d : Nat) : ((nats ns).any fun z => D.eqv z (.int (d : Nat))) = decide (d ∈ ns) := by
  unfold nats
  rw [List.any_map]
  induction ns with
  | nil => simp
  | cons x ns ih =>
    rw [List.any_cons, ih]
    simp only [Function.comp_def, eqv_int, List.mem_cons]
    by_cases h : x = d
    · subst h; simp
    · have : ¬ (x : Int) = (d : Int) := by omega
      simp [this, Ne.symm h, eq_comm]
theorem in_nats {st : Store} {b : D} {ns : List Nat} (h : view st b = .lst (nats ns) ∨ view st b = .tup (nats ns)) (d : Nat) : cmpD .In (.int (d : Nat)) b st = some (decide (d ∈ ns)) := by
  have e : cmpD .In (.int (d : Nat)) b st = inD (.int (d : Nat)) b st := rfl
  have hd : (D.int (d : Nat)).data 62 = true := rfl
  rw [e]
  unfold inD
  rcases h with h | h <;> rw [h] <;> simp only [hd, dataL_nats, Bool.and_self, if_true, any_nats]
theorem notin_nats {st : Store} {b : D} {ns : List Nat} (h : view st b = .lst (nats ns) ∨ view st b = .tup (nats ns)) (d : Nat) : cmpD .NotIn (.int (d : Nat)) b st = some (!decide (d ∈ ns)) := by
  have e : cmpD .NotIn (.int (d : Nat)) b st = (cmpD .In (.int (d : Nat)) b st).map (!·) := rfl
  rw [e, in_nats h]; rfl
theorem flags_map {α : Type} (p : α → Bool) (l : List α) : flagsD (l.map fun x => .bl (p x)) = some (l.map p) := by
  induction l with
  | nil => rfl
  | cons x l ih => rw [List.map_cons, flagsD, ih]; rfl
theorem all_map {α : Type} (p : α → Bool) (l : List α) (al : Bool) (st : Store) : biD al .all [.lst (l.map fun x => .bl (p x))] st = .ok (.bl (l.all p)) st := by
  have e : biD al .all [.lst (l.map fun x => .bl (p x))] st = optR ((flagsD (l.map fun x => .bl (p x))).map fun bs => D.bl (bs.all id)) st := rfl
  rw [e, flags_map]
  simp only [Option.map_some, optR_some, List.all_map]; rfl
theorem any_map {α : Type} (p : α → Bool) (l : List α) (al : Bool) (st : Store) : biD al .any [.lst (l.map fun x => .bl (p x))] st = .ok (.bl (l.any p)) st := by
  have e : biD al .any [.lst (l.map fun x => .bl (p x))] st = optR ((flagsD (l.map fun x => .bl (p x))).map fun bs => D.bl (bs.any id)) st := rfl
  rw [e, flags_map]
  simp only [Option.map_some, optR_some, List.any_map]; rfl
theorem cM_nats (f : D → Store → Res (Option D)) (ns : List Nat) (st : Store) : cM f (nats ns) st = cM (fun x : Nat => f (.int (x : Nat))) ns st := cM_map _ _ _ _
/-! ### in one store -/
theorem cM_toS {α : Type} {f : α → Store → Res (Option D)} {l : List α} {st : Store} (g : α → D) (h : ∀ x, x ∈ l → f x st = .ok (some (g x)) st) : cM f l st = .ok (l.map g) st := by
  induction l with
  | nil => rfl
  | cons x l ih => rw [cM, h x (List.mem_cons_self ..), Res.bind_ok, ih fun y hy => h y (List.mem_cons_of_mem _ hy), Res.bind_ok]; rfl
theorem cM_toIfS {α : Type} {f : α → Store → Res (Option D)} {l : List α} {st : Store} (p : α → Bool) (g : α → D) (h : ∀ x, x ∈ l → f x st = if p x = true then .ok (some (g x)) st else .ok none st) : cM f l st = .ok ((l.filter p).map g) st := by
  induction l with
  | nil => rfl
  | cons x l ih =>
    have i := ih fun y hy => h y (List.mem_cons_of_mem _ hy)
    rw [cM, h x (List.mem_cons_self ..)]
    by_cases hp : p x = true
    · rw [if_pos hp, Res.bind_ok, i, Res.bind_ok, List.filter_cons_of_pos hp]; rfl
    · rw [if_neg hp, Res.bind_ok, i, Res.bind_ok, List.filter_cons_of_neg hp]
/-! ### min -/
theorem intsD_nats (ns : List Nat) : intsD (nats ns) = some (ns.map fun i : Nat => (i : Int)) := by
  induction ns with
  | nil => rfl
  | cons n ns ih => rw [nats, List.map_cons, intsD]; rw [show List.map (fun i => D.int ((i : Nat) : Int)) ns = nats ns from rfl, ih]; rfl
theorem min_nats {st : Store} {b : D} {ns : List Nat} (h : view st b = .lst (nats ns)) (h0 : ns ≠ []) (al : Bool) : ∃ m : Nat, biD al .min [b] st = .ok (.int (m : Nat)) st ∧ m ∈ ns ∧ ∀ x, x ∈ ns → m ≤ x := by
  have e : biD al .min [b] st = (match view st b with | .lst xs => optR (((intsD xs).bind List.min?).map D.int) st | _ => .stuck) := by cases b <;> rfl
  rw [e, h]
  simp only [intsD_nats, Option.bind_some]
  cases hm : (ns.map fun i : Nat => (i : Int)).min? with
  | none =>
    rw [List.min?_eq_none_iff] at hm
    exact absurd (List.map_eq_nil_iff.mp hm) h0
  | some m =>
    have := List.min?_eq_some_iff.mp hm
    obtain ⟨h1, h2⟩ := this
    obtain ⟨i, hi, rfl⟩ := List.mem_map.mp h1
    refine ⟨i, rfl, hi, fun x hx => ?_⟩
    have := h2 x (List.mem_map.mpr ⟨x, hx, rfl⟩)
    omega
end WT

set_option Elab.async false
set_option linter.all false
set_option maxRecDepth 100000
set_option maxHeartbeats 4000000
/-! WSj: sorting tuples of ints. -/
namespace WT
open PySem
def lexLe : List Int → List Int → Bool
  | [], _ => true
  | _ :: _, [] => false
  | x :: xs, y :: ys => decide (x < y) || (decide (x = y) && lexLe xs ys)
theorem pyL_ints (ns : List Int) : D.pyL (intL ns) = ns.map PyData.int := by
  induction ns with
  | nil => rfl
  | cons n ns ih => rw [intL, List.map_cons, D.pyL]; rw [show List.map D.int ns = intL ns from rfl, ih]; rfl
theorem blt_inl (a b : Int) : PyProof.Rows.itemOrd.blt (Sum.inl a) (Sum.inl b) = decide (a < b) := rfl
theorem lex_toks : ∀ a b : List Int, PyProof.Rows.lexLt PyProof.Rows.itemOrd (PySem.W.keyToksAll (b.map PyData.int)) (PySem.W.keyToksAll (a.map PyData.int)) = !lexLe a b
  | [], [] => by
    simp only [List.map_nil, PySem.W.keyToksAll, lexLe]
    rw [PyProof.Rows.lex_self]; rfl
  | [], y :: ys => by
    simp only [List.map_nil, List.map_cons, PySem.W.keyToksAll, lexLe]
    rw [PyProof.Rows.lex_cons, blt_inl, blt_inl]; rfl
  | x :: xs, [] => by
    simp only [List.map_nil, List.map_cons, PySem.W.keyToksAll, lexLe]
    rw [PyProof.Rows.lex_cons, blt_inl, blt_inl]; rfl
  | x :: xs, y :: ys => by
    simp only [List.map_cons, PySem.W.keyToksAll, PySem.W.keyToks, lexLe, List.singleton_append]
    rw [PyProof.Rows.lex_self, PyProof.Rows.lex_cons, blt_inl, blt_inl, lex_toks xs ys]
    by_cases h1 : y < x
    · have h2 : ¬ x < y := by omega
      have h3 : ¬ x = y := by omega
      simp [h1, h2, h3]
    · by_cases h2 : x < y
      · have h3 : ¬ x = y := by omega
        simp [h1, h2]
      · have h3 : x = y := by omega
        subst h3
        simp
theorem le_ints (a b : List Int) : PySem.W.dataLe false D.py (.tup (intL a)) (.tup (intL b)) = lexLe a b := by
  have e : PySem.W.dataLe false D.py (.tup (intL a)) (.tup (intL b)) = !(PyProof.Rows.lexLt PyProof.Rows.itemOrd (PySem.W.keyToks (D.py (.tup (intL b)))) (PySem.W.keyToks (D.py (.tup (intL a))))) := rfl
  have e2 : ∀ a : List Int, PySem.W.keyToks (D.py (.tup (intL a))) = PySem.W.keyToksAll (a.map PyData.int) := fun a => by
    rw [D.py, PySem.W.keyToks, pyL_ints]
  rw [e, e2, e2, lex_toks]
  simp
theorem lex_anti : ∀ {a b : List Int}, lexLe a b = true → lexLe b a = true → a = b
  | [], [], _, _ => rfl
  | [], _ :: _, _, h => by simp [lexLe] at h
  | _ :: _, [], h, _ => by simp [lexLe] at h
  | x :: xs, y :: ys, h1, h2 => by
    simp only [lexLe, Bool.or_eq_true, Bool.and_eq_true, decide_eq_true_eq] at h1 h2
    rcases h1 with h1 | ⟨h1, g1⟩
    · rcases h2 with h2 | ⟨h2, _⟩ <;> omega
    · rcases h2 with h2 | ⟨_, g2⟩
      · omega
      · rw [h1, lex_anti g1 g2]
theorem lex_trans : ∀ {a b c : List Int}, lexLe a b = true → lexLe b c = true → lexLe a c = true
  | [], _, _, _, _ => rfl
  | _ :: _, [], _, h, _ => by simp [lexLe] at h
  | _ :: _, _ :: _, [], _, h => by simp [lexLe] at h
  | x :: xs, y :: ys, z :: zs, h1, h2 => by
    simp only [lexLe, Bool.or_eq_true, Bool.and_eq_true, decide_eq_true_eq] at h1 h2 ⊢
    rcases h1 with h1 | ⟨h1, g1⟩
    · left; rcases h2 with h2 | ⟨h2, _⟩ <;> omega
    · rcases h2 with h2 | ⟨h2, g2⟩
      · left; omega
      · right; exact ⟨by omega, lex_trans g1 g2⟩
theorem lex_total : ∀ a b : List Int, (lexLe a b || lexLe b a) = true
  | [], _ => rfl
  | _ :: _, [] => rfl
  | x :: xs, y :: ys => by
    have := lex_total xs ys
    simp only [lexLe, Bool.or_eq_true, Bool.and_eq_true, decide_eq_true_eq] at this ⊢
    by_cases h : x = y
    · rcases this with g | g
      · exact .inl (.inr ⟨h, g⟩)
      · exact .inr (.inr ⟨h.symm, g⟩)
    · rcases Int.lt_or_gt_of_ne h with g | g
      · exact .inl (.inl g)
      · exact .inr (.inl g)
/-- a tuple of ints by what it tells -/
def tupI {α : Type} (f : α → List Int) (x : α) : D := .tup (intL (f x))
def srt {α : Type} (f : α → List Int) (l : List α) : List α := l.mergeSort fun a b => lexLe (f a) (f b)
section
variable {α : Type} (f : α → List Int)
theorem sort_tup (l : List α) : sortD (l.map (tupI f)) = (srt f l).map (tupI f) := by
  unfold sortD srt
  rw [List.map_mergeSort]
  intro a _ b _
  exact (le_ints _ _).symm
theorem srt_perm (l : List α) : List.Perm (srt f l) l := List.mergeSort_perm ..
theorem srt_sorted (l : List α) : (srt f l).Pairwise fun a b => lexLe (f a) (f b) = true :=
  List.pairwise_mergeSort (le := fun a b => lexLe (f a) (f b)) (fun a b c h1 h2 => lex_trans h1 h2) (fun a b => lex_total (f a) (f b)) l
theorem srt_same {l l' : List α} (hf : ∀ a b, f a = f b → a = b) (h : List.Perm l l') : srt f l = srt f l' :=
  List.Perm.eq_of_pairwise (le := fun a b => lexLe (f a) (f b) = true) (fun a b _ _ h1 h2 => hf _ _ (lex_anti h1 h2)) (srt_sorted f l) (srt_sorted f l') ((srt_perm f l).trans (h.trans (srt_perm f l').symm))
theorem alike_ints : ∀ a b : List Int, PySem.W.alikeAll (a.map PyData.int) (b.map PyData.int) = true
  | [], [] => by simp [PySem.W.alikeAll]
  | [], _ :: _ => by simp [PySem.W.alikeAll]
  | _ :: _, [] => by simp [PySem.W.alikeAll]
  | x :: xs, y :: ys => by simp only [List.map_cons, PySem.W.alikeAll, alike_ints xs ys]; simp [PySem.W.alike]
theorem tup_sortable (l : List α) (h : ∀ x, x ∈ l → f x ≠ []) : sortable (l.map (tupI f)) = true := by
  unfold sortable
  rw [Bool.and_eq_true, Bool.and_eq_true]
  refine ⟨⟨dataL_all fun d hd => ?_, ?_⟩, ?_⟩
  · obtain ⟨x, _, rfl⟩ := List.mem_map.mp hd
    simp only [tupI, D.data]; exact dataL_ints _ _
  · rw [List.all_eq_true]; intro x hx
    rw [List.all_eq_true]; intro y hy
    obtain ⟨a, _, rfl⟩ := List.mem_map.mp hx
    obtain ⟨b, _, rfl⟩ := List.mem_map.mp hy
    simp only [alikeD, tupI, D.py, pyL_ints, PySem.W.alike, alike_ints]
  · rw [Bool.or_eq_true]; left
    rw [List.all_eq_true]; intro x hx
    obtain ⟨a, ha, rfl⟩ := List.mem_map.mp hx
    have := h a ha
    unfold tupI
    cases e : f a with
    | nil => exact absurd e this
    | cons i r => rfl
/-- sorted(..) of a list of such tuples -/
theorem sorted_tup (l : List α) (h : ∀ x, x ∈ l → f x ≠ []) (hl : l.length ≤ sizeLine) (st : Store) : biD false .sorted [.lst (l.map (tupI f))] st = .ok (.lst ((srt f l).map (tupI f))) st := by
  have e : biD false .sorted [.lst (l.map (tupI f))] st = if sortable (l.map (tupI f)) then newL false (sortD (l.map (tupI f))) st else .stuck := rfl
  rw [e, if_pos (tup_sortable f l h), sort_tup]
  exact newL_f _ _ (by rw [List.length_map, (srt_perm f l).length_eq]; exact hl)
end
end WT

set_option maxRecDepth 100000
set_option maxHeartbeats 2000000
set_option linter.all false
/-! L92a: when deeds begin: plain. -/
namespace Wring
structure RN where
  n : Nat
  np : Nat
  E : Nat → Nat
  L : Nat → Nat
  M : Nat → Nat
  T : Nat → Nat
  rk : Nat → Nat
structure RN.Ok (R : RN) : Prop where
  e : ∀ q, q < R.np → R.E q < R.n
  l : ∀ q, q < R.np → R.L q < R.n
  rk : ∀ d, d < R.n → R.rk d < R.n
  ac : ∀ q, q < R.np → R.M q = 0 → R.rk (R.E q) < R.rk (R.L q)
  m2 : ∀ q, q < R.np → R.M q ≤ 2
  t1 : ∀ d, d < R.n → 1 ≤ R.T d
  t2 : ∀ d, d < R.n → R.T d ≤ 6
  into : ∀ d, d < R.n → ∃ q, q < R.np ∧ R.L q = d
def fmax (l : List Nat) : Nat := l.foldl max 0
theorem foldl_max (l : List Nat) : ∀ a, l.foldl max a = max a (l.foldl max 0) := by
  induction l with
  | nil => intro a; simp
  | cons x l ih => intro a; rw [List.foldl_cons, List.foldl_cons, ih, ih (max 0 x)]; omega
theorem fmax_cons (x : Nat) (l : List Nat) : fmax (x :: l) = max x (fmax l) := by
  unfold fmax; rw [List.foldl_cons, foldl_max]; omega
theorem le_fmax {l : List Nat} {x : Nat} (h : x ∈ l) : x ≤ fmax l := by
  induction l with
  | nil => cases h
  | cons y l ih =>
    rw [fmax_cons]
    rcases List.mem_cons.mp h with rfl | h
    · omega
    · have := ih h; omega
theorem fmax_mem (l : List Nat) : fmax l = 0 ∨ fmax l ∈ l := by
  induction l with
  | nil => exact .inl rfl
  | cons y l ih =>
    rw [fmax_cons]
    rcases Nat.le_total y (fmax l) with h | h
    · rw [Nat.max_eq_right h]
      rcases ih with ih | ih
      · exact .inl ih
      · exact .inr (List.mem_cons_of_mem _ ih)
    · rw [Nat.max_eq_left h]; exact .inr (List.mem_cons_self ..)
namespace RN
variable (R : RN)
/-- the places ahead of d that count at k -/
def ins (k d : Nat) : List Nat := (List.range R.np).filter fun q => decide (R.L q = d) && decide (R.M q ≤ k)
def Bf : Nat → Nat → Nat → Nat
  | 0, _, _ => 0
  | f + 1, k, d => fmax ((R.ins k d).map fun q => Bf f (k - R.M q) (R.E q) + R.T (R.E q))
def B (k d : Nat) : Nat := R.Bf (k * R.n + R.rk d + 1) k d
end RN
variable {R : RN}
theorem ins_mem {k d q : Nat} : q ∈ R.ins k d ↔ q < R.np ∧ R.L q = d ∧ R.M q ≤ k := by
  unfold RN.ins
  rw [List.mem_filter, List.mem_range, Bool.and_eq_true, decide_eq_true_eq, decide_eq_true_eq]
theorem less (h : R.Ok) {k d q : Nat} (hq : q ∈ R.ins k d) : (k - R.M q) * R.n + R.rk (R.E q) < k * R.n + R.rk d := by
  obtain ⟨h1, rfl, h3⟩ := ins_mem.mp hq
  by_cases h0 : R.M q = 0
  · have := h.ac q h1 h0
    rw [h0, Nat.sub_zero]; omega
  · have h5 := h.rk _ (h.e q h1)
    have h6 : k - R.M q + 1 ≤ k := by omega
    have h7 := Nat.mul_le_mul_right R.n h6
    rw [Nat.add_mul, Nat.one_mul] at h7
    omega
theorem Bf_same (h : R.Ok) : ∀ (f f' k d : Nat), k * R.n + R.rk d < f → k * R.n + R.rk d < f' → R.Bf f k d = R.Bf f' k d := by
  intro f
  induction f with
  | zero => intro f' k d h1; omega
  | succ f ih =>
    intro f' k d h1 h2
    cases f' with
    | zero => omega
    | succ f' =>
      rw [RN.Bf, RN.Bf]
      congr 1
      refine List.map_congr_left fun q hq => ?_
      have := less h hq
      rw [ih f' _ _ (by omega) (by omega)]
theorem B_eq (h : R.Ok) (k d : Nat) : R.B k d = fmax ((R.ins k d).map fun q => R.B (k - R.M q) (R.E q) + R.T (R.E q)) := by
  unfold RN.B
  rw [RN.Bf]
  congr 1
  refine List.map_congr_left fun q hq => ?_
  have := less h hq
  rw [Bf_same h _ ((k - R.M q) * R.n + R.rk (R.E q) + 1) _ _ (by omega) (by omega)]
theorem B_up (h : R.Ok) {k q : Nat} (hq : q < R.np) (hk : R.M q ≤ k) : R.B (k - R.M q) (R.E q) + R.T (R.E q) ≤ R.B k (R.L q) := by
  rw [B_eq h k (R.L q)]
  exact le_fmax (List.mem_map.mpr ⟨q, ins_mem.mpr ⟨hq, rfl, hk⟩, rfl⟩)
theorem B_att (h : R.Ok) (k d : Nat) : R.B k d = 0 ∨ ∃ q, q < R.np ∧ R.L q = d ∧ R.M q ≤ k ∧ R.B k d = R.B (k - R.M q) (R.E q) + R.T (R.E q) := by
  rcases fmax_mem ((R.ins k d).map fun q => R.B (k - R.M q) (R.E q) + R.T (R.E q)) with z | z
  · left; rw [B_eq h, z]
  · right
    obtain ⟨q, hq, e⟩ := List.mem_map.mp z
    obtain ⟨h1, h2, h3⟩ := ins_mem.mp hq
    exact ⟨q, h1, h2, h3, by rw [B_eq h]; exact e.symm⟩
/-- a strong induction over (k, rank) -/
theorem ring_ind (h : R.Ok) {P : Nat → Nat → Prop} (hs : ∀ k d, d < R.n → (∀ q, q < R.np → R.L q = d → R.M q ≤ k → P (k - R.M q) (R.E q)) → P k d) : ∀ k d, d < R.n → P k d := by
  have : ∀ m k d, k * R.n + R.rk d < m → d < R.n → P k d := by
    intro m
    induction m with
    | zero => intro k d h1; omega
    | succ m ih =>
      intro k d h1 hd
      refine hs k d hd fun q h2 h3 h4 => ih _ _ ?_ (h.e q h2)
      have := less h (ins_mem.mpr ⟨h2, h3, h4⟩)
      omega
  exact fun k d hd => this _ k d (Nat.lt_succ_self _) hd
theorem B_mono (h : R.Ok) (k d : Nat) (hd : d < R.n) : R.B k d ≤ R.B (k + 1) d := by
  refine ring_ind h (P := fun k d => R.B k d ≤ R.B (k + 1) d) (fun k d hd ih => ?_) k d hd
  rcases B_att h k d with z | ⟨q, h1, h2, h3, h4⟩
  · omega
  · have h5 := ih q h1 h2 h3
    have h6 := B_up h (k := k + 1) h1 (by omega)
    rw [h2] at h6
    have e : k + 1 - R.M q = k - R.M q + 1 := by omega
    rw [e] at h6
    omega
theorem B_mono_le (h : R.Ok) {k k' d : Nat} (hd : d < R.n) (hk : k ≤ k') : R.B k d ≤ R.B k' d := by
  induction k' with
  | zero => have : k = 0 := by omega
            subst this; exact Nat.le_refl _
  | succ k' ih =>
    by_cases e : k = k' + 1
    · subst e; exact Nat.le_refl _
    · exact Nat.le_trans (ih (by omega)) (B_mono h k' d hd)
theorem B_grow (h : R.Ok) (k d : Nat) (hd : d < R.n) : k ≤ 2 * R.B k d + 1 := by
  refine ring_ind h (P := fun k d => k ≤ 2 * R.B k d + 1) (fun k d hd ih => ?_) k d hd
  obtain ⟨q, h1, h2⟩ := h.into d hd
  have hm := h.m2 q h1
  by_cases hk : R.M q ≤ k
  · have h3 := ih q h1 h2 hk
    have h4 := B_up h h1 hk
    have h5 := h.t1 _ (h.e q h1)
    rw [h2] at h4
    omega
  · omega
/-! ### laps of relaxing -/
def relax (R : RN) (k : Nat) (c : Nat → Nat) (v : List Nat) (q : Nat) : List Nat :=
  if R.M q ≤ k then v.set (R.L q) (max (v.getD (R.L q) 0) ((if R.M q = 0 then v.getD (R.E q) 0 else c q) + R.T (R.E q))) else v
def lapOf (R : RN) (k : Nat) (c : Nat → Nat) (v : List Nat) : List Nat := (List.range R.np).foldl (relax R k c) v
def lapsOf (R : RN) (k : Nat) (c : Nat → Nat) : Nat → List Nat → List Nat
  | 0, v => v
  | l + 1, v => lapOf R k c (lapsOf R k c l v)
theorem relax_len (k : Nat) (c : Nat → Nat) (v : List Nat) (q : Nat) : (relax R k c v q).length = v.length := by
  unfold relax; split <;> simp
theorem getD_set (v : List Nat) (i j x : Nat) (hi : i < v.length) : (v.set i x).getD j 0 = if j = i then x else v.getD j 0 := by
  simp only [List.getD_eq_getElem?_getD, List.getElem?_set]
  by_cases h : i = j
  · subst h; simp [hi]
  · rw [if_neg h, if_neg (Ne.symm h)]
theorem relax_ge (h : R.Ok) {k : Nat} {c : Nat → Nat} {v : List Nat} (hv : v.length = R.n) {q : Nat} (hq : q < R.np) (d : Nat) : v.getD d 0 ≤ (relax R k c v q).getD d 0 := by
  unfold relax
  split
  · rw [getD_set _ _ _ _ (by rw [hv]; exact h.l q hq)]
    split
    · rename_i e; subst e; omega
    · exact Nat.le_refl _
  · exact Nat.le_refl _
theorem fold_ge (h : R.Ok) {k : Nat} {c : Nat → Nat} (l : List Nat) (hl : ∀ q, q ∈ l → q < R.np) : ∀ {v : List Nat}, v.length = R.n → (l.foldl (relax R k c) v).length = R.n ∧ ∀ d, v.getD d 0 ≤ (l.foldl (relax R k c) v).getD d 0 := by
  induction l with
  | nil => intro v hv; exact ⟨hv, fun d => Nat.le_refl _⟩
  | cons q l ih =>
    intro v hv
    have hq := hl q (List.mem_cons_self ..)
    obtain ⟨h1, h2⟩ := ih (fun x hx => hl x (List.mem_cons_of_mem _ hx)) (v := relax R k c v q) (by rw [relax_len]; exact hv)
    exact ⟨h1, fun d => Nat.le_trans (relax_ge h hv hq d) (h2 d)⟩
theorem lap_ge (h : R.Ok) {k : Nat} {c : Nat → Nat} {v : List Nat} (hv : v.length = R.n) : (lapOf R k c v).length = R.n ∧ ∀ d, v.getD d 0 ≤ (lapOf R k c v).getD d 0 := fold_ge h _ (fun q hq => List.mem_range.mp hq) hv
theorem laps_len (h : R.Ok) {k : Nat} {c : Nat → Nat} {v : List Nat} (hv : v.length = R.n) : ∀ l, (lapsOf R k c l v).length = R.n
  | 0 => hv
  | l + 1 => (lap_ge h (laps_len h hv l)).1
/-- a lap takes each place into account -/
theorem lap_gets (h : R.Ok) {k : Nat} {c : Nat → Nat} {v : List Nat} (hv : v.length = R.n) {q : Nat} (hq : q < R.np) (hk : R.M q ≤ k) : (if R.M q = 0 then v.getD (R.E q) 0 else c q) + R.T (R.E q) ≤ (lapOf R k c v).getD (R.L q) 0 := by
  unfold lapOf
  have e : List.range R.np = (List.range R.np).take q ++ q :: (List.range R.np).drop (q + 1) := by
    have h1 : (List.range R.np)[q]'(by simpa using hq) = q := by simp
    conv => lhs; rw [← List.take_append_drop q (List.range R.np)]
    rw [List.drop_eq_getElem_cons (by simpa using hq), h1]
  rw [e, List.foldl_append, List.foldl_cons]
  have hm : ∀ x, x ∈ (List.range R.np).take q → x < R.np := fun x hx => List.mem_range.mp (List.mem_of_mem_take hx)
  obtain ⟨l1, g1⟩ := fold_ge h (k := k) (c := c) _ hm hv
  generalize ((List.range R.np).take q).foldl (relax R k c) v = w at l1 g1
  have hm2 : ∀ x, x ∈ (List.range R.np).drop (q + 1) → x < R.np := fun x hx => List.mem_range.mp (List.mem_of_mem_drop hx)
  obtain ⟨_, g2⟩ := fold_ge h (k := k) (c := c) _ hm2 (v := relax R k c w q) (by rw [relax_len]; exact l1)
  refine Nat.le_trans ?_ (g2 _)
  unfold relax
  rw [if_pos hk, getD_set _ _ _ _ (by rw [l1]; exact h.l q hq), if_pos rfl]
  have := g1 (R.E q)
  split <;> omega
/-- from below -/
theorem laps_low (h : R.Ok) {k : Nat} {c : Nat → Nat} {v : List Nat} (hv : v.length = R.n) (hc : ∀ q, q < R.np → 1 ≤ R.M q → R.M q ≤ k → R.B (k - R.M q) (R.E q) ≤ c q) : ∀ l d, d < R.n → R.rk d < l → R.B k d ≤ (lapsOf R k c l v).getD d 0 := by
  intro l
  induction l with
  | zero => intro d _ h1; omega
  | succ l ih =>
    intro d hd hr
    rcases B_att h k d with z | ⟨q, h1, h2, h3, h4⟩
    · omega
    · have g := lap_gets h (k := k) (c := c) (laps_len (k := k) (c := c) h hv l) h1 h3
      rw [h2] at g
      refine Nat.le_trans ?_ g
      rw [h4]
      by_cases h0 : R.M q = 0
      · have h5 := h.ac q h1 h0
        have := ih (R.E q) (h.e q h1) (by rw [h2] at h5; omega)
        rw [if_pos h0, h0, Nat.sub_zero]; omega
      · rw [if_neg h0]
        have := hc q h1 (by omega) h3
        omega
/-- from above -/
theorem relax_up (h : R.Ok) {k : Nat} {c : Nat → Nat} {v : List Nat} (hv : v.length = R.n) (hc : ∀ q, q < R.np → 1 ≤ R.M q → R.M q ≤ k → c q ≤ R.B (k - R.M q) (R.E q)) (hb : ∀ d, v.getD d 0 ≤ R.B k d) {q : Nat} (hq : q < R.np) (d : Nat) : (relax R k c v q).getD d 0 ≤ R.B k d := by
  unfold relax
  split
  · rename_i hk
    rw [getD_set _ _ _ _ (by rw [hv]; exact h.l q hq)]
    split
    · rename_i e; subst e
      have h1 := B_up h hq hk
      have h2 := hb (R.L q)
      split
      · rename_i h0
        have h3 := hb (R.E q)
        rw [h0, Nat.sub_zero] at h1
        omega
      · rename_i h0
        have h3 := hc q hq (by omega) hk
        omega
    · exact hb d
  · exact hb d
theorem fold_up (h : R.Ok) {k : Nat} {c : Nat → Nat} (hc : ∀ q, q < R.np → 1 ≤ R.M q → R.M q ≤ k → c q ≤ R.B (k - R.M q) (R.E q)) (l : List Nat) (hl : ∀ q, q ∈ l → q < R.np) : ∀ {v : List Nat}, v.length = R.n → (∀ d, v.getD d 0 ≤ R.B k d) → ∀ d, (l.foldl (relax R k c) v).getD d 0 ≤ R.B k d := by
  induction l with
  | nil => intro v hv hb; exact hb
  | cons q l ih =>
    intro v hv hb
    have hq := hl q (List.mem_cons_self ..)
    exact ih (fun x hx => hl x (List.mem_cons_of_mem _ hx)) (v := relax R k c v q) (by rw [relax_len]; exact hv) fun d => relax_up h hv hc hb hq d
theorem laps_up (h : R.Ok) {k : Nat} {c : Nat → Nat} (hc : ∀ q, q < R.np → 1 ≤ R.M q → R.M q ≤ k → c q ≤ R.B (k - R.M q) (R.E q)) {v : List Nat} (hv : v.length = R.n) (hb : ∀ d, v.getD d 0 ≤ R.B k d) : ∀ l d, (lapsOf R k c l v).getD d 0 ≤ R.B k d
  | 0, d => hb d
  | l + 1, d => fold_up h hc _ (fun q hq => List.mem_range.mp hq) (laps_len h hv l) (laps_up h hc hv hb l) d
def row (R : RN) (k : Nat) : List Nat := (List.range R.n).map (R.B k)
theorem list_eqD {v : List Nat} {n : Nat} {f : Nat → Nat} (hv : v.length = n) (h : ∀ d, d < n → v.getD d 0 = f d) : v = (List.range n).map f := by
  apply List.ext_getElem
  · simp [hv]
  · intro i h1 h2
    have := h i (by omega)
    rw [List.getD_eq_getElem?_getD, List.getElem?_eq_getElem h1] at this
    simpa using this
/-- n laps from nothing give the row -/
theorem laps_row (h : R.Ok) {k : Nat} {c : Nat → Nat} (hc : ∀ q, q < R.np → 1 ≤ R.M q → R.M q ≤ k → c q = R.B (k - R.M q) (R.E q)) : lapsOf R k c R.n (List.replicate R.n 0) = row R k := by
  have hz : (List.replicate R.n 0).length = R.n := by simp
  refine list_eqD (laps_len h hz _) fun d hd => Nat.le_antisymm (laps_up h (fun q a b e => Nat.le_of_eq (hc q a b e)) hz (fun d => ?_) _ d) (laps_low h hz (fun q a b e => Nat.le_of_eq (hc q a b e).symm) _ d hd (h.rk d hd))
  simp [List.getD_eq_getElem?_getD, List.getElem?_replicate]
  split <;> simp
end Wring

set_option maxRecDepth 100000
set_option maxHeartbeats 2000000
set_option linter.all false
/-! L92b: beginnings in sequence are a run: plain. -/
namespace Wring
variable {R : RN}
def oneOf (R : RN) (u k d : Nat) : List (Nat × Nat) := if R.B k d ≤ u then [(R.B k d, d)] else []
/-- beginnings till u, deed by deed, and turn by turn -/
def byDeed (R : RN) (many u : Nat) : List (Nat × Nat) := (List.range R.n).flatMap fun d => (List.range many).flatMap fun k => oneOf R u k d
def byTurn (R : RN) (many u : Nat) : List (Nat × Nat) := (List.range many).flatMap fun k => (List.range R.n).flatMap fun d => oneOf R u k d
theorem flat_add {α β : Type} (f g : α → List β) : ∀ l : List α, List.Perm (l.flatMap fun a => f a ++ g a) (l.flatMap f ++ l.flatMap g)
  | [] => List.Perm.refl _
  | a :: l => by
    simp only [List.flatMap_cons]
    have := flat_add f g l
    refine (List.Perm.append_left _ this).trans ?_
    rw [List.append_assoc, List.append_assoc]
    refine List.Perm.append_left _ ?_
    rw [← List.append_assoc, ← List.append_assoc]
    exact List.Perm.append_right _ List.perm_append_comm
theorem flat_swap {α β γ : Type} (f : α → β → List γ) (l2 : List β) : ∀ l1 : List α, List.Perm (l1.flatMap fun a => l2.flatMap fun b => f a b) (l2.flatMap fun b => l1.flatMap fun a => f a b)
  | [] => by
    simp only [List.flatMap_nil]
    induction l2 with
    | nil => exact List.Perm.refl _
    | cons b l2 ih => rw [List.flatMap_cons]; exact ih
  | a :: l1 => by
    simp only [List.flatMap_cons]
    exact (List.Perm.append_left _ (flat_swap f l2 l1)).trans (flat_add (fun b => f a b) (fun b => l1.flatMap fun a => f a b) l2).symm
theorem by_perm (many u : Nat) : List.Perm (byTurn R many u) (byDeed R many u) := flat_swap (fun k d => oneOf R u k d) _ _
theorem countP_flat {α β : Type} (p : β → Bool) (f : α → List β) : ∀ l : List α, (l.flatMap f).countP p = (l.map fun a => (f a).countP p).sum
  | [] => rfl
  | a :: l => by rw [List.flatMap_cons, List.countP_append, countP_flat p f l]; rfl
theorem sum_one (n d : Nat) (hd : d < n) (g : Nat → Nat) (h : ∀ i, i < n → i ≠ d → g i = 0) : ((List.range n).map g).sum = g d := by
  induction n with
  | zero => omega
  | succ n ih =>
    rw [List.range_succ, List.map_append, List.sum_append]
    by_cases e : d = n
    · subst e
      have : ((List.range d).map g).sum = 0 := by
        have : (List.range d).map g = List.replicate d 0 := by
          rw [List.eq_replicate_iff]
          refine ⟨by simp, fun b hb => ?_⟩
          obtain ⟨i, hi, rfl⟩ := List.mem_map.mp hb
          have := List.mem_range.mp hi
          exact h i (by omega) (by omega)
        rw [this]; simp
      simp [this]
    · rw [ih (by omega) fun i hi hne => h i (by omega) hne]
      have := h n (by omega) (fun z => e z.symm)
      simp [this]
theorem countP_sum {α : Type} (p : α → Bool) : ∀ l : List α, l.countP p = (l.map fun a => if p a = true then 1 else 0).sum
  | [] => rfl
  | a :: l => by rw [List.countP_cons, countP_sum p l, List.map_cons, List.sum_cons]; omega
/-- how many beginnings of d there are with such a time -/
theorem count_of (many u d : Nat) (hd : d < R.n) (p : Nat → Bool) : (byDeed R many u).countP (fun y => decide (y.2 = d) && p y.1) = (List.range many).countP fun k => decide (R.B k d ≤ u) && p (R.B k d) := by
  unfold byDeed
  rw [countP_flat, sum_one R.n d hd]
  · rw [countP_flat, countP_sum]
    congr 1
    refine List.map_congr_left fun k _ => ?_
    unfold oneOf
    by_cases h : R.B k d ≤ u
    · rw [if_pos h]
      simp [h, List.countP_cons]
    · rw [if_neg h]; simp [h]
  · intro i hi hne
    rw [List.countP_eq_zero]
    intro y hy
    obtain ⟨k, _, hk⟩ := List.mem_flatMap.mp hy
    unfold oneOf at hk
    split at hk
    · rw [List.mem_singleton] at hk; subst hk; simp [hne]
    · cases hk
/-- a row of deeds is a run of the marking -/
def RunOk (R : RN) (ds : List Nat) : Prop := ∀ pre d post, ds = pre ++ d :: post → ∀ q, q < R.np → R.L q = d → pre.count (R.L q) < R.M q + pre.count (R.E q)
theorem count_map (ys : List (Nat × Nat)) (d : Nat) : (ys.map (·.2)).count d = ys.countP fun y => decide (y.2 = d) := by
  rw [List.count_eq_countP, List.countP_map]
  congr 1
theorem low_count {f : Nat → Nat} {x c many : Nat} (hm : ∀ i j, i ≤ j → f i ≤ f j) (h : c < (List.range many).countP fun k => decide (f k ≤ x)) : f c ≤ x ∧ c < many := by
  have key : ∀ N, (List.range N).countP (fun k => decide (f k ≤ x)) ≤ N := fun N => by
    have := List.countP_le_length (p := fun k => decide (f k ≤ x)) (l := List.range N)
    simpa using this
  refine ⟨?_, by have := key many; omega⟩
  rcases Nat.lt_or_ge x (f c) with q | q
  · exfalso
    have : ∀ N, (List.range N).countP (fun k => decide (f k ≤ x)) ≤ c := by
      intro N
      induction N with
      | zero => simp
      | succ N ih =>
        rw [List.range_succ, List.countP_append]
        by_cases hN : N < c
        · have := key N
          have h2 : (List.countP (fun k => decide (f k ≤ x)) [N]) ≤ 1 := List.countP_le_length
          omega
        · have : f c ≤ f N := hm _ _ (by omega)
          have h2 : (List.countP (fun k => decide (f k ≤ x)) [N]) = 0 := by
            rw [List.countP_eq_zero]; intro y hy; rw [List.mem_singleton] at hy; subst hy; simp; omega
          omega
    have := this many
    omega
  · exact q
theorem all_count {f : Nat → Nat} {x c many : Nat} (h : ∀ j, j ≤ c → f j < x) (hc : c < many) : c + 1 ≤ (List.range many).countP fun k => decide (f k < x) := by
  have e : List.range many = List.range (c + 1) ++ (List.range many).drop (c + 1) := by
    conv => lhs; rw [← List.take_append_drop (c + 1) (List.range many)]
    rw [List.take_range]
    congr 2; omega
  rw [e, List.countP_append]
  have : (List.range (c + 1)).countP (fun k => decide (f k < x)) = c + 1 := by
    rw [List.countP_eq_length.mpr]
    · simp
    · intro k hk
      have := List.mem_range.mp hk
      simpa using h k (by omega)
  omega
theorem run_of (h : R.Ok) {many u : Nat} (hend : ∀ d, d < R.n → u < R.B (many - 1) d) (ys : List (Nat × Nat)) (hp : List.Perm ys (byDeed R many u)) (hs : ys.Pairwise fun a b => a.1 ≤ b.1) : RunOk R (ys.map (·.2)) := by
  intro pre d post e q hq hl
  have hd : d < R.n := by rw [← hl]; exact h.l q hq
  obtain ⟨ypre, yrest, rfl, e1, e2⟩ := List.map_eq_append_iff.mp e
  obtain ⟨y, ypost, rfl, e3, e4⟩ := List.map_eq_cons_iff.mp e2
  subst e1
  rw [hl, count_map, count_map]
  obtain ⟨τ, d'⟩ := y
  simp only at e3
  subst e3
  have hp1 := List.pairwise_append.mp hs
  obtain ⟨_, s2, s3⟩ := hp1
  have s4 := List.pairwise_cons.mp s2
  have hmono : ∀ {i j : Nat} {z : Nat}, z < R.n → i ≤ j → R.B i z ≤ R.B j z := fun hz hij => B_mono_le h hz hij
  -- τ is a time till u
  have hu : τ ≤ u := by
    have : (τ, d') ∈ byDeed R many u := hp.mem_iff.mp (by simp)
    obtain ⟨z, _, hz⟩ := List.mem_flatMap.mp this
    obtain ⟨k, _, hk⟩ := List.mem_flatMap.mp hz
    unfold oneOf at hk
    split at hk
    · rw [List.mem_singleton] at hk
      have := congrArg Prod.fst hk
      simp only at this; omega
    · cases hk
  generalize hc : ypre.countP (fun y => decide (y.2 = d')) = c
  -- its c-th beginning is not behind τ
  have h1 : c < (List.range many).countP fun k => decide (R.B k d' ≤ τ) := by
    have g := count_of (R := R) many u d' hd fun t => decide (t ≤ τ)
    rw [← hp.countP_eq] at g
    have g2 : ((List.range many).countP fun k => decide (R.B k d' ≤ u) && decide (R.B k d' ≤ τ)) = (List.range many).countP fun k => decide (R.B k d' ≤ τ) := by
      refine List.countP_congr fun k _ => ?_
      simp only [Bool.and_eq_true, decide_eq_true_eq]
      exact ⟨fun z => z.2, fun z => ⟨by omega, z⟩⟩
    rw [g2] at g
    rw [← g, List.countP_append, List.countP_cons]
    have g3 : c ≤ ypre.countP fun y => decide (y.2 = d') && decide (y.1 ≤ τ) := by
      rw [← hc]
      refine List.countP_mono_left fun y hy hz => ?_
      have := s3 y hy (τ, d') (List.mem_cons_self ..)
      simp only [Bool.and_eq_true, decide_eq_true_eq] at hz ⊢
      exact ⟨hz, this⟩
    simp; omega
  obtain ⟨h2, h3⟩ := low_count (fun i j hij => hmono hd hij) h1
  by_cases hcm : c < R.M q
  · omega
  · have hk : R.M q ≤ c := by omega
    have hE := h.e q hq
    have h4 := B_up h hq hk
    rw [hl] at h4
    have h5 := h.t1 _ hE
    have h6 : ∀ j, j ≤ c - R.M q → R.B j (R.E q) < τ := fun j hj => by
      have := hmono hE hj; omega
    have h7 : c - R.M q < many := by omega
    have g := count_of (R := R) many u (R.E q) hE fun t => decide (t < τ)
    rw [← hp.countP_eq] at g
    have g2 : ((List.range many).countP fun k => decide (R.B k (R.E q) ≤ u) && decide (R.B k (R.E q) < τ)) = (List.range many).countP fun k => decide (R.B k (R.E q) < τ) := by
      refine List.countP_congr fun k _ => ?_
      simp only [Bool.and_eq_true, decide_eq_true_eq]
      exact ⟨fun z => z.2, fun z => ⟨by omega, z⟩⟩
    rw [g2] at g
    have g4 := all_count h6 h7
    rw [← g, List.countP_append] at g4
    have g5 : List.countP (fun y => decide (y.2 = R.E q) && decide (y.1 < τ)) ((τ, d') :: ypost) = 0 := by
      rw [List.countP_eq_zero]
      intro y hy
      simp only [Bool.and_eq_true, decide_eq_true_eq, not_and]
      intro _
      rcases List.mem_cons.mp hy with rfl | hy
      · simp
      · have := s4.1 y hy
        simp only at this; omega
    have g6 : ypre.countP (fun y => decide (y.2 = R.E q) && decide (y.1 < τ)) ≤ ypre.countP fun y => decide (y.2 = R.E q) := by
      refine List.countP_mono_left fun y hy hz => ?_
      simp only [Bool.and_eq_true, decide_eq_true_eq] at hz ⊢
      exact hz.1
    omega
end Wring

set_option Elab.async false
set_option linter.all false
set_option maxRecDepth 100000
/-! the pure defs of law k92 (printed by gen.py) -/
namespace Wk92
open PySem L2 WT
def top (i : Nat) : Stmt := PySem.Challenge.pw_wholetokens_k92_whole_beginnings_as_runs.main.body.getD i (.Pass ⟨0, 0, 0, 0⟩)
def N_places_ahead : List Str := ["net", "deed", "way", "one", "other"]
def d_places_ahead : Df := ⟨2, 5, [
  .ret (.bi false .tuple [(.comp false (.var 3) (.tp [(.nm 2), (.nm 3), (.nm 4)]) .val [(.ix (.var 0) (.int 2))] [(.and (.cmp .Eq (.var 2) (.int 0)) (.cmp .Eq (.var 4) (.var 1)))] [2, 3, 4])])]⟩
def N_takers : List Str := ["net", "place", "way", "late", "deed"]
def d_takers : Df := ⟨2, 5, [
  .ret (.bi false .tuple [(.comp false (.var 4) (.tp [(.nm 2), (.nm 3), (.nm 4)]) .val [(.ix (.var 0) (.int 2))] [(.and (.cmp .Eq (.var 2) (.int 0)) (.cmp .Eq (.var 3) (.var 1)))] [2, 3, 4])])]⟩
def N_givers : List Str := ["net", "place", "way", "deed", "late"]
def d_givers : Df := ⟨2, 5, [
  .ret (.bi false .tuple [(.comp false (.var 3) (.tp [(.nm 2), (.nm 3), (.nm 4)]) .val [(.ix (.var 0) (.int 2))] [(.and (.cmp .Eq (.var 2) (.int 1)) (.cmp .Eq (.var 4) (.var 1)))] [2, 3, 4])])]⟩
def N_sides : List Str := ["net", "place"]
def d_sides : Df := ⟨2, 2, [
  .ret (.tup [(.ix (.call "givers" [(.var 0), (.var 1)]) (.int 0)), (.ix (.call "takers" [(.var 0), (.var 1)]) (.int 0))])]⟩
def N_empty_places : List Str := ["net", "marking", "place"]
def d_empty_places : Df := ⟨2, 3, [
  .ret (.comp false (.var 2) (.nm 2) .rng [(.ix (.var 0) (.int 0))] [(.cmp .Eq (.ix (.var 1) (.var 2)) (.int 0))] [2])]⟩
def N_sequence : List Str := ["net", "marking", "row", "is_going", "deed", "some", "place", "one"]
def d_sequence : Df := ⟨2, 8, [
  .asg (.tp [(.nm 2), (.nm 3)]) (.tup [(.lst true []), (.bl true)]),
  .loop (.var 3) [.asg (.nm 3) (.bl false), .for_ (.nm 4) .rng [(.ix (.var 0) (.int 1))] [.asg (.nm 5) (.comp false (.ix (.call "sides" [(.var 0), (.var 6)]) (.int 0)) (.nm 6) .val [(.call "empty_places" [(.var 0), (.var 1)])] [(.cmp .Eq (.ix (.call "sides" [(.var 0), (.var 6)]) (.int 1)) (.var 4))] [6]), .ite (.and (.cmp .NotIn (.var 4) (.var 2)) (.bi false .all [(.comp false (.cmp .In (.var 7) (.var 2)) (.nm 7) .val [(.var 5)] [] [7])])) [.ex (.mt .append (.var 2) [(.var 4)]), .asg (.nm 3) (.bl true)] []]],
  .ret (.bi false .tuple [(.var 2)])]⟩
def N_begin_table : List Str := ["net", "marking", "times", "many", "k", "order", "found", "now", "deed", "place", "early", "at", "ahead"]
def d_begin_table : Df := ⟨4, 13, [
  .asg (.tp [(.nm 5), (.nm 6)]) (.tup [(.call "sequence" [(.var 0), (.var 1)]), (.lst true [])]),
  .for_ (.nm 4) .rng [(.var 3)] [.asg (.nm 7) (.bin true .Mult (.lst false [(.int 0)]) (.ix (.var 0) (.int 1))), .for_ (.nm 8) .val [(.var 5)] [.for_ (.nm 9) .val [(.call "places_ahead" [(.var 0), (.var 8)])] [.asg (.tp [(.nm 10), (.nm 11)]) (.tup [(.ix (.call "sides" [(.var 0), (.var 9)]) (.int 0)), (.bin false .Sub (.var 4) (.ix (.var 1) (.var 9)))]), .ite (.cmp .GtE (.var 11) (.int 0)) [.asg (.nm 12) (.ite (.cmp .Eq (.var 11) (.var 4)) (.var 7) (.ix (.var 6) (.var 11))), .setIx (.var 7) (.var 8) (.bi false .max [(.ix (.var 7) (.var 8)), (.bin false .Add (.ix (.var 12) (.var 10)) (.ix (.var 2) (.var 10)))])] []]], .ex (.mt .append (.var 6) [(.var 7)])],
  .ret (.var 6)]⟩
def N_begin_rows : List Str := ["net", "marking", "times", "k", "table", "deed", "now"]
def d_begin_rows : Df := ⟨4, 7, [
  .asg (.nm 4) (.call "begin_table" [(.var 0), (.var 1), (.var 2), (.var 3)]),
  .ret (.bi false .tuple [(.comp false (.bi false .tuple [(.comp false (.ix (.var 6) (.var 5)) (.nm 6) .val [(.var 4)] [] [6])]) (.nm 5) .rng [(.ix (.var 0) (.int 1))] [] [5])])]⟩
def N_soon_run : List Str := ["net", "marking", "times", "until", "many", "found", "now", "deed", "time"]
def d_soon_run : Df := ⟨4, 9, [
  .asg (.nm 4) (.int 1),
  .loop (.cmp .LtE (.bi false .min [(.ix (.call "begin_table" [(.var 0), (.var 1), (.var 2), (.var 4)]) (.neg (.int 1)))]) (.var 3)) [.asg (.nm 4) (.bin false .Mult (.int 2) (.var 4))],
  .asg (.nm 5) (.lst false []),
  .for_ (.nm 6) .val [(.call "begin_table" [(.var 0), (.var 1), (.var 2), (.var 4)])] [.asg (.nm 5) (.bin false .Add (.var 5) (.comp false (.tup [(.ix (.var 6) (.var 7)), (.var 7)]) (.nm 7) .rng [(.ix (.var 0) (.int 1))] [(.cmp .LtE (.ix (.var 6) (.var 7)) (.var 3))] [7]))],
  .ret (.bi false .tuple [(.comp false (.var 7) (.tp [(.nm 8), (.nm 7)]) .val [(.bi false .sorted [(.var 5)])] [] [8, 7])])]⟩
def N__law_source : List Str := ["script", "mixed", "cell"]
def d__law_source : Df := ⟨1, 3, [
  .asg (.nm 1) (.int 11),
  .for_ (.nm 2) .val [(.var 0)] [.asg (.nm 1) (.bin false .Mod (.bi false .int [(.bin false .Add (.bin false .Add (.bin false .Mult (.var 1) (.int 69069)) (.bin false .Mult (.var 2) (.int 31))) (.int 5))]) (.int 2147483629))],
  .ret (.disp [(.str "cells"), (.rev true (.comp false (.bi false .abs [(.var 2)]) (.nm 2) .val [(.var 0)] [] [2])), (.str "left"), (.int 1), (.str "mixed"), (.var 1), (.str "turn"), (.int 0)])]⟩
def N__law_pick : List Str := ["source", "many", "left", "mixed"]
def d__law_pick : Df := ⟨2, 4, [
  .loop (.and (.cmp .Gt (.var 1) (.int 1)) (.and (.cmp .Lt (.ix (.var 0) (.str "left")) (.int 2)) (.cmp .Gt (.bi false .len [(.ix (.var 0) (.str "cells"))]) (.int 0)))) [.setIx (.var 0) (.str "left") (.mt .pop (.ix (.var 0) (.str "cells")) [])],
  .asg (.nm 2) (.ix (.var 0) (.str "left")),
  .ite (.or (.cmp .Lt (.var 1) (.int 2)) (.cmp .Gt (.var 2) (.int 1))) [.setIx (.var 0) (.str "left") (.bin false .FloorDiv (.var 2) (.bi false .max [(.int 1), (.var 1)])), .ret (.bin false .Mod (.bi false .int [(.var 2)]) (.bi false .max [(.int 1), (.var 1)]))] [],
  .setIx (.var 0) (.str "turn") (.bin true .Add (.ix (.var 0) (.str "turn")) (.int 1)),
  .asg (.nm 3) (.bin false .Mod (.bi false .int [(.bin false .Add (.ix (.var 0) (.str "mixed")) (.bin false .Mult (.ix (.var 0) (.str "turn")) (.int 104729)))]) (.int 998244353)),
  .asg (.nm 3) (.bin false .Mod (.bi false .int [(.bin false .Add (.bin false .Mult (.var 3) (.var 3)) (.bin false .Mult (.ix (.var 0) (.str "turn")) (.int 17)))]) (.int 2147483647)),
  .setIx (.var 0) (.str "mixed") (.var 3),
  .ret (.bin false .Mod (.bi false .int [(.bin false .FloorDiv (.var 3) (.int 16))]) (.var 1))]⟩
def N__law_of : List Str := ["source", "some"]
def d__law_of : Df := ⟨2, 2, [
  .ret (.ix (.var 1) (.call "_law_pick" [(.var 0), (.bi false .len [(.var 1)])]))]⟩
def N__law_mixed : List Str := ["source", "things", "rest", "lap"]
def d__law_mixed : Df := ⟨2, 4, [
  .asg (.nm 2) (.bi true .list [(.var 1)]),
  .ret (.comp true (.mt .pop (.var 2) [(.call "_law_pick" [(.var 0), (.bi false .len [(.var 2)])])]) (.nm 3) .rng [(.bi false .len [(.var 2)])] [] [3])]⟩
def N__law_ring_net : List Str := ["source", "most", "tokens", "n", "pairs", "lap", "round_deeds", "order", "arrows", "marking", "place", "least", "k", "early", "late"]
def d__law_ring_net : Df := ⟨3, 15, [
  .asg (.nm 3) (.bin false .Add (.int 1) (.call "_law_pick" [(.var 0), (.var 1)])),
  .asg (.tp [(.nm 6), (.nm 7)]) (.tup [(.call "_law_mixed" [(.var 0), (.bi false .listR [(.var 3)])]), (.call "_law_mixed" [(.var 0), (.bi false .listR [(.var 3)])])]),
  .asg (.nm 4) (.comp true (.tup [(.ix (.var 6) (.bin false .Sub (.var 12) (.int 1))), (.ix (.var 6) (.var 12))]) (.nm 12) .rng [(.var 3)] [] [12]),
  .for_ (.nm 5) .rng [(.call "_law_pick" [(.var 0), (.int 4)])] [.ex (.mt .append (.var 4) [(.tup [(.call "_law_pick" [(.var 0), (.var 3)]), (.call "_law_pick" [(.var 0), (.var 3)])])])],
  .asg (.nm 4) (.call "_law_mixed" [(.var 0), (.var 4)]),
  .asg (.tp [(.nm 8), (.nm 9)]) (.tup [(.lst false []), (.lst true [])]),
  .for_ (.tp [(.nm 10), (.tp [(.nm 13), (.nm 14)])]) .enum [(.var 4)] [.asg (.nm 8) (.bin false .Add (.var 8) (.lst false [(.tup [(.int 1), (.var 13), (.var 10)]), (.tup [(.int 0), (.var 10), (.var 14)])])), .asg (.nm 11) (.bi false .int [(.cmp .GtE (.mt .index (.var 7) [(.var 13)]) (.mt .index (.var 7) [(.var 14)]))]), .ex (.mt .append (.var 9) [(.bin false .Add (.var 11) (.call "_law_pick" [(.var 0), (.bin false .Sub (.bin false .Add (.var 2) (.int 1)) (.var 11))]))])],
  .ret (.tup [(.tup [(.bi false .len [(.var 4)]), (.var 3), (.bi false .tuple [(.bi false .sorted [(.var 8)])])]), (.bi false .tuple [(.var 9)]), (.var 4)])]⟩
def N__law_times : List Str := ["source", "n", "most", "deed"]
def d__law_times : Df := ⟨3, 4, [
  .ret (.bi false .tuple [(.comp false (.bin false .Add (.int 1) (.call "_law_pick" [(.var 0), (.var 2)])) (.nm 3) .rng [(.var 1)] [] [3])])]⟩
def N__law_begins : List Str := ["pairs", "marking", "times", "many", "found", "k", "now", "lap", "deed", "time", "place", "at", "early", "late", "ahead"]
def d__law_begins : Df := ⟨4, 15, [
  .asg (.nm 4) (.comp false (.lst true []) (.nm 8) .val [(.var 2)] [] [8]),
  .for_ (.nm 5) .rng [(.var 3)] [.asg (.nm 6) (.bin true .Mult (.lst false [(.int 0)]) (.bi false .len [(.var 2)])), .for_ (.nm 7) .rng [(.bi false .len [(.var 2)])] [.for_ (.tp [(.nm 10), (.tp [(.nm 12), (.nm 13)])]) .enum [(.var 0)] [.asg (.nm 11) (.bin false .Sub (.var 5) (.ix (.var 1) (.var 10))), .ite (.cmp .GtE (.var 11) (.int 0)) [.asg (.nm 14) (.ite (.cmp .Eq (.var 11) (.var 5)) (.ix (.var 6) (.var 12)) (.ix (.ix (.var 4) (.var 12)) (.var 11))), .setIx (.var 6) (.var 13) (.bi false .max [(.ix (.var 6) (.var 13)), (.bin false .Add (.var 14) (.ix (.var 2) (.var 12)))])] []]], .for_ (.tp [(.nm 8), (.nm 9)]) .enum [(.var 6)] [.ex (.mt .append (.ix (.var 4) (.var 8)) [(.var 9)])]],
  .ret (.var 4)]⟩
def N__law_is_run : List Str := ["pairs", "marking", "row", "here", "deed", "place", "early", "late"]
def d__law_is_run : Df := ⟨3, 8, [
  .asg (.nm 3) (.bi true .list [(.var 1)]),
  .for_ (.nm 4) .val [(.var 2)] [.ite (.cmp .NotEq (.comp false (.var 5) (.tp [(.nm 5), (.tp [(.nm 6), (.nm 7)])]) .enum [(.var 0)] [(.and (.cmp .Eq (.var 7) (.var 4)) (.cmp .Eq (.ix (.var 3) (.var 5)) (.int 0)))] [5, 6, 7]) (.lst false [])) [.ret (.bl false)] [], .for_ (.tp [(.nm 5), (.tp [(.nm 6), (.nm 7)])]) .enum [(.var 0)] [.setIx (.var 3) (.var 5) (.bin false .Add (.bin false .Sub (.ix (.var 3) (.var 5)) (.bi false .int [(.cmp .Eq (.var 7) (.var 4))])) (.bi false .int [(.cmp .Eq (.var 6) (.var 4))]))]],
  .ret (.bl true)]⟩
def N__law_let_plan : List Str := ["source", "pairs", "marking", "times", "many", "k", "found", "n", "now", "lap", "deed", "time", "place", "at", "early", "late", "ahead"]
def d__law_let_plan : Df := ⟨5, 17, [
  .asg (.tp [(.nm 6), (.nm 7)]) (.tup [(.comp false (.lst true []) (.nm 10) .val [(.var 3)] [] [10]), (.bi false .len [(.var 3)])]),
  .for_ (.nm 5) .rng [(.var 4)] [.asg (.nm 8) (.comp true (.bin false .Add (.ite (.cmp .Gt (.var 5) (.int 0)) (.ix (.ix (.var 6) (.var 10)) (.neg (.int 1))) (.int 0)) (.call "_law_pick" [(.var 0), (.int 3)])) (.nm 10) .rng [(.var 7)] [] [10]), .for_ (.nm 9) .rng [(.var 7)] [.for_ (.tp [(.nm 12), (.tp [(.nm 14), (.nm 15)])]) .enum [(.var 1)] [.asg (.nm 13) (.bin false .Sub (.var 5) (.ix (.var 2) (.var 12))), .ite (.cmp .GtE (.var 13) (.int 0)) [.asg (.nm 16) (.ite (.cmp .Eq (.var 13) (.var 5)) (.ix (.var 8) (.var 14)) (.ix (.ix (.var 6) (.var 14)) (.var 13))), .setIx (.var 8) (.var 15) (.bi false .max [(.ix (.var 8) (.var 15)), (.bin false .Add (.var 16) (.ix (.var 3) (.var 14)))])] []]], .for_ (.tp [(.nm 10), (.nm 11)]) .enum [(.var 8)] [.ex (.mt .append (.ix (.var 6) (.var 10)) [(.var 11)])]],
  .ret (.var 6)]⟩
def N_law : List Str := ["script", "source", "lap", "rows", "some", "due", "late", "deed", "net", "marking", "pairs", "times", "until", "held", "many", "row", "plan", "told", "time", "k", "turn", "one"]
def d_law : Df := ⟨1, 22, [
  .asg (.nm 1) (.call "_law_source" [(.var 0)]),
  .for_ (.nm 2) .rng [(.int 3)] [.asg (.tp [(.nm 8), (.nm 9), (.nm 10)]) (.call "_law_ring_net" [(.var 1), (.ix (.lst false [(.int 3), (.int 4), (.int 5)]) (.var 2)), (.int 2)]), .asg (.tp [(.nm 11), (.nm 12)]) (.tup [(.call "_law_times" [(.var 1), (.ix (.var 8) (.int 1)), (.int 6)]), (.call "_law_pick" [(.var 1), (.int 25)])]), .asg (.tp [(.nm 13), (.nm 14)]) (.tup [(.bi false .repr [(.tup [(.var 8), (.var 9), (.var 11)])]), (.int 1)]), .asg (.nm 3) (.call "_law_begins" [(.var 10), (.var 9), (.var 11), (.int 1)]), .loop (.cmp .LtE (.bi false .min [(.comp false (.ix (.var 15) (.neg (.int 1))) (.nm 15) .val [(.var 3)] [] [15])]) (.var 12)) [.asg (.nm 14) (.bin false .Mult (.int 2) (.var 14)), .asg (.nm 3) (.call "_law_begins" [(.var 10), (.var 9), (.var 11), (.var 14)])], .asg (.nm 4) (.lst false []), .for_ (.tp [(.nm 7), (.nm 15)]) .enum [(.var 3)] [.asg (.nm 4) (.bin false .Add (.var 4) (.comp false (.tup [(.var 18), (.var 7)]) (.nm 18) .val [(.var 15)] [(.cmp .LtE (.var 18) (.var 12))] [18]))], .asg (.nm 5) (.bi false .tuple [(.comp false (.var 7) (.tp [(.nm 18), (.nm 7)]) .val [(.bi false .sorted [(.var 4)])] [] [18, 7])]), .ite (.or (.cmp .NotEq (.bi false .repr [(.call "soon_run" [(.var 8), (.var 9), (.var 11), (.var 12)])]) (.bi false .repr [(.var 5)])) (.not (.call "_law_is_run" [(.var 10), (.var 9), (.var 5)]))) [.ret (.bl false)] [], .asg (.nm 6) (.bi false .sorted [(.comp false (.tup [(.var 18), (.call "_law_pick" [(.var 1), (.int 99)]), (.var 7)]) (.tp [(.nm 18), (.nm 7)]) .val [(.var 4)] [] [18, 7])]), .ite (.not (.call "_law_is_run" [(.var 10), (.var 9), (.comp false (.var 7) (.tp [(.nm 18), (.nm 20), (.nm 7)]) .val [(.var 6)] [] [18, 20, 7])])) [.ret (.bl false)] [], .asg (.tp [(.nm 16), (.nm 17)]) (.tup [(.call "_law_let_plan" [(.var 1), (.var 10), (.var 9), (.var 11), (.int 9)]), (.call "begin_rows" [(.var 8), (.var 9), (.var 11), (.int 9)])]), .for_ (.nm 7) .rng [(.ix (.var 8) (.int 1))] [.ite (.cmp .NotEq (.comp false (.var 19) (.nm 19) .rng [(.int 9)] [(.cmp .Lt (.ix (.ix (.var 16) (.var 7)) (.var 19)) (.ix (.ix (.var 17) (.var 7)) (.var 19)))] [19]) (.lst false [])) [.ret (.bl false)] [], .ite (.cmp .Gt (.bi false .len [(.comp false (.var 18) (.nm 18) .val [(.ix (.var 16) (.var 7))] [(.cmp .LtE (.var 18) (.var 12))] [18])]) (.bi false .len [(.comp false (.var 21) (.nm 21) .val [(.var 5)] [(.cmp .Eq (.var 21) (.var 7))] [21])])) [.ret (.bl false)] []], .ite (.cmp .NotEq (.bi false .repr [(.tup [(.var 8), (.var 9), (.var 11)])]) (.var 13)) [.ret (.bl false)] []],
  .ret (.bl true)]⟩
def funs : List Str := ["places_ahead", "takers", "givers", "sides", "empty_places", "sequence", "begin_table", "begin_rows", "soon_run", "_law_source", "_law_pick", "_law_of", "_law_mixed", "_law_ring_net", "_law_times", "_law_begins", "_law_is_run", "_law_let_plan", "law"]
def Pr : Prog := fun x => if x = "places_ahead" then some d_places_ahead else if x = "takers" then some d_takers else if x = "givers" then some d_givers else if x = "sides" then some d_sides else if x = "empty_places" then some d_empty_places else if x = "sequence" then some d_sequence else if x = "begin_table" then some d_begin_table else if x = "begin_rows" then some d_begin_rows else if x = "soon_run" then some d_soon_run else if x = "_law_source" then some d__law_source else if x = "_law_pick" then some d__law_pick else if x = "_law_of" then some d__law_of else if x = "_law_mixed" then some d__law_mixed else if x = "_law_ring_net" then some d__law_ring_net else if x = "_law_times" then some d__law_times else if x = "_law_begins" then some d__law_begins else if x = "_law_is_run" then some d__law_is_run else if x = "_law_let_plan" then some d__law_let_plan else if x = "law" then some d_law else none
theorem p_places_ahead : Pr "places_ahead" = some d_places_ahead := rfl
theorem p_takers : Pr "takers" = some d_takers := rfl
theorem p_givers : Pr "givers" = some d_givers := rfl
theorem p_sides : Pr "sides" = some d_sides := rfl
theorem p_empty_places : Pr "empty_places" = some d_empty_places := rfl
theorem p_sequence : Pr "sequence" = some d_sequence := rfl
theorem p_begin_table : Pr "begin_table" = some d_begin_table := rfl
theorem p_begin_rows : Pr "begin_rows" = some d_begin_rows := rfl
theorem p_soon_run : Pr "soon_run" = some d_soon_run := rfl
theorem p__law_source : Pr "_law_source" = some d__law_source := rfl
theorem p__law_pick : Pr "_law_pick" = some d__law_pick := rfl
theorem p__law_of : Pr "_law_of" = some d__law_of := rfl
theorem p__law_mixed : Pr "_law_mixed" = some d__law_mixed := rfl
theorem p__law_ring_net : Pr "_law_ring_net" = some d__law_ring_net := rfl
theorem p__law_times : Pr "_law_times" = some d__law_times := rfl
theorem p__law_begins : Pr "_law_begins" = some d__law_begins := rfl
theorem p__law_is_run : Pr "_law_is_run" = some d__law_is_run := rfl
theorem p__law_let_plan : Pr "_law_let_plan" = some d__law_let_plan := rfl
theorem p_law : Pr "law" = some d_law := rfl
end Wk92

set_option maxRecDepth 100000
set_option maxHeartbeats 2000000
set_option linter.all false
namespace Wk92
open PySem WT Wring
def arr (R : RN) : List Arrow := (List.range R.np).flatMap fun q => [(1, (R.E q : Int), (q : Int)), (0, (q : Int), (R.L q : Int))]
structure Net (R : RN) (as : List Arrow) : Prop where
  perm : List.Perm as (arr R)
  np : R.np ≤ 20
  n : R.n ≤ 20
theorem arr_len (R : RN) : (arr R).length = 2 * R.np := by
  unfold arr
  rw [flat_len _ 2 (fun q => rfl), List.length_range]; omega
theorem Net.few {R : RN} {as : List Arrow} (h : Net R as) : as.length ≤ 1000 := by
  rw [h.perm.length_eq, arr_len]; have := h.np; omega
theorem flat_one {α : Type} (n i : Nat) (hi : i < n) (f : Nat → List α) (h : ∀ j, j < n → j ≠ i → f j = []) : (List.range n).flatMap f = f i := by
  induction n with
  | zero => omega
  | succ n ih =>
    rw [List.range_succ, List.flatMap_append]
    by_cases e : i = n
    · subst e
      have : (List.range i).flatMap f = [] := by
        rw [List.flatMap_eq_nil_iff]
        intro j hj
        have := List.mem_range.mp hj
        exact h j (by omega) (by omega)
      rw [this]; simp
    · rw [ih (by omega) fun j hj hne => h j (by omega) hne]
      have := h n (by omega) (fun z => e z.symm)
      simp [this]
theorem filter_flat {α β : Type} (p : β → Bool) (f : α → List β) : ∀ l : List α, (l.flatMap f).filter p = l.flatMap fun a => (f a).filter p
  | [] => rfl
  | a :: l => by rw [List.flatMap_cons, List.filter_append, filter_flat p f l, List.flatMap_cons]
theorem perm_one {α : Type} {l : List α} {x : α} (h : List.Perm l [x]) : l = [x] := List.perm_singleton.mp h
theorem tk_list {R : RN} {as : List Arrow} (h : Net R as) {q : Nat} (hq : q < R.np) : (as.filter fun a => decide (a.1 = 0) && decide (a.2.1 = (q : Int))) = [(0, (q : Int), (R.L q : Int))] := by
  refine perm_one ((h.perm.filter _).trans ?_)
  unfold arr
  rw [filter_flat, flat_one R.np q hq]
  · simp [List.filter_cons]
  · intro j hj hne
    have : (j : Int) ≠ (q : Int) := by omega
    simp [List.filter_cons, this]
theorem gv_list {R : RN} {as : List Arrow} (h : Net R as) {q : Nat} (hq : q < R.np) : (as.filter fun a => decide (a.1 = 1) && decide (a.2.2 = (q : Int))) = [(1, (R.E q : Int), (q : Int))] := by
  refine perm_one ((h.perm.filter _).trans ?_)
  unfold arr
  rw [filter_flat, flat_one R.np q hq]
  · simp [List.filter_cons]
  · intro j hj hne
    have : (j : Int) ≠ (q : Int) := by omega
    simp [List.filter_cons, this]
theorem c2 : 0 + 1 + 1 ≤ sizeLine := few (by decide)
theorem net_2 {p d : Nat} {as : List Arrow} {st : Store} : ixD (netD p d as) (.int 2) st = .ok (.tup (as.map arD)) st := by simp [netD, ixD, at?]
theorem net_1 {p d : Nat} {as : List Arrow} {st : Store} : ixD (netD p d as) (.int 1) st = .ok (.int (d : Nat)) st := by simp [netD, ixD, at?]
theorem net_0 {p d : Nat} {as : List Arrow} {st : Store} : ixD (netD p d as) (.int 0) st = .ok (.int (p : Nat)) st := by simp [netD, ixD, at?]
section
variable {R : RN} {as : List Arrow} (h : Net R as) (k : Nat) (st : Store)
include h
theorem filt_few (p : Arrow → Bool) : (as.filter p).length ≤ sizeLine := few (Nat.le_trans (List.length_filter_le _ _) h.few)
theorem takers_ok {q : Nat} (hq : q < R.np) : phi Pr (k + 1) "takers" [netD R.np R.n as, .int (q : Nat)] st = .ok (.tup [.int (R.L q : Nat)]) st := by
  rw [phi_def p_takers rfl]
  simp only [d_takers, List.map_cons, List.map_nil, List.replicate, List.cons_append, List.nil_append, Nat.reduceSub, ev_var, ev_int, ev_bl, ev_non, ev_str, ev_tup, ev_lst, ev_dnew, ev_disp, ev_bin, ev_neg, ev_cmp, ev_chain, ev_and, ev_or, ev_not, ev_ite, ev_ix, ev_sl, ev_rev, ev_call, ev_bi, ev_mt, ev_comp2, ev_nil, ev_cons, ev_ifn, ev_ifc,  ev_asg, ev_aug, ev_setIx, ev_augIx, ev_ex, ev_ret, ev_retN, ev_if, ev_for2, ev_brk, ev_cont, ev_pass, ev_snil, ev_scons, then_nx, then_rt, then_bk, then_ct, end_rt, end_nx, optR_some, finish_self, asg_nm, asg_tp, asg_nil, asg_cons,  truth_bl, truth_int, Res.bind_ok, safe_ok, List.getElem?_cons_zero, List.getElem?_cons_succ, List.set_cons_zero, List.set_cons_succ, List.length_cons, List.length_nil, Option.map_some, Option.bind_some, Option.bind_eq_bind, wipeE, if_true, if_false, Bool.false_eq_true, ite_true, ite_false, reduceIte, reduceCtorEq, net_2, compK_tup, compK_lst, compK_scr, compK_rng, compK_enum, compK_enumL, stepC_eq, cM_map, cM_ok, cM_if, cM_if2, bind_ite, ite_else, cM_nil, cM_cons, b_add, b_sub, b_eq, b_ne, b_lt, b_le, b_gt, b_ge, u_abs, u_int, u_intb, u_tuple_l, u_tuple_t, u_len_l, u_len_t, eq_self, decide_true, decide_false, arD, decide_eq_true_eq, newL_f, List.length_map, filt_few h]
  rw [tk_list h hq]
  rfl
theorem givers_ok {q : Nat} (hq : q < R.np) : phi Pr (k + 1) "givers" [netD R.np R.n as, .int (q : Nat)] st = .ok (.tup [.int (R.E q : Nat)]) st := by
  rw [phi_def p_givers rfl]
  simp only [d_givers, List.map_cons, List.map_nil, List.replicate, List.cons_append, List.nil_append, Nat.reduceSub, ev_var, ev_int, ev_bl, ev_non, ev_str, ev_tup, ev_lst, ev_dnew, ev_disp, ev_bin, ev_neg, ev_cmp, ev_chain, ev_and, ev_or, ev_not, ev_ite, ev_ix, ev_sl, ev_rev, ev_call, ev_bi, ev_mt, ev_comp2, ev_nil, ev_cons, ev_ifn, ev_ifc,  ev_asg, ev_aug, ev_setIx, ev_augIx, ev_ex, ev_ret, ev_retN, ev_if, ev_for2, ev_brk, ev_cont, ev_pass, ev_snil, ev_scons, then_nx, then_rt, then_bk, then_ct, end_rt, end_nx, optR_some, finish_self, asg_nm, asg_tp, asg_nil, asg_cons,  truth_bl, truth_int, Res.bind_ok, safe_ok, List.getElem?_cons_zero, List.getElem?_cons_succ, List.set_cons_zero, List.set_cons_succ, List.length_cons, List.length_nil, Option.map_some, Option.bind_some, Option.bind_eq_bind, wipeE, if_true, if_false, Bool.false_eq_true, ite_true, ite_false, reduceIte, reduceCtorEq, net_2, compK_tup, compK_lst, compK_scr, compK_rng, compK_enum, compK_enumL, stepC_eq, cM_map, cM_ok, cM_if, cM_if2, bind_ite, ite_else, cM_nil, cM_cons, b_add, b_sub, b_eq, b_ne, b_lt, b_le, b_gt, b_ge, u_abs, u_int, u_intb, u_tuple_l, u_tuple_t, u_len_l, u_len_t, eq_self, decide_true, decide_false, arD, decide_eq_true_eq, newL_f, List.length_map, filt_few h]
  rw [gv_list h hq]
  rfl
theorem sides_ok {q : Nat} (hq : q < R.np) : phi Pr (k + 2) "sides" [netD R.np R.n as, .int (q : Nat)] st = .ok (.tup [.int (R.E q : Nat), .int (R.L q : Nat)]) st := by
  rw [phi_def p_sides rfl]
  simp only [d_sides, List.map_cons, List.map_nil, List.replicate, List.append_nil, Nat.sub_self, ev_var, ev_int, ev_bl, ev_non, ev_str, ev_tup, ev_lst, ev_dnew, ev_disp, ev_bin, ev_neg, ev_cmp, ev_chain, ev_and, ev_or, ev_not, ev_ite, ev_ix, ev_sl, ev_rev, ev_call, ev_bi, ev_mt, ev_comp2, ev_nil, ev_cons, ev_ifn, ev_ifc,  ev_asg, ev_aug, ev_setIx, ev_augIx, ev_ex, ev_ret, ev_retN, ev_if, ev_for2, ev_brk, ev_cont, ev_pass, ev_snil, ev_scons, then_nx, then_rt, then_bk, then_ct, end_rt, end_nx, optR_some, finish_self, asg_nm, asg_tp, asg_nil, asg_cons,  truth_bl, truth_int, Res.bind_ok, safe_ok, List.getElem?_cons_zero, List.getElem?_cons_succ, List.set_cons_zero, List.set_cons_succ, List.length_cons, List.length_nil, Option.map_some, Option.bind_some, Option.bind_eq_bind, wipeE, if_true, if_false, Bool.false_eq_true, ite_true, ite_false, reduceIte, reduceCtorEq, givers_ok h k _ hq, takers_ok h k _ hq, x_tup0, c2]
/-- the places ahead of a deed, in some sequence -/
def ahead (as : List Arrow) (d : Nat) : List Nat := (as.filter fun a => decide (a.1 = 0) && decide (a.2.2 = (d : Int))).map fun a => a.2.1.toNat
theorem ahead_mem {d q : Nat} : q ∈ ahead as d ↔ q < R.np ∧ R.L q = d := by
  unfold ahead
  simp only [List.mem_map, List.mem_filter, h.perm.mem_iff, Bool.and_eq_true, decide_eq_true_eq, arr, List.mem_flatMap, List.mem_range, List.mem_cons, List.not_mem_nil, or_false]
  constructor
  · rintro ⟨a, ⟨⟨p, hp, rfl | rfl⟩, h1, h2⟩, rfl⟩
    · simp at h1
    · simp only at h2 ⊢
      simp only [Int.toNat_natCast]
      exact ⟨hp, by omega⟩
  · rintro ⟨h1, h2⟩
    exact ⟨(0, (q : Int), (R.L q : Int)), ⟨⟨q, h1, .inr rfl⟩, rfl, by simp [h2]⟩, by simp⟩
theorem ahead_ok (d : Nat) : phi Pr (k + 1) "places_ahead" [netD R.np R.n as, .int (d : Nat)] st = .ok (.tup ((ahead as d).map fun q => .int (q : Nat))) st := by
  rw [phi_def p_places_ahead rfl]
  simp only [d_places_ahead, List.map_cons, List.map_nil, List.replicate, List.cons_append, List.nil_append, Nat.reduceSub, ev_var, ev_int, ev_bl, ev_non, ev_str, ev_tup, ev_lst, ev_dnew, ev_disp, ev_bin, ev_neg, ev_cmp, ev_chain, ev_and, ev_or, ev_not, ev_ite, ev_ix, ev_sl, ev_rev, ev_call, ev_bi, ev_mt, ev_comp2, ev_nil, ev_cons, ev_ifn, ev_ifc,  ev_asg, ev_aug, ev_setIx, ev_augIx, ev_ex, ev_ret, ev_retN, ev_if, ev_for2, ev_brk, ev_cont, ev_pass, ev_snil, ev_scons, then_nx, then_rt, then_bk, then_ct, end_rt, end_nx, optR_some, finish_self, asg_nm, asg_tp, asg_nil, asg_cons,  truth_bl, truth_int, Res.bind_ok, safe_ok, List.getElem?_cons_zero, List.getElem?_cons_succ, List.set_cons_zero, List.set_cons_succ, List.length_cons, List.length_nil, Option.map_some, Option.bind_some, Option.bind_eq_bind, wipeE, if_true, if_false, Bool.false_eq_true, ite_true, ite_false, reduceIte, reduceCtorEq, net_2, compK_tup, compK_lst, compK_scr, compK_rng, compK_enum, compK_enumL, stepC_eq, cM_map, cM_ok, cM_if, cM_if2, bind_ite, ite_else, cM_nil, cM_cons, b_add, b_sub, b_eq, b_ne, b_lt, b_le, b_gt, b_ge, u_abs, u_int, u_intb, u_tuple_l, u_tuple_t, u_len_l, u_len_t, eq_self, decide_true, decide_false, arD, decide_eq_true_eq, newL_f, List.length_map, filt_few h]
  unfold ahead
  rw [List.map_map]
  congr 2
  refine List.map_congr_left fun a ha => ?_
  have := (List.mem_filter.mp ha).1
  rw [h.perm.mem_iff] at this
  simp only [arr, List.mem_flatMap, List.mem_range, List.mem_cons, List.not_mem_nil, or_false] at this
  obtain ⟨q, _, rfl | rfl⟩ := this <;> simp
end
/-- marking and times -/
def markD (R : RN) : D := .tup ((List.range R.np).map fun q => .int (R.M q : Nat))
def timesD (R : RN) : D := .tup ((List.range R.n).map fun q => .int (R.T q : Nat))
theorem mark_at (R : RN) {q : Nat} (hq : q < R.np) (st : Store) : ixD (markD R) (.int (q : Nat)) st = .ok (.int (R.M q : Nat)) st := by
  unfold markD
  rw [x_tup, List.getElem?_map, List.getElem?_range hq]; rfl
theorem times_at (R : RN) {q : Nat} (hq : q < R.n) (st : Store) : ixD (timesD R) (.int (q : Nat)) st = .ok (.int (R.T q : Nat)) st := by
  unfold timesD
  rw [x_tup, List.getElem?_map, List.getElem?_range hq]; rfl
theorem empty_ok {R : RN} {as : List Arrow} (h : Net R as) (k : Nat) (st : Store) : phi Pr (k + 1) "empty_places" [netD R.np R.n as, markD R] st = .ok (.lst (((List.range R.np).filter fun q => decide (R.M q = 0)).map fun q => .int (q : Nat))) st := by
  rw [phi_def p_empty_places rfl]
  have c := ev_crngf (F := phi Pr k) (elt := .var 2) (t := .cmp .Eq (.ix (.var 1) (.var 2)) (.int 0)) (i := 2) (e := .ix (.var 0) (.int 0)) (own := [2]) (r := [some (netD R.np R.n as), some (markD R), none]) (st := st) R.np (fun q => decide (R.M q = 0)) (fun q => .int (q : Nat)) (by
      simp only [ev_var, ev_int, ev_bl, ev_non, ev_str, ev_tup, ev_lst, ev_dnew, ev_disp, ev_bin, ev_neg, ev_cmp, ev_chain, ev_and, ev_or, ev_not, ev_ite, ev_ix, ev_sl, ev_rev, ev_call, ev_bi, ev_mt, ev_comp2, ev_nil, ev_cons, ev_ifn, ev_ifc,  ev_asg, ev_aug, ev_setIx, ev_augIx, ev_ex, ev_ret, ev_retN, ev_if, ev_for2, ev_brk, ev_cont, ev_pass, ev_snil, ev_scons, then_nx, then_rt, then_bk, then_ct, end_rt, end_nx, optR_some, finish_self, asg_nm, asg_tp, asg_nil, asg_cons,  truth_bl, truth_int, Res.bind_ok, safe_ok, List.getElem?_cons_zero, List.getElem?_cons_succ, List.set_cons_zero, List.set_cons_succ, List.length_cons, List.length_nil, Option.map_some, Option.bind_some, Option.bind_eq_bind, wipeE, if_true, if_false, Bool.false_eq_true, ite_true, ite_false, reduceIte, reduceCtorEq, net_0]) (few (by have := h.np; omega)) fun q hq => by
    simp only [ev_var, ev_int, ev_bl, ev_non, ev_str, ev_tup, ev_lst, ev_dnew, ev_disp, ev_bin, ev_neg, ev_cmp, ev_chain, ev_and, ev_or, ev_not, ev_ite, ev_ix, ev_sl, ev_rev, ev_call, ev_bi, ev_mt, ev_comp2, ev_nil, ev_cons, ev_ifn, ev_ifc,  ev_asg, ev_aug, ev_setIx, ev_augIx, ev_ex, ev_ret, ev_retN, ev_if, ev_for2, ev_brk, ev_cont, ev_pass, ev_snil, ev_scons, then_nx, then_rt, then_bk, then_ct, end_rt, end_nx, optR_some, finish_self, asg_nm, asg_tp, asg_nil, asg_cons,  truth_bl, truth_int, Res.bind_ok, safe_ok, List.getElem?_cons_zero, List.getElem?_cons_succ, List.set_cons_zero, List.set_cons_succ, List.length_cons, List.length_nil, Option.map_some, Option.bind_some, Option.bind_eq_bind, wipeE, if_true, if_false, Bool.false_eq_true, ite_true, ite_false, reduceIte, reduceCtorEq, mark_at R hq, b_add, b_sub, b_eq, b_ne, b_lt, b_le, b_gt, b_ge, u_abs, u_int, u_intb, u_tuple_l, u_tuple_t, u_len_l, u_len_t, eq_self, decide_true, decide_false]
    refine ⟨?_, fun _ => trivial⟩
    congr 1
    rw [decide_eq_decide]; omega
  show (denSs (phi Pr k) [.ret (.comp false (.var 2) (.nm 2) .rng [(.ix (.var 0) (.int 0))] [(.cmp .Eq (.ix (.var 1) (.var 2)) (.int 0))] [2])] [some (netD R.np R.n as), some (markD R), none] st).bind (endOf st) = _
  rw [ev_scons, ev_ret, c]
  simp only [ev_var, ev_int, ev_bl, ev_non, ev_str, ev_tup, ev_lst, ev_dnew, ev_disp, ev_bin, ev_neg, ev_cmp, ev_chain, ev_and, ev_or, ev_not, ev_ite, ev_ix, ev_sl, ev_rev, ev_call, ev_bi, ev_mt, ev_comp2, ev_nil, ev_cons, ev_ifn, ev_ifc,  ev_asg, ev_aug, ev_setIx, ev_augIx, ev_ex, ev_ret, ev_retN, ev_if, ev_for2, ev_brk, ev_cont, ev_pass, ev_snil, ev_scons, then_nx, then_rt, then_bk, then_ct, end_rt, end_nx, optR_some, finish_self, asg_nm, asg_tp, asg_nil, asg_cons,  truth_bl, truth_int, Res.bind_ok, safe_ok, List.getElem?_cons_zero, List.getElem?_cons_succ, List.set_cons_zero, List.set_cons_succ, List.length_cons, List.length_nil, Option.map_some, Option.bind_some, Option.bind_eq_bind, wipeE, if_true, if_false, Bool.false_eq_true, ite_true, ite_false, reduceIte, reduceCtorEq]
end Wk92

set_option maxRecDepth 100000
set_option maxHeartbeats 2000000
set_option linter.all false
namespace Wk92
open PySem WT Wring
/-! the sequence of deeds along empty places -/
structure Good (R : RN) (row : List Nat) : Prop where
  nd : row.Nodup
  lt : ∀ d, d ∈ row → d < R.n
  topo : ∀ pre d post, row = pre ++ d :: post → ∀ q, q < R.np → R.M q = 0 → R.L q = d → R.E q ∈ pre
theorem good_nil (R : RN) : Good R [] := ⟨List.nodup_nil, (fun d h => by cases h), (fun pre d post h => by cases pre <;> cases h)⟩
theorem good_snoc {R : RN} {row : List Nat} (h : Good R row) {d : Nat} (hd : d < R.n) (hn : d ∉ row) (ha : ∀ q, q < R.np → R.M q = 0 → R.L q = d → R.E q ∈ row) : Good R (row ++ [d]) := by
  refine ⟨?_, fun x hx => ?_, fun pre x post e q hq h0 hl => ?_⟩
  · rw [List.nodup_append]
    exact ⟨h.nd, by simp, fun a h1 b hb => by rw [List.mem_singleton] at hb; subst hb; rintro rfl; exact hn h1⟩
  · rcases List.mem_append.mp hx with hx | hx
    · exact h.lt x hx
    · rw [List.mem_singleton] at hx; subst hx; exact hd
  · rcases List.eq_nil_or_concat post with rfl | ⟨post', y, rfl⟩
    · have e' : row ++ [d] = pre ++ [x] := e
      obtain ⟨e1, e2⟩ := List.append_inj' e' rfl
      have : d = x := by simpa using e2
      subst e1; subst this
      exact ha q hq h0 hl
    · have e' : row ++ [d] = (pre ++ x :: post') ++ [y] := by rw [e]; simp [List.concat_eq_append]
      obtain ⟨e1, _⟩ := List.append_inj' e' rfl
      exact h.topo pre x post' e1 q hq h0 hl
/-- a deed that must wait -/
def Waits (R : RN) (row : List Nat) (d : Nat) : Prop := ∃ q, q < R.np ∧ R.M q = 0 ∧ R.L q = d ∧ R.E q ∉ row
def Closed (R : RN) (row : List Nat) : Prop := ∀ d, d < R.n → d ∈ row ∨ Waits R row d
theorem closed_all {R : RN} (h : R.Ok) {row : List Nat} (hc : Closed R row) : ∀ d, d < R.n → d ∈ row := by
  have : ∀ m d, R.rk d < m → d < R.n → d ∈ row := by
    intro m
    induction m with
    | zero => intro d h1; omega
    | succ m ih =>
      intro d h1 hd
      rcases hc d hd with z | ⟨q, h2, h3, h4, h5⟩
      · exact z
      · have := h.ac q h2 h3
        rw [h4] at this
        exact absurd (ih (R.E q) (by omega) (h.e q h2)) h5
  exact fun d hd => this _ d (Nat.lt_succ_self _) hd
theorem good_len {R : RN} {row : List Nat} (h : Good R row) : row.length ≤ R.n := by
  have := nodup_sub (m := List.range R.n) h.nd fun d hd => List.mem_range.mpr (h.lt d hd)
  simpa using this
def someOf (R : RN) (d : Nat) : List Nat := (((List.range R.np).filter fun q => decide (R.M q = 0)).filter fun q => decide (R.L q = d)).map R.E
theorem some_in {R : RN} {d : Nat} {row : List Nat} : ((someOf R d).all fun x => decide (x ∈ row)) = true ↔ ∀ q, q < R.np → R.M q = 0 → R.L q = d → R.E q ∈ row := by
  rw [List.all_eq_true]
  simp only [someOf, List.mem_map, List.mem_filter, List.mem_range, decide_eq_true_eq]
  exact ⟨fun h q a b c => h _ ⟨q, ⟨⟨a, b⟩, c⟩, rfl⟩, fun h x ⟨q, ⟨⟨a, b⟩, c⟩, e⟩ => e ▸ h q a b c⟩
section
variable {R : RN} {as : List Arrow} (h : Net R as) (k : Nat)
def stepB : List S := [.asg (.nm 5) (.comp false (.ix (.call "sides" [(.var 0), (.var 6)]) (.int 0)) (.nm 6) .val [(.call "empty_places" [(.var 0), (.var 1)])] [(.cmp .Eq (.ix (.call "sides" [(.var 0), (.var 6)]) (.int 1)) (.var 4))] [6]), .ite (.and (.cmp .NotIn (.var 4) (.var 2)) (.bi false .all [(.comp false (.cmp .In (.var 7) (.var 2)) (.nm 7) .val [(.var 5)] [] [7])])) [.ex (.mt .append (.var 2) [(.var 4)]), .asg (.nm 3) (.bl true)] []]
include h in
theorem some_ok (st : Store) (d : Nat) (x2 x3 x5 x6 x7 : Option D) : den (phi Pr (k + 2)) (.comp false (.ix (.call "sides" [(.var 0), (.var 6)]) (.int 0)) (.nm 6) .val [(.call "empty_places" [(.var 0), (.var 1)])] [(.cmp .Eq (.ix (.call "sides" [(.var 0), (.var 6)]) (.int 1)) (.var 4))] [6]) [some (netD R.np R.n as), some (markD R), x2, x3, some (.int (d : Nat)), x5, x6, x7] st = .ok (.lst (nats (someOf R d))) st := by
  simp only [ev_var, ev_int, ev_bl, ev_non, ev_str, ev_tup, ev_lst, ev_dnew, ev_disp, ev_bin, ev_neg, ev_cmp, ev_chain, ev_and, ev_or, ev_not, ev_ite, ev_ix, ev_sl, ev_rev, ev_call, ev_bi, ev_mt, ev_comp2, ev_nil, ev_cons, ev_ifn, ev_ifc,  ev_asg, ev_aug, ev_setIx, ev_augIx, ev_ex, ev_ret, ev_retN, ev_if, ev_for2, ev_brk, ev_cont, ev_pass, ev_snil, ev_scons, then_nx, then_rt, then_bk, then_ct, end_rt, end_nx, optR_some, finish_self, asg_nm, asg_tp, asg_nil, asg_cons,  truth_bl, truth_int, Res.bind_ok, safe_ok, List.getElem?_cons_zero, List.getElem?_cons_succ, List.set_cons_zero, List.set_cons_succ, List.length_cons, List.length_nil, Option.map_some, Option.bind_some, Option.bind_eq_bind, wipeE, if_true, if_false, Bool.false_eq_true, ite_true, ite_false, reduceIte, reduceCtorEq, empty_ok h, compK_tup, compK_lst, compK_scr, compK_rng, compK_enum, compK_enumL, stepC_eq, cM_map, cM_ok, cM_if, cM_if2, bind_ite, ite_else, cM_nil, cM_cons]
  have hz : (((List.range R.np).filter fun q => decide (R.M q = 0)).filter fun q => decide (R.L q = d)).length ≤ sizeLine := by
    have h1 := List.length_filter_le (fun q => decide (R.L q = d)) ((List.range R.np).filter fun q => decide (R.M q = 0))
    have h2 := List.length_filter_le (fun q => decide (R.M q = 0)) (List.range R.np)
    rw [List.length_range] at h2
    have := h.np
    exact few (by omega)
  rw [cM_toIfS (fun q => decide (R.L q = d)) (fun q => .int (R.E q : Nat)) fun q hq => by
    have hq' : q < R.np := List.mem_range.mp (List.mem_filter.mp hq).1
    simp only [sides_ok h k _ hq', ev_var, ev_int, ev_bl, ev_non, ev_str, ev_tup, ev_lst, ev_dnew, ev_disp, ev_bin, ev_neg, ev_cmp, ev_chain, ev_and, ev_or, ev_not, ev_ite, ev_ix, ev_sl, ev_rev, ev_call, ev_bi, ev_mt, ev_comp2, ev_nil, ev_cons, ev_ifn, ev_ifc,  ev_asg, ev_aug, ev_setIx, ev_augIx, ev_ex, ev_ret, ev_retN, ev_if, ev_for2, ev_brk, ev_cont, ev_pass, ev_snil, ev_scons, then_nx, then_rt, then_bk, then_ct, end_rt, end_nx, optR_some, finish_self, asg_nm, asg_tp, asg_nil, asg_cons,  truth_bl, truth_int, Res.bind_ok, safe_ok, List.getElem?_cons_zero, List.getElem?_cons_succ, List.set_cons_zero, List.set_cons_succ, List.length_cons, List.length_nil, Option.map_some, Option.bind_some, Option.bind_eq_bind, wipeE, if_true, if_false, Bool.false_eq_true, ite_true, ite_false, reduceIte, reduceCtorEq, b_add, b_sub, b_eq, b_ne, b_lt, b_le, b_gt, b_ge, u_abs, u_int, u_intb, u_tuple_l, u_tuple_t, u_len_l, u_len_t, eq_self, decide_true, decide_false, x_tup0, x_tup1]
    by_cases e : R.L q = d
    · have e' : ((R.L q : Nat) : Int) = (d : Int) := by omega
      simp only [e', e, decide_true, ev_var, ev_int, ev_bl, ev_non, ev_str, ev_tup, ev_lst, ev_dnew, ev_disp, ev_bin, ev_neg, ev_cmp, ev_chain, ev_and, ev_or, ev_not, ev_ite, ev_ix, ev_sl, ev_rev, ev_call, ev_bi, ev_mt, ev_comp2, ev_nil, ev_cons, ev_ifn, ev_ifc,  ev_asg, ev_aug, ev_setIx, ev_augIx, ev_ex, ev_ret, ev_retN, ev_if, ev_for2, ev_brk, ev_cont, ev_pass, ev_snil, ev_scons, then_nx, then_rt, then_bk, then_ct, end_rt, end_nx, optR_some, finish_self, asg_nm, asg_tp, asg_nil, asg_cons,  truth_bl, truth_int, Res.bind_ok, safe_ok, List.getElem?_cons_zero, List.getElem?_cons_succ, List.set_cons_zero, List.set_cons_succ, List.length_cons, List.length_nil, Option.map_some, Option.bind_some, Option.bind_eq_bind, wipeE, if_true, if_false, Bool.false_eq_true, ite_true, ite_false, reduceIte, reduceCtorEq]
    · have e' : ¬ ((R.L q : Nat) : Int) = (d : Int) := by omega
      simp only [e', e, decide_false, ev_var, ev_int, ev_bl, ev_non, ev_str, ev_tup, ev_lst, ev_dnew, ev_disp, ev_bin, ev_neg, ev_cmp, ev_chain, ev_and, ev_or, ev_not, ev_ite, ev_ix, ev_sl, ev_rev, ev_call, ev_bi, ev_mt, ev_comp2, ev_nil, ev_cons, ev_ifn, ev_ifc,  ev_asg, ev_aug, ev_setIx, ev_augIx, ev_ex, ev_ret, ev_retN, ev_if, ev_for2, ev_brk, ev_cont, ev_pass, ev_snil, ev_scons, then_nx, then_rt, then_bk, then_ct, end_rt, end_nx, optR_some, finish_self, asg_nm, asg_tp, asg_nil, asg_cons,  truth_bl, truth_int, Res.bind_ok, safe_ok, List.getElem?_cons_zero, List.getElem?_cons_succ, List.set_cons_zero, List.set_cons_succ, List.length_cons, List.length_nil, Option.map_some, Option.bind_some, Option.bind_eq_bind, wipeE, if_true, if_false, Bool.false_eq_true, ite_true, ite_false, reduceIte, reduceCtorEq]]
  simp only [ev_var, ev_int, ev_bl, ev_non, ev_str, ev_tup, ev_lst, ev_dnew, ev_disp, ev_bin, ev_neg, ev_cmp, ev_chain, ev_and, ev_or, ev_not, ev_ite, ev_ix, ev_sl, ev_rev, ev_call, ev_bi, ev_mt, ev_comp2, ev_nil, ev_cons, ev_ifn, ev_ifc,  ev_asg, ev_aug, ev_setIx, ev_augIx, ev_ex, ev_ret, ev_retN, ev_if, ev_for2, ev_brk, ev_cont, ev_pass, ev_snil, ev_scons, then_nx, then_rt, then_bk, then_ct, end_rt, end_nx, optR_some, finish_self, asg_nm, asg_tp, asg_nil, asg_cons,  truth_bl, truth_int, Res.bind_ok, safe_ok, List.getElem?_cons_zero, List.getElem?_cons_succ, List.set_cons_zero, List.set_cons_succ, List.length_cons, List.length_nil, Option.map_some, Option.bind_some, Option.bind_eq_bind, wipeE, if_true, if_false, Bool.false_eq_true, ite_true, ite_false, reduceIte, reduceCtorEq, newL_f, List.length_map, hz]
  simp [nats, someOf]
include h in
theorem step_ok (st : Store) {row : List Nat} (hg : Good R row) {d : Nat} (hd : d < R.n) (g : Bool) (x5 x6 x7 : Option D) :
    ∃ row' g' y5, denSs (phi Pr (k + 2)) stepB [some (netD R.np R.n as), some (markD R), some (.loc st.length), some (.bl g), some (.int (d : Nat)), x5, x6, x7] (st ++ [.lst (nats row)]) = .ok (.nx, [some (netD R.np R.n as), some (markD R), some (.loc st.length), some (.bl g'), some (.int (d : Nat)), y5, x6, x7]) (st ++ [.lst (nats row')]) ∧ Good R row' ∧
      ((row' = row ∧ g' = g ∧ (d ∈ row ∨ Waits R row d)) ∨ (row' = row ++ [d] ∧ g' = true)) := by
  have g0 : (st ++ [Ob.lst (nats row)])[st.length]? = some (.lst (nats row)) := by rw [List.getElem?_append_right (Nat.le_refl _), Nat.sub_self]; rfl
  have v0 := view_at g0
  have hsl : (someOf R d).length ≤ sizeLine := by
    unfold someOf
    rw [List.length_map]
    have h1 := List.length_filter_le (fun q => decide (R.L q = d)) ((List.range R.np).filter fun q => decide (R.M q = 0))
    have h2 := List.length_filter_le (fun q => decide (R.M q = 0)) (List.range R.np)
    rw [List.length_range] at h2
    have := h.np
    exact few (by omega)
  have s1 : denS (phi Pr (k + 2)) (.asg (.nm 5) (.comp false (.ix (.call "sides" [(.var 0), (.var 6)]) (.int 0)) (.nm 6) .val [(.call "empty_places" [(.var 0), (.var 1)])] [(.cmp .Eq (.ix (.call "sides" [(.var 0), (.var 6)]) (.int 1)) (.var 4))] [6])) [some (netD R.np R.n as), some (markD R), some (.loc st.length), some (.bl g), some (.int (d : Nat)), x5, x6, x7] (st ++ [.lst (nats row)]) = .ok (.nx, [some (netD R.np R.n as), some (markD R), some (.loc st.length), some (.bl g), some (.int (d : Nat)), some (.lst (nats (someOf R d))), x6, x7]) (st ++ [.lst (nats row)]) := by
    rw [ev_asg, some_ok h k]
    simp only [ev_var, ev_int, ev_bl, ev_non, ev_str, ev_tup, ev_lst, ev_dnew, ev_disp, ev_bin, ev_neg, ev_cmp, ev_chain, ev_and, ev_or, ev_not, ev_ite, ev_ix, ev_sl, ev_rev, ev_call, ev_bi, ev_mt, ev_comp2, ev_nil, ev_cons, ev_ifn, ev_ifc,  ev_asg, ev_aug, ev_setIx, ev_augIx, ev_ex, ev_ret, ev_retN, ev_if, ev_for2, ev_brk, ev_cont, ev_pass, ev_snil, ev_scons, then_nx, then_rt, then_bk, then_ct, end_rt, end_nx, optR_some, finish_self, asg_nm, asg_tp, asg_nil, asg_cons,  truth_bl, truth_int, Res.bind_ok, safe_ok, List.getElem?_cons_zero, List.getElem?_cons_succ, List.set_cons_zero, List.set_cons_succ, List.length_cons, List.length_nil, Option.map_some, Option.bind_some, Option.bind_eq_bind, wipeE, if_true, if_false, Bool.false_eq_true, ite_true, ite_false, reduceIte, reduceCtorEq]
  rw [stepB, ev_scons, s1, Res.bind_ok, then_nx]
  have hc : den (phi Pr (k + 2)) (.comp false (.cmp .In (.var 7) (.var 2)) (.nm 7) .val [(.var 5)] [] [7]) [some (netD R.np R.n as), some (markD R), some (.loc st.length), some (.bl g), some (.int (d : Nat)), some (.lst (nats (someOf R d))), x6, x7] (st ++ [.lst (nats row)]) = .ok (.lst ((someOf R d).map fun x => .bl (decide (x ∈ row)))) (st ++ [.lst (nats row)]) := by
    simp only [ev_var, ev_int, ev_bl, ev_non, ev_str, ev_tup, ev_lst, ev_dnew, ev_disp, ev_bin, ev_neg, ev_cmp, ev_chain, ev_and, ev_or, ev_not, ev_ite, ev_ix, ev_sl, ev_rev, ev_call, ev_bi, ev_mt, ev_comp2, ev_nil, ev_cons, ev_ifn, ev_ifc,  ev_asg, ev_aug, ev_setIx, ev_augIx, ev_ex, ev_ret, ev_retN, ev_if, ev_for2, ev_brk, ev_cont, ev_pass, ev_snil, ev_scons, then_nx, then_rt, then_bk, then_ct, end_rt, end_nx, optR_some, finish_self, asg_nm, asg_tp, asg_nil, asg_cons,  truth_bl, truth_int, Res.bind_ok, safe_ok, List.getElem?_cons_zero, List.getElem?_cons_succ, List.set_cons_zero, List.set_cons_succ, List.length_cons, List.length_nil, Option.map_some, Option.bind_some, Option.bind_eq_bind, wipeE, if_true, if_false, Bool.false_eq_true, ite_true, ite_false, reduceIte, reduceCtorEq, compK_lst, cM_nats, stepC_eq]
    rw [cM_toS (fun x => .bl (decide (x ∈ row))) fun x hx => by
      simp only [in_nats (.inl v0), ev_var, ev_int, ev_bl, ev_non, ev_str, ev_tup, ev_lst, ev_dnew, ev_disp, ev_bin, ev_neg, ev_cmp, ev_chain, ev_and, ev_or, ev_not, ev_ite, ev_ix, ev_sl, ev_rev, ev_call, ev_bi, ev_mt, ev_comp2, ev_nil, ev_cons, ev_ifn, ev_ifc,  ev_asg, ev_aug, ev_setIx, ev_augIx, ev_ex, ev_ret, ev_retN, ev_if, ev_for2, ev_brk, ev_cont, ev_pass, ev_snil, ev_scons, then_nx, then_rt, then_bk, then_ct, end_rt, end_nx, optR_some, finish_self, asg_nm, asg_tp, asg_nil, asg_cons,  truth_bl, truth_int, Res.bind_ok, safe_ok, List.getElem?_cons_zero, List.getElem?_cons_succ, List.set_cons_zero, List.set_cons_succ, List.length_cons, List.length_nil, Option.map_some, Option.bind_some, Option.bind_eq_bind, wipeE, if_true, if_false, Bool.false_eq_true, ite_true, ite_false, reduceIte, reduceCtorEq]]
    simp only [ev_var, ev_int, ev_bl, ev_non, ev_str, ev_tup, ev_lst, ev_dnew, ev_disp, ev_bin, ev_neg, ev_cmp, ev_chain, ev_and, ev_or, ev_not, ev_ite, ev_ix, ev_sl, ev_rev, ev_call, ev_bi, ev_mt, ev_comp2, ev_nil, ev_cons, ev_ifn, ev_ifc,  ev_asg, ev_aug, ev_setIx, ev_augIx, ev_ex, ev_ret, ev_retN, ev_if, ev_for2, ev_brk, ev_cont, ev_pass, ev_snil, ev_scons, then_nx, then_rt, then_bk, then_ct, end_rt, end_nx, optR_some, finish_self, asg_nm, asg_tp, asg_nil, asg_cons,  truth_bl, truth_int, Res.bind_ok, safe_ok, List.getElem?_cons_zero, List.getElem?_cons_succ, List.set_cons_zero, List.set_cons_succ, List.length_cons, List.length_nil, Option.map_some, Option.bind_some, Option.bind_eq_bind, wipeE, if_true, if_false, Bool.false_eq_true, ite_true, ite_false, reduceIte, reduceCtorEq, newL_f, List.length_map, hsl]
  have hrl := good_len hg
  have hlen : (nats row).length < sizeLine := by
    rw [nats_len, sizeLine_eq]; have := h.n; omega
  by_cases hin : d ∈ row
  · refine ⟨row, g, some (.lst (nats (someOf R d))), ?_, hg, .inl ⟨rfl, rfl, .inl hin⟩⟩
    simp only [ev_var, ev_int, ev_bl, ev_non, ev_str, ev_tup, ev_lst, ev_dnew, ev_disp, ev_bin, ev_neg, ev_cmp, ev_chain, ev_and, ev_or, ev_not, ev_ite, ev_ix, ev_sl, ev_rev, ev_call, ev_bi, ev_mt, ev_comp2, ev_nil, ev_cons, ev_ifn, ev_ifc,  ev_asg, ev_aug, ev_setIx, ev_augIx, ev_ex, ev_ret, ev_retN, ev_if, ev_for2, ev_brk, ev_cont, ev_pass, ev_snil, ev_scons, then_nx, then_rt, then_bk, then_ct, end_rt, end_nx, optR_some, finish_self, asg_nm, asg_tp, asg_nil, asg_cons,  truth_bl, truth_int, Res.bind_ok, safe_ok, List.getElem?_cons_zero, List.getElem?_cons_succ, List.set_cons_zero, List.set_cons_succ, List.length_cons, List.length_nil, Option.map_some, Option.bind_some, Option.bind_eq_bind, wipeE, if_true, if_false, Bool.false_eq_true, ite_true, ite_false, reduceIte, reduceCtorEq, notin_nats (.inl v0), hin, decide_true, Bool.not_true]
  · by_cases hall : ((someOf R d).all fun x => decide (x ∈ row)) = true
    · refine ⟨row ++ [d], true, some (.lst (nats (someOf R d))), ?_, good_snoc hg hd hin (some_in.mp hall), .inr ⟨rfl, rfl⟩⟩
      have gs : (st ++ [Ob.lst (nats row)]).set st.length (.lst (nats row ++ [.int (d : Nat)])) = st ++ [.lst (nats (row ++ [d]))] := by
        rw [List.set_append_right _ _ (Nat.le_refl _), Nat.sub_self, nats_app, nats_one]; rfl
      simp only [ev_var, ev_int, ev_bl, ev_non, ev_str, ev_tup, ev_lst, ev_dnew, ev_disp, ev_bin, ev_neg, ev_cmp, ev_chain, ev_and, ev_or, ev_not, ev_ite, ev_ix, ev_sl, ev_rev, ev_call, ev_bi, ev_mt, ev_nil, ev_cons, ev_ifn, ev_ifc,  ev_asg, ev_aug, ev_setIx, ev_augIx, ev_ex, ev_ret, ev_retN, ev_if, ev_for2, ev_brk, ev_cont, ev_pass, ev_snil, ev_scons, then_nx, then_rt, then_bk, then_ct, end_rt, end_nx, optR_some, finish_self, asg_nm, asg_tp, asg_nil, asg_cons,  truth_bl, truth_int, Res.bind_ok, safe_ok, List.getElem?_cons_zero, List.getElem?_cons_succ, List.set_cons_zero, List.set_cons_succ, List.length_cons, List.length_nil, Option.map_some, Option.bind_some, Option.bind_eq_bind, wipeE, if_true, if_false, Bool.false_eq_true, ite_true, ite_false, reduceIte, reduceCtorEq, notin_nats (.inl v0), hin, decide_false, Bool.not_false, hc, all_map, hall, mtOk_loc g0 (m := .append) (by decide), app_at g0 hlen, gs]
    · refine ⟨row, g, some (.lst (nats (someOf R d))), ?_, hg, .inl ⟨rfl, rfl, .inr ?_⟩⟩
      · simp only [ev_var, ev_int, ev_bl, ev_non, ev_str, ev_tup, ev_lst, ev_dnew, ev_disp, ev_bin, ev_neg, ev_cmp, ev_chain, ev_and, ev_or, ev_not, ev_ite, ev_ix, ev_sl, ev_rev, ev_call, ev_bi, ev_mt, ev_nil, ev_cons, ev_ifn, ev_ifc,  ev_asg, ev_aug, ev_setIx, ev_augIx, ev_ex, ev_ret, ev_retN, ev_if, ev_for2, ev_brk, ev_cont, ev_pass, ev_snil, ev_scons, then_nx, then_rt, then_bk, then_ct, end_rt, end_nx, optR_some, finish_self, asg_nm, asg_tp, asg_nil, asg_cons,  truth_bl, truth_int, Res.bind_ok, safe_ok, List.getElem?_cons_zero, List.getElem?_cons_succ, List.set_cons_zero, List.set_cons_succ, List.length_cons, List.length_nil, Option.map_some, Option.bind_some, Option.bind_eq_bind, wipeE, if_true, if_false, Bool.false_eq_true, ite_true, ite_false, reduceIte, reduceCtorEq, notin_nats (.inl v0), hin, decide_false, Bool.not_false, hc, all_map, hall]
      · refine Classical.byContradiction fun hw => hall (some_in.mpr fun q a b c => Classical.byContradiction fun e => hw ⟨q, a, b, c, e⟩)
include h in
/-- one pass over all deeds -/
theorem pass_ok (st : Store) {row : List Nat} (hg : Good R row) (x4 x5 x6 x7 : Option D) :
    OkP (loopF (.nm 4) (denSs (phi Pr (k + 2)) stepB) ((List.range R.n).map fun i => D.int (i : Nat)) [some (netD R.np R.n as), some (markD R), some (.loc st.length), some (.bl false), x4, x5, x6, x7] (st ++ [.lst (nats row)])) fun fr t => ∃ row' g' y4 y5, fr = (.nx, [some (netD R.np R.n as), some (markD R), some (.loc st.length), some (.bl g'), y4, y5, x6, x7]) ∧ t = st ++ [.lst (nats row')] ∧ Good R row' ∧
      ((g' = false ∧ row' = row ∧ Closed R row) ∨ (g' = true ∧ row.length < row'.length)) := by
  refine loop_list (fun l1 r t => ∃ row' g' y4 y5, r = [some (netD R.np R.n as), some (markD R), some (.loc st.length), some (.bl g'), y4, y5, x6, x7] ∧ t = st ++ [.lst (nats row')] ∧ Good R row' ∧
      ((g' = false ∧ row' = row ∧ ∀ d, d ∈ l1 → d ∈ row ∨ Waits R row d) ∨ (g' = true ∧ row.length < row'.length))) ⟨row, false, x4, x5, rfl, rfl, hg, (.inl ⟨rfl, rfl, (fun d hd => by cases hd)⟩)⟩ (fun l1 x l2 r t hx hI => ?_) fun r t hI => ?_
  · obtain ⟨row1, g1, y4, y5, rfl, rfl, hg1, hc⟩ := hI
    have hd : x < R.n := List.mem_range.mp (by rw [hx]; simp)
    refine ⟨_, asg_nm _ _ _, ?_⟩
    simp only [List.set_cons_zero, List.set_cons_succ]
    obtain ⟨row2, g2, z5, e, hg2, hw⟩ := step_ok h k st hg1 hd g1 y5 x6 x7
    rw [e, okP_ok]
    refine ⟨row2, g2, some (.int (x : Nat)), z5, rfl, rfl, hg2, ?_⟩
    rcases hw with ⟨rfl, rfl, w⟩ | ⟨rfl, rfl⟩
    · rcases hc with ⟨rfl, rfl, c⟩ | ⟨rfl, c⟩
      · refine .inl ⟨rfl, rfl, fun d hd => ?_⟩
        rcases List.mem_append.mp hd with hd | hd
        · exact c d hd
        · rw [List.mem_singleton] at hd; subst hd; exact w
      · exact .inr ⟨rfl, c⟩
    · refine .inr ⟨rfl, ?_⟩
      rw [List.length_append, List.length_singleton]
      rcases hc with ⟨_, rfl, _⟩ | ⟨_, c⟩ <;> omega
  · obtain ⟨row1, g1, y4, y5, rfl, rfl, hg1, hc⟩ := hI
    refine ⟨row1, g1, y4, y5, rfl, rfl, hg1, ?_⟩
    rcases hc with ⟨rfl, rfl, c⟩ | ⟨rfl, c⟩
    · exact .inl ⟨rfl, rfl, fun d hd => c d (List.mem_range.mpr hd)⟩
    · exact .inr ⟨rfl, c⟩
def seqBody : List S := [.asg (.nm 3) (.bl false), .for_ (.nm 4) .rng [(.ix (.var 0) (.int 1))] stepB]
include h in
theorem sequence_ok (hR : R.Ok) (st : Store) : ∃ order, phi Pr (k + 3) "sequence" [netD R.np R.n as, markD R] st = .ok (.tup (nats order)) st ∧ Good R order ∧ ∀ d, d < R.n → d ∈ order := by
  have hn : R.n ≤ sizeLine := few (by have := h.n; omega)
  have L : OkP (denS (phi Pr (k + 2)) (.loop (.var 3) seqBody) [some (netD R.np R.n as), some (markD R), some (.loc st.length), some (.bl true), none, none, none, none] (st ++ [.lst (nats [])])) fun fr t => ∃ row y4 y5, fr = (.nx, [some (netD R.np R.n as), some (markD R), some (.loc st.length), some (.bl false), y4, y5, none, none]) ∧ t = st ++ [.lst (nats row)] ∧ Good R row ∧ Closed R row := by
    rw [ev_loop]
    refine loop_inv (fun m r t => ∃ row g y4 y5, r = [some (netD R.np R.n as), some (markD R), some (.loc st.length), some (.bl g), y4, y5, none, none] ∧ t = st ++ [.lst (nats row)] ∧ Good R row ∧ (g = false → Closed R row) ∧ m = (R.n - row.length) * 2 + if g = true then 1 else 0) (m := R.n * 2 + 1) ⟨[], true, none, none, rfl, rfl, good_nil R, (fun z => by cases z), by simp⟩ fun m r t hI => ?_
    obtain ⟨row, g, y4, y5, rfl, rfl, hg, hc, rfl⟩ := hI
    cases g with
    | false =>
      simp only [ev_var, ev_int, ev_bl, ev_non, ev_str, ev_tup, ev_lst, ev_dnew, ev_disp, ev_bin, ev_neg, ev_cmp, ev_chain, ev_and, ev_or, ev_not, ev_ite, ev_ix, ev_sl, ev_rev, ev_call, ev_bi, ev_mt, ev_comp2, ev_nil, ev_cons, ev_ifn, ev_ifc,  ev_asg, ev_aug, ev_setIx, ev_augIx, ev_ex, ev_ret, ev_retN, ev_if, ev_for2, ev_brk, ev_cont, ev_pass, ev_snil, ev_scons, then_nx, then_rt, then_bk, then_ct, end_rt, end_nx, optR_some, finish_self, asg_nm, asg_tp, asg_nil, asg_cons,  truth_bl, truth_int, Res.bind_ok, safe_ok, List.getElem?_cons_zero, List.getElem?_cons_succ, List.set_cons_zero, List.set_cons_succ, List.length_cons, List.length_nil, Option.map_some, Option.bind_some, Option.bind_eq_bind, wipeE, if_true, if_false, Bool.false_eq_true, ite_true, ite_false, reduceIte, reduceCtorEq, okP_ok]
      exact ⟨row, y4, y5, rfl, rfl, hg, hc rfl⟩
    | true =>
      simp only [seqBody, ev_var, ev_int, ev_bl, ev_non, ev_str, ev_tup, ev_lst, ev_dnew, ev_disp, ev_bin, ev_neg, ev_cmp, ev_chain, ev_and, ev_or, ev_not, ev_ite, ev_ix, ev_sl, ev_rev, ev_call, ev_bi, ev_mt, ev_comp2, ev_nil, ev_cons, ev_ifn, ev_ifc,  ev_asg, ev_aug, ev_setIx, ev_augIx, ev_ex, ev_ret, ev_retN, ev_if, ev_for2, ev_brk, ev_cont, ev_pass, ev_snil, ev_scons, then_nx, then_rt, then_bk, then_ct, end_rt, end_nx, optR_some, finish_self, asg_nm, asg_tp, asg_nil, asg_cons,  truth_bl, truth_int, Res.bind_ok, safe_ok, List.getElem?_cons_zero, List.getElem?_cons_succ, List.set_cons_zero, List.set_cons_succ, List.length_cons, List.length_nil, Option.map_some, Option.bind_some, Option.bind_eq_bind, wipeE, if_true, if_false, Bool.false_eq_true, ite_true, ite_false, reduceIte, reduceCtorEq, okP_ok, net_1, forK_rng _ _ _ _ _ hn]
      refine OkP.bind (pass_ok h k st hg y4 y5 none none) fun fr t q => ?_
      obtain ⟨row', g', z4, z5, rfl, rfl, hg', hq⟩ := q
      simp only [ev_var, ev_int, ev_bl, ev_non, ev_str, ev_tup, ev_lst, ev_dnew, ev_disp, ev_bin, ev_neg, ev_cmp, ev_chain, ev_and, ev_or, ev_not, ev_ite, ev_ix, ev_sl, ev_rev, ev_call, ev_bi, ev_mt, ev_comp2, ev_nil, ev_cons, ev_ifn, ev_ifc,  ev_asg, ev_aug, ev_setIx, ev_augIx, ev_ex, ev_ret, ev_retN, ev_if, ev_for2, ev_brk, ev_cont, ev_pass, ev_snil, ev_scons, then_nx, then_rt, then_bk, then_ct, end_rt, end_nx, optR_some, finish_self, asg_nm, asg_tp, asg_nil, asg_cons,  truth_bl, truth_int, Res.bind_ok, safe_ok, List.getElem?_cons_zero, List.getElem?_cons_succ, List.set_cons_zero, List.set_cons_succ, List.length_cons, List.length_nil, Option.map_some, Option.bind_some, Option.bind_eq_bind, wipeE, if_true, if_false, Bool.false_eq_true, ite_true, ite_false, reduceIte, reduceCtorEq, okP_ok]
      have l1 := good_len hg'
      rcases hq with ⟨rfl, rfl, c⟩ | ⟨rfl, c⟩
      · exact ⟨_, by simp, row', false, z4, z5, rfl, rfl, hg', fun _ => c, rfl⟩
      · refine ⟨_, ?_, row', true, z4, z5, rfl, rfl, hg', (fun z => by cases z), rfl⟩
        simp only [if_true]; omega
  obtain ⟨fr, t, e, row, y4, y5, rfl, rfl, hg, hc⟩ := OkP.ex L
  refine ⟨row, ?_, hg, closed_all hR hc⟩
  rw [phi_def p_sequence rfl]
  have c0 : 0 ≤ sizeLine := few (by decide)
  have g0 : (st ++ [Ob.lst (nats row)])[st.length]? = some (.lst (nats row)) := by rw [List.getElem?_append_right (Nat.le_refl _), Nat.sub_self]; rfl
  have et : biD false .tuple [.loc st.length] (st ++ [Ob.lst (nats row)]) = .ok (.tup (nats row)) (st ++ [Ob.lst (nats row)]) := by
    have : biD false .tuple [.loc st.length] (st ++ [Ob.lst (nats row)]) = (match view (st ++ [Ob.lst (nats row)]) (.loc st.length) with
      | .tup xs => .ok (.tup xs) (st ++ [Ob.lst (nats row)])
      | .lst xs => .ok (.tup xs) (st ++ [Ob.lst (nats row)])
      | _ => .stuck) := rfl
    rw [this, view_at g0]
  have e' : denS (phi Pr (k + 2)) (.loop (.var 3) seqBody) [some (netD R.np R.n as), some (markD R), some (.loc st.length), some (.bl true), none, none, none, none] (st ++ [.lst []]) = .ok (.nx, [some (netD R.np R.n as), some (markD R), some (.loc st.length), some (.bl false), y4, y5, none, none]) (st ++ [Ob.lst (nats row)]) := e
  show (denSs (phi Pr (k + 2)) [.asg (.tp [(.nm 2), (.nm 3)]) (.tup [(.lst true []), (.bl true)]), .loop (.var 3) seqBody, .ret (.bi false .tuple [(.var 2)])] [some (netD R.np R.n as), some (markD R), none, none, none, none, none, none] st).bind (endOf st) = _
  simp only [ev_var, ev_int, ev_bl, ev_non, ev_str, ev_tup, ev_lst, ev_dnew, ev_disp, ev_bin, ev_neg, ev_cmp, ev_chain, ev_and, ev_or, ev_not, ev_ite, ev_ix, ev_sl, ev_rev, ev_call, ev_bi, ev_mt, ev_comp2, ev_nil, ev_cons, ev_ifn, ev_ifc,  ev_asg, ev_aug, ev_setIx, ev_augIx, ev_ex, ev_ret, ev_retN, ev_if, ev_for2, ev_brk, ev_cont, ev_pass, ev_snil, ev_scons, then_nx, then_rt, then_bk, then_ct, end_rt, end_nx, optR_some, finish_self, asg_nm, asg_tp, asg_nil, asg_cons,  truth_bl, truth_int, Res.bind_ok, safe_ok, List.getElem?_cons_zero, List.getElem?_cons_succ, List.set_cons_zero, List.set_cons_succ, List.length_cons, List.length_nil, Option.map_some, Option.bind_some, Option.bind_eq_bind, wipeE, if_true, if_false, Bool.false_eq_true, ite_true, ite_false, reduceIte, reduceCtorEq, newL_t, c0, c2, e', et]
  exact finish_app (by simp only [D.low]; exact lowL_nats row _)
end
end Wk92

set_option maxRecDepth 100000
set_option maxHeartbeats 2000000
set_option linter.all false
namespace Wk92
open PySem WT Wring
/-! begin_table -/
def locs (n k : Nat) : List D := (List.range k).map fun j => .loc (n + j)
theorem locs_succ (n k : Nat) : locs n (k + 1) = locs n k ++ [.loc (n + k)] := by unfold locs; rw [List.range_succ, List.map_append]; rfl
theorem locs_at (n k j : Nat) (h : j < k) : (locs n k)[j]? = some (.loc (n + j)) := by unfold locs; rw [List.getElem?_map, List.getElem?_range h]; rfl
/-- the table at a new place, its rows behind -/
def TS (R : RN) (st : Store) (k : Nat) : Store := st ++ (.lst (locs (st.length + 1) k) :: (List.range k).map fun j => Ob.lst (nats (row R j)))
theorem TS_len (R : RN) (st : Store) (k : Nat) : (TS R st k).length = st.length + 1 + k := by simp [TS]; omega
theorem TS_tab (R : RN) (st : Store) (k : Nat) (g : Store) : (TS R st k ++ g)[st.length]? = some (.lst (locs (st.length + 1) k)) := by
  rw [List.getElem?_append_left (by rw [TS_len]; omega)]
  unfold TS
  rw [List.getElem?_append_right (Nat.le_refl _), Nat.sub_self]; rfl
theorem TS_row (R : RN) (st : Store) (k j : Nat) (h : j < k) (g : Store) : (TS R st k ++ g)[st.length + 1 + j]? = some (.lst (nats (row R j))) := by
  rw [List.getElem?_append_left (by rw [TS_len]; omega)]
  unfold TS
  rw [List.getElem?_append_right (by omega), show st.length + 1 + j - st.length = j + 1 by omega, List.getElem?_cons_succ, List.getElem?_map, List.getElem?_range h]; rfl
theorem TS_new (R : RN) (st : Store) (k : Nat) (o : Ob) : (TS R st k ++ [o])[st.length + 1 + k]? = some o := by
  rw [List.getElem?_append_right (by rw [TS_len]; omega), TS_len, Nat.sub_self]; rfl
theorem TS_set (R : RN) (st : Store) (k : Nat) (o o' : Ob) : (TS R st k ++ [o]).set (st.length + 1 + k) o' = TS R st k ++ [o'] := by
  rw [List.set_append_right _ _ (by rw [TS_len]; omega), TS_len, Nat.sub_self]; rfl
theorem TS_more (R : RN) (st : Store) (k : Nat) : (TS R st k ++ [Ob.lst (nats (row R k))]).set st.length (Ob.lst (locs (st.length + 1) k ++ [D.loc (st.length + 1 + k)])) = TS R st (k + 1) := by
  unfold TS
  rw [List.append_assoc, List.set_append_right _ _ (Nat.le_refl _), Nat.sub_self, List.cons_append, List.set_cons_zero, ← locs_succ, List.range_succ, List.map_append]; rfl
theorem row_at (R : RN) (j d : Nat) (h : d < R.n) : (nats (row R j))[d]? = some (.int (R.B j d : Nat)) := by
  rw [nats_at]; unfold row; rw [List.getElem?_map, List.getElem?_range h]; rfl
theorem nats_getD (v : List Nat) (d : Nat) (h : d < v.length) : (nats v)[d]? = some (.int (v.getD d 0 : Nat)) := by
  rw [nats_at, List.getD_eq_getElem?_getD, List.getElem?_eq_getElem h]; rfl
theorem maxN (a b t : Nat) : max (a : Int) ((b : Int) + (t : Int)) = ((max a (b + t) : Nat) : Int) := by omega
def bodyP : List S := [.asg (.tp [(.nm 10), (.nm 11)]) (.tup [(.ix (.call "sides" [(.var 0), (.var 9)]) (.int 0)), (.bin false .Sub (.var 4) (.ix (.var 1) (.var 9)))]), .ite (.cmp .GtE (.var 11) (.int 0)) [.asg (.nm 12) (.ite (.cmp .Eq (.var 11) (.var 4)) (.var 7) (.ix (.var 6) (.var 11))), .setIx (.var 7) (.var 8) (.bi false .max [(.ix (.var 7) (.var 8)), (.bin false .Add (.ix (.var 12) (.var 10)) (.ix (.var 2) (.var 10)))])] []]
def cst (R : RN) (k : Nat) (q : Nat) : Nat := R.B (k - R.M q) (R.E q)
section
variable {R : RN} {as : List Arrow} (h : Net R as) (hR : R.Ok) (kk : Nat) (st : Store)
abbrev envT (R : RN) (as : List Arrow) (st : Store) (many k : Nat) (order : List Nat) (x8 x9 x10 x11 x12 : Option D) : WT.Env :=
  [some (netD R.np R.n as), some (markD R), some (timesD R), some (.int (many : Nat)), some (.int (k : Nat)), some (.tup (nats order)), some (.loc st.length), some (.loc (st.length + 1 + k)), x8, x9, x10, x11, x12]
include h hR in
theorem place_step (many k : Nat) (order : List Nat) {v : List Nat} (hv : v.length = R.n) {q : Nat} (hq : q < R.np) (x10 x11 x12 : Option D) :
    ∃ y10 y11 y12, denSs (phi Pr (kk + 3)) bodyP (envT R as st many k order (some (.int (R.L q : Nat))) (some (.int (q : Nat))) x10 x11 x12) (TS R st k ++ [.lst (nats v)]) = .ok (.nx, envT R as st many k order (some (.int (R.L q : Nat))) (some (.int (q : Nat))) y10 y11 y12) (TS R st k ++ [.lst (nats (relax R k (cst R k) v q))]) := by
  have hE := hR.e q hq
  have hL := hR.l q hq
  have g1 := TS_new R st k (.lst (nats v))
  by_cases hk : R.M q ≤ k
  · have e1 : ((k : Nat) : Int) - ((R.M q : Nat) : Int) = ((k - R.M q : Nat) : Int) := by omega
    have e2 : (0 : Int) ≤ ((k - R.M q : Nat) : Int) := by omega
    by_cases h0 : R.M q = 0
    · have e3 : ((k - R.M q : Nat) : Int) = (k : Int) := by omega
      have e4 : (0 : Int) ≤ (k : Int) := by omega
      refine ⟨some (.int (R.E q : Nat)), some (.int (k : Nat)), some (.loc (st.length + 1 + k)), ?_⟩
      simp only [bodyP, envT, ev_var, ev_int, ev_bl, ev_non, ev_str, ev_tup, ev_lst, ev_dnew, ev_disp, ev_bin, ev_neg, ev_cmp, ev_chain, ev_and, ev_or, ev_not, ev_ite, ev_ix, ev_sl, ev_rev, ev_call, ev_bi, ev_mt, ev_comp2, ev_nil, ev_cons, ev_ifn, ev_ifc,  ev_asg, ev_aug, ev_setIx, ev_augIx, ev_ex, ev_ret, ev_retN, ev_if, ev_for2, ev_brk, ev_cont, ev_pass, ev_snil, ev_scons, then_nx, then_rt, then_bk, then_ct, end_rt, end_nx, optR_some, finish_self, asg_nm, asg_tp, asg_nil, asg_cons,  truth_bl, truth_int, Res.bind_ok, safe_ok, List.getElem?_cons_zero, List.getElem?_cons_succ, List.set_cons_zero, List.set_cons_succ, List.length_cons, List.length_nil, Option.map_some, Option.bind_some, Option.bind_eq_bind, wipeE, if_true, if_false, Bool.false_eq_true, ite_true, ite_false, reduceIte, reduceCtorEq, b_add, b_sub, b_eq, b_ne, b_lt, b_le, b_gt, b_ge, u_abs, u_int, u_intb, u_tuple_l, u_tuple_t, u_len_l, u_len_t, eq_self, decide_true, decide_false, sides_ok h (kk + 1) _ hq, x_tup0, mark_at R hq, c2, e1, e2, e3, e4, x_at g1, nats_getD v _ (show R.E q < v.length by omega), nats_getD v _ (show R.L q < v.length by omega), times_at R hE, u_max, maxN, set_at g1 (show R.L q < (nats v).length by rw [nats_len]; omega), nats_set, TS_set]
      unfold relax
      rw [if_pos hk, if_pos h0]
    · have e3 : ¬ ((k - R.M q : Nat) : Int) = (k : Int) := by omega
      have hj : k - R.M q < k := by omega
      have g2 := TS_tab R st k [.lst (nats v)]
      have g3 := TS_row R st k (k - R.M q) hj [.lst (nats v)]
      refine ⟨some (.int (R.E q : Nat)), some (.int ((k - R.M q : Nat) : Int)), some (.loc (st.length + 1 + (k - R.M q))), ?_⟩
      simp only [bodyP, envT, ev_var, ev_int, ev_bl, ev_non, ev_str, ev_tup, ev_lst, ev_dnew, ev_disp, ev_bin, ev_neg, ev_cmp, ev_chain, ev_and, ev_or, ev_not, ev_ite, ev_ix, ev_sl, ev_rev, ev_call, ev_bi, ev_mt, ev_comp2, ev_nil, ev_cons, ev_ifn, ev_ifc,  ev_asg, ev_aug, ev_setIx, ev_augIx, ev_ex, ev_ret, ev_retN, ev_if, ev_for2, ev_brk, ev_cont, ev_pass, ev_snil, ev_scons, then_nx, then_rt, then_bk, then_ct, end_rt, end_nx, optR_some, finish_self, asg_nm, asg_tp, asg_nil, asg_cons,  truth_bl, truth_int, Res.bind_ok, safe_ok, List.getElem?_cons_zero, List.getElem?_cons_succ, List.set_cons_zero, List.set_cons_succ, List.length_cons, List.length_nil, Option.map_some, Option.bind_some, Option.bind_eq_bind, wipeE, if_true, if_false, Bool.false_eq_true, ite_true, ite_false, reduceIte, reduceCtorEq, b_add, b_sub, b_eq, b_ne, b_lt, b_le, b_gt, b_ge, u_abs, u_int, u_intb, u_tuple_l, u_tuple_t, u_len_l, u_len_t, eq_self, decide_true, decide_false, sides_ok h (kk + 1) _ hq, x_tup0, mark_at R hq, c2, e1, e2, e3, x_at g1, x_at g2, locs_at _ _ _ hj, x_at g3, row_at R _ _ hE, nats_getD v _ (show R.L q < v.length by omega), times_at R hE, u_max, maxN, set_at g1 (show R.L q < (nats v).length by rw [nats_len]; omega), nats_set, TS_set]
      unfold relax
      rw [if_pos hk, if_neg h0]
      rfl
  · have e2 : ¬ (0 : Int) ≤ ((k : Nat) : Int) - ((R.M q : Nat) : Int) := by omega
    refine ⟨some (.int (R.E q : Nat)), some (.int ((k : Int) - (R.M q : Nat))), x12, ?_⟩
    simp only [bodyP, envT, ev_var, ev_int, ev_bl, ev_non, ev_str, ev_tup, ev_lst, ev_dnew, ev_disp, ev_bin, ev_neg, ev_cmp, ev_chain, ev_and, ev_or, ev_not, ev_ite, ev_ix, ev_sl, ev_rev, ev_call, ev_bi, ev_mt, ev_comp2, ev_nil, ev_cons, ev_ifn, ev_ifc,  ev_asg, ev_aug, ev_setIx, ev_augIx, ev_ex, ev_ret, ev_retN, ev_if, ev_for2, ev_brk, ev_cont, ev_pass, ev_snil, ev_scons, then_nx, then_rt, then_bk, then_ct, end_rt, end_nx, optR_some, finish_self, asg_nm, asg_tp, asg_nil, asg_cons,  truth_bl, truth_int, Res.bind_ok, safe_ok, List.getElem?_cons_zero, List.getElem?_cons_succ, List.set_cons_zero, List.set_cons_succ, List.length_cons, List.length_nil, Option.map_some, Option.bind_some, Option.bind_eq_bind, wipeE, if_true, if_false, Bool.false_eq_true, ite_true, ite_false, reduceIte, reduceCtorEq, b_add, b_sub, b_eq, b_ne, b_lt, b_le, b_gt, b_ge, u_abs, u_int, u_intb, u_tuple_l, u_tuple_t, u_len_l, u_len_t, eq_self, decide_true, decide_false, sides_ok h (kk + 1) _ hq, x_tup0, mark_at R hq, c2, e2]
    unfold relax
    rw [if_neg hk]
end
/-! what a round does -/
theorem relax_at {R : RN} (hR : R.Ok) {k : Nat} {c : Nat → Nat} {v : List Nat} (hv : v.length = R.n) {q : Nat} (hq : q < R.np) (d : Nat) (hd : d ≠ R.L q) : (relax R k c v q).getD d 0 = v.getD d 0 := by
  unfold relax
  split
  · rw [getD_set _ _ _ _ (by rw [hv]; exact hR.l q hq), if_neg hd]
  · rfl
theorem relax_got {R : RN} (hR : R.Ok) {k : Nat} {c : Nat → Nat} {v : List Nat} (hv : v.length = R.n) {q : Nat} (hq : q < R.np) (hk : R.M q ≤ k) : (if R.M q = 0 then v.getD (R.E q) 0 else c q) + R.T (R.E q) ≤ (relax R k c v q).getD (R.L q) 0 := by
  unfold relax
  rw [if_pos hk, getD_set _ _ _ _ (by rw [hv]; exact hR.l q hq), if_pos rfl]; omega
/-- a row on the way: right for the deeds that are done -/
structure Half (R : RN) (k : Nat) (pre : List Nat) (v : List Nat) : Prop where
  len : v.length = R.n
  up : ∀ d, v.getD d 0 ≤ R.B k d
  done : ∀ d, d ∈ pre → v.getD d 0 = R.B k d
theorem cst_le (R : RN) (k : Nat) : ∀ q, q < R.np → 1 ≤ R.M q → R.M q ≤ k → cst R k q ≤ R.B (k - R.M q) (R.E q) := fun q _ _ _ => Nat.le_refl _
theorem half_step {R : RN} (hR : R.Ok) {k : Nat} {pre : List Nat} {v : List Nat} (hv : Half R k pre v) {q : Nat} (hq : q < R.np) (hL : R.L q ∉ pre) : Half R k pre (relax R k (cst R k) v q) :=
  ⟨by rw [relax_len]; exact hv.len, fun d => relax_up hR hv.len (cst_le R k) hv.up hq d, fun d hd => by rw [relax_at hR hv.len hq d (by rintro rfl; exact hL hd)]; exact hv.done d hd⟩
theorem half_done {R : RN} (hR : R.Ok) {k : Nat} {pre : List Nat} {v : List Nat} {d : Nat} (hv : Half R k pre v) (ht : ∀ q, q < R.np → R.M q = 0 → R.L q = d → R.E q ∈ pre)
    (hq : ∀ q, q < R.np → R.L q = d → R.M q ≤ k → (if R.M q = 0 then v.getD (R.E q) 0 else cst R k q) + R.T (R.E q) ≤ v.getD d 0) : Half R k (pre ++ [d]) v := by
  refine ⟨hv.len, hv.up, fun x hx => ?_⟩
  rcases List.mem_append.mp hx with hx | hx
  · exact hv.done x hx
  · rw [List.mem_singleton] at hx; subst hx
    refine Nat.le_antisymm (hv.up x) ?_
    rcases B_att hR k x with z | ⟨q, h1, h2, h3, h4⟩
    · omega
    · have g := hq q h1 h2 h3
      rw [h4]
      by_cases h0 : R.M q = 0
      · rw [if_pos h0, hv.done _ (ht q h1 h0 h2)] at g
        rw [h0, Nat.sub_zero]; exact g
      · rw [if_neg h0] at g
        exact g
def bodyD : List S := [.for_ (.nm 9) .val [(.call "places_ahead" [(.var 0), (.var 8)])] bodyP]
section
variable {R : RN} {as : List Arrow} (h : Net R as) (hR : R.Ok) (kk : Nat) (st : Store)
include h hR in
/-- all places ahead of a deed -/
theorem deed_step (many k : Nat) (order : List Nat) {pre : List Nat} {v : List Nat} (hv : Half R k pre v) {d : Nat} (hd : d < R.n) (hn : d ∉ pre) (ht : ∀ q, q < R.np → R.M q = 0 → R.L q = d → R.E q ∈ pre) (x9 x10 x11 x12 : Option D) :
    OkP (denSs (phi Pr (kk + 3)) bodyD (envT R as st many k order (some (.int (d : Nat))) x9 x10 x11 x12) (TS R st k ++ [.lst (nats v)])) fun fr t => ∃ v' y9 y10 y11 y12, fr = (.nx, envT R as st many k order (some (.int (d : Nat))) y9 y10 y11 y12) ∧ t = TS R st k ++ [.lst (nats v')] ∧ Half R k (pre ++ [d]) v' := by
  have L : OkP (loopF (.nm 9) (denSs (phi Pr (kk + 3)) bodyP) ((ahead as d).map fun q => D.int (q : Nat)) (envT R as st many k order (some (.int (d : Nat))) x9 x10 x11 x12) (TS R st k ++ [.lst (nats v)])) fun fr t => ∃ v' y9 y10 y11 y12, fr = (.nx, envT R as st many k order (some (.int (d : Nat))) y9 y10 y11 y12) ∧ t = TS R st k ++ [.lst (nats v')] ∧ Half R k (pre ++ [d]) v' := by
    refine loop_list (fun l1 r t => ∃ v' y9 y10 y11 y12, r = envT R as st many k order (some (.int (d : Nat))) y9 y10 y11 y12 ∧ t = TS R st k ++ [.lst (nats v')] ∧ Half R k pre v' ∧ ∀ q, q ∈ l1 → R.M q ≤ k → (if R.M q = 0 then v'.getD (R.E q) 0 else cst R k q) + R.T (R.E q) ≤ v'.getD d 0) ⟨v, x9, x10, x11, x12, rfl, rfl, hv, fun q hq => by cases hq⟩ (fun l1 q l2 r t hx hI => ?_) fun r t hI => ?_
    · obtain ⟨v1, y9, y10, y11, y12, rfl, rfl, hv1, hq1⟩ := hI
      have hm : q ∈ ahead as d := by rw [hx]; simp
      obtain ⟨hq, hl⟩ := (ahead_mem h).mp hm
      subst hl
      refine ⟨_, asg_nm _ _ _, ?_⟩
      obtain ⟨z10, z11, z12, e⟩ := place_step h hR kk st many k order hv1.len hq y10 y11 y12
      simp only [envT, List.set_cons_zero, List.set_cons_succ] at e ⊢
      rw [e, okP_ok]
      refine ⟨_, some (.int (q : Nat)), z10, z11, z12, rfl, rfl, half_step hR hv1 hq hn, fun p hp hk => ?_⟩
      have hge := relax_ge hR (k := k) (c := cst R k) hv1.len hq (R.L q)
      rcases List.mem_append.mp hp with hp | hp
      · obtain ⟨p1, p2⟩ := (ahead_mem h).mp (show p ∈ ahead as (R.L q) from by rw [hx]; simp [hp])
        have g := hq1 p hp hk
        by_cases h0 : R.M p = 0
        · have hne : R.E p ≠ R.L q := fun z => hn (z ▸ ht p p1 h0 p2)
          rw [if_pos h0] at g ⊢
          rw [relax_at hR hv1.len hq _ hne]; omega
        · rw [if_neg h0] at g ⊢; omega
      · rw [List.mem_singleton] at hp; subst hp
        have g := relax_got hR (c := cst R k) hv1.len hq hk
        by_cases h0 : R.M p = 0
        · have hne : R.E p ≠ R.L p := fun z => hn (z ▸ ht p hq h0 rfl)
          rw [if_pos h0] at g ⊢
          rw [relax_at hR hv1.len hq _ hne]; exact g
        · rw [if_neg h0] at g ⊢; exact g
    · obtain ⟨v1, y9, y10, y11, y12, rfl, rfl, hv1, hq1⟩ := hI
      exact ⟨v1, y9, y10, y11, y12, rfl, rfl, half_done hR hv1 ht fun q a b c => hq1 q ((ahead_mem h).mpr ⟨a, b⟩) c⟩
  have e : denSs (phi Pr (kk + 3)) bodyD (envT R as st many k order (some (.int (d : Nat))) x9 x10 x11 x12) (TS R st k ++ [.lst (nats v)]) = (loopF (.nm 9) (denSs (phi Pr (kk + 3)) bodyP) ((ahead as d).map fun q => D.int (q : Nat)) (envT R as st many k order (some (.int (d : Nat))) x9 x10 x11 x12) (TS R st k ++ [.lst (nats v)])).bind (andThen (phi Pr (kk + 3)) []) := by
    simp only [bodyD, envT, ev_var, ev_int, ev_bl, ev_non, ev_str, ev_tup, ev_lst, ev_dnew, ev_disp, ev_bin, ev_neg, ev_cmp, ev_chain, ev_and, ev_or, ev_not, ev_ite, ev_ix, ev_sl, ev_rev, ev_call, ev_bi, ev_mt, ev_comp2, ev_nil, ev_cons, ev_ifn, ev_ifc,  ev_asg, ev_aug, ev_setIx, ev_augIx, ev_ex, ev_ret, ev_retN, ev_if, ev_for2, ev_brk, ev_cont, ev_pass, ev_snil, ev_scons, then_nx, then_rt, then_bk, then_ct, end_rt, end_nx, optR_some, finish_self, asg_nm, asg_tp, asg_nil, asg_cons,  truth_bl, truth_int, Res.bind_ok, safe_ok, List.getElem?_cons_zero, List.getElem?_cons_succ, List.set_cons_zero, List.set_cons_succ, List.length_cons, List.length_nil, Option.map_some, Option.bind_some, Option.bind_eq_bind, wipeE, if_true, if_false, Bool.false_eq_true, ite_true, ite_false, reduceIte, reduceCtorEq, ahead_ok h (kk + 2), forK_tup]
  rw [e]
  refine OkP.bind L fun fr t hq => ?_
  obtain ⟨v', y9, y10, y11, y12, rfl, rfl, hh⟩ := hq
  rw [then_nx, ev_snil, okP_ok]
  exact ⟨v', y9, y10, y11, y12, rfl, rfl, hh⟩
include h hR in
/-- all deeds -/
theorem deeds_loop (many k : Nat) {order : List Nat} (hg : Good R order) (hall : ∀ d, d < R.n → d ∈ order) (x8 x9 x10 x11 x12 : Option D) :
    OkP (loopF (.nm 8) (denSs (phi Pr (kk + 3)) bodyD) (nats order) (envT R as st many k order x8 x9 x10 x11 x12) (TS R st k ++ [.lst (nats (List.replicate R.n 0))])) fun fr t => ∃ y8 y9 y10 y11 y12, fr = (.nx, envT R as st many k order y8 y9 y10 y11 y12) ∧ t = TS R st k ++ [.lst (nats (row R k))] := by
  refine loop_list (l := order) (e := fun i => D.int (i : Nat)) (fun l1 r t => ∃ v y8 y9 y10 y11 y12, r = envT R as st many k order y8 y9 y10 y11 y12 ∧ t = TS R st k ++ [.lst (nats v)] ∧ Half R k l1 v) ⟨List.replicate R.n 0, x8, x9, x10, x11, x12, rfl, rfl, by simp, fun d => ?_, fun d hd => by cases hd⟩ (fun l1 d l2 r t hx hI => ?_) fun r t hI => ?_
  · simp [List.getD_eq_getElem?_getD, List.getElem?_replicate]
    split <;> simp
  · obtain ⟨v, y8, y9, y10, y11, y12, rfl, rfl, hv⟩ := hI
    have hd : d < R.n := hg.lt d (by rw [hx]; simp)
    have hn : d ∉ l1 := fun z => by
      have := hg.nd
      rw [hx] at this
      exact (List.nodup_append.mp this).2.2 d z d (List.mem_cons_self ..) rfl
    refine ⟨_, asg_nm _ _ _, ?_⟩
    have hb := deed_step h hR kk st many k order hv hd hn (hg.topo l1 d l2 hx) y9 y10 y11 y12
    simp only [envT, List.set_cons_zero, List.set_cons_succ] at hb ⊢
    refine OkP.imp hb fun fr t q => ?_
    obtain ⟨v', z9, z10, z11, z12, rfl, rfl, hh⟩ := q
    exact ⟨v', some (.int (d : Nat)), z9, z10, z11, z12, rfl, rfl, hh⟩
  · obtain ⟨v, y8, y9, y10, y11, y12, rfl, rfl, hv⟩ := hI
    refine ⟨y8, y9, y10, y11, y12, rfl, ?_⟩
    rw [list_eqD hv.len fun d hd => hv.done d (hall d hd)]
    rfl
def bodyT : List S := [.asg (.nm 7) (.bin true .Mult (.lst false [(.int 0)]) (.ix (.var 0) (.int 1))), .for_ (.nm 8) .val [(.var 5)] bodyD, .ex (.mt .append (.var 6) [(.var 7)])]
theorem mul_zeros {p : Nat} (hp : p ≤ 1000) (st : Store) : binD true .Mult (.lst [.int 0]) (.int (p : Nat)) st = .ok (.loc st.length) (st ++ [.lst (nats (List.replicate p 0))]) := by
  have h2 : (List.replicate p [D.int 0]).flatten = nats (List.replicate p 0) := by
    rw [nats, List.map_replicate]
    induction p with
    | zero => rfl
    | succ p ih => rw [List.replicate_succ, List.flatten_cons, ih (by omega)]; rfl
  have h1 : (nats (List.replicate p 0)).length ≤ sizeLine := by simp [nats]; exact few hp
  have e : binD true .Mult (.lst [.int 0]) (.int (p : Nat)) st = if In63 ((p : Nat) : Int) then newL true (List.replicate ((p : Int)).toNat [D.int 0]).flatten st else .stuck := rfl
  rw [e, if_pos (in63 (by omega)), Int.toNat_natCast, h2, newL_t _ _ h1]
include h hR in
theorem turn_step (many k : Nat) (hm : k < 1000) {order : List Nat} (hg : Good R order) (hall : ∀ d, d < R.n → d ∈ order) (x7 x8 x9 x10 x11 x12 : Option D) :
    OkP (denSs (phi Pr (kk + 3)) bodyT [some (netD R.np R.n as), some (markD R), some (timesD R), some (.int (many : Nat)), some (.int (k : Nat)), some (.tup (nats order)), some (.loc st.length), x7, x8, x9, x10, x11, x12] (TS R st k)) fun fr t => ∃ y7 y8 y9 y10 y11 y12, fr = (.nx, [some (netD R.np R.n as), some (markD R), some (timesD R), some (.int (many : Nat)), some (.int (k : Nat)), some (.tup (nats order)), some (.loc st.length), y7, y8, y9, y10, y11, y12]) ∧ t = TS R st (k + 1) := by
  have c1 : 0 + 1 ≤ sizeLine := few (by decide)
  have e : denSs (phi Pr (kk + 3)) bodyT [some (netD R.np R.n as), some (markD R), some (timesD R), some (.int (many : Nat)), some (.int (k : Nat)), some (.tup (nats order)), some (.loc st.length), x7, x8, x9, x10, x11, x12] (TS R st k) = (loopF (.nm 8) (denSs (phi Pr (kk + 3)) bodyD) (nats order) (envT R as st many k order x8 x9 x10 x11 x12) (TS R st k ++ [.lst (nats (List.replicate R.n 0))])).bind (andThen (phi Pr (kk + 3)) [.ex (.mt .append (.var 6) [(.var 7)])]) := by
    simp only [bodyT, envT, ev_var, ev_int, ev_bl, ev_non, ev_str, ev_tup, ev_lst, ev_dnew, ev_disp, ev_bin, ev_neg, ev_cmp, ev_chain, ev_and, ev_or, ev_not, ev_ite, ev_ix, ev_sl, ev_rev, ev_call, ev_bi, ev_mt, ev_comp2, ev_nil, ev_cons, ev_ifn, ev_ifc,  ev_asg, ev_aug, ev_setIx, ev_augIx, ev_ex, ev_ret, ev_retN, ev_if, ev_for2, ev_brk, ev_cont, ev_pass, ev_snil, ev_scons, then_nx, then_rt, then_bk, then_ct, end_rt, end_nx, optR_some, finish_self, asg_nm, asg_tp, asg_nil, asg_cons,  truth_bl, truth_int, Res.bind_ok, safe_ok, List.getElem?_cons_zero, List.getElem?_cons_succ, List.set_cons_zero, List.set_cons_succ, List.length_cons, List.length_nil, Option.map_some, Option.bind_some, Option.bind_eq_bind, wipeE, if_true, if_false, Bool.false_eq_true, ite_true, ite_false, reduceIte, reduceCtorEq, newL_f, c1, net_1, mul_zeros (show R.n ≤ 1000 by have := h.n; omega), TS_len, forK_tup]
  rw [e]
  refine OkP.bind (deeds_loop h hR kk st many k hg hall x8 x9 x10 x11 x12) fun fr t hq => ?_
  obtain ⟨y8, y9, y10, y11, y12, rfl, rfl⟩ := hq
  have g2 := TS_tab R st k [.lst (nats (row R k))]
  have hl : (locs (st.length + 1) k).length < sizeLine := by simp [locs, sizeLine_eq]; omega
  simp only [envT, ev_var, ev_int, ev_bl, ev_non, ev_str, ev_tup, ev_lst, ev_dnew, ev_disp, ev_bin, ev_neg, ev_cmp, ev_chain, ev_and, ev_or, ev_not, ev_ite, ev_ix, ev_sl, ev_rev, ev_call, ev_bi, ev_mt, ev_comp2, ev_nil, ev_cons, ev_ifn, ev_ifc,  ev_asg, ev_aug, ev_setIx, ev_augIx, ev_ex, ev_ret, ev_retN, ev_if, ev_for2, ev_brk, ev_cont, ev_pass, ev_snil, ev_scons, then_nx, then_rt, then_bk, then_ct, end_rt, end_nx, optR_some, finish_self, asg_nm, asg_tp, asg_nil, asg_cons,  truth_bl, truth_int, Res.bind_ok, safe_ok, List.getElem?_cons_zero, List.getElem?_cons_succ, List.set_cons_zero, List.set_cons_succ, List.length_cons, List.length_nil, Option.map_some, Option.bind_some, Option.bind_eq_bind, wipeE, if_true, if_false, Bool.false_eq_true, ite_true, ite_false, reduceIte, reduceCtorEq, mtOk_loc g2 (m := .append) (by decide), app_at g2 hl, TS_more, okP_ok]
  exact ⟨some (.loc (st.length + 1 + k)), y8, y9, y10, y11, y12, rfl, trivial⟩
include h hR in
theorem table_ok (many : Nat) (hm : many ≤ 1000) : phi Pr (kk + 4) "begin_table" [netD R.np R.n as, markD R, timesD R, .int (many : Nat)] st = .ok (.loc st.length) (TS R st many) := by
  obtain ⟨order, es, hg, hall⟩ := sequence_ok h kk hR st
  rw [phi_def p_begin_table rfl]
  have c0 : 0 ≤ sizeLine := few (by decide)
  have L : OkP (loopF (.nm 4) (denSs (phi Pr (kk + 3)) bodyT) ((List.range many).map fun i => D.int (i : Nat)) [some (netD R.np R.n as), some (markD R), some (timesD R), some (.int (many : Nat)), none, some (.tup (nats order)), some (.loc st.length), none, none, none, none, none, none] (TS R st 0)) fun fr t => ∃ y4 y7 y8 y9 y10 y11 y12, fr = (.nx, [some (netD R.np R.n as), some (markD R), some (timesD R), some (.int (many : Nat)), y4, some (.tup (nats order)), some (.loc st.length), y7, y8, y9, y10, y11, y12]) ∧ t = TS R st many := by
    refine loop_list (fun l1 r t => ∃ y4 y7 y8 y9 y10 y11 y12, r = [some (netD R.np R.n as), some (markD R), some (timesD R), some (.int (many : Nat)), y4, some (.tup (nats order)), some (.loc st.length), y7, y8, y9, y10, y11, y12] ∧ t = TS R st l1.length) ⟨_, _, _, _, _, _, _, rfl, rfl⟩ (fun l1 x l2 r t hx hI => ?_) fun r t hI => ?_
    · obtain ⟨y4, y7, y8, y9, y10, y11, y12, rfl, rfl⟩ := hI
      have hxl : x = l1.length := by
        have h1 : (List.range many)[l1.length]? = some x := by rw [hx, List.getElem?_append_right (Nat.le_refl _), Nat.sub_self]; rfl
        obtain ⟨h2, h3⟩ := List.getElem?_eq_some_iff.mp h1
        simpa using h3.symm
      have hxm : x < many := List.mem_range.mp (by rw [hx]; simp)
      subst hxl
      refine ⟨_, asg_nm _ _ _, ?_⟩
      simp only [List.set_cons_zero, List.set_cons_succ]
      refine OkP.imp (turn_step h hR kk st many l1.length (by omega) hg hall y7 y8 y9 y10 y11 y12) fun fr t q => ?_
      obtain ⟨z7, z8, z9, z10, z11, z12, rfl, rfl⟩ := q
      exact ⟨some (.int (l1.length : Nat)), z7, z8, z9, z10, z11, z12, rfl, by simp⟩
    · obtain ⟨y4, y7, y8, y9, y10, y11, y12, rfl, rfl⟩ := hI
      exact ⟨y4, y7, y8, y9, y10, y11, y12, rfl, by simp⟩
  obtain ⟨fr, t, e, y4, y7, y8, y9, y10, y11, y12, rfl, rfl⟩ := OkP.ex L
  have e0 : TS R st 0 = st ++ [.lst []] := rfl
  rw [e0] at e
  show (denSs (phi Pr (kk + 3)) [.asg (.tp [(.nm 5), (.nm 6)]) (.tup [(.call "sequence" [(.var 0), (.var 1)]), (.lst true [])]), .for_ (.nm 4) .rng [(.var 3)] bodyT, .ret (.var 6)] [some (netD R.np R.n as), some (markD R), some (timesD R), some (.int (many : Nat)), none, none, none, none, none, none, none, none, none] st).bind (endOf st) = _
  simp only [ev_var, ev_int, ev_bl, ev_non, ev_str, ev_tup, ev_lst, ev_dnew, ev_disp, ev_bin, ev_neg, ev_cmp, ev_chain, ev_and, ev_or, ev_not, ev_ite, ev_ix, ev_sl, ev_rev, ev_call, ev_bi, ev_mt, ev_comp2, ev_nil, ev_cons, ev_ifn, ev_ifc,  ev_asg, ev_aug, ev_setIx, ev_augIx, ev_ex, ev_ret, ev_retN, ev_if, ev_for2, ev_brk, ev_cont, ev_pass, ev_snil, ev_scons, then_nx, then_rt, then_bk, then_ct, end_rt, end_nx, optR_some, finish_self, asg_nm, asg_tp, asg_nil, asg_cons,  truth_bl, truth_int, Res.bind_ok, safe_ok, List.getElem?_cons_zero, List.getElem?_cons_succ, List.set_cons_zero, List.set_cons_succ, List.length_cons, List.length_nil, Option.map_some, Option.bind_some, Option.bind_eq_bind, wipeE, if_true, if_false, Bool.false_eq_true, ite_true, ite_false, reduceIte, reduceCtorEq, es, newL_t, c0, c2, forK_rng _ _ _ _ _ (few hm), e]
  unfold WT.finish
  rw [if_neg (by simp [D.low])]
end
end Wk92

set_option maxRecDepth 100000
set_option maxHeartbeats 2000000
set_option linter.all false
namespace Wk92
open PySem WT Wring
/-! begin_rows, soon_run -/
theorem TS_tab0 (R : RN) (st : Store) (k : Nat) : (TS R st k)[st.length]? = some (.lst (locs (st.length + 1) k)) := by
  have := TS_tab R st k []; rwa [List.append_nil] at this
theorem TS_row0 (R : RN) (st : Store) (k j : Nat) (h : j < k) : (TS R st k)[st.length + 1 + j]? = some (.lst (nats (row R j))) := by
  have := TS_row R st k j h []; rwa [List.append_nil] at this
theorem locs_map (n k : Nat) : locs n k = (List.range k).map fun j => D.loc (n + j) := rfl
/-- rows, deed by deed -/
def rowsOf (R : RN) (k : Nat) : D := .tup ((List.range R.n).map fun d => .tup (nats ((List.range k).map fun j => R.B j d)))
theorem filter_all {α : Type} (l : List α) : l.filter (fun _ => true) = l := by simp
section
variable {R : RN} {as : List Arrow} (h : Net R as) (hR : R.Ok) (kk : Nat)
include h hR in
theorem rows_ok (st : Store) (m : Nat) (hm : m ≤ 1000) : phi Pr (kk + 5) "begin_rows" [netD R.np R.n as, markD R, timesD R, .int (m : Nat)] st = .ok (rowsOf R m) st := by
  rw [phi_def p_begin_rows rfl]
  have hn : R.n ≤ sizeLine := few (by have := h.n; omega)
  have c := ev_crng (F := phi Pr (kk + 4)) (elt := .bi false .tuple [(.comp false (.ix (.var 6) (.var 5)) (.nm 6) .val [(.var 4)] [] [6])]) (i := 5) (e := .ix (.var 0) (.int 1)) (own := [5]) (r := [some (netD R.np R.n as), some (markD R), some (timesD R), some (.int (m : Nat)), some (.loc st.length), none, none]) (st := TS R st m) R.n (fun d => .tup (nats ((List.range m).map fun j => R.B j d))) (by
      simp only [ev_var, ev_int, ev_bl, ev_non, ev_str, ev_tup, ev_lst, ev_dnew, ev_disp, ev_bin, ev_neg, ev_cmp, ev_chain, ev_and, ev_or, ev_not, ev_ite, ev_ix, ev_sl, ev_rev, ev_call, ev_bi, ev_mt, ev_comp2, ev_nil, ev_cons, ev_ifn, ev_ifc,  ev_asg, ev_aug, ev_setIx, ev_augIx, ev_ex, ev_ret, ev_retN, ev_if, ev_for2, ev_brk, ev_cont, ev_pass, ev_snil, ev_scons, then_nx, then_rt, then_bk, then_ct, end_rt, end_nx, optR_some, finish_self, asg_nm, asg_tp, asg_nil, asg_cons,  truth_bl, truth_int, Res.bind_ok, safe_ok, List.getElem?_cons_zero, List.getElem?_cons_succ, List.set_cons_zero, List.set_cons_succ, List.length_cons, List.length_nil, Option.map_some, Option.bind_some, Option.bind_eq_bind, wipeE, if_true, if_false, Bool.false_eq_true, ite_true, ite_false, reduceIte, reduceCtorEq, net_1]) hn fun d hd => by
    simp only [ev_var, ev_int, ev_bl, ev_non, ev_str, ev_tup, ev_lst, ev_dnew, ev_disp, ev_bin, ev_neg, ev_cmp, ev_chain, ev_and, ev_or, ev_not, ev_ite, ev_ix, ev_sl, ev_rev, ev_call, ev_bi, ev_mt, ev_comp2, ev_nil, ev_cons, ev_ifn, ev_ifc,  ev_asg, ev_aug, ev_setIx, ev_augIx, ev_ex, ev_ret, ev_retN, ev_if, ev_for2, ev_brk, ev_cont, ev_pass, ev_snil, ev_scons, then_nx, then_rt, then_bk, then_ct, end_rt, end_nx, optR_some, finish_self, asg_nm, asg_tp, asg_nil, asg_cons,  truth_bl, truth_int, Res.bind_ok, safe_ok, List.getElem?_cons_zero, List.getElem?_cons_succ, List.set_cons_zero, List.set_cons_succ, List.length_cons, List.length_nil, Option.map_some, Option.bind_some, Option.bind_eq_bind, wipeE, if_true, if_false, Bool.false_eq_true, ite_true, ite_false, reduceIte, reduceCtorEq]
    rw [compK_at (List.range m) (fun j => D.loc (st.length + 1 + j)) (fun _ => true) (fun j => .int (R.B j d : Nat)) (TS_tab0 R st m) fun j hj => ⟨_, asg_nm _ _ _, by simp only [ev_var, ev_int, ev_bl, ev_non, ev_str, ev_tup, ev_lst, ev_dnew, ev_disp, ev_bin, ev_neg, ev_cmp, ev_chain, ev_and, ev_or, ev_not, ev_ite, ev_ix, ev_sl, ev_rev, ev_call, ev_bi, ev_mt, ev_comp2, ev_nil, ev_cons, ev_ifn, ev_ifc,  ev_asg, ev_aug, ev_setIx, ev_augIx, ev_ex, ev_ret, ev_retN, ev_if, ev_for2, ev_brk, ev_cont, ev_pass, ev_snil, ev_scons, then_nx, then_rt, then_bk, then_ct, end_rt, end_nx, optR_some, finish_self, asg_nm, asg_tp, asg_nil, asg_cons,  truth_bl, truth_int, Res.bind_ok, safe_ok, List.getElem?_cons_zero, List.getElem?_cons_succ, List.set_cons_zero, List.set_cons_succ, List.length_cons, List.length_nil, Option.map_some, Option.bind_some, Option.bind_eq_bind, wipeE, if_true, if_false, Bool.false_eq_true, ite_true, ite_false, reduceIte, reduceCtorEq], fun _ => by
      simp only [ev_var, ev_int, ev_bl, ev_non, ev_str, ev_tup, ev_lst, ev_dnew, ev_disp, ev_bin, ev_neg, ev_cmp, ev_chain, ev_and, ev_or, ev_not, ev_ite, ev_ix, ev_sl, ev_rev, ev_call, ev_bi, ev_mt, ev_comp2, ev_nil, ev_cons, ev_ifn, ev_ifc,  ev_asg, ev_aug, ev_setIx, ev_augIx, ev_ex, ev_ret, ev_retN, ev_if, ev_for2, ev_brk, ev_cont, ev_pass, ev_snil, ev_scons, then_nx, then_rt, then_bk, then_ct, end_rt, end_nx, optR_some, finish_self, asg_nm, asg_tp, asg_nil, asg_cons,  truth_bl, truth_int, Res.bind_ok, safe_ok, List.getElem?_cons_zero, List.getElem?_cons_succ, List.set_cons_zero, List.set_cons_succ, List.length_cons, List.length_nil, Option.map_some, Option.bind_some, Option.bind_eq_bind, wipeE, if_true, if_false, Bool.false_eq_true, ite_true, ite_false, reduceIte, reduceCtorEq, x_at (TS_row0 R st m j (List.mem_range.mp hj)), row_at R _ _ hd]⟩]
    rw [filter_all, newL_f _ _ (by simp; exact few hm)]
    simp only [ev_var, ev_int, ev_bl, ev_non, ev_str, ev_tup, ev_lst, ev_dnew, ev_disp, ev_bin, ev_neg, ev_cmp, ev_chain, ev_and, ev_or, ev_not, ev_ite, ev_ix, ev_sl, ev_rev, ev_call, ev_bi, ev_mt, ev_comp2, ev_nil, ev_cons, ev_ifn, ev_ifc,  ev_asg, ev_aug, ev_setIx, ev_augIx, ev_ex, ev_ret, ev_retN, ev_if, ev_for2, ev_brk, ev_cont, ev_pass, ev_snil, ev_scons, then_nx, then_rt, then_bk, then_ct, end_rt, end_nx, optR_some, finish_self, asg_nm, asg_tp, asg_nil, asg_cons,  truth_bl, truth_int, Res.bind_ok, safe_ok, List.getElem?_cons_zero, List.getElem?_cons_succ, List.set_cons_zero, List.set_cons_succ, List.length_cons, List.length_nil, Option.map_some, Option.bind_some, Option.bind_eq_bind, wipeE, if_true, if_false, Bool.false_eq_true, ite_true, ite_false, reduceIte, reduceCtorEq, b_add, b_sub, b_eq, b_ne, b_lt, b_le, b_gt, b_ge, u_abs, u_int, u_intb, u_tuple_l, u_tuple_t, u_len_l, u_len_t, eq_self, decide_true, decide_false]
    simp [nats]
  show (denSs (phi Pr (kk + 4)) [.asg (.nm 4) (.call "begin_table" [(.var 0), (.var 1), (.var 2), (.var 3)]), .ret (.bi false .tuple [(.comp false (.bi false .tuple [(.comp false (.ix (.var 6) (.var 5)) (.nm 6) .val [(.var 4)] [] [6])]) (.nm 5) .rng [(.ix (.var 0) (.int 1))] [] [5])])] [some (netD R.np R.n as), some (markD R), some (timesD R), some (.int (m : Nat)), none, none, none] st).bind (endOf st) = _
  simp only [ev_var, ev_int, ev_bl, ev_non, ev_str, ev_tup, ev_lst, ev_dnew, ev_disp, ev_bin, ev_neg, ev_cmp, ev_chain, ev_and, ev_or, ev_not, ev_ite, ev_ix, ev_sl, ev_rev, ev_call, ev_bi, ev_mt, ev_nil, ev_cons, ev_ifn, ev_ifc,  ev_asg, ev_aug, ev_setIx, ev_augIx, ev_ex, ev_ret, ev_retN, ev_if, ev_for2, ev_brk, ev_cont, ev_pass, ev_snil, ev_scons, then_nx, then_rt, then_bk, then_ct, end_rt, end_nx, optR_some, finish_self, asg_nm, asg_tp, asg_nil, asg_cons,  truth_bl, truth_int, Res.bind_ok, safe_ok, List.getElem?_cons_zero, List.getElem?_cons_succ, List.set_cons_zero, List.set_cons_succ, List.length_cons, List.length_nil, Option.map_some, Option.bind_some, Option.bind_eq_bind, wipeE, if_true, if_false, Bool.false_eq_true, ite_true, ite_false, reduceIte, reduceCtorEq, table_ok h hR kk st m hm, c, b_add, b_sub, b_eq, b_ne, b_lt, b_le, b_gt, b_ge, u_abs, u_int, u_intb, u_tuple_l, u_tuple_t, u_len_l, u_len_t, eq_self, decide_true, decide_false]
  refine finish_app ?_
  simp only [D.low]
  exact lowL_mem fun x hx => by
    obtain ⟨d, _, rfl⟩ := List.mem_map.mp hx
    simp only [D.low]; exact lowL_nats _ _
/-! the last row, till it lies behind -/
theorem row_ne (hn : 0 < R.n) (k : Nat) : row R k ≠ [] := by
  intro z
  have := congrArg List.length z
  simp [row] at this; omega
theorem last_ix (R : RN) (st : Store) (m : Nat) (hm : 0 < m) : ixD (.loc st.length) (.int (-1)) (TS R st m) = .ok (.loc (st.length + 1 + (m - 1))) (TS R st m) := by
  rw [x_last (TS_tab0 R st m) (by simp [locs]; exact hm)]
  have e : (locs (st.length + 1) m).length - 1 = m - 1 := by simp [locs]
  rw [e, locs_at _ _ _ (by omega)]; rfl
def condS : E := .cmp .LtE (.bi false .min [(.ix (.call "begin_table" [(.var 0), (.var 1), (.var 2), (.var 4)]) (.neg (.int 1)))]) (.var 3)
/-- all beginnings at the last turn lie behind u -/
def Past (R : RN) (m u : Nat) : Prop := ∀ d, d < R.n → u < R.B (m - 1) d
include h hR in
theorem cond_ok (hn : 0 < R.n) (st : Store) (m u : Nat) (h0 : 0 < m) (hm : m ≤ 1000) (x5 x6 x7 x8 : Option D) : ∃ b : Bool, den (phi Pr (kk + 4)) condS [some (netD R.np R.n as), some (markD R), some (timesD R), some (.int (u : Nat)), some (.int (m : Nat)), x5, x6, x7, x8] st = .ok (.bl b) (TS R st m) ∧ (b = true → m ≤ 2 * u + 2) ∧ (b = false → Past R m u) := by
  have g := TS_row0 R st m (m - 1) (by omega)
  obtain ⟨w, e, hw, hmin⟩ := min_nats (view_at g) (row_ne hn (m - 1)) false
  refine ⟨decide ((w : Int) ≤ (u : Nat)), ?_, fun hb => ?_, fun hb => ?_⟩
  · simp only [condS, ev_var, ev_int, ev_bl, ev_non, ev_str, ev_tup, ev_lst, ev_dnew, ev_disp, ev_bin, ev_neg, ev_cmp, ev_chain, ev_and, ev_or, ev_not, ev_ite, ev_ix, ev_sl, ev_rev, ev_call, ev_bi, ev_mt, ev_comp2, ev_nil, ev_cons, ev_ifn, ev_ifc,  ev_asg, ev_aug, ev_setIx, ev_augIx, ev_ex, ev_ret, ev_retN, ev_if, ev_for2, ev_brk, ev_cont, ev_pass, ev_snil, ev_scons, then_nx, then_rt, then_bk, then_ct, end_rt, end_nx, optR_some, finish_self, asg_nm, asg_tp, asg_nil, asg_cons,  truth_bl, truth_int, Res.bind_ok, safe_ok, List.getElem?_cons_zero, List.getElem?_cons_succ, List.set_cons_zero, List.set_cons_succ, List.length_cons, List.length_nil, Option.map_some, Option.bind_some, Option.bind_eq_bind, wipeE, if_true, if_false, Bool.false_eq_true, ite_true, ite_false, reduceIte, reduceCtorEq, table_ok h hR kk st m hm, last_ix R st m h0, e, b_add, b_sub, b_eq, b_ne, b_lt, b_le, b_gt, b_ge, u_abs, u_int, u_intb, u_tuple_l, u_tuple_t, u_len_l, u_len_t, eq_self, decide_true, decide_false]
  · have hwu : w ≤ u := by have := of_decide_eq_true hb; omega
    unfold row at hw
    obtain ⟨d, hd, rfl⟩ := List.mem_map.mp hw
    have := B_grow hR (m - 1) d (List.mem_range.mp hd)
    omega
  · intro d hd
    have hwu : ¬ w ≤ u := by have := of_decide_eq_false hb; omega
    have := hmin (R.B (m - 1) d) (List.mem_map.mpr ⟨d, List.mem_range.mpr hd, rfl⟩)
    omega
include h hR in
theorem while_ok (hn : 0 < R.n) (st : Store) (u : Nat) (hu : u ≤ 100) : OkP (denS (phi Pr (kk + 4)) (.loop condS [.asg (.nm 4) (.bin false .Mult (.int 2) (.var 4))]) [some (netD R.np R.n as), some (markD R), some (timesD R), some (.int (u : Nat)), some (.int ((1 : Nat) : Int)), none, none, none, none] st) fun fr t => ∃ m g, fr = (.nx, [some (netD R.np R.n as), some (markD R), some (timesD R), some (.int (u : Nat)), some (.int (m : Nat)), none, none, none, none]) ∧ t = st ++ g ∧ 0 < m ∧ m ≤ 1000 ∧ Past R m u := by
  rw [ev_loop]
  refine loop_inv (fun w r t => ∃ m g, r = [some (netD R.np R.n as), some (markD R), some (timesD R), some (.int (u : Nat)), some (.int (m : Nat)), none, none, none, none] ∧ t = st ++ g ∧ 0 < m ∧ m ≤ 4 * u + 4 ∧ w = 4 * u + 5 - m) (m := 4 * u + 4) ⟨1, [], rfl, (List.append_nil st).symm, by omega, by omega, by omega⟩ fun w r t hI => ?_
  obtain ⟨m, g, rfl, rfl, h0, hm, rfl⟩ := hI
  obtain ⟨b, e, h1, h2⟩ := cond_ok h hR kk hn (st ++ g) m u h0 (by omega) none none none none
  rw [e]
  have ts : TS R (st ++ g) m = st ++ (g ++ (.lst (locs ((st ++ g).length + 1) m) :: (List.range m).map fun j => Ob.lst (nats (row R j)))) := by unfold TS; rw [List.append_assoc]
  cases b with
  | true =>
    have e2 : (2 : Int) * (m : Int) = ((2 * m : Nat) : Int) := by omega
    have l2 : (2 : Int).natAbs < 2 ^ 40 := by decide
    simp only [ev_var, ev_int, ev_bl, ev_non, ev_str, ev_tup, ev_lst, ev_dnew, ev_disp, ev_bin, ev_neg, ev_cmp, ev_chain, ev_and, ev_or, ev_not, ev_ite, ev_ix, ev_sl, ev_rev, ev_call, ev_bi, ev_mt, ev_comp2, ev_nil, ev_cons, ev_ifn, ev_ifc,  ev_asg, ev_aug, ev_setIx, ev_augIx, ev_ex, ev_ret, ev_retN, ev_if, ev_for2, ev_brk, ev_cont, ev_pass, ev_snil, ev_scons, then_nx, then_rt, then_bk, then_ct, end_rt, end_nx, optR_some, finish_self, asg_nm, asg_tp, asg_nil, asg_cons,  truth_bl, truth_int, Res.bind_ok, safe_ok, List.getElem?_cons_zero, List.getElem?_cons_succ, List.set_cons_zero, List.set_cons_succ, List.length_cons, List.length_nil, Option.map_some, Option.bind_some, Option.bind_eq_bind, wipeE, if_true, if_false, Bool.false_eq_true, ite_true, ite_false, reduceIte, reduceCtorEq, okP_ok, b_mul _ (.inl l2), e2]
    have := h1 rfl
    refine ⟨4 * u + 5 - 2 * m, by omega, 2 * m, _, rfl, ts, by omega, by omega, rfl⟩
  | false =>
    simp only [ev_var, ev_int, ev_bl, ev_non, ev_str, ev_tup, ev_lst, ev_dnew, ev_disp, ev_bin, ev_neg, ev_cmp, ev_chain, ev_and, ev_or, ev_not, ev_ite, ev_ix, ev_sl, ev_rev, ev_call, ev_bi, ev_mt, ev_comp2, ev_nil, ev_cons, ev_ifn, ev_ifc,  ev_asg, ev_aug, ev_setIx, ev_augIx, ev_ex, ev_ret, ev_retN, ev_if, ev_for2, ev_brk, ev_cont, ev_pass, ev_snil, ev_scons, then_nx, then_rt, then_bk, then_ct, end_rt, end_nx, optR_some, finish_self, asg_nm, asg_tp, asg_nil, asg_cons,  truth_bl, truth_int, Res.bind_ok, safe_ok, List.getElem?_cons_zero, List.getElem?_cons_succ, List.set_cons_zero, List.set_cons_succ, List.length_cons, List.length_nil, Option.map_some, Option.bind_some, Option.bind_eq_bind, wipeE, if_true, if_false, Bool.false_eq_true, ite_true, ite_false, reduceIte, reduceCtorEq, okP_ok]
    exact ⟨m, _, rfl, ts, h0, by omega, h2 rfl⟩
end
/-! the beginnings till u -/
def prI (y : Nat × Nat) : List Int := [(y.1 : Int), (y.2 : Int)]
theorem prI_inj (a b : Nat × Nat) (h : prI a = prI b) : a = b := by
  obtain ⟨a1, a2⟩ := a; obtain ⟨b1, b2⟩ := b
  simp only [prI, List.cons.injEq] at h
  rw [Prod.mk.injEq]; omega
def prD (l : List (Nat × Nat)) : List D := l.map (tupI prI)
theorem prD_app (a b : List (Nat × Nat)) : prD (a ++ b) = prD a ++ prD b := by simp [prD]
def turnOf (R : RN) (u k : Nat) : List (Nat × Nat) := (List.range R.n).flatMap fun d => oneOf R u k d
theorem flat_if {α β : Type} (p : α → Bool) (g : α → β) (l : List α) : (l.filter p).map g = l.flatMap fun x => if p x = true then [g x] else [] := by
  induction l with
  | nil => rfl
  | cons x l ih =>
    rw [List.flatMap_cons, ← ih]
    by_cases h : p x = true
    · rw [List.filter_cons_of_pos h, if_pos h]; rfl
    · rw [List.filter_cons_of_neg h, if_neg h]; rfl
theorem turn_list (R : RN) (u k : Nat) : (((List.range R.n).filter fun d => decide (R.B k d ≤ u)).map fun d => D.tup [.int (R.B k d : Nat), .int (d : Nat)]) = prD (turnOf R u k) := by
  rw [flat_if]
  unfold turnOf prD
  rw [List.map_flatMap]
  congr 1
  funext d
  unfold oneOf
  by_cases h : R.B k d ≤ u
  · rw [if_pos (by simpa using h), if_pos h]; rfl
  · rw [if_neg (by simpa using h), if_neg h]; rfl
theorem turn_few (R : RN) (u k : Nat) : (turnOf R u k).length ≤ R.n := by
  have := congrArg List.length (turn_list R u k)
  rw [List.length_map, prD, List.length_map] at this
  rw [← this]
  have := List.length_filter_le (fun d => decide (R.B k d ≤ u)) (List.range R.n)
  rwa [List.length_range] at this
theorem turns_few (R : RN) (u : Nat) (l : List Nat) : (l.flatMap (turnOf R u)).length ≤ l.length * R.n := by
  induction l with
  | nil => simp
  | cons x l ih =>
    have := turn_few R u x
    simp only [List.flatMap_cons, List.length_append, List.length_cons, Nat.add_mul, Nat.one_mul]; omega
def due (R : RN) (m u : Nat) : List Nat := (srt prI (byDeed R m u)).map (·.2)
theorem byTurn_eq (R : RN) (m u : Nat) : byTurn R m u = (List.range m).flatMap (turnOf R u) := rfl
theorem due_turn (R : RN) (m u : Nat) : (srt prI (byTurn R m u)).map (·.2) = due R m u := by
  unfold due
  rw [srt_same prI prI_inj (by_perm m u)]
section
variable {R : RN} {as : List Arrow} (h : Net R as) (hR : R.Ok) (kk : Nat)
def turnBody : List S := [.asg (.nm 5) (.bin false .Add (.var 5) (.comp false (.tup [(.ix (.var 6) (.var 7)), (.var 7)]) (.nm 7) .rng [(.ix (.var 0) (.int 1))] [(.cmp .LtE (.ix (.var 6) (.var 7)) (.var 3))] [7]))]
include h hR in
theorem gather_ok (st : Store) (m u : Nat) (hm : m ≤ 1000) (x6 x7 x8 : Option D) : OkP (limR fun n => loopL (.nm 6) (denSs (phi Pr (kk + 4)) turnBody) (.val (.loc st.length)) n 0 [some (netD R.np R.n as), some (markD R), some (timesD R), some (.int (u : Nat)), some (.int (m : Nat)), some (.lst (prD [])), x6, x7, x8] (TS R st m)) fun fr t => ∃ y6 y7 y8, fr = (.nx, [some (netD R.np R.n as), some (markD R), some (timesD R), some (.int (u : Nat)), some (.int (m : Nat)), some (.lst (prD (byTurn R m u))), y6, y7, y8]) ∧ t = TS R st m := by
  have hn := h.n
  have hnn : R.n ≤ sizeLine := few (by omega)
  refine loopL_list (l := List.range m) (e := fun j => D.loc (st.length + 1 + j)) (fun l1 r t => ∃ y6 y7 y8, r = [some (netD R.np R.n as), some (markD R), some (timesD R), some (.int (u : Nat)), some (.int (m : Nat)), some (.lst (prD (l1.flatMap (turnOf R u)))), y6, y7, y8] ∧ t = TS R st m) ⟨_, _, _, rfl, rfl⟩ (fun l1 r t hI => ?_) (fun l1 j l2 r t hx hI => ?_) fun r t hI => ?_
  · obtain ⟨_, _, _, _, rfl⟩ := hI
    exact src_at (TS_tab0 R st m)
  · obtain ⟨y6, y7, y8, rfl, rfl⟩ := hI
    have hj : j < m := List.mem_range.mp (by rw [hx]; simp)
    have hl1 : l1.length ≤ m := by
      have := congrArg List.length hx
      simp only [List.length_range, List.length_append, List.length_cons] at this; omega
    refine ⟨_, asg_nm _ _ _, ?_⟩
    have g := TS_row0 R st m j hj
    have c2 : 0 + 1 + 1 ≤ sizeLine := few (by decide)
    have c := ev_crngf (F := phi Pr (kk + 4)) (elt := .tup [(.ix (.var 6) (.var 7)), (.var 7)]) (t := .cmp .LtE (.ix (.var 6) (.var 7)) (.var 3)) (i := 7) (e := .ix (.var 0) (.int 1)) (own := [7]) (r := [some (netD R.np R.n as), some (markD R), some (timesD R), some (.int (u : Nat)), some (.int (m : Nat)), some (.lst (prD (l1.flatMap (turnOf R u)))), some (.loc (st.length + 1 + j)), y7, y8]) (st := TS R st m) R.n (fun d => decide (R.B j d ≤ u)) (fun d => .tup [.int (R.B j d : Nat), .int (d : Nat)]) (by
        simp only [ev_var, ev_int, ev_bl, ev_non, ev_str, ev_tup, ev_lst, ev_dnew, ev_disp, ev_bin, ev_neg, ev_cmp, ev_chain, ev_and, ev_or, ev_not, ev_ite, ev_ix, ev_sl, ev_rev, ev_call, ev_bi, ev_mt, ev_comp2, ev_nil, ev_cons, ev_ifn, ev_ifc,  ev_asg, ev_aug, ev_setIx, ev_augIx, ev_ex, ev_ret, ev_retN, ev_if, ev_for2, ev_brk, ev_cont, ev_pass, ev_snil, ev_scons, then_nx, then_rt, then_bk, then_ct, end_rt, end_nx, optR_some, finish_self, asg_nm, asg_tp, asg_nil, asg_cons,  truth_bl, truth_int, Res.bind_ok, safe_ok, List.getElem?_cons_zero, List.getElem?_cons_succ, List.set_cons_zero, List.set_cons_succ, List.length_cons, List.length_nil, Option.map_some, Option.bind_some, Option.bind_eq_bind, wipeE, if_true, if_false, Bool.false_eq_true, ite_true, ite_false, reduceIte, reduceCtorEq, net_1]) hnn fun d hd => by
      simp only [ev_var, ev_int, ev_bl, ev_non, ev_str, ev_tup, ev_lst, ev_dnew, ev_disp, ev_bin, ev_neg, ev_cmp, ev_chain, ev_and, ev_or, ev_not, ev_ite, ev_ix, ev_sl, ev_rev, ev_call, ev_bi, ev_mt, ev_comp2, ev_nil, ev_cons, ev_ifn, ev_ifc,  ev_asg, ev_aug, ev_setIx, ev_augIx, ev_ex, ev_ret, ev_retN, ev_if, ev_for2, ev_brk, ev_cont, ev_pass, ev_snil, ev_scons, then_nx, then_rt, then_bk, then_ct, end_rt, end_nx, optR_some, finish_self, asg_nm, asg_tp, asg_nil, asg_cons,  truth_bl, truth_int, Res.bind_ok, safe_ok, List.getElem?_cons_zero, List.getElem?_cons_succ, List.set_cons_zero, List.set_cons_succ, List.length_cons, List.length_nil, Option.map_some, Option.bind_some, Option.bind_eq_bind, wipeE, if_true, if_false, Bool.false_eq_true, ite_true, ite_false, reduceIte, reduceCtorEq, x_at g, row_at R _ _ hd, b_add, b_sub, b_eq, b_ne, b_lt, b_le, b_gt, b_ge, u_abs, u_int, u_intb, u_tuple_l, u_tuple_t, u_len_l, u_len_t, eq_self, decide_true, decide_false, c2]
      refine ⟨?_, fun _ => trivial⟩
      congr 1
      rw [decide_eq_decide]; omega
    rw [turn_list] at c
    have hs : (prD (l1.flatMap (turnOf R u))).length + (prD (turnOf R u j)).length ≤ sizeLine := by
      have h1 := turns_few R u l1
      have h2 := turn_few R u j
      have h3 : l1.length * R.n ≤ 1000 * 20 := Nat.mul_le_mul (by omega) hn
      simp only [prD, List.length_map, sizeLine_eq]; omega
    simp only [turnBody, ev_var, ev_int, ev_bl, ev_non, ev_str, ev_tup, ev_lst, ev_dnew, ev_disp, ev_bin, ev_neg, ev_cmp, ev_chain, ev_and, ev_or, ev_not, ev_ite, ev_ix, ev_sl, ev_rev, ev_call, ev_bi, ev_mt, ev_nil, ev_cons, ev_ifn, ev_ifc,  ev_asg, ev_aug, ev_setIx, ev_augIx, ev_ex, ev_ret, ev_retN, ev_if, ev_for2, ev_brk, ev_cont, ev_pass, ev_snil, ev_scons, then_nx, then_rt, then_bk, then_ct, end_rt, end_nx, optR_some, finish_self, asg_nm, asg_tp, asg_nil, asg_cons,  truth_bl, truth_int, Res.bind_ok, safe_ok, List.getElem?_cons_zero, List.getElem?_cons_succ, List.set_cons_zero, List.set_cons_succ, List.length_cons, List.length_nil, Option.map_some, Option.bind_some, Option.bind_eq_bind, wipeE, if_true, if_false, Bool.false_eq_true, ite_true, ite_false, reduceIte, reduceCtorEq, c, b_lst _ _ _ hs, ← prD_app, okP_ok]
    refine ⟨some (.loc (st.length + 1 + j)), y7, y8, ?_, trivial⟩
    rw [List.flatMap_append]
    simp
  · obtain ⟨y6, y7, y8, rfl, rfl⟩ := hI
    exact ⟨y6, y7, y8, rfl, rfl⟩
include h hR in
theorem soon_ok (hn : 0 < R.n) (st : Store) (u : Nat) (hu : u ≤ 100) : ∃ m, 0 < m ∧ m ≤ 1000 ∧ Past R m u ∧ phi Pr (kk + 5) "soon_run" [netD R.np R.n as, markD R, timesD R, .int (u : Nat)] st = .ok (.tup (nats (due R m u))) st := by
  obtain ⟨fr, t, e, m, g, rfl, rfl, h0, hm, hp⟩ := OkP.ex (while_ok h hR kk hn st u hu)
  obtain ⟨fr, t, e2, y6, y7, y8, rfl, rfl⟩ := OkP.ex (gather_ok h hR kk (st ++ g) m u hm none none none)
  refine ⟨m, h0, hm, hp, ?_⟩
  rw [phi_def p_soon_run rfl]
  have c0 : 0 ≤ sizeLine := few (by decide)
  have hl : (byTurn R m u).length ≤ sizeLine := by
    rw [byTurn_eq]
    have h1 := turns_few R u (List.range m)
    rw [List.length_range] at h1
    have h3 : m * R.n ≤ 1000 * 20 := Nat.mul_le_mul hm h.n
    rw [sizeLine_eq]; omega
  have hs := sorted_tup prI (byTurn R m u) (fun x _ => by simp [prI]) hl (TS R (st ++ g) m)
  have e' : denS (phi Pr (kk + 4)) (.loop condS [.asg (.nm 4) (.bin false .Mult (.int 2) (.var 4))]) [some (netD R.np R.n as), some (markD R), some (timesD R), some (.int (u : Nat)), some (.int 1), none, none, none, none] st = .ok (.nx, [some (netD R.np R.n as), some (markD R), some (timesD R), some (.int (u : Nat)), some (.int (m : Nat)), none, none, none, none]) (st ++ g) := e
  have e2' : (limR fun n => loopL (.nm 6) (denSs (phi Pr (kk + 4)) turnBody) (.val (.loc (st ++ g).length)) n 0 [some (netD R.np R.n as), some (markD R), some (timesD R), some (.int (u : Nat)), some (.int (m : Nat)), some (.lst []), none, none, none] (TS R (st ++ g) m)) = .ok (.nx, [some (netD R.np R.n as), some (markD R), some (timesD R), some (.int (u : Nat)), some (.int (m : Nat)), some (.lst ((byTurn R m u).map (tupI prI))), y6, y7, y8]) (TS R (st ++ g) m) := e2
  have hz : (srt prI (byTurn R m u)).length ≤ sizeLine := by rw [(srt_perm prI _).length_eq]; exact hl
  have ef : ∀ d, D.low d st.length = true → WT.finish st d (TS R (st ++ g) m) = .ok d st := fun d hd => by
    unfold TS; rw [List.append_assoc]; exact finish_app hd
  show (denSs (phi Pr (kk + 4)) [.asg (.nm 4) (.int 1), .loop condS [.asg (.nm 4) (.bin false .Mult (.int 2) (.var 4))], .asg (.nm 5) (.lst false []), .for_ (.nm 6) .val [(.call "begin_table" [(.var 0), (.var 1), (.var 2), (.var 4)])] turnBody, .ret (.bi false .tuple [(.comp false (.var 7) (.tp [(.nm 8), (.nm 7)]) .val [(.bi false .sorted [(.var 5)])] [] [8, 7])])] [some (netD R.np R.n as), some (markD R), some (timesD R), some (.int (u : Nat)), none, none, none, none, none] st).bind (endOf st) = _
  simp only [ev_var, ev_int, ev_bl, ev_non, ev_str, ev_tup, ev_lst, ev_dnew, ev_disp, ev_bin, ev_neg, ev_cmp, ev_chain, ev_and, ev_or, ev_not, ev_ite, ev_ix, ev_sl, ev_rev, ev_call, ev_bi, ev_mt, ev_comp2, ev_nil, ev_cons, ev_ifn, ev_ifc,  ev_asg, ev_aug, ev_setIx, ev_augIx, ev_ex, ev_ret, ev_retN, ev_if, ev_for2, ev_brk, ev_cont, ev_pass, ev_snil, ev_scons, then_nx, then_rt, then_bk, then_ct, end_rt, end_nx, optR_some, finish_self, asg_nm, asg_tp, asg_nil, asg_cons,  truth_bl, truth_int, Res.bind_ok, safe_ok, List.getElem?_cons_zero, List.getElem?_cons_succ, List.set_cons_zero, List.set_cons_succ, List.length_cons, List.length_nil, Option.map_some, Option.bind_some, Option.bind_eq_bind, wipeE, if_true, if_false, Bool.false_eq_true, ite_true, ite_false, reduceIte, reduceCtorEq, e', newL_f, c0, table_ok h hR kk (st ++ g) m hm, forK_at (TS_tab0 R (st ++ g) m), e2', hs, compK_lst, cM_map, stepC_eq, tupI, prI, intL, List.map_cons, List.map_nil, cM_ok, List.length_map, hz, b_add, b_sub, b_eq, b_ne, b_lt, b_le, b_gt, b_ge, u_abs, u_int, u_intb, u_tuple_l, u_tuple_t, u_len_l, u_len_t, eq_self, decide_true, decide_false]
  rw [ef _ (by simp only [D.low]; exact lowL_mem fun x hx => by obtain ⟨y, _, rfl⟩ := List.mem_map.mp hx; rfl)]
  rw [← due_turn]
  simp [nats]
end
end Wk92

set_option maxRecDepth 100000
set_option maxHeartbeats 2000000
set_option linter.all false
namespace Wk92
open PySem WT Wring
/-! rows of beginnings deed by deed, as the law lays them -/
def colX (X : Nat → Nat → Nat) (k d : Nat) : List Nat := (List.range k).map fun j => X j d
def colsX (R : RN) (X : Nat → Nat → Nat) (k : Nat) : Store := (List.range R.n).map fun d => Ob.lst (nats (colX X k d))
def LX (R : RN) (X : Nat → Nat → Nat) (b : Store) (k : Nat) (G : Store) : Store := b ++ (colsX R X k ++ G)
def pairE (R : RN) (q : Nat) : D := .tup [.int (q : Nat), .tup [.int (R.E q : Nat), .int (R.L q : Nat)]]
def pairsD (R : RN) : List D := (List.range R.np).map fun q => .tup [.int (R.E q : Nat), .int (R.L q : Nat)]
theorem LX_len (R : RN) (X : Nat → Nat → Nat) (b : Store) (k : Nat) (G : Store) : (LX R X b k G).length = b.length + R.n + G.length := by simp [LX, colsX]; omega
theorem LX_new (R : RN) (X : Nat → Nat → Nat) (b : Store) (k : Nat) (G : Store) (o : Ob) : (LX R X b k G ++ [o])[b.length + R.n + G.length]? = some o := by
  rw [List.getElem?_append_right (by rw [LX_len]; omega), LX_len, Nat.sub_self]; rfl
theorem LX_set (R : RN) (X : Nat → Nat → Nat) (b : Store) (k : Nat) (G : Store) (o o' : Ob) : (LX R X b k G ++ [o]).set (b.length + R.n + G.length) o' = LX R X b k G ++ [o'] := by
  rw [List.set_append_right _ _ (by rw [LX_len]; omega), LX_len, Nat.sub_self]; rfl
theorem LX_col (R : RN) (X : Nat → Nat → Nat) (b : Store) (k : Nat) (G g : Store) {d : Nat} (hd : d < R.n) : (LX R X b k G ++ g)[b.length + d]? = some (.lst (nats (colX X k d))) := by
  rw [List.getElem?_append_left (by rw [LX_len]; omega)]
  unfold LX colsX
  rw [List.getElem?_append_right (by omega), show b.length + d - b.length = d by omega, List.getElem?_append_left (by simpa using hd), List.getElem?_map, List.getElem?_range hd]; rfl
theorem LX_old (R : RN) (X : Nat → Nat → Nat) (b : Store) (k : Nat) (G g : Store) {i : Nat} {o : Ob} (h : b[i]? = some o) : (LX R X b k G ++ g)[i]? = some o := by
  have hi : i < b.length := (List.getElem?_eq_some_iff.mp h).1
  rw [List.getElem?_append_left (by rw [LX_len]; omega)]
  unfold LX
  rw [List.getElem?_append_left hi]; exact h
theorem colX_at (X : Nat → Nat → Nat) (k d j : Nat) (h : j < k) : (nats (colX X k d))[j]? = some (.int (X j d : Nat)) := by
  rw [nats_at]; unfold colX; rw [List.getElem?_map, List.getElem?_range h]; rfl
theorem zip_range_ix (n : Nat) : (List.range n).zipIdx = (List.range n).map fun q => (q, q) := by
  apply List.ext_getElem?
  intro i
  rw [List.getElem?_zipIdx, List.getElem?_map]
  by_cases h : i < n
  · rw [List.getElem?_range h]; simp
  · rw [List.getElem?_eq_none (by simpa using h)]; rfl
theorem srcE_pairs {R : RN} {st : Store} {pl : Nat} (h : st[pl]? = some (.lst (pairsD R))) : srcItems st (.enum (.loc pl)) = some ((List.range R.np).map (pairE R)) := by
  rw [srcE_at (l := List.range R.np) (e := fun q => .tup [.int (R.E q : Nat), .int (R.L q : Nat)]) h, zip_range_ix, List.map_map]; rfl
theorem srcE_nats {n : Nat} {st : Store} {a : Nat} {v : List Nat} (hv : v.length = n) (h : st[a]? = some (.lst (nats v))) : srcItems st (.enum (.loc a)) = some ((List.range n).map fun d => .tup [.int (d : Nat), .int (v.getD d 0 : Nat)]) := by
  rw [srcE_at (l := v) (e := fun x => .int (x : Nat)) h]
  congr 1
  apply List.ext_getElem?
  intro i
  rw [List.getElem?_map, List.getElem?_map, List.getElem?_zipIdx]
  by_cases hi : i < n
  · rw [List.getElem?_range hi, List.getElem?_eq_getElem (by omega)]
    simp [List.getD_eq_getElem?_getD, List.getElem?_eq_getElem (show i < v.length by omega)]
  · rw [List.getElem?_eq_none (show v.length ≤ i by omega), List.getElem?_eq_none (show (List.range n).length ≤ i by simp; omega)]; rfl
/-- a row more -/
def putX (X : Nat → Nat → Nat) (k : Nat) (v : List Nat) (j d : Nat) : Nat := if j = k then v.getD d 0 else X j d
/-- .. for the first i deeds -/
def LP (R : RN) (X : Nat → Nat → Nat) (b : Store) (k : Nat) (v : List Nat) (i : Nat) (G : Store) : Store := b ++ (((List.range R.n).map fun d => Ob.lst (nats (if d < i then colX X k d ++ [v.getD d 0] else colX X k d))) ++ G)
theorem LP_len (R : RN) (X : Nat → Nat → Nat) (b : Store) (k : Nat) (v : List Nat) (i : Nat) (G : Store) : (LP R X b k v i G).length = b.length + R.n + G.length := by simp [LP]; omega
theorem LP_zero (R : RN) (X : Nat → Nat → Nat) (b : Store) (k : Nat) (v : List Nat) (G : Store) : LP R X b k v 0 G = LX R X b k G := by simp [LP, LX, colsX]
theorem LP_new (R : RN) (X : Nat → Nat → Nat) (b : Store) (k : Nat) (v : List Nat) (i : Nat) (G : Store) (o : Ob) : (LP R X b k v i G ++ [o])[b.length + R.n + G.length]? = some o := by
  rw [List.getElem?_append_right (by rw [LP_len]; omega), LP_len, Nat.sub_self]; rfl
theorem LP_col (R : RN) (X : Nat → Nat → Nat) (b : Store) (k : Nat) (v : List Nat) (i : Nat) (G g : Store) (hi : i < R.n) : (LP R X b k v i G ++ g)[b.length + i]? = some (.lst (nats (colX X k i))) := by
  rw [List.getElem?_append_left (by rw [LP_len]; omega)]
  unfold LP
  rw [List.getElem?_append_right (by omega), show b.length + i - b.length = i by omega, List.getElem?_append_left (by simpa using hi), List.getElem?_map, List.getElem?_range hi]
  simp
theorem LP_step (R : RN) (X : Nat → Nat → Nat) (b : Store) (k : Nat) (v : List Nat) (i : Nat) (G g : Store) (hi : i < R.n) : (LP R X b k v i G ++ g).set (b.length + i) (.lst (nats (colX X k i) ++ [.int (v.getD i 0 : Nat)])) = LP R X b k v (i + 1) G ++ g := by
  rw [List.set_append_left _ _ (by rw [LP_len]; omega)]
  congr 1
  unfold LP
  rw [List.set_append_right _ _ (by omega), show b.length + i - b.length = i by omega, List.set_append_left _ _ (by simpa using hi)]
  congr 2
  apply List.ext_getElem?
  intro j
  rw [List.getElem?_set, List.getElem?_map, List.getElem?_map]
  by_cases hj : j < R.n
  · rw [List.getElem?_range hj]
    by_cases e : i = j
    · subst e
      rw [if_pos rfl, if_pos (by simpa using hi)]
      simp [nats]
    · rw [if_neg e]
      have : (j < i) ↔ (j < i + 1) := by omega
      simp [this]
  · rw [List.getElem?_eq_none (by simp; omega)]
    rw [if_neg (by omega)]; rfl
theorem LP_all {R : RN} {X : Nat → Nat → Nat} {b : Store} {k : Nat} {v : List Nat} {G : Store} (hv : v.length = R.n) : LP R X b k v R.n G = LX R (putX X k v) b (k + 1) G := by
  unfold LP LX colsX
  congr 2
  refine List.map_congr_left fun d hd => ?_
  have := List.mem_range.mp hd
  rw [if_pos this]
  unfold colX putX
  rw [List.range_succ, List.map_append]
  congr 3
  · refine List.map_congr_left fun j hj => ?_
    have := List.mem_range.mp hj
    rw [if_neg (by omega)]
  · simp
def bbody : List S := [.asg (.nm 11) (.bin false .Sub (.var 5) (.ix (.var 1) (.var 10))), .ite (.cmp .GtE (.var 11) (.int 0)) [.asg (.nm 14) (.ite (.cmp .Eq (.var 11) (.var 5)) (.ix (.var 6) (.var 12)) (.ix (.ix (.var 4) (.var 12)) (.var 11))), .setIx (.var 6) (.var 13) (.bi false .max [(.ix (.var 6) (.var 13)), (.bin false .Add (.var 14) (.ix (.var 2) (.var 12)))])] []]
abbrev benv (R : RN) (b G : Store) (pl many k : Nat) (x7 x8 x9 x10 x11 x12 x13 x14 : Option D) : WT.Env := [some (.loc pl), some (markD R), some (timesD R), some (.int (many : Nat)), some (.lst (locs b.length R.n)), some (.int (k : Nat)), some (.loc (b.length + R.n + G.length)), x7, x8, x9, x10, x11, x12, x13, x14]
theorem bstep {R : RN} (hR : R.Ok) (F : WT.Fun) (X : Nat → Nat → Nat) (b G : Store) (pl many k : Nat) {v : List Nat} (hv : v.length = R.n) {q : Nat} (hq : q < R.np) (x7 x8 x9 x10 x11 x12 x13 x14 : Option D) :
    ∃ y1 y2, denSs F bbody (benv R b G pl many k (x7) (x8) (x9) (some (.int (q : Nat))) (x11) (some (.int (R.E q : Nat))) (some (.int (R.L q : Nat))) (x14)) (LX R X b k G ++ [.lst (nats v)]) = .ok (.nx, benv R b G pl many k (x7) (x8) (x9) (some (.int (q : Nat))) (y1) (some (.int (R.E q : Nat))) (some (.int (R.L q : Nat))) (y2)) (LX R X b k G ++ [.lst (nats (relax R k (fun q => X (k - R.M q) (R.E q)) v q))]) := by
  have hE := hR.e q hq
  have hL := hR.l q hq
  have g1 := LX_new R X b k G (.lst (nats v))
  by_cases hk : R.M q ≤ k
  · have e1 : ((k : Nat) : Int) - ((R.M q : Nat) : Int) = ((k - R.M q : Nat) : Int) := by omega
    have e2 : (0 : Int) ≤ ((k - R.M q : Nat) : Int) := by omega
    by_cases h0 : R.M q = 0
    · have e3 : ((k - R.M q : Nat) : Int) = (k : Int) := by omega
      have e4 : (0 : Int) ≤ (k : Int) := by omega
      refine ⟨some (.int (k : Nat)), some (.int (v.getD (R.E q) 0 : Nat)), ?_⟩
      simp only [bbody, benv, ev_var, ev_int, ev_bl, ev_non, ev_str, ev_tup, ev_lst, ev_dnew, ev_disp, ev_bin, ev_neg, ev_cmp, ev_chain, ev_and, ev_or, ev_not, ev_ite, ev_ix, ev_sl, ev_rev, ev_call, ev_bi, ev_mt, ev_comp2, ev_nil, ev_cons, ev_ifn, ev_ifc,  ev_asg, ev_aug, ev_setIx, ev_augIx, ev_ex, ev_ret, ev_retN, ev_if, ev_for2, ev_brk, ev_cont, ev_pass, ev_snil, ev_scons, then_nx, then_rt, then_bk, then_ct, end_rt, end_nx, optR_some, finish_self, asg_nm, asg_tp, asg_nil, asg_cons,  truth_bl, truth_int, Res.bind_ok, safe_ok, List.getElem?_cons_zero, List.getElem?_cons_succ, List.set_cons_zero, List.set_cons_succ, List.length_cons, List.length_nil, Option.map_some, Option.bind_some, Option.bind_eq_bind, wipeE, if_true, if_false, Bool.false_eq_true, ite_true, ite_false, reduceIte, reduceCtorEq, b_add, b_sub, b_eq, b_ne, b_lt, b_le, b_gt, b_ge, u_abs, u_int, u_intb, u_tuple_l, u_tuple_t, u_len_l, u_len_t, eq_self, decide_true, decide_false, mark_at R hq, e1, e2, e3, e4, x_at g1, nats_getD v _ (show R.E q < v.length by omega), nats_getD v _ (show R.L q < v.length by omega), times_at R hE, u_max, maxN, set_at g1 (show R.L q < (nats v).length by rw [nats_len]; omega), nats_set, LX_set]
      unfold relax
      rw [if_pos hk, if_pos h0]
    · have e3 : ¬ ((k - R.M q : Nat) : Int) = (k : Int) := by omega
      have hj : k - R.M q < k := by omega
      have g3 := LX_col R X b k G [.lst (nats v)] hE
      refine ⟨some (.int ((k - R.M q : Nat) : Int)), some (.int (X (k - R.M q) (R.E q) : Nat)), ?_⟩
      simp only [bbody, benv, ev_var, ev_int, ev_bl, ev_non, ev_str, ev_tup, ev_lst, ev_dnew, ev_disp, ev_bin, ev_neg, ev_cmp, ev_chain, ev_and, ev_or, ev_not, ev_ite, ev_ix, ev_sl, ev_rev, ev_call, ev_bi, ev_mt, ev_comp2, ev_nil, ev_cons, ev_ifn, ev_ifc,  ev_asg, ev_aug, ev_setIx, ev_augIx, ev_ex, ev_ret, ev_retN, ev_if, ev_for2, ev_brk, ev_cont, ev_pass, ev_snil, ev_scons, then_nx, then_rt, then_bk, then_ct, end_rt, end_nx, optR_some, finish_self, asg_nm, asg_tp, asg_nil, asg_cons,  truth_bl, truth_int, Res.bind_ok, safe_ok, List.getElem?_cons_zero, List.getElem?_cons_succ, List.set_cons_zero, List.set_cons_succ, List.length_cons, List.length_nil, Option.map_some, Option.bind_some, Option.bind_eq_bind, wipeE, if_true, if_false, Bool.false_eq_true, ite_true, ite_false, reduceIte, reduceCtorEq, b_add, b_sub, b_eq, b_ne, b_lt, b_le, b_gt, b_ge, u_abs, u_int, u_intb, u_tuple_l, u_tuple_t, u_len_l, u_len_t, eq_self, decide_true, decide_false, mark_at R hq, e1, e2, e3, x_at g1, x_lst, locs_at _ _ _ hE, x_at g3, colX_at X k _ _ hj, nats_getD v _ (show R.L q < v.length by omega), times_at R hE, u_max, maxN, set_at g1 (show R.L q < (nats v).length by rw [nats_len]; omega), nats_set, LX_set]
      unfold relax
      rw [if_pos hk, if_neg h0]
  · have e2 : ¬ (0 : Int) ≤ ((k : Nat) : Int) - ((R.M q : Nat) : Int) := by omega
    refine ⟨some (.int ((k : Int) - (R.M q : Nat))), x14, ?_⟩
    simp only [bbody, benv, ev_var, ev_int, ev_bl, ev_non, ev_str, ev_tup, ev_lst, ev_dnew, ev_disp, ev_bin, ev_neg, ev_cmp, ev_chain, ev_and, ev_or, ev_not, ev_ite, ev_ix, ev_sl, ev_rev, ev_call, ev_bi, ev_mt, ev_comp2, ev_nil, ev_cons, ev_ifn, ev_ifc,  ev_asg, ev_aug, ev_setIx, ev_augIx, ev_ex, ev_ret, ev_retN, ev_if, ev_for2, ev_brk, ev_cont, ev_pass, ev_snil, ev_scons, then_nx, then_rt, then_bk, then_ct, end_rt, end_nx, optR_some, finish_self, asg_nm, asg_tp, asg_nil, asg_cons,  truth_bl, truth_int, Res.bind_ok, safe_ok, List.getElem?_cons_zero, List.getElem?_cons_succ, List.set_cons_zero, List.set_cons_succ, List.length_cons, List.length_nil, Option.map_some, Option.bind_some, Option.bind_eq_bind, wipeE, if_true, if_false, Bool.false_eq_true, ite_true, ite_false, reduceIte, reduceCtorEq, b_add, b_sub, b_eq, b_ne, b_lt, b_le, b_gt, b_ge, u_abs, u_int, u_intb, u_tuple_l, u_tuple_t, u_len_l, u_len_t, eq_self, decide_true, decide_false, mark_at R hq, e2]
    unfold relax
    rw [if_neg hk]
theorem blap {R : RN} (hR : R.Ok) (F : WT.Fun) (X : Nat → Nat → Nat) (b G : Store) (pl many k : Nat) (hp : b[pl]? = some (.lst (pairsD R))) {v : List Nat} (hv : v.length = R.n) (x7 x8 x9 x10 x11 x12 x13 x14 : Option D) :
    OkP (limR fun n => loopL (.tp [(.nm 10), (.tp [(.nm 12), (.nm 13)])]) (denSs F bbody) (.enum (.loc pl)) n 0 (benv R b G pl many k (x7) (x8) (x9) (x10) (x11) (x12) (x13) (x14)) (LX R X b k G ++ [.lst (nats v)])) fun fr t => ∃ y7 y8 y9 y10 y11 y12 y13 y14, fr = (.nx, benv R b G pl many k y7 y8 y9 y10 y11 y12 y13 y14) ∧ t = LX R X b k G ++ [.lst (nats (lapOf R k (fun q => X (k - R.M q) (R.E q)) v))] := by
  refine loopL_list (l := List.range R.np) (e := pairE R) (fun l1 r t => ∃ w y7 y8 y9 y10 y11 y12 y13 y14, r = benv R b G pl many k y7 y8 y9 y10 y11 y12 y13 y14 ∧ t = LX R X b k G ++ [.lst (nats w)] ∧ w = l1.foldl (relax R k fun q => X (k - R.M q) (R.E q)) v ∧ w.length = R.n) ⟨v, _, _, _, _, _, _, _, _, rfl, rfl, rfl, hv⟩ (fun l1 r t hI => ?_) (fun l1 q l2 r t hx hI => ?_) fun r t hI => ?_
  · obtain ⟨w, y7, y8, y9, y10, y11, y12, y13, y14, _, rfl, _⟩ := hI
    exact srcE_pairs (LX_old R X b k G _ hp)
  · obtain ⟨w, y7, y8, y9, y10, y11, y12, y13, y14, rfl, rfl, hw, hl⟩ := hI
    have hq : q < R.np := List.mem_range.mp (by rw [hx]; simp)
    obtain ⟨z1, z2, e⟩ := bstep hR F X b G pl many k hl hq y7 y8 y9 y10 y11 y12 y13 y14
    refine ⟨_, by simp only [pairE, benv, asg_tp, asg_cons, asg_nm, asg_nil, Option.bind_some, Option.bind_eq_bind]; rfl, ?_⟩
    simp only [List.set_cons_zero, List.set_cons_succ]
    simp only [benv] at e ⊢
    rw [e, okP_ok]
    refine ⟨_, y7, y8, y9, some (.int (q : Nat)), z1, some (.int (R.E q : Nat)), some (.int (R.L q : Nat)), z2, rfl, rfl, ?_, by rw [relax_len]; exact hl⟩
    rw [List.foldl_append, ← hw]; rfl
  · obtain ⟨w, y7, y8, y9, y10, y11, y12, y13, y14, rfl, rfl, hw, hl⟩ := hI
    refine ⟨y7, y8, y9, y10, y11, y12, y13, y14, rfl, ?_⟩
    rw [hw]; rfl
def blapB : List S := [.for_ (.tp [(.nm 10), (.tp [(.nm 12), (.nm 13)])]) .enum [(.var 0)] bbody]
theorem blaps {R : RN} (hR : R.Ok) (F : WT.Fun) (X : Nat → Nat → Nat) (b G : Store) (pl many k : Nat) (hp : b[pl]? = some (.lst (pairsD R))) {v : List Nat} (hv : v.length = R.n) (x7 x8 x9 x10 x11 x12 x13 x14 : Option D) :
    OkP (loopF (.nm 7) (denSs F blapB) ((List.range R.n).map fun i => D.int (i : Nat)) (benv R b G pl many k (x7) (x8) (x9) (x10) (x11) (x12) (x13) (x14)) (LX R X b k G ++ [.lst (nats v)])) fun fr t => ∃ y7 y8 y9 y10 y11 y12 y13 y14, fr = (.nx, benv R b G pl many k y7 y8 y9 y10 y11 y12 y13 y14) ∧ t = LX R X b k G ++ [.lst (nats (lapsOf R k (fun q => X (k - R.M q) (R.E q)) R.n v))] := by
  refine loop_list (fun l1 r t => ∃ y7 y8 y9 y10 y11 y12 y13 y14, r = benv R b G pl many k y7 y8 y9 y10 y11 y12 y13 y14 ∧ t = LX R X b k G ++ [.lst (nats (lapsOf R k (fun q => X (k - R.M q) (R.E q)) l1.length v))]) ⟨_, _, _, _, _, _, _, _, rfl, rfl⟩ (fun l1 x l2 r t hx hI => ?_) fun r t hI => ?_
  · obtain ⟨y7, y8, y9, y10, y11, y12, y13, y14, rfl, rfl⟩ := hI
    refine ⟨_, asg_nm _ _ _, ?_⟩
    have hl := laps_len hR (k := k) (c := fun q => X (k - R.M q) (R.E q)) hv l1.length
    have L := blap hR F X b G pl many k hp hl (some (.int (x : Nat))) y8 y9 y10 y11 y12 y13 y14
    have g := LX_old R X b k G [.lst (nats (lapsOf R k (fun q => X (k - R.M q) (R.E q)) l1.length v))] hp
    simp only [benv, List.set_cons_zero, List.set_cons_succ] at L ⊢
    simp only [blapB, ev_var, ev_int, ev_bl, ev_non, ev_str, ev_tup, ev_lst, ev_dnew, ev_disp, ev_bin, ev_neg, ev_cmp, ev_chain, ev_and, ev_or, ev_not, ev_ite, ev_ix, ev_sl, ev_rev, ev_call, ev_bi, ev_mt, ev_comp2, ev_nil, ev_cons, ev_ifn, ev_ifc,  ev_asg, ev_aug, ev_setIx, ev_augIx, ev_ex, ev_ret, ev_retN, ev_if, ev_for2, ev_brk, ev_cont, ev_pass, ev_snil, ev_scons, then_nx, then_rt, then_bk, then_ct, end_rt, end_nx, optR_some, finish_self, asg_nm, asg_tp, asg_nil, asg_cons,  truth_bl, truth_int, Res.bind_ok, safe_ok, List.getElem?_cons_zero, List.getElem?_cons_succ, List.set_cons_zero, List.set_cons_succ, List.length_cons, List.length_nil, Option.map_some, Option.bind_some, Option.bind_eq_bind, wipeE, if_true, if_false, Bool.false_eq_true, ite_true, ite_false, reduceIte, reduceCtorEq, forK_enumAt g]
    refine OkP.bind L fun fr t hq => ?_
    obtain ⟨z7, z8, z9, z10, z11, z12, z13, z14, rfl, rfl⟩ := hq
    rw [then_nx, ev_snil, okP_ok]
    exact ⟨z7, z8, z9, z10, z11, z12, z13, z14, rfl, by rw [List.length_append]; rfl⟩
  · obtain ⟨y7, y8, y9, y10, y11, y12, y13, y14, rfl, rfl⟩ := hI
    exact ⟨y7, y8, y9, y10, y11, y12, y13, y14, rfl, by rw [List.length_range]⟩
def bappB : List S := [.ex (.mt .append (.ix (.var 4) (.var 8)) [(.var 9)])]
theorem bapp {R : RN} (F : WT.Fun) (X : Nat → Nat → Nat) (b G : Store) (pl many k : Nat) (hk : k < 1000) {v : List Nat} (hv : v.length = R.n) (x7 x8 x9 x10 x11 x12 x13 x14 : Option D) :
    OkP (limR fun n => loopL (.tp [(.nm 8), (.nm 9)]) (denSs F bappB) (.enum (.loc (b.length + R.n + G.length))) n 0 (benv R b G pl many k (x7) (x8) (x9) (x10) (x11) (x12) (x13) (x14)) (LX R X b k G ++ [.lst (nats v)])) fun fr t => ∃ y7 y8 y9 y10 y11 y12 y13 y14, fr = (.nx, benv R b G pl many k y7 y8 y9 y10 y11 y12 y13 y14) ∧ t = LX R (putX X k v) b (k + 1) G ++ [.lst (nats v)] := by
  refine loopL_list (l := List.range R.n) (e := fun d => .tup [.int (d : Nat), .int (v.getD d 0 : Nat)]) (fun l1 r t => ∃ y7 y8 y9 y10 y11 y12 y13 y14, r = benv R b G pl many k y7 y8 y9 y10 y11 y12 y13 y14 ∧ t = LP R X b k v l1.length G ++ [.lst (nats v)]) ⟨_, _, _, _, _, _, _, _, rfl, by rw [List.length_nil, LP_zero]⟩ (fun l1 r t hI => ?_) (fun l1 d l2 r t hx hI => ?_) fun r t hI => ?_
  · obtain ⟨y7, y8, y9, y10, y11, y12, y13, y14, _, rfl⟩ := hI
    exact srcE_nats hv (LP_new R X b k v l1.length G _)
  · obtain ⟨y7, y8, y9, y10, y11, y12, y13, y14, rfl, rfl⟩ := hI
    have hd : d < R.n := List.mem_range.mp (by rw [hx]; simp)
    have hl : d = l1.length := by
      have h1 : (List.range R.n)[l1.length]? = some d := by rw [hx, List.getElem?_append_right (Nat.le_refl _), Nat.sub_self]; rfl
      obtain ⟨h2, h3⟩ := List.getElem?_eq_some_iff.mp h1
      simpa using h3.symm
    subst hl
    have g := LP_col R X b k v l1.length G [.lst (nats v)] hd
    have hz : (nats (colX X k l1.length)).length < sizeLine := by rw [nats_len, sizeLine_eq]; simp [colX]; omega
    refine ⟨_, by simp only [benv, asg_tp, asg_cons, asg_nm, asg_nil, Option.bind_some, Option.bind_eq_bind]; rfl, ?_⟩
    simp only [List.set_cons_zero, List.set_cons_succ, bappB, ev_var, ev_int, ev_bl, ev_non, ev_str, ev_tup, ev_lst, ev_dnew, ev_disp, ev_bin, ev_neg, ev_cmp, ev_chain, ev_and, ev_or, ev_not, ev_ite, ev_ix, ev_sl, ev_rev, ev_call, ev_bi, ev_mt, ev_comp2, ev_nil, ev_cons, ev_ifn, ev_ifc,  ev_asg, ev_aug, ev_setIx, ev_augIx, ev_ex, ev_ret, ev_retN, ev_if, ev_for2, ev_brk, ev_cont, ev_pass, ev_snil, ev_scons, then_nx, then_rt, then_bk, then_ct, end_rt, end_nx, optR_some, finish_self, asg_nm, asg_tp, asg_nil, asg_cons,  truth_bl, truth_int, Res.bind_ok, safe_ok, List.getElem?_cons_zero, List.getElem?_cons_succ, List.set_cons_zero, List.set_cons_succ, List.length_cons, List.length_nil, Option.map_some, Option.bind_some, Option.bind_eq_bind, wipeE, if_true, if_false, Bool.false_eq_true, ite_true, ite_false, reduceIte, reduceCtorEq, x_lst, locs_at _ _ _ hd, mtOk_loc g (m := .append) (by decide), app_at g hz, okP_ok]
    refine ⟨y7, some (.int (l1.length : Nat)), some (.int (v.getD l1.length 0 : Nat)), y10, y11, y12, y13, y14, rfl, ?_⟩
    rw [LP_step R X b k v l1.length G _ hd, List.length_append]; rfl
  · obtain ⟨y7, y8, y9, y10, y11, y12, y13, y14, rfl, rfl⟩ := hI
    refine ⟨y7, y8, y9, y10, y11, y12, y13, y14, rfl, ?_⟩
    rw [List.length_range, LP_all hv]
def pbody : List S := [.asg (.nm 13) (.bin false .Sub (.var 5) (.ix (.var 2) (.var 12))), .ite (.cmp .GtE (.var 13) (.int 0)) [.asg (.nm 16) (.ite (.cmp .Eq (.var 13) (.var 5)) (.ix (.var 8) (.var 14)) (.ix (.ix (.var 6) (.var 14)) (.var 13))), .setIx (.var 8) (.var 15) (.bi false .max [(.ix (.var 8) (.var 15)), (.bin false .Add (.var 16) (.ix (.var 3) (.var 14)))])] []]
abbrev penv (R : RN) (b G : Store) (pl many k : Nat) (x9 x10 x11 x12 x13 x14 x15 x16 : Option D) : WT.Env := [some (.loc 1), some (.loc pl), some (markD R), some (timesD R), some (.int (many : Nat)), some (.int (k : Nat)), some (.lst (locs b.length R.n)), some (.int (R.n : Nat)), some (.loc (b.length + R.n + G.length)), x9, x10, x11, x12, x13, x14, x15, x16]
theorem pstep {R : RN} (hR : R.Ok) (F : WT.Fun) (X : Nat → Nat → Nat) (b G : Store) (pl many k : Nat) {v : List Nat} (hv : v.length = R.n) {q : Nat} (hq : q < R.np) (x9 x10 x11 x12 x13 x14 x15 x16 : Option D) :
    ∃ y1 y2, denSs F pbody (penv R b G pl many k (x9) (x10) (x11) (some (.int (q : Nat))) (x13) (some (.int (R.E q : Nat))) (some (.int (R.L q : Nat))) (x16)) (LX R X b k G ++ [.lst (nats v)]) = .ok (.nx, penv R b G pl many k (x9) (x10) (x11) (some (.int (q : Nat))) (y1) (some (.int (R.E q : Nat))) (some (.int (R.L q : Nat))) (y2)) (LX R X b k G ++ [.lst (nats (relax R k (fun q => X (k - R.M q) (R.E q)) v q))]) := by
  have hE := hR.e q hq
  have hL := hR.l q hq
  have g1 := LX_new R X b k G (.lst (nats v))
  by_cases hk : R.M q ≤ k
  · have e1 : ((k : Nat) : Int) - ((R.M q : Nat) : Int) = ((k - R.M q : Nat) : Int) := by omega
    have e2 : (0 : Int) ≤ ((k - R.M q : Nat) : Int) := by omega
    by_cases h0 : R.M q = 0
    · have e3 : ((k - R.M q : Nat) : Int) = (k : Int) := by omega
      have e4 : (0 : Int) ≤ (k : Int) := by omega
      refine ⟨some (.int (k : Nat)), some (.int (v.getD (R.E q) 0 : Nat)), ?_⟩
      simp only [pbody, penv, ev_var, ev_int, ev_bl, ev_non, ev_str, ev_tup, ev_lst, ev_dnew, ev_disp, ev_bin, ev_neg, ev_cmp, ev_chain, ev_and, ev_or, ev_not, ev_ite, ev_ix, ev_sl, ev_rev, ev_call, ev_bi, ev_mt, ev_comp2, ev_nil, ev_cons, ev_ifn, ev_ifc,  ev_asg, ev_aug, ev_setIx, ev_augIx, ev_ex, ev_ret, ev_retN, ev_if, ev_for2, ev_brk, ev_cont, ev_pass, ev_snil, ev_scons, then_nx, then_rt, then_bk, then_ct, end_rt, end_nx, optR_some, finish_self, asg_nm, asg_tp, asg_nil, asg_cons,  truth_bl, truth_int, Res.bind_ok, safe_ok, List.getElem?_cons_zero, List.getElem?_cons_succ, List.set_cons_zero, List.set_cons_succ, List.length_cons, List.length_nil, Option.map_some, Option.bind_some, Option.bind_eq_bind, wipeE, if_true, if_false, Bool.false_eq_true, ite_true, ite_false, reduceIte, reduceCtorEq, b_add, b_sub, b_eq, b_ne, b_lt, b_le, b_gt, b_ge, u_abs, u_int, u_intb, u_tuple_l, u_tuple_t, u_len_l, u_len_t, eq_self, decide_true, decide_false, mark_at R hq, e1, e2, e3, e4, x_at g1, nats_getD v _ (show R.E q < v.length by omega), nats_getD v _ (show R.L q < v.length by omega), times_at R hE, u_max, maxN, set_at g1 (show R.L q < (nats v).length by rw [nats_len]; omega), nats_set, LX_set]
      unfold relax
      rw [if_pos hk, if_pos h0]
    · have e3 : ¬ ((k - R.M q : Nat) : Int) = (k : Int) := by omega
      have hj : k - R.M q < k := by omega
      have g3 := LX_col R X b k G [.lst (nats v)] hE
      refine ⟨some (.int ((k - R.M q : Nat) : Int)), some (.int (X (k - R.M q) (R.E q) : Nat)), ?_⟩
      simp only [pbody, penv, ev_var, ev_int, ev_bl, ev_non, ev_str, ev_tup, ev_lst, ev_dnew, ev_disp, ev_bin, ev_neg, ev_cmp, ev_chain, ev_and, ev_or, ev_not, ev_ite, ev_ix, ev_sl, ev_rev, ev_call, ev_bi, ev_mt, ev_comp2, ev_nil, ev_cons, ev_ifn, ev_ifc,  ev_asg, ev_aug, ev_setIx, ev_augIx, ev_ex, ev_ret, ev_retN, ev_if, ev_for2, ev_brk, ev_cont, ev_pass, ev_snil, ev_scons, then_nx, then_rt, then_bk, then_ct, end_rt, end_nx, optR_some, finish_self, asg_nm, asg_tp, asg_nil, asg_cons,  truth_bl, truth_int, Res.bind_ok, safe_ok, List.getElem?_cons_zero, List.getElem?_cons_succ, List.set_cons_zero, List.set_cons_succ, List.length_cons, List.length_nil, Option.map_some, Option.bind_some, Option.bind_eq_bind, wipeE, if_true, if_false, Bool.false_eq_true, ite_true, ite_false, reduceIte, reduceCtorEq, b_add, b_sub, b_eq, b_ne, b_lt, b_le, b_gt, b_ge, u_abs, u_int, u_intb, u_tuple_l, u_tuple_t, u_len_l, u_len_t, eq_self, decide_true, decide_false, mark_at R hq, e1, e2, e3, x_at g1, x_lst, locs_at _ _ _ hE, x_at g3, colX_at X k _ _ hj, nats_getD v _ (show R.L q < v.length by omega), times_at R hE, u_max, maxN, set_at g1 (show R.L q < (nats v).length by rw [nats_len]; omega), nats_set, LX_set]
      unfold relax
      rw [if_pos hk, if_neg h0]
  · have e2 : ¬ (0 : Int) ≤ ((k : Nat) : Int) - ((R.M q : Nat) : Int) := by omega
    refine ⟨some (.int ((k : Int) - (R.M q : Nat))), x16, ?_⟩
    simp only [pbody, penv, ev_var, ev_int, ev_bl, ev_non, ev_str, ev_tup, ev_lst, ev_dnew, ev_disp, ev_bin, ev_neg, ev_cmp, ev_chain, ev_and, ev_or, ev_not, ev_ite, ev_ix, ev_sl, ev_rev, ev_call, ev_bi, ev_mt, ev_comp2, ev_nil, ev_cons, ev_ifn, ev_ifc,  ev_asg, ev_aug, ev_setIx, ev_augIx, ev_ex, ev_ret, ev_retN, ev_if, ev_for2, ev_brk, ev_cont, ev_pass, ev_snil, ev_scons, then_nx, then_rt, then_bk, then_ct, end_rt, end_nx, optR_some, finish_self, asg_nm, asg_tp, asg_nil, asg_cons,  truth_bl, truth_int, Res.bind_ok, safe_ok, List.getElem?_cons_zero, List.getElem?_cons_succ, List.set_cons_zero, List.set_cons_succ, List.length_cons, List.length_nil, Option.map_some, Option.bind_some, Option.bind_eq_bind, wipeE, if_true, if_false, Bool.false_eq_true, ite_true, ite_false, reduceIte, reduceCtorEq, b_add, b_sub, b_eq, b_ne, b_lt, b_le, b_gt, b_ge, u_abs, u_int, u_intb, u_tuple_l, u_tuple_t, u_len_l, u_len_t, eq_self, decide_true, decide_false, mark_at R hq, e2]
    unfold relax
    rw [if_neg hk]
theorem plap {R : RN} (hR : R.Ok) (F : WT.Fun) (X : Nat → Nat → Nat) (b G : Store) (pl many k : Nat) (hp : b[pl]? = some (.lst (pairsD R))) {v : List Nat} (hv : v.length = R.n) (x9 x10 x11 x12 x13 x14 x15 x16 : Option D) :
    OkP (limR fun n => loopL (.tp [(.nm 12), (.tp [(.nm 14), (.nm 15)])]) (denSs F pbody) (.enum (.loc pl)) n 0 (penv R b G pl many k (x9) (x10) (x11) (x12) (x13) (x14) (x15) (x16)) (LX R X b k G ++ [.lst (nats v)])) fun fr t => ∃ y9 y10 y11 y12 y13 y14 y15 y16, fr = (.nx, penv R b G pl many k y9 y10 y11 y12 y13 y14 y15 y16) ∧ t = LX R X b k G ++ [.lst (nats (lapOf R k (fun q => X (k - R.M q) (R.E q)) v))] := by
  refine loopL_list (l := List.range R.np) (e := pairE R) (fun l1 r t => ∃ w y9 y10 y11 y12 y13 y14 y15 y16, r = penv R b G pl many k y9 y10 y11 y12 y13 y14 y15 y16 ∧ t = LX R X b k G ++ [.lst (nats w)] ∧ w = l1.foldl (relax R k fun q => X (k - R.M q) (R.E q)) v ∧ w.length = R.n) ⟨v, _, _, _, _, _, _, _, _, rfl, rfl, rfl, hv⟩ (fun l1 r t hI => ?_) (fun l1 q l2 r t hx hI => ?_) fun r t hI => ?_
  · obtain ⟨w, y9, y10, y11, y12, y13, y14, y15, y16, _, rfl, _⟩ := hI
    exact srcE_pairs (LX_old R X b k G _ hp)
  · obtain ⟨w, y9, y10, y11, y12, y13, y14, y15, y16, rfl, rfl, hw, hl⟩ := hI
    have hq : q < R.np := List.mem_range.mp (by rw [hx]; simp)
    obtain ⟨z1, z2, e⟩ := pstep hR F X b G pl many k hl hq y9 y10 y11 y12 y13 y14 y15 y16
    refine ⟨_, by simp only [pairE, penv, asg_tp, asg_cons, asg_nm, asg_nil, Option.bind_some, Option.bind_eq_bind]; rfl, ?_⟩
    simp only [List.set_cons_zero, List.set_cons_succ]
    simp only [penv] at e ⊢
    rw [e, okP_ok]
    refine ⟨_, y9, y10, y11, some (.int (q : Nat)), z1, some (.int (R.E q : Nat)), some (.int (R.L q : Nat)), z2, rfl, rfl, ?_, by rw [relax_len]; exact hl⟩
    rw [List.foldl_append, ← hw]; rfl
  · obtain ⟨w, y9, y10, y11, y12, y13, y14, y15, y16, rfl, rfl, hw, hl⟩ := hI
    refine ⟨y9, y10, y11, y12, y13, y14, y15, y16, rfl, ?_⟩
    rw [hw]; rfl
def plapB : List S := [.for_ (.tp [(.nm 12), (.tp [(.nm 14), (.nm 15)])]) .enum [(.var 1)] pbody]
theorem plaps {R : RN} (hR : R.Ok) (F : WT.Fun) (X : Nat → Nat → Nat) (b G : Store) (pl many k : Nat) (hp : b[pl]? = some (.lst (pairsD R))) {v : List Nat} (hv : v.length = R.n) (x9 x10 x11 x12 x13 x14 x15 x16 : Option D) :
    OkP (loopF (.nm 9) (denSs F plapB) ((List.range R.n).map fun i => D.int (i : Nat)) (penv R b G pl many k (x9) (x10) (x11) (x12) (x13) (x14) (x15) (x16)) (LX R X b k G ++ [.lst (nats v)])) fun fr t => ∃ y9 y10 y11 y12 y13 y14 y15 y16, fr = (.nx, penv R b G pl many k y9 y10 y11 y12 y13 y14 y15 y16) ∧ t = LX R X b k G ++ [.lst (nats (lapsOf R k (fun q => X (k - R.M q) (R.E q)) R.n v))] := by
  refine loop_list (fun l1 r t => ∃ y9 y10 y11 y12 y13 y14 y15 y16, r = penv R b G pl many k y9 y10 y11 y12 y13 y14 y15 y16 ∧ t = LX R X b k G ++ [.lst (nats (lapsOf R k (fun q => X (k - R.M q) (R.E q)) l1.length v))]) ⟨_, _, _, _, _, _, _, _, rfl, rfl⟩ (fun l1 x l2 r t hx hI => ?_) fun r t hI => ?_
  · obtain ⟨y9, y10, y11, y12, y13, y14, y15, y16, rfl, rfl⟩ := hI
    refine ⟨_, asg_nm _ _ _, ?_⟩
    have hl := laps_len hR (k := k) (c := fun q => X (k - R.M q) (R.E q)) hv l1.length
    have L := plap hR F X b G pl many k hp hl (some (.int (x : Nat))) y10 y11 y12 y13 y14 y15 y16
    have g := LX_old R X b k G [.lst (nats (lapsOf R k (fun q => X (k - R.M q) (R.E q)) l1.length v))] hp
    simp only [penv, List.set_cons_zero, List.set_cons_succ] at L ⊢
    simp only [plapB, ev_var, ev_int, ev_bl, ev_non, ev_str, ev_tup, ev_lst, ev_dnew, ev_disp, ev_bin, ev_neg, ev_cmp, ev_chain, ev_and, ev_or, ev_not, ev_ite, ev_ix, ev_sl, ev_rev, ev_call, ev_bi, ev_mt, ev_comp2, ev_nil, ev_cons, ev_ifn, ev_ifc,  ev_asg, ev_aug, ev_setIx, ev_augIx, ev_ex, ev_ret, ev_retN, ev_if, ev_for2, ev_brk, ev_cont, ev_pass, ev_snil, ev_scons, then_nx, then_rt, then_bk, then_ct, end_rt, end_nx, optR_some, finish_self, asg_nm, asg_tp, asg_nil, asg_cons,  truth_bl, truth_int, Res.bind_ok, safe_ok, List.getElem?_cons_zero, List.getElem?_cons_succ, List.set_cons_zero, List.set_cons_succ, List.length_cons, List.length_nil, Option.map_some, Option.bind_some, Option.bind_eq_bind, wipeE, if_true, if_false, Bool.false_eq_true, ite_true, ite_false, reduceIte, reduceCtorEq, forK_enumAt g]
    refine OkP.bind L fun fr t hq => ?_
    obtain ⟨z9, z10, z11, z12, z13, z14, z15, z16, rfl, rfl⟩ := hq
    rw [then_nx, ev_snil, okP_ok]
    exact ⟨z9, z10, z11, z12, z13, z14, z15, z16, rfl, by rw [List.length_append]; rfl⟩
  · obtain ⟨y9, y10, y11, y12, y13, y14, y15, y16, rfl, rfl⟩ := hI
    exact ⟨y9, y10, y11, y12, y13, y14, y15, y16, rfl, by rw [List.length_range]⟩
def pappB : List S := [.ex (.mt .append (.ix (.var 6) (.var 10)) [(.var 11)])]
theorem papp {R : RN} (F : WT.Fun) (X : Nat → Nat → Nat) (b G : Store) (pl many k : Nat) (hk : k < 1000) {v : List Nat} (hv : v.length = R.n) (x9 x10 x11 x12 x13 x14 x15 x16 : Option D) :
    OkP (limR fun n => loopL (.tp [(.nm 10), (.nm 11)]) (denSs F pappB) (.enum (.loc (b.length + R.n + G.length))) n 0 (penv R b G pl many k (x9) (x10) (x11) (x12) (x13) (x14) (x15) (x16)) (LX R X b k G ++ [.lst (nats v)])) fun fr t => ∃ y9 y10 y11 y12 y13 y14 y15 y16, fr = (.nx, penv R b G pl many k y9 y10 y11 y12 y13 y14 y15 y16) ∧ t = LX R (putX X k v) b (k + 1) G ++ [.lst (nats v)] := by
  refine loopL_list (l := List.range R.n) (e := fun d => .tup [.int (d : Nat), .int (v.getD d 0 : Nat)]) (fun l1 r t => ∃ y9 y10 y11 y12 y13 y14 y15 y16, r = penv R b G pl many k y9 y10 y11 y12 y13 y14 y15 y16 ∧ t = LP R X b k v l1.length G ++ [.lst (nats v)]) ⟨_, _, _, _, _, _, _, _, rfl, by rw [List.length_nil, LP_zero]⟩ (fun l1 r t hI => ?_) (fun l1 d l2 r t hx hI => ?_) fun r t hI => ?_
  · obtain ⟨y9, y10, y11, y12, y13, y14, y15, y16, _, rfl⟩ := hI
    exact srcE_nats hv (LP_new R X b k v l1.length G _)
  · obtain ⟨y9, y10, y11, y12, y13, y14, y15, y16, rfl, rfl⟩ := hI
    have hd : d < R.n := List.mem_range.mp (by rw [hx]; simp)
    have hl : d = l1.length := by
      have h1 : (List.range R.n)[l1.length]? = some d := by rw [hx, List.getElem?_append_right (Nat.le_refl _), Nat.sub_self]; rfl
      obtain ⟨h2, h3⟩ := List.getElem?_eq_some_iff.mp h1
      simpa using h3.symm
    subst hl
    have g := LP_col R X b k v l1.length G [.lst (nats v)] hd
    have hz : (nats (colX X k l1.length)).length < sizeLine := by rw [nats_len, sizeLine_eq]; simp [colX]; omega
    refine ⟨_, by simp only [penv, asg_tp, asg_cons, asg_nm, asg_nil, Option.bind_some, Option.bind_eq_bind]; rfl, ?_⟩
    simp only [List.set_cons_zero, List.set_cons_succ, pappB, ev_var, ev_int, ev_bl, ev_non, ev_str, ev_tup, ev_lst, ev_dnew, ev_disp, ev_bin, ev_neg, ev_cmp, ev_chain, ev_and, ev_or, ev_not, ev_ite, ev_ix, ev_sl, ev_rev, ev_call, ev_bi, ev_mt, ev_comp2, ev_nil, ev_cons, ev_ifn, ev_ifc,  ev_asg, ev_aug, ev_setIx, ev_augIx, ev_ex, ev_ret, ev_retN, ev_if, ev_for2, ev_brk, ev_cont, ev_pass, ev_snil, ev_scons, then_nx, then_rt, then_bk, then_ct, end_rt, end_nx, optR_some, finish_self, asg_nm, asg_tp, asg_nil, asg_cons,  truth_bl, truth_int, Res.bind_ok, safe_ok, List.getElem?_cons_zero, List.getElem?_cons_succ, List.set_cons_zero, List.set_cons_succ, List.length_cons, List.length_nil, Option.map_some, Option.bind_some, Option.bind_eq_bind, wipeE, if_true, if_false, Bool.false_eq_true, ite_true, ite_false, reduceIte, reduceCtorEq, x_lst, locs_at _ _ _ hd, mtOk_loc g (m := .append) (by decide), app_at g hz, okP_ok]
    refine ⟨y9, some (.int (l1.length : Nat)), some (.int (v.getD l1.length 0 : Nat)), y12, y13, y14, y15, y16, rfl, ?_⟩
    rw [LP_step R X b k v l1.length G _ hd, List.length_append]; rfl
  · obtain ⟨y9, y10, y11, y12, y13, y14, y15, y16, rfl, rfl⟩ := hI
    refine ⟨y9, y10, y11, y12, y13, y14, y15, y16, rfl, ?_⟩
    rw [List.length_range, LP_all hv]
end Wk92

set_option maxRecDepth 100000
set_option maxHeartbeats 2000000
set_option linter.all false
namespace Wk92
open PySem WT Wring
/-! _law_begins -/
theorem len_times (R : RN) (al : Bool) (st : Store) : biD al .len [timesD R] st = .ok (.int (R.n : Nat)) st := by
  unfold timesD
  rw [u_len_t]; simp
/-- as many new lists as there are times -/
theorem new_lists {F : WT.Fun} {i : Nat} {e : E} {own : List Nat} {r : WT.Env} (R : RN) (hn : R.n ≤ 20) (st : Store) (h : den F e r st = .ok (timesD R) st) : den F (.comp false (.lst true []) (.nm i) .val [e] [] own) r st = .ok (.lst (locs st.length R.n)) (LX R R.B st 0 []) := by
  have c0 : 0 ≤ sizeLine := few (by decide)
  have C : OkP (cM (fun x : Nat => stepC (den F (.lst true [])) (denIf F []) (.nm i) (wipeE r own) (.int (R.T x : Nat))) (List.range R.n) st) fun xs t => xs = locs st.length R.n ∧ t = st ++ List.replicate R.n (Ob.lst []) := by
    refine cM_inv (fun l1 acc t => acc = locs st.length l1.length ∧ t = st ++ List.replicate l1.length (Ob.lst [])) ⟨rfl, by simp⟩ (fun l1 x l2 acc t hx hI => ?_) fun acc t hI => ?_
    · obtain ⟨rfl, rfl⟩ := hI
      simp only [stepC_eq, ev_var, ev_int, ev_bl, ev_non, ev_str, ev_tup, ev_lst, ev_dnew, ev_disp, ev_bin, ev_neg, ev_cmp, ev_chain, ev_and, ev_or, ev_not, ev_ite, ev_ix, ev_sl, ev_rev, ev_call, ev_bi, ev_mt, ev_comp2, ev_nil, ev_cons, ev_ifn, ev_ifc,  ev_asg, ev_aug, ev_setIx, ev_augIx, ev_ex, ev_ret, ev_retN, ev_if, ev_for2, ev_brk, ev_cont, ev_pass, ev_snil, ev_scons, then_nx, then_rt, then_bk, then_ct, end_rt, end_nx, optR_some, finish_self, asg_nm, asg_tp, asg_nil, asg_cons,  truth_bl, truth_int, Res.bind_ok, safe_ok, List.getElem?_cons_zero, List.getElem?_cons_succ, List.set_cons_zero, List.set_cons_succ, List.length_cons, List.length_nil, Option.map_some, Option.bind_some, Option.bind_eq_bind, wipeE, if_true, if_false, Bool.false_eq_true, ite_true, ite_false, reduceIte, reduceCtorEq, newL_t, c0, okP_ok]
      refine ⟨?_, ?_⟩
      · rw [List.length_append, List.length_append, List.length_replicate, List.length_singleton, locs_succ]; rfl
      · rw [List.append_assoc, List.length_append, List.length_singleton, List.replicate_succ']
    · rw [List.length_range] at hI; exact hI
  obtain ⟨xs, t, e1, rfl, rfl⟩ := OkP.ex C
  have et : timesD R = .tup ((List.range R.n).map fun q => .int (R.T q : Nat)) := rfl
  have hl : (locs st.length R.n).length ≤ sizeLine := few (by simp [locs]; omega)
  simp only [ev_var, ev_int, ev_bl, ev_non, ev_str, ev_tup, ev_lst, ev_dnew, ev_disp, ev_bin, ev_neg, ev_cmp, ev_chain, ev_and, ev_or, ev_not, ev_ite, ev_ix, ev_sl, ev_rev, ev_call, ev_bi, ev_mt, ev_comp2, ev_nil, ev_cons, ev_ifn, ev_ifc,  ev_asg, ev_aug, ev_setIx, ev_augIx, ev_ex, ev_ret, ev_retN, ev_if, ev_for2, ev_brk, ev_cont, ev_pass, ev_snil, ev_scons, then_nx, then_rt, then_bk, then_ct, end_rt, end_nx, optR_some, finish_self, asg_nm, asg_tp, asg_nil, asg_cons,  truth_bl, truth_int, Res.bind_ok, safe_ok, List.getElem?_cons_zero, List.getElem?_cons_succ, List.set_cons_zero, List.set_cons_succ, List.length_cons, List.length_nil, Option.map_some, Option.bind_some, Option.bind_eq_bind, wipeE, if_true, if_false, Bool.false_eq_true, ite_true, ite_false, reduceIte, reduceCtorEq, h, et, compK_tup, cM_map, e1, newL_f, hl]
  congr 1
  unfold LX colsX
  congr 1
  simp only [List.append_nil, colX, List.range_zero, List.map_nil, nats]
  apply List.ext_getElem?
  intro j
  rw [List.getElem?_replicate, List.getElem?_map]
  by_cases hj : j < R.n
  · rw [if_pos hj, List.getElem?_range hj]; rfl
  · rw [if_neg hj, List.getElem?_eq_none (by simp; omega)]; rfl
theorem LX_more (R : RN) (X : Nat → Nat → Nat) (b : Store) (k : Nat) (G : Store) (o : Ob) : LX R X b k G ++ [o] = LX R X b k (G ++ [o]) := by unfold LX; simp
theorem getD_zeros (n d : Nat) : (List.replicate n 0).getD d 0 = 0 := by
  simp [List.getD_eq_getElem?_getD, List.getElem?_replicate]
  split <;> simp
/-- right for all turns ahead of k -/
def Right (R : RN) (X : Nat → Nat → Nat) (k : Nat) : Prop := ∀ j, j < k → ∀ d, d < R.n → X j d = R.B j d
theorem row_getD (R : RN) (k d : Nat) (hd : d < R.n) : (row R k).getD d 0 = R.B k d := by
  unfold row
  rw [List.getD_eq_getElem?_getD, List.getElem?_map, List.getElem?_range hd]; rfl
theorem right_put {R : RN} {X : Nat → Nat → Nat} {k : Nat} (h : Right R X k) : Right R (putX X k (row R k)) (k + 1) := by
  intro j hj d hd
  unfold putX
  by_cases e : j = k
  · subst e; rw [if_pos rfl, row_getD R j d hd]
  · rw [if_neg e]; exact h j (by omega) d hd
theorem right_laps {R : RN} (hR : R.Ok) {X : Nat → Nat → Nat} {k : Nat} (h : Right R X k) : lapsOf R k (fun q => X (k - R.M q) (R.E q)) R.n (List.replicate R.n 0) = row R k :=
  laps_row hR fun q hq h1 h2 => h _ (by omega) _ (hR.e q hq)
theorem right_cols {R : RN} {X : Nat → Nat → Nat} {k : Nat} (h : Right R X k) (b G : Store) : LX R X b k G = LX R R.B b k G := by
  unfold LX colsX
  congr 2
  refine List.map_congr_left fun d hd => ?_
  congr 2
  unfold colX
  exact List.map_congr_left fun j hj => h j (List.mem_range.mp hj) d (List.mem_range.mp hd)
def broundB : List S := [.asg (.nm 6) (.bin true .Mult (.lst false [(.int 0)]) (.bi false .len [(.var 2)])), .for_ (.nm 7) .rng [(.bi false .len [(.var 2)])] blapB, .for_ (.tp [(.nm 8), (.nm 9)]) .enum [(.var 6)] bappB]
theorem bround {R : RN} (hR : R.Ok) (hn : R.n ≤ 20) (F : WT.Fun) (X : Nat → Nat → Nat) (b G : Store) (pl many k : Nat) (hk : k < 1000) (hp : b[pl]? = some (.lst (pairsD R))) (hX : Right R X k) (x6 x7 x8 x9 x10 x11 x12 x13 x14 : Option D) :
    OkP (denSs F broundB [some (.loc pl), some (markD R), some (timesD R), some (.int (many : Nat)), some (.lst (locs b.length R.n)), some (.int (k : Nat)), x6, x7, x8, x9, x10, x11, x12, x13, x14] (LX R X b k G)) fun fr t => ∃ X' G' y6 y7 y8 y9 y10 y11 y12 y13 y14, fr = (.nx, [some (.loc pl), some (markD R), some (timesD R), some (.int (many : Nat)), some (.lst (locs b.length R.n)), some (.int (k : Nat)), y6, y7, y8, y9, y10, y11, y12, y13, y14]) ∧ t = LX R X' b (k + 1) G' ∧ Right R X' (k + 1) := by
  have c1 : 0 + 1 ≤ sizeLine := few (by decide)
  have hv : (List.replicate R.n 0).length = R.n := by simp
  have L1 := blaps hR F X b G pl many k hp hv x7 x8 x9 x10 x11 x12 x13 x14
  obtain ⟨fr, t, e1, y7, y8, y9, y10, y11, y12, y13, y14, rfl, rfl⟩ := OkP.ex L1
  rw [right_laps hR hX] at e1
  have hr : (row R k).length = R.n := by simp [row]
  obtain ⟨fr, t, e2, z7, z8, z9, z10, z11, z12, z13, z14, rfl, rfl⟩ := OkP.ex (bapp F X b G pl many k hk hr y7 y8 y9 y10 y11 y12 y13 y14)
  have g := LX_new R X b k G (.lst (nats (row R k)))
  simp only [benv] at e1 e2
  simp only [broundB, ev_var, ev_int, ev_bl, ev_non, ev_str, ev_tup, ev_lst, ev_dnew, ev_disp, ev_bin, ev_neg, ev_cmp, ev_chain, ev_and, ev_or, ev_not, ev_ite, ev_ix, ev_sl, ev_rev, ev_call, ev_bi, ev_mt, ev_comp2, ev_nil, ev_cons, ev_ifn, ev_ifc,  ev_asg, ev_aug, ev_setIx, ev_augIx, ev_ex, ev_ret, ev_retN, ev_if, ev_for2, ev_brk, ev_cont, ev_pass, ev_snil, ev_scons, then_nx, then_rt, then_bk, then_ct, end_rt, end_nx, optR_some, finish_self, asg_nm, asg_tp, asg_nil, asg_cons,  truth_bl, truth_int, Res.bind_ok, safe_ok, List.getElem?_cons_zero, List.getElem?_cons_succ, List.set_cons_zero, List.set_cons_succ, List.length_cons, List.length_nil, Option.map_some, Option.bind_some, Option.bind_eq_bind, wipeE, if_true, if_false, Bool.false_eq_true, ite_true, ite_false, reduceIte, reduceCtorEq, newL_f, c1, len_times, mul_zeros (show R.n ≤ 1000 by omega), LX_len, forK_rng _ _ _ _ _ (few (show R.n ≤ 1000 by omega)), e1, forK_enumAt g, e2, okP_ok]
  exact ⟨_, _, _, _, _, _, _, _, _, _, _, rfl, LX_more _ _ _ _ _ _, right_put hX⟩
theorem begins_ok {R : RN} (hR : R.Ok) (hn : R.n ≤ 20) (h0 : 0 < R.n) (kk : Nat) (st : Store) (pl many : Nat) (hm : many ≤ 1000) (hp : st[pl]? = some (.lst (pairsD R))) : ∃ G, phi Pr (kk + 1) "_law_begins" [.loc pl, markD R, timesD R, .int (many : Nat)] st = .ok (.lst (locs st.length R.n)) (LX R R.B st many G) := by
  have L : OkP (loopF (.nm 5) (denSs (phi Pr kk) broundB) ((List.range many).map fun i => D.int (i : Nat)) [some (.loc pl), some (markD R), some (timesD R), some (.int (many : Nat)), some (.lst (locs st.length R.n)), none, none, none, none, none, none, none, none, none, none] (LX R R.B st 0 [])) fun fr t => ∃ X G y5 y6 y7 y8 y9 y10 y11 y12 y13 y14, fr = (.nx, [some (.loc pl), some (markD R), some (timesD R), some (.int (many : Nat)), some (.lst (locs st.length R.n)), y5, y6, y7, y8, y9, y10, y11, y12, y13, y14]) ∧ t = LX R X st many G ∧ Right R X many := by
    refine loop_list (fun l1 r t => ∃ X G y5 y6 y7 y8 y9 y10 y11 y12 y13 y14, r = [some (.loc pl), some (markD R), some (timesD R), some (.int (many : Nat)), some (.lst (locs st.length R.n)), y5, y6, y7, y8, y9, y10, y11, y12, y13, y14] ∧ t = LX R X st l1.length G ∧ Right R X l1.length) ⟨R.B, [], _, _, _, _, _, _, _, _, _, _, rfl, rfl, fun j hj d hd => rfl⟩ (fun l1 x l2 r t hx hI => ?_) fun r t hI => ?_
    · obtain ⟨X, G, y5, y6, y7, y8, y9, y10, y11, y12, y13, y14, rfl, rfl, hX⟩ := hI
      have hxl : x = l1.length := by
        have h1 : (List.range many)[l1.length]? = some x := by rw [hx, List.getElem?_append_right (Nat.le_refl _), Nat.sub_self]; rfl
        obtain ⟨h2, h3⟩ := List.getElem?_eq_some_iff.mp h1
        simpa using h3.symm
      have hxm : x < many := List.mem_range.mp (by rw [hx]; simp)
      subst hxl
      refine ⟨_, asg_nm _ _ _, ?_⟩
      simp only [List.set_cons_zero, List.set_cons_succ]
      refine OkP.imp (bround hR hn (phi Pr kk) X st G pl many l1.length (by omega) hp hX y6 y7 y8 y9 y10 y11 y12 y13 y14) fun fr t q => ?_
      obtain ⟨X', G', z6, z7, z8, z9, z10, z11, z12, z13, z14, rfl, rfl, hX'⟩ := q
      exact ⟨X', G', some (.int (l1.length : Nat)), z6, z7, z8, z9, z10, z11, z12, z13, z14, rfl, by simp, by simpa using hX'⟩
    · obtain ⟨X, G, y5, y6, y7, y8, y9, y10, y11, y12, y13, y14, rfl, rfl, hX⟩ := hI
      exact ⟨X, G, y5, y6, y7, y8, y9, y10, y11, y12, y13, y14, rfl, by simp, by simpa using hX⟩
  obtain ⟨fr, t, e, X, G, y5, y6, y7, y8, y9, y10, y11, y12, y13, y14, rfl, rfl, hX⟩ := OkP.ex L
  refine ⟨G, ?_⟩
  rw [phi_def p__law_begins rfl]
  have c := new_lists (F := phi Pr kk) (i := 8) (e := .var 2) (own := [8]) (r := [some (.loc pl), some (markD R), some (timesD R), some (.int (many : Nat)), none, none, none, none, none, none, none, none, none, none, none]) R hn st (by simp only [ev_var, ev_int, ev_bl, ev_non, ev_str, ev_tup, ev_lst, ev_dnew, ev_disp, ev_bin, ev_neg, ev_cmp, ev_chain, ev_and, ev_or, ev_not, ev_ite, ev_ix, ev_sl, ev_rev, ev_call, ev_bi, ev_mt, ev_comp2, ev_nil, ev_cons, ev_ifn, ev_ifc,  ev_asg, ev_aug, ev_setIx, ev_augIx, ev_ex, ev_ret, ev_retN, ev_if, ev_for2, ev_brk, ev_cont, ev_pass, ev_snil, ev_scons, then_nx, then_rt, then_bk, then_ct, end_rt, end_nx, optR_some, finish_self, asg_nm, asg_tp, asg_nil, asg_cons,  truth_bl, truth_int, Res.bind_ok, safe_ok, List.getElem?_cons_zero, List.getElem?_cons_succ, List.set_cons_zero, List.set_cons_succ, List.length_cons, List.length_nil, Option.map_some, Option.bind_some, Option.bind_eq_bind, wipeE, if_true, if_false, Bool.false_eq_true, ite_true, ite_false, reduceIte, reduceCtorEq])
  show (denSs (phi Pr kk) [.asg (.nm 4) (.comp false (.lst true []) (.nm 8) .val [(.var 2)] [] [8]), .for_ (.nm 5) .rng [(.var 3)] broundB, .ret (.var 4)] [some (.loc pl), some (markD R), some (timesD R), some (.int (many : Nat)), none, none, none, none, none, none, none, none, none, none, none] st).bind (endOf st) = _
  simp only [ev_var, ev_int, ev_bl, ev_non, ev_str, ev_tup, ev_lst, ev_dnew, ev_disp, ev_bin, ev_neg, ev_cmp, ev_chain, ev_and, ev_or, ev_not, ev_ite, ev_ix, ev_sl, ev_rev, ev_call, ev_bi, ev_mt, ev_nil, ev_cons, ev_ifn, ev_ifc,  ev_asg, ev_aug, ev_setIx, ev_augIx, ev_ex, ev_ret, ev_retN, ev_if, ev_for2, ev_brk, ev_cont, ev_pass, ev_snil, ev_scons, then_nx, then_rt, then_bk, then_ct, end_rt, end_nx, optR_some, finish_self, asg_nm, asg_tp, asg_nil, asg_cons,  truth_bl, truth_int, Res.bind_ok, safe_ok, List.getElem?_cons_zero, List.getElem?_cons_succ, List.set_cons_zero, List.set_cons_succ, List.length_cons, List.length_nil, Option.map_some, Option.bind_some, Option.bind_eq_bind, wipeE, if_true, if_false, Bool.false_eq_true, ite_true, ite_false, reduceIte, reduceCtorEq, c, forK_rng _ _ _ _ _ (few hm), e]
  unfold WT.finish
  have hlow : D.low (.lst (locs st.length R.n)) st.length = false := by
    simp only [D.low]
    cases hx : D.lowL (locs st.length R.n) st.length with
    | false => rfl
    | true =>
      have := mem_lowL hx (.loc (st.length + 0)) (List.mem_map.mpr ⟨0, List.mem_range.mpr h0, rfl⟩)
      simp [D.low] at this
  rw [if_neg (by rw [hlow]; simp), right_cols hX]
/-! _law_is_run -/
def tok (R : RN) (pre : List Nat) (q : Nat) : Int := (R.M q : Int) - (pre.count (R.L q) : Nat) + (pre.count (R.E q) : Nat)
def toks (R : RN) (pre : List Nat) : List D := (List.range R.np).map fun q => .int (tok R pre q)
theorem tok_snoc (R : RN) (pre : List Nat) (d q : Nat) : tok R (pre ++ [d]) q = tok R pre q - (if R.L q = d then 1 else 0) + (if R.E q = d then 1 else 0) := by
  unfold tok
  have e : ∀ a : Nat, [d].count a = if a = d then 1 else 0 := fun a => by
    rw [List.count_singleton]
    by_cases h : a = d
    · subst h; simp
    · rw [if_neg h, if_neg (by simp; exact fun z => h z.symm)]
  rw [List.count_append, List.count_append, e, e]
  split <;> split <;> omega
theorem ifc (a b : Nat) : (if decide ((a : Int) = (b : Int)) = true then (1 : Int) else 0) = if a = b then 1 else 0 := by
  by_cases h : a = b
  · subst h; simp
  · have : ¬ (a : Int) = (b : Int) := by omega
    simp [h, this]
theorem filter_no (l : List (Nat × Nat)) : l.filter (fun _ => false) = [] := by simp
def runB1 : S := .ite (.cmp .NotEq (.comp false (.var 5) (.tp [(.nm 5), (.tp [(.nm 6), (.nm 7)])]) .enum [(.var 0)] [(.and (.cmp .Eq (.var 7) (.var 4)) (.cmp .Eq (.ix (.var 3) (.var 5)) (.int 0)))] [5, 6, 7]) (.lst false [])) [.ret (.bl false)] []
def runB2 : List S := [.setIx (.var 3) (.var 5) (.bin false .Add (.bin false .Sub (.ix (.var 3) (.var 5)) (.bi false .int [(.cmp .Eq (.var 7) (.var 4))])) (.bi false .int [(.cmp .Eq (.var 6) (.var 4))]))]
theorem eq_nil2 {xs : List D} (h : D.flatL xs = true) (hs : D.dataL xs 63 = true) (st : Store) : cmpD .NotEq (.lst xs) (.lst []) st = some (!decide (xs = [])) := by
  rw [b_flatN st (by simpa [D.flat] using h) rfl (by simpa [D.data] using hs) rfl]
  simp
theorem isrun_ok {R : RN} (hnp : R.np ≤ 20) (kk : Nat) {st : Store} {pl : Nat} (hp : st[pl]? = some (.lst (pairsD R))) {d : D} {ds : List Nat} (hd : Seq d (nats ds)) (hr : RunOk R ds) : phi Pr (kk + 1) "_law_is_run" [.loc pl, markD R, d] st = .ok (.bl true) st := by
  have hpl : pl < st.length := (List.getElem?_eq_some_iff.mp hp).1
  have hp' : ∀ g : Store, (st ++ g)[pl]? = some (.lst (pairsD R)) := fun g => by rw [List.getElem?_append_left hpl]; exact hp
  have gt : ∀ o, (st ++ [o])[st.length]? = some o := fun o => by rw [List.getElem?_append_right (Nat.le_refl _), Nat.sub_self]; rfl
  have hz : ∀ (f : Nat → D), ((List.range R.np).map f).length ≤ sizeLine := fun f => few (by simp; omega)
  have tk : ∀ pre q, q < R.np → (toks R pre)[q]? = some (.int (tok R pre q)) := fun pre q hq => by unfold toks; rw [List.getElem?_map, List.getElem?_range hq]; rfl
  have c0 : 0 ≤ sizeLine := few (by decide)
  -- one deed
  have step : ∀ pre x post, ds = pre ++ x :: post → ∀ x5 x6 x7 : Option D, OkP (denSs (phi Pr kk) [runB1, .for_ (.tp [(.nm 5), (.tp [(.nm 6), (.nm 7)])]) .enum [(.var 0)] runB2] [some (.loc pl), some (markD R), some d, some (.loc st.length), some (.int (x : Nat)), x5, x6, x7] (st ++ [.lst (toks R pre)])) fun fr t => ∃ y5 y6 y7, fr = (.nx, [some (.loc pl), some (markD R), some d, some (.loc st.length), some (.int (x : Nat)), y5, y6, y7]) ∧ t = st ++ [.lst (toks R (pre ++ [x]))] := by
    intro pre x post e x5 x6 x7
    have pos : ∀ q, q < R.np → R.L q = x → tok R pre q ≠ 0 := fun q hq hl => by
      have := hr pre x post e q hq hl
      unfold tok; omega
    have hc : den (phi Pr kk) (.comp false (.var 5) (.tp [(.nm 5), (.tp [(.nm 6), (.nm 7)])]) .enum [(.var 0)] [(.and (.cmp .Eq (.var 7) (.var 4)) (.cmp .Eq (.ix (.var 3) (.var 5)) (.int 0)))] [5, 6, 7]) [some (.loc pl), some (markD R), some d, some (.loc st.length), some (.int (x : Nat)), x5, x6, x7] (st ++ [.lst (toks R pre)]) = .ok (.lst []) (st ++ [.lst (toks R pre)]) := by
      simp only [ev_var, ev_int, ev_bl, ev_non, ev_str, ev_tup, ev_lst, ev_dnew, ev_disp, ev_bin, ev_neg, ev_cmp, ev_chain, ev_and, ev_or, ev_not, ev_ite, ev_ix, ev_sl, ev_rev, ev_call, ev_bi, ev_mt, ev_comp2, ev_nil, ev_cons, ev_ifn, ev_ifc,  ev_asg, ev_aug, ev_setIx, ev_augIx, ev_ex, ev_ret, ev_retN, ev_if, ev_for2, ev_brk, ev_cont, ev_pass, ev_snil, ev_scons, then_nx, then_rt, then_bk, then_ct, end_rt, end_nx, optR_some, finish_self, asg_nm, asg_tp, asg_nil, asg_cons,  truth_bl, truth_int, Res.bind_ok, safe_ok, List.getElem?_cons_zero, List.getElem?_cons_succ, List.set_cons_zero, List.set_cons_succ, List.length_cons, List.length_nil, Option.map_some, Option.bind_some, Option.bind_eq_bind, wipeE, if_true, if_false, Bool.false_eq_true, ite_true, ite_false, reduceIte, reduceCtorEq]
      rw [compK_enumAt (List.range R.np) (fun q => .tup [.int (R.E q : Nat), .int (R.L q : Nat)]) (fun _ => false) (fun z => .int (z.2 : Nat)) (hp' _) fun z hz => ?_]
      · simp only [filter_no, List.map_nil, newL_f, List.length_nil, c0]
      · obtain ⟨z1, z2⟩ := z
        have hzz : z1 = z2 ∧ z1 < R.np := by
          rw [zip_range_ix] at hz
          obtain ⟨q, hq, e⟩ := List.mem_map.mp hz
          cases e
          exact ⟨rfl, List.mem_range.mp hq⟩
        obtain ⟨rfl, hq⟩ := hzz
        refine ⟨_, by simp only [asg_tp, asg_cons, asg_nm, asg_nil, Option.bind_some, Option.bind_eq_bind]; rfl, ?_, fun z => by cases z⟩
        by_cases hl : R.L z1 = x
        · have e1 : ((R.L z1 : Nat) : Int) = (x : Int) := by omega
          have e2 := pos z1 hq hl
          simp only [ev_var, ev_int, ev_bl, ev_non, ev_str, ev_tup, ev_lst, ev_dnew, ev_disp, ev_bin, ev_neg, ev_cmp, ev_chain, ev_and, ev_or, ev_not, ev_ite, ev_ix, ev_sl, ev_rev, ev_call, ev_bi, ev_mt, ev_comp2, ev_nil, ev_cons, ev_ifn, ev_ifc,  ev_asg, ev_aug, ev_setIx, ev_augIx, ev_ex, ev_ret, ev_retN, ev_if, ev_for2, ev_brk, ev_cont, ev_pass, ev_snil, ev_scons, then_nx, then_rt, then_bk, then_ct, end_rt, end_nx, optR_some, finish_self, asg_nm, asg_tp, asg_nil, asg_cons,  truth_bl, truth_int, Res.bind_ok, safe_ok, List.getElem?_cons_zero, List.getElem?_cons_succ, List.set_cons_zero, List.set_cons_succ, List.length_cons, List.length_nil, Option.map_some, Option.bind_some, Option.bind_eq_bind, wipeE, if_true, if_false, Bool.false_eq_true, ite_true, ite_false, reduceIte, reduceCtorEq, b_add, b_sub, b_eq, b_ne, b_lt, b_le, b_gt, b_ge, u_abs, u_int, u_intb, u_tuple_l, u_tuple_t, u_len_l, u_len_t, eq_self, decide_true, decide_false, e1, x_at (gt _), tk pre z1 hq, e2, decide_false]
        · have e1 : ¬ ((R.L z1 : Nat) : Int) = (x : Int) := by omega
          simp only [ev_var, ev_int, ev_bl, ev_non, ev_str, ev_tup, ev_lst, ev_dnew, ev_disp, ev_bin, ev_neg, ev_cmp, ev_chain, ev_and, ev_or, ev_not, ev_ite, ev_ix, ev_sl, ev_rev, ev_call, ev_bi, ev_mt, ev_comp2, ev_nil, ev_cons, ev_ifn, ev_ifc,  ev_asg, ev_aug, ev_setIx, ev_augIx, ev_ex, ev_ret, ev_retN, ev_if, ev_for2, ev_brk, ev_cont, ev_pass, ev_snil, ev_scons, then_nx, then_rt, then_bk, then_ct, end_rt, end_nx, optR_some, finish_self, asg_nm, asg_tp, asg_nil, asg_cons,  truth_bl, truth_int, Res.bind_ok, safe_ok, List.getElem?_cons_zero, List.getElem?_cons_succ, List.set_cons_zero, List.set_cons_succ, List.length_cons, List.length_nil, Option.map_some, Option.bind_some, Option.bind_eq_bind, wipeE, if_true, if_false, Bool.false_eq_true, ite_true, ite_false, reduceIte, reduceCtorEq, b_add, b_sub, b_eq, b_ne, b_lt, b_le, b_gt, b_ge, u_abs, u_int, u_intb, u_tuple_l, u_tuple_t, u_len_l, u_len_t, eq_self, decide_true, decide_false, e1, decide_false]
    have s1 : denS (phi Pr kk) runB1 [some (.loc pl), some (markD R), some d, some (.loc st.length), some (.int (x : Nat)), x5, x6, x7] (st ++ [.lst (toks R pre)]) = .ok (.nx, [some (.loc pl), some (markD R), some d, some (.loc st.length), some (.int (x : Nat)), x5, x6, x7]) (st ++ [.lst (toks R pre)]) := by
      rw [runB1, ev_if, ev_cmp, hc]
      simp only [ev_var, ev_int, ev_bl, ev_non, ev_str, ev_tup, ev_lst, ev_dnew, ev_disp, ev_bin, ev_neg, ev_cmp, ev_chain, ev_and, ev_or, ev_not, ev_ite, ev_ix, ev_sl, ev_rev, ev_call, ev_bi, ev_mt, ev_comp2, ev_nil, ev_cons, ev_ifn, ev_ifc,  ev_asg, ev_aug, ev_setIx, ev_augIx, ev_ex, ev_ret, ev_retN, ev_if, ev_for2, ev_brk, ev_cont, ev_pass, ev_snil, ev_scons, then_nx, then_rt, then_bk, then_ct, end_rt, end_nx, optR_some, finish_self, asg_nm, asg_tp, asg_nil, asg_cons,  truth_bl, truth_int, Res.bind_ok, safe_ok, List.getElem?_cons_zero, List.getElem?_cons_succ, List.set_cons_zero, List.set_cons_succ, List.length_cons, List.length_nil, Option.map_some, Option.bind_some, Option.bind_eq_bind, wipeE, if_true, if_false, Bool.false_eq_true, ite_true, ite_false, reduceIte, reduceCtorEq, newL_f, c0, eq_nil2 (xs := []) (by rfl) (by rfl), decide_true, Bool.not_true]
    rw [ev_scons, s1, Res.bind_ok, then_nx]
    simp only [ev_var, ev_int, ev_bl, ev_non, ev_str, ev_tup, ev_lst, ev_dnew, ev_disp, ev_bin, ev_neg, ev_cmp, ev_chain, ev_and, ev_or, ev_not, ev_ite, ev_ix, ev_sl, ev_rev, ev_call, ev_bi, ev_mt, ev_comp2, ev_nil, ev_cons, ev_ifn, ev_ifc,  ev_asg, ev_aug, ev_setIx, ev_augIx, ev_ex, ev_ret, ev_retN, ev_if, ev_for2, ev_brk, ev_cont, ev_pass, ev_snil, ev_scons, then_nx, then_rt, then_bk, then_ct, end_rt, end_nx, optR_some, finish_self, asg_nm, asg_tp, asg_nil, asg_cons,  truth_bl, truth_int, Res.bind_ok, safe_ok, List.getElem?_cons_zero, List.getElem?_cons_succ, List.set_cons_zero, List.set_cons_succ, List.length_cons, List.length_nil, Option.map_some, Option.bind_some, Option.bind_eq_bind, wipeE, if_true, if_false, Bool.false_eq_true, ite_true, ite_false, reduceIte, reduceCtorEq, forK_enumAt (hp' _)]
    have L : OkP (limR fun n => loopL (.tp [(.nm 5), (.tp [(.nm 6), (.nm 7)])]) (denSs (phi Pr kk) runB2) (.enum (.loc pl)) n 0 [some (.loc pl), some (markD R), some d, some (.loc st.length), some (.int (x : Nat)), x5, x6, x7] (st ++ [.lst (toks R pre)])) fun fr t => ∃ y5 y6 y7, fr = (.nx, [some (.loc pl), some (markD R), some d, some (.loc st.length), some (.int (x : Nat)), y5, y6, y7]) ∧ t = st ++ [.lst (toks R (pre ++ [x]))] := by
      refine loopL_list (l := List.range R.np) (e := pairE R) (fun l1 r t => ∃ y5 y6 y7, r = [some (.loc pl), some (markD R), some d, some (.loc st.length), some (.int (x : Nat)), y5, y6, y7] ∧ t = st ++ [.lst ((List.range R.np).map fun q => .int (if q < l1.length then tok R (pre ++ [x]) q else tok R pre q))]) ⟨_, _, _, rfl, by simp [toks]⟩ (fun l1 r t hI => ?_) (fun l1 q l2 r t hx hI => ?_) fun r t hI => ?_
      · obtain ⟨_, _, _, _, rfl⟩ := hI
        exact srcE_pairs (hp' _)
      · obtain ⟨y5, y6, y7, rfl, rfl⟩ := hI
        have hq : q < R.np := List.mem_range.mp (by rw [hx]; simp)
        have hql : q = l1.length := by
          have h1 : (List.range R.np)[l1.length]? = some q := by rw [hx, List.getElem?_append_right (Nat.le_refl _), Nat.sub_self]; rfl
          obtain ⟨h2, h3⟩ := List.getElem?_eq_some_iff.mp h1
          simpa using h3.symm
        subst hql
        have g1 := gt (.lst ((List.range R.np).map fun q => D.int (if q < l1.length then tok R (pre ++ [x]) q else tok R pre q)))
        have g2 : ((List.range R.np).map fun q => D.int (if q < l1.length then tok R (pre ++ [x]) q else tok R pre q))[l1.length]? = some (.int (tok R pre l1.length)) := by
          rw [List.getElem?_map, List.getElem?_range hq]; simp
        refine ⟨_, by simp only [pairE, asg_tp, asg_cons, asg_nm, asg_nil, Option.bind_some, Option.bind_eq_bind]; rfl, ?_⟩
        simp only [List.set_cons_zero, List.set_cons_succ, runB2, ev_var, ev_int, ev_bl, ev_non, ev_str, ev_tup, ev_lst, ev_dnew, ev_disp, ev_bin, ev_neg, ev_cmp, ev_chain, ev_and, ev_or, ev_not, ev_ite, ev_ix, ev_sl, ev_rev, ev_call, ev_bi, ev_mt, ev_comp2, ev_nil, ev_cons, ev_ifn, ev_ifc,  ev_asg, ev_aug, ev_setIx, ev_augIx, ev_ex, ev_ret, ev_retN, ev_if, ev_for2, ev_brk, ev_cont, ev_pass, ev_snil, ev_scons, then_nx, then_rt, then_bk, then_ct, end_rt, end_nx, optR_some, finish_self, asg_nm, asg_tp, asg_nil, asg_cons,  truth_bl, truth_int, Res.bind_ok, safe_ok, List.getElem?_cons_zero, List.getElem?_cons_succ, List.set_cons_zero, List.set_cons_succ, List.length_cons, List.length_nil, Option.map_some, Option.bind_some, Option.bind_eq_bind, wipeE, if_true, if_false, Bool.false_eq_true, ite_true, ite_false, reduceIte, reduceCtorEq, b_add, b_sub, b_eq, b_ne, b_lt, b_le, b_gt, b_ge, u_abs, u_int, u_intb, u_tuple_l, u_tuple_t, u_len_l, u_len_t, eq_self, decide_true, decide_false, ifc, x_at g1, g2, set_at g1 (show l1.length < ((List.range R.np).map fun q => D.int (if q < l1.length then tok R (pre ++ [x]) q else tok R pre q)).length by simpa using hq), okP_ok]
        refine ⟨_, _, _, rfl, ?_⟩
        rw [List.set_append_right _ _ (Nat.le_refl _), Nat.sub_self, List.set_cons_zero]
        congr 3
        apply List.ext_getElem?
        intro j
        rw [List.getElem?_set, List.getElem?_map, List.getElem?_map]
        by_cases hj : j < R.np
        · rw [List.getElem?_range hj]
          by_cases e : l1.length = j
          · subst e
            rw [if_pos rfl, if_pos (by simpa using hq)]
            simp only [List.length_append, List.length_singleton, Option.map_some]
            rw [if_pos (show l1.length < l1.length + 1 by omega), tok_snoc]
          · rw [if_neg e]
            simp only [List.length_append, List.length_singleton, Option.map_some]
            have : (j < l1.length) ↔ (j < l1.length + 1) := by omega
            simp [this]
        · rw [List.getElem?_eq_none (show (List.range R.np).length ≤ j by simp; omega), if_neg (by omega)]; rfl
      · obtain ⟨y5, y6, y7, rfl, rfl⟩ := hI
        refine ⟨y5, y6, y7, rfl, ?_⟩
        congr 3
        unfold toks
        refine List.map_congr_left fun q hq => ?_
        rw [List.length_range, if_pos (List.mem_range.mp hq)]
    refine OkP.bind L fun fr t hq => ?_
    obtain ⟨y5, y6, y7, rfl, rfl⟩ := hq
    rw [then_nx, ev_snil, okP_ok]
    exact ⟨y5, y6, y7, rfl, rfl⟩
  have L : OkP (loopF (.nm 4) (denSs (phi Pr kk) [runB1, .for_ (.tp [(.nm 5), (.tp [(.nm 6), (.nm 7)])]) .enum [(.var 0)] runB2]) (nats ds) [some (.loc pl), some (markD R), some d, some (.loc st.length), none, none, none, none] (st ++ [.lst (toks R [])])) fun fr t => ∃ y4 y5 y6 y7, fr = (.nx, [some (.loc pl), some (markD R), some d, some (.loc st.length), y4, y5, y6, y7]) ∧ t = st ++ [.lst (toks R ds)] := by
    refine loop_list (l := ds) (e := fun i => D.int (i : Nat)) (fun l1 r t => ∃ y4 y5 y6 y7, r = [some (.loc pl), some (markD R), some d, some (.loc st.length), y4, y5, y6, y7] ∧ t = st ++ [.lst (toks R l1)]) ⟨_, _, _, _, rfl, rfl⟩ (fun l1 x l2 r t hx hI => ?_) fun r t hI => ?_
    · obtain ⟨y4, y5, y6, y7, rfl, rfl⟩ := hI
      refine ⟨_, asg_nm _ _ _, ?_⟩
      simp only [List.set_cons_zero, List.set_cons_succ]
      refine OkP.imp (step l1 x l2 hx y5 y6 y7) fun fr t q => ?_
      obtain ⟨z5, z6, z7, rfl, rfl⟩ := q
      exact ⟨some (.int (x : Nat)), z5, z6, z7, rfl, rfl⟩
    · obtain ⟨y4, y5, y6, y7, rfl, rfl⟩ := hI
      exact ⟨y4, y5, y6, y7, rfl, rfl⟩
  obtain ⟨fr, t, e, y4, y5, y6, y7, rfl, rfl⟩ := OkP.ex L
  rw [phi_def p__law_is_run rfl]
  have em : (List.range R.np).map (fun q => D.int (R.M q : Nat)) = toks R [] := by unfold toks tok; simp
  have el : biD true .list [markD R] st = .ok (.loc st.length) (st ++ [.lst (toks R [])]) := by
    rw [← em]
    exact list_of rfl (hz _)
  have ed : ∀ r st, forK (.nm 4) (denSs (phi Pr kk) [runB1, .for_ (.tp [(.nm 5), (.tp [(.nm 6), (.nm 7)])]) .enum [(.var 0)] runB2]) r .val [d] st = loopF (.nm 4) (denSs (phi Pr kk) [runB1, .for_ (.tp [(.nm 5), (.tp [(.nm 6), (.nm 7)])]) .enum [(.var 0)] runB2]) (nats ds) r st := fun r st => by
    cases hd with
    | tup _ => exact forK_tup _ _ _ _ _
    | lst _ => exact forK_lst _ _ _ _ _
  show (denSs (phi Pr kk) [.asg (.nm 3) (.bi true .list [(.var 1)]), .for_ (.nm 4) .val [(.var 2)] [runB1, .for_ (.tp [(.nm 5), (.tp [(.nm 6), (.nm 7)])]) .enum [(.var 0)] runB2], .ret (.bl true)] [some (.loc pl), some (markD R), some d, none, none, none, none, none] st).bind (endOf st) = _
  simp only [ev_var, ev_int, ev_bl, ev_non, ev_str, ev_tup, ev_lst, ev_dnew, ev_disp, ev_bin, ev_neg, ev_cmp, ev_chain, ev_and, ev_or, ev_not, ev_ite, ev_ix, ev_sl, ev_rev, ev_call, ev_bi, ev_mt, ev_comp2, ev_nil, ev_cons, ev_ifn, ev_ifc,  ev_asg, ev_aug, ev_setIx, ev_augIx, ev_ex, ev_ret, ev_retN, ev_if, ev_for2, ev_brk, ev_cont, ev_pass, ev_snil, ev_scons, then_nx, then_rt, then_bk, then_ct, end_rt, end_nx, optR_some, finish_self, asg_nm, asg_tp, asg_nil, asg_cons,  truth_bl, truth_int, Res.bind_ok, safe_ok, List.getElem?_cons_zero, List.getElem?_cons_succ, List.set_cons_zero, List.set_cons_succ, List.length_cons, List.length_nil, Option.map_some, Option.bind_some, Option.bind_eq_bind, wipeE, if_true, if_false, Bool.false_eq_true, ite_true, ite_false, reduceIte, reduceCtorEq, el, ed, e]
  exact finish_app rfl
end Wk92

set_option maxRecDepth 100000
set_option maxHeartbeats 2000000
set_option linter.all false
namespace Wk92
open PySem WT Wring
theorem W : Draws Pr := ⟨fun k _ h n hn => pick2_ok rfl k h n hn⟩
/-! _law_let_plan -/
def LowX (R : RN) (X : Nat → Nat → Nat) (k : Nat) : Prop := ∀ j, j < k → ∀ d, d < R.n → R.B j d ≤ X j d
theorem low_put {R : RN} {X : Nat → Nat → Nat} {k : Nat} {w : List Nat} (h : LowX R X k) (hw : ∀ d, d < R.n → R.B k d ≤ w.getD d 0) : LowX R (putX X k w) (k + 1) := by
  intro j hj d hd
  unfold putX
  by_cases e : j = k
  · subst e; rw [if_pos rfl]; exact hw d hd
  · rw [if_neg e]; exact h j (by omega) d hd
theorem LX_app (R : RN) (X : Nat → Nat → Nat) (b : Store) (k : Nat) (G : Store) : LX R X b k G = b ++ (colsX R X k ++ G) := rfl
def nowE : E := .comp true (.bin false .Add (.ite (.cmp .Gt (.var 5) (.int 0)) (.ix (.ix (.var 6) (.var 10)) (.neg (.int 1))) (.int 0)) (.call "_law_pick" [(.var 0), (.int 3)])) (.nm 10) .rng [(.var 7)] [] [10]
theorem now_ok {R : RN} (hn : R.n ≤ 20) (kk : Nat) (st : Store) (X : Nat → Nat → Nat) (G : Store) (pl many k : Nat) {s : Store} (hk : Kept st s) (hs : Source s) (x8 x9 x10 x11 x12 x13 x14 x15 x16 : Option D) :
    OkP (den (phi Pr (kk + 1)) nowE [some (.loc 1), some (.loc pl), some (markD R), some (timesD R), some (.int (many : Nat)), some (.int (k : Nat)), some (.lst (locs st.length R.n)), some (.int (R.n : Nat)), x8, x9, x10, x11, x12, x13, x14, x15, x16] (LX R X s k G)) fun d t => ∃ s' v, d = .loc (st.length + R.n + G.length) ∧ t = LX R X s' k G ++ [.lst (nats v)] ∧ v.length = R.n ∧ Kept st s' ∧ Source s' := by
  have C : OkP (cM (fun x : Nat => stepC (den (phi Pr (kk + 1)) (.bin false .Add (.ite (.cmp .Gt (.var 5) (.int 0)) (.ix (.ix (.var 6) (.var 10)) (.neg (.int 1))) (.int 0)) (.call "_law_pick" [(.var 0), (.int 3)]))) (denIf (phi Pr (kk + 1)) []) (.nm 10) [some (.loc 1), some (.loc pl), some (markD R), some (timesD R), some (.int (many : Nat)), some (.int (k : Nat)), some (.lst (locs st.length R.n)), some (.int (R.n : Nat)), x8, x9, none, x11, x12, x13, x14, x15, x16] (.int (x : Nat))) (List.range R.n) (LX R X s k G)) fun xs t => ∃ s' v, xs = nats v ∧ t = LX R X s' k G ∧ v.length = R.n ∧ Kept st s' ∧ Source s' := by
    refine cM_inv (fun l1 acc t => ∃ s' v, acc = nats v ∧ t = LX R X s' k G ∧ v.length = l1.length ∧ Kept st s' ∧ Source s') ⟨s, [], rfl, rfl, rfl, hk, hs⟩ (fun l1 x l2 acc t hx hI => ?_) fun acc t hI => ?_
    · obtain ⟨s1, v, rfl, rfl, hv, hk1, hs1⟩ := hI
      have hd : x < R.n := List.mem_range.mp (by rw [hx]; simp)
      obtain ⟨y, t1, e1, s2, rfl, hk2, hs2, hy⟩ := OkP.ex (pick_app W kk hs1 (colsX R X k ++ G) 3 (by decide))
      obtain ⟨r, hr, rfl⟩ := Drawn.nat (n := 3) hy (by decide)
      have g := LX_col R X s1 k G [] hd
      rw [List.append_nil, hk1.1] at g
      have e1' : phi Pr (kk + 1) "_law_pick" [.loc 1, .int 3] (LX R X s1 k G) = .ok (.int (r : Nat)) (LX R X s2 k G) := e1
      obtain ⟨a, ha⟩ : ∃ a : Nat, (if decide ((0 : Int) < (k : Int)) = true then (ixD (.lst (locs st.length R.n)) (.int (x : Nat)) (LX R X s1 k G)).bind fun y st => ixD y (.int (-1)) st else .ok (.int 0) (LX R X s1 k G)) = .ok (.int (a : Nat)) (LX R X s1 k G) := by
        by_cases h0 : 0 < k
        · refine ⟨X (k - 1) x, ?_⟩
          have : (0 : Int) < (k : Int) := by omega
          have hl : 0 < (nats (colX X k x)).length := by rw [nats_len]; simp [colX]; exact h0
          have e : (nats (colX X k x)).length - 1 = k - 1 := by rw [nats_len]; simp [colX]
          rw [if_pos (decide_eq_true this), x_lst, locs_at _ _ _ hd, optR_some, Res.bind_ok, x_last g hl, e, colX_at _ _ _ _ (by omega)]; rfl
        · refine ⟨0, ?_⟩
          have : ¬ (0 : Int) < (k : Int) := by omega
          rw [if_neg (by simpa using this)]; rfl
      have e3 : ((a : Nat) : Int) + (r : Int) = ((a + r : Nat) : Int) := by omega
      simp only [stepC_eq, ev_var, ev_int, ev_bl, ev_non, ev_str, ev_tup, ev_lst, ev_dnew, ev_disp, ev_bin, ev_neg, ev_cmp, ev_chain, ev_and, ev_or, ev_not, ev_ite, ev_ix, ev_sl, ev_rev, ev_call, ev_bi, ev_mt, ev_comp2, ev_nil, ev_cons, ev_ifn, ev_ifc,  ev_asg, ev_aug, ev_setIx, ev_augIx, ev_ex, ev_ret, ev_retN, ev_if, ev_for2, ev_brk, ev_cont, ev_pass, ev_snil, ev_scons, then_nx, then_rt, then_bk, then_ct, end_rt, end_nx, optR_some, finish_self, asg_nm, asg_tp, asg_nil, asg_cons,  truth_bl, truth_int, Res.bind_ok, safe_ok, List.getElem?_cons_zero, List.getElem?_cons_succ, List.set_cons_zero, List.set_cons_succ, List.length_cons, List.length_nil, Option.map_some, Option.bind_some, Option.bind_eq_bind, wipeE, if_true, if_false, Bool.false_eq_true, ite_true, ite_false, reduceIte, reduceCtorEq, b_add, b_sub, b_eq, b_ne, b_lt, b_le, b_gt, b_ge, u_abs, u_int, u_intb, u_tuple_l, u_tuple_t, u_len_l, u_len_t, eq_self, decide_true, decide_false, ha, e1', e3, okP_ok]
      exact ⟨s2, v ++ [a + r], by rw [nats_app]; rfl, rfl, by simp [hv], hk1.trans hk2, hs2⟩
    · rw [List.length_range] at hI; exact hI
  obtain ⟨xs, t, e, s', v, rfl, rfl, hv, hk', hs'⟩ := OkP.ex C
  have hl : (nats v).length ≤ sizeLine := by rw [nats_len, hv]; exact few (by omega)
  simp only [nowE, ev_var, ev_int, ev_bl, ev_non, ev_str, ev_tup, ev_lst, ev_dnew, ev_disp, ev_bin, ev_neg, ev_cmp, ev_chain, ev_and, ev_or, ev_not, ev_ite, ev_ix, ev_sl, ev_rev, ev_call, ev_bi, ev_mt, ev_comp2, ev_nil, ev_cons, ev_ifn, ev_ifc,  ev_asg, ev_aug, ev_setIx, ev_augIx, ev_ex, ev_ret, ev_retN, ev_if, ev_for2, ev_brk, ev_cont, ev_pass, ev_snil, ev_scons, then_nx, then_rt, then_bk, then_ct, end_rt, end_nx, optR_some, finish_self, asg_nm, asg_tp, asg_nil, asg_cons,  truth_bl, truth_int, Res.bind_ok, safe_ok, List.getElem?_cons_zero, List.getElem?_cons_succ, List.set_cons_zero, List.set_cons_succ, List.length_cons, List.length_nil, Option.map_some, Option.bind_some, Option.bind_eq_bind, wipeE, if_true, if_false, Bool.false_eq_true, ite_true, ite_false, reduceIte, reduceCtorEq, compK_rng _ _ _ _ _ _ R.n (few (show R.n ≤ 1000 by omega)), e, newL_t, hl, okP_ok]
  exact ⟨s', v, by rw [LX_len, hk'.1], rfl, hv, hk', hs'⟩
def proundB : List S := [.asg (.nm 8) nowE, .for_ (.nm 9) .rng [(.var 7)] plapB, .for_ (.tp [(.nm 10), (.nm 11)]) .enum [(.var 8)] pappB]
theorem pround {R : RN} (hR : R.Ok) (hn : R.n ≤ 20) (kk : Nat) (st : Store) (X : Nat → Nat → Nat) (G : Store) (pl many k : Nat) (hkm : k < 1000) (h2 : 2 ≤ pl) (hp : st[pl]? = some (.lst (pairsD R))) {s : Store} (hk : Kept st s) (hs : Source s) (hX : LowX R X k) (x8 x9 x10 x11 x12 x13 x14 x15 x16 : Option D) :
    OkP (denSs (phi Pr (kk + 1)) proundB [some (.loc 1), some (.loc pl), some (markD R), some (timesD R), some (.int (many : Nat)), some (.int (k : Nat)), some (.lst (locs st.length R.n)), some (.int (R.n : Nat)), x8, x9, x10, x11, x12, x13, x14, x15, x16] (LX R X s k G)) fun fr t => ∃ X' G' s' y8 y9 y10 y11 y12 y13 y14 y15 y16, fr = (.nx, [some (.loc 1), some (.loc pl), some (markD R), some (timesD R), some (.int (many : Nat)), some (.int (k : Nat)), some (.lst (locs st.length R.n)), some (.int (R.n : Nat)), y8, y9, y10, y11, y12, y13, y14, y15, y16]) ∧ t = LX R X' s' (k + 1) G' ∧ LowX R X' (k + 1) ∧ Kept st s' ∧ Source s' := by
  obtain ⟨d, t, e0, s1, v, rfl, rfl, hv, hk1, hs1⟩ := OkP.ex (now_ok hn kk st X G pl many k hk hs x8 x9 x10 x11 x12 x13 x14 x15 x16)
  have hp1 : s1[pl]? = some (.lst (pairsD R)) := (hk1.2 pl h2).trans hp
  obtain ⟨fr, t, e1, y9, y10, y11, y12, y13, y14, y15, y16, rfl, rfl⟩ := OkP.ex (plaps hR (phi Pr (kk + 1)) X s1 G pl many k hp1 hv x9 x10 x11 x12 x13 x14 x15 x16)
  have hw := laps_len hR (k := k) (c := fun q => X (k - R.M q) (R.E q)) hv R.n
  have hlow : ∀ d, d < R.n → R.B k d ≤ (lapsOf R k (fun q => X (k - R.M q) (R.E q)) R.n v).getD d 0 := fun d hd =>
    laps_low hR hv (fun q hq a b => hX _ (by omega) _ (hR.e q hq)) R.n d hd (hR.rk d hd)
  generalize lapsOf R k (fun q => X (k - R.M q) (R.E q)) R.n v = w at hw hlow e1
  obtain ⟨fr, t, e2, z9, z10, z11, z12, z13, z14, z15, z16, rfl, rfl⟩ := OkP.ex (papp (phi Pr (kk + 1)) X s1 G pl many k hkm hw y9 y10 y11 y12 y13 y14 y15 y16)
  have g := LX_new R X s1 k G (.lst (nats w))
  simp only [penv, hk1.1] at e1 e2
  rw [hk1.1] at g
  have s0 : denS (phi Pr (kk + 1)) (.asg (.nm 8) nowE) [some (.loc 1), some (.loc pl), some (markD R), some (timesD R), some (.int (many : Nat)), some (.int (k : Nat)), some (.lst (locs st.length R.n)), some (.int (R.n : Nat)), x8, x9, x10, x11, x12, x13, x14, x15, x16] (LX R X s k G) = .ok (.nx, [some (.loc 1), some (.loc pl), some (markD R), some (timesD R), some (.int (many : Nat)), some (.int (k : Nat)), some (.lst (locs st.length R.n)), some (.int (R.n : Nat)), some (.loc (st.length + R.n + G.length)), x9, x10, x11, x12, x13, x14, x15, x16]) (LX R X s1 k G ++ [.lst (nats v)]) := by
    rw [ev_asg, e0]
    simp only [ev_var, ev_int, ev_bl, ev_non, ev_str, ev_tup, ev_lst, ev_dnew, ev_disp, ev_bin, ev_neg, ev_cmp, ev_chain, ev_and, ev_or, ev_not, ev_ite, ev_ix, ev_sl, ev_rev, ev_call, ev_bi, ev_mt, ev_comp2, ev_nil, ev_cons, ev_ifn, ev_ifc,  ev_asg, ev_aug, ev_setIx, ev_augIx, ev_ex, ev_ret, ev_retN, ev_if, ev_for2, ev_brk, ev_cont, ev_pass, ev_snil, ev_scons, then_nx, then_rt, then_bk, then_ct, end_rt, end_nx, optR_some, finish_self, asg_nm, asg_tp, asg_nil, asg_cons,  truth_bl, truth_int, Res.bind_ok, safe_ok, List.getElem?_cons_zero, List.getElem?_cons_succ, List.set_cons_zero, List.set_cons_succ, List.length_cons, List.length_nil, Option.map_some, Option.bind_some, Option.bind_eq_bind, wipeE, if_true, if_false, Bool.false_eq_true, ite_true, ite_false, reduceIte, reduceCtorEq]
  rw [proundB, ev_scons, s0, Res.bind_ok, then_nx]
  simp only [ev_var, ev_int, ev_bl, ev_non, ev_str, ev_tup, ev_lst, ev_dnew, ev_disp, ev_bin, ev_neg, ev_cmp, ev_chain, ev_and, ev_or, ev_not, ev_ite, ev_ix, ev_sl, ev_rev, ev_call, ev_bi, ev_mt, ev_comp2, ev_nil, ev_cons, ev_ifn, ev_ifc,  ev_asg, ev_aug, ev_setIx, ev_augIx, ev_ex, ev_ret, ev_retN, ev_if, ev_for2, ev_brk, ev_cont, ev_pass, ev_snil, ev_scons, then_nx, then_rt, then_bk, then_ct, end_rt, end_nx, optR_some, finish_self, asg_nm, asg_tp, asg_nil, asg_cons,  truth_bl, truth_int, Res.bind_ok, safe_ok, List.getElem?_cons_zero, List.getElem?_cons_succ, List.set_cons_zero, List.set_cons_succ, List.length_cons, List.length_nil, Option.map_some, Option.bind_some, Option.bind_eq_bind, wipeE, if_true, if_false, Bool.false_eq_true, ite_true, ite_false, reduceIte, reduceCtorEq, forK_rng _ _ _ _ _ (few (show R.n ≤ 1000 by omega)), e1, forK_enumAt g, e2, okP_ok]
  exact ⟨_, _, s1, _, _, _, _, _, _, _, _, _, rfl, LX_more _ _ _ _ _ _, low_put hX hlow, hk1, hs1⟩
theorem plan_ok {R : RN} (hR : R.Ok) (hn : R.n ≤ 20) (h0 : 0 < R.n) (kk : Nat) {st : Store} (hst : Source st) (pl many : Nat) (hm : many ≤ 1000) (h2 : 2 ≤ pl) (hp : st[pl]? = some (.lst (pairsD R))) : ∃ X s G, phi Pr (kk + 2) "_law_let_plan" [.loc 1, .loc pl, markD R, timesD R, .int (many : Nat)] st = .ok (.lst (locs st.length R.n)) (LX R X s many G) ∧ LowX R X many ∧ Kept st s ∧ Source s := by
  have L : OkP (loopF (.nm 5) (denSs (phi Pr (kk + 1)) proundB) ((List.range many).map fun i => D.int (i : Nat)) [some (.loc 1), some (.loc pl), some (markD R), some (timesD R), some (.int (many : Nat)), none, some (.lst (locs st.length R.n)), some (.int (R.n : Nat)), none, none, none, none, none, none, none, none, none] (LX R R.B st 0 [])) fun fr t => ∃ X G s y5 y8 y9 y10 y11 y12 y13 y14 y15 y16, fr = (.nx, [some (.loc 1), some (.loc pl), some (markD R), some (timesD R), some (.int (many : Nat)), y5, some (.lst (locs st.length R.n)), some (.int (R.n : Nat)), y8, y9, y10, y11, y12, y13, y14, y15, y16]) ∧ t = LX R X s many G ∧ LowX R X many ∧ Kept st s ∧ Source s := by
    refine loop_list (fun l1 r t => ∃ X G s y5 y8 y9 y10 y11 y12 y13 y14 y15 y16, r = [some (.loc 1), some (.loc pl), some (markD R), some (timesD R), some (.int (many : Nat)), y5, some (.lst (locs st.length R.n)), some (.int (R.n : Nat)), y8, y9, y10, y11, y12, y13, y14, y15, y16] ∧ t = LX R X s l1.length G ∧ LowX R X l1.length ∧ Kept st s ∧ Source s) ⟨R.B, [], st, _, _, _, _, _, _, _, _, _, _, rfl, rfl, (fun j hj => absurd hj (by simp)), Kept.refl st, hst⟩ (fun l1 x l2 r t hx hI => ?_) fun r t hI => ?_
    · obtain ⟨X, G, s, y5, y8, y9, y10, y11, y12, y13, y14, y15, y16, rfl, rfl, hX, hk, hs⟩ := hI
      have hxl : x = l1.length := by
        have h1 : (List.range many)[l1.length]? = some x := by rw [hx, List.getElem?_append_right (Nat.le_refl _), Nat.sub_self]; rfl
        obtain ⟨h2, h3⟩ := List.getElem?_eq_some_iff.mp h1
        simpa using h3.symm
      have hxm : x < many := List.mem_range.mp (by rw [hx]; simp)
      subst hxl
      refine ⟨_, asg_nm _ _ _, ?_⟩
      simp only [List.set_cons_zero, List.set_cons_succ]
      refine OkP.imp (pround hR hn kk st X G pl many l1.length (by omega) h2 hp hk hs hX y8 y9 y10 y11 y12 y13 y14 y15 y16) fun fr t q => ?_
      obtain ⟨X', G', s', z8, z9, z10, z11, z12, z13, z14, z15, z16, rfl, rfl, hX', hk', hs'⟩ := q
      exact ⟨X', G', s', some (.int (l1.length : Nat)), z8, z9, z10, z11, z12, z13, z14, z15, z16, rfl, by simp, by simpa using hX', hk', hs'⟩
    · obtain ⟨X, G, s, y5, y8, y9, y10, y11, y12, y13, y14, y15, y16, rfl, rfl, hX, hk, hs⟩ := hI
      exact ⟨X, G, s, y5, y8, y9, y10, y11, y12, y13, y14, y15, y16, rfl, by simp, by simpa using hX, hk, hs⟩
  obtain ⟨fr, t, e, X, G, s, y5, y8, y9, y10, y11, y12, y13, y14, y15, y16, rfl, rfl, hX, hk, hs⟩ := OkP.ex L
  refine ⟨X, s, G, ?_, hX, hk, hs⟩
  rw [phi_def p__law_let_plan rfl]
  have c := new_lists (F := phi Pr (kk + 1)) (i := 10) (e := .var 3) (own := [10]) (r := [some (.loc 1), some (.loc pl), some (markD R), some (timesD R), some (.int (many : Nat)), none, none, none, none, none, none, none, none, none, none, none, none]) R hn st (by simp only [ev_var, ev_int, ev_bl, ev_non, ev_str, ev_tup, ev_lst, ev_dnew, ev_disp, ev_bin, ev_neg, ev_cmp, ev_chain, ev_and, ev_or, ev_not, ev_ite, ev_ix, ev_sl, ev_rev, ev_call, ev_bi, ev_mt, ev_comp2, ev_nil, ev_cons, ev_ifn, ev_ifc,  ev_asg, ev_aug, ev_setIx, ev_augIx, ev_ex, ev_ret, ev_retN, ev_if, ev_for2, ev_brk, ev_cont, ev_pass, ev_snil, ev_scons, then_nx, then_rt, then_bk, then_ct, end_rt, end_nx, optR_some, finish_self, asg_nm, asg_tp, asg_nil, asg_cons,  truth_bl, truth_int, Res.bind_ok, safe_ok, List.getElem?_cons_zero, List.getElem?_cons_succ, List.set_cons_zero, List.set_cons_succ, List.length_cons, List.length_nil, Option.map_some, Option.bind_some, Option.bind_eq_bind, wipeE, if_true, if_false, Bool.false_eq_true, ite_true, ite_false, reduceIte, reduceCtorEq])
  show (denSs (phi Pr (kk + 1)) [.asg (.tp [(.nm 6), (.nm 7)]) (.tup [(.comp false (.lst true []) (.nm 10) .val [(.var 3)] [] [10]), (.bi false .len [(.var 3)])]), .for_ (.nm 5) .rng [(.var 4)] proundB, .ret (.var 6)] [some (.loc 1), some (.loc pl), some (markD R), some (timesD R), some (.int (many : Nat)), none, none, none, none, none, none, none, none, none, none, none, none] st).bind (endOf st) = _
  simp only [ev_var, ev_int, ev_bl, ev_non, ev_str, ev_tup, ev_lst, ev_dnew, ev_disp, ev_bin, ev_neg, ev_cmp, ev_chain, ev_and, ev_or, ev_not, ev_ite, ev_ix, ev_sl, ev_rev, ev_call, ev_bi, ev_mt, ev_nil, ev_cons, ev_ifn, ev_ifc,  ev_asg, ev_aug, ev_setIx, ev_augIx, ev_ex, ev_ret, ev_retN, ev_if, ev_for2, ev_brk, ev_cont, ev_pass, ev_snil, ev_scons, then_nx, then_rt, then_bk, then_ct, end_rt, end_nx, optR_some, finish_self, asg_nm, asg_tp, asg_nil, asg_cons,  truth_bl, truth_int, Res.bind_ok, safe_ok, List.getElem?_cons_zero, List.getElem?_cons_succ, List.set_cons_zero, List.set_cons_succ, List.length_cons, List.length_nil, Option.map_some, Option.bind_some, Option.bind_eq_bind, wipeE, if_true, if_false, Bool.false_eq_true, ite_true, ite_false, reduceIte, reduceCtorEq, c, c2, len_times, forK_rng _ _ _ _ _ (few hm), e]
  unfold WT.finish
  have hlow : D.low (.lst (locs st.length R.n)) st.length = false := by
    simp only [D.low]
    cases hx : D.lowL (locs st.length R.n) st.length with
    | false => rfl
    | true =>
      have := mem_lowL hx (.loc (st.length + 0)) (List.mem_map.mpr ⟨0, List.mem_range.mpr h0, rfl⟩)
      simp [D.low] at this
  rw [if_neg (by rw [hlow]; simp)]
/-! _law_times -/
theorem times_ok (kk : Nat) {st : Store} (hst : Source st) (n : Nat) (hn : n ≤ 1000) (b : Nat) (hb : 0 < b) (hb2 : b < 1000) : ∃ ts t, phi Pr (kk + 2) "_law_times" [.loc 1, .int (n : Nat), .int (b : Nat)] st = .ok (.tup (nats ts)) t ∧ On st [] t ∧ ts.length = n ∧ ∀ x, x ∈ ts → 1 ≤ x ∧ x ≤ b := by
  rw [phi_def p__law_times rfl]
  obtain ⟨x, s1, e, k1, g1, ds, rfl, hl, hx⟩ := OkP.ex (rng_draws (F := phi Pr (kk + 1)) (elt := .bin false .Add (.int 1) (.call "_law_pick" [(.var 0), (.var 2)])) (e := .var 1) (i := 3) (own := [3]) (r := [some (.loc 1), some (.int (n : Nat)), some (.int (b : Nat)), none]) n (fun d => ∃ i : Nat, d = .int (i : Nat) ∧ 1 ≤ i ∧ i ≤ b) hst (by simp only [ev_var, ev_int, ev_bl, ev_non, ev_str, ev_tup, ev_lst, ev_dnew, ev_disp, ev_bin, ev_neg, ev_cmp, ev_chain, ev_and, ev_or, ev_not, ev_ite, ev_ix, ev_sl, ev_rev, ev_call, ev_bi, ev_mt, ev_comp2, ev_nil, ev_cons, ev_ifn, ev_ifc,  ev_asg, ev_aug, ev_setIx, ev_augIx, ev_ex, ev_ret, ev_retN, ev_if, ev_for2, ev_brk, ev_cont, ev_pass, ev_snil, ev_scons, then_nx, then_rt, then_bk, then_ct, end_rt, end_nx, optR_some, finish_self, asg_nm, asg_tp, asg_nil, asg_cons,  truth_bl, truth_int, Res.bind_ok, safe_ok, List.getElem?_cons_zero, List.getElem?_cons_succ, List.set_cons_zero, List.set_cons_succ, List.length_cons, List.length_nil, Option.map_some, Option.bind_some, Option.bind_eq_bind, wipeE, if_true, if_false, Bool.false_eq_true, ite_true, ite_false, reduceIte, reduceCtorEq]) hn fun x s _ hs => by
    obtain ⟨r, t', e, hr, o⟩ := (On.refl hs).pickN W kk b hb (by omega)
    have e1 : (1 : Int) + (r : Int) = ((1 + r : Nat) : Int) := by omega
    simp only [ev_var, ev_int, ev_bl, ev_non, ev_str, ev_tup, ev_lst, ev_dnew, ev_disp, ev_bin, ev_neg, ev_cmp, ev_chain, ev_and, ev_or, ev_not, ev_ite, ev_ix, ev_sl, ev_rev, ev_call, ev_bi, ev_mt, ev_comp2, ev_nil, ev_cons, ev_ifn, ev_ifc,  ev_asg, ev_aug, ev_setIx, ev_augIx, ev_ex, ev_ret, ev_retN, ev_if, ev_for2, ev_brk, ev_cont, ev_pass, ev_snil, ev_scons, then_nx, then_rt, then_bk, then_ct, end_rt, end_nx, optR_some, finish_self, asg_nm, asg_tp, asg_nil, asg_cons,  truth_bl, truth_int, Res.bind_ok, safe_ok, List.getElem?_cons_zero, List.getElem?_cons_succ, List.set_cons_zero, List.set_cons_succ, List.length_cons, List.length_nil, Option.map_some, Option.bind_some, Option.bind_eq_bind, wipeE, if_true, if_false, Bool.false_eq_true, ite_true, ite_false, reduceIte, reduceCtorEq, e, b_add, b_sub, b_eq, b_ne, b_lt, b_le, b_gt, b_ge, u_abs, u_int, u_intb, u_tuple_l, u_tuple_t, u_len_l, u_len_t, eq_self, decide_true, decide_false, e1, okP_ok]
    exact ⟨o.dr.1, o.dr.2, _, rfl, by omega, by omega⟩)
  have : ∀ ds : List D, (∀ x, x ∈ ds → ∃ i : Nat, x = .int (i : Nat) ∧ 1 ≤ i ∧ i ≤ b) → ∃ ts, ds = nats ts ∧ ∀ x, x ∈ ts → 1 ≤ x ∧ x ≤ b := by
    intro ds
    induction ds with
    | nil => intro _; exact ⟨[], rfl, fun x hx => by cases hx⟩
    | cons y ds ih =>
      intro h
      obtain ⟨ts, rfl, h3⟩ := ih fun z hz => h z (List.mem_cons_of_mem _ hz)
      obtain ⟨i, rfl, hi⟩ := h y (List.mem_cons_self ..)
      refine ⟨i :: ts, rfl, fun j hj => ?_⟩
      rcases List.mem_cons.mp hj with rfl | hj
      · exact hi
      · exact h3 j hj
  obtain ⟨ts, rfl, h3⟩ := this ds hx
  refine ⟨ts, s1, ?_, ⟨s1, by simp, k1, g1⟩, by rw [← hl, nats_len], h3⟩
  show (denSs (phi Pr (kk + 1)) [.ret (.bi false .tuple [(.comp false (.bin false .Add (.int 1) (.call "_law_pick" [(.var 0), (.var 2)])) (.nm 3) .rng [(.var 1)] [] [3])])] [some (.loc 1), some (.int (n : Nat)), some (.int (b : Nat)), none] st).bind (endOf st) = _
  simp only [ev_var, ev_int, ev_bl, ev_non, ev_str, ev_tup, ev_lst, ev_dnew, ev_disp, ev_bin, ev_neg, ev_cmp, ev_chain, ev_and, ev_or, ev_not, ev_ite, ev_ix, ev_sl, ev_rev, ev_call, ev_bi, ev_mt, ev_nil, ev_cons, ev_ifn, ev_ifc,  ev_asg, ev_aug, ev_setIx, ev_augIx, ev_ex, ev_ret, ev_retN, ev_if, ev_for2, ev_brk, ev_cont, ev_pass, ev_snil, ev_scons, then_nx, then_rt, then_bk, then_ct, end_rt, end_nx, optR_some, finish_self, asg_nm, asg_tp, asg_nil, asg_cons,  truth_bl, truth_int, Res.bind_ok, safe_ok, List.getElem?_cons_zero, List.getElem?_cons_succ, List.set_cons_zero, List.set_cons_succ, List.length_cons, List.length_nil, Option.map_some, Option.bind_some, Option.bind_eq_bind, wipeE, if_true, if_false, Bool.false_eq_true, ite_true, ite_false, reduceIte, reduceCtorEq, e, b_add, b_sub, b_eq, b_ne, b_lt, b_le, b_gt, b_ge, u_abs, u_int, u_intb, u_tuple_l, u_tuple_t, u_len_l, u_len_t, eq_self, decide_true, decide_false]
  rw [finish_len k1.1]
end Wk92

set_option maxRecDepth 100000
set_option maxHeartbeats 2000000
set_option linter.all false
namespace Wk92
open PySem WT Wring
/-! _law_ring_net -/
def prP (p : Nat × Nat) : D := .tup [.int (p.1 : Nat), .int (p.2 : Nat)]
def unP : D → Nat × Nat
  | .tup [.int a, .int b] => (a.toNat, b.toNat)
  | _ => (0, 0)
theorem un_pr (p : Nat × Nat) : unP (prP p) = p := by simp [unP, prP]
theorem perm_prP {l : List D} {as : List (Nat × Nat)} (h : List.Perm l (as.map prP)) : ∃ bs, l = bs.map prP ∧ List.Perm bs as := by
  refine ⟨l.map unP, ?_, ?_⟩
  · rw [List.map_map]
    conv => lhs; rw [← List.map_id l]
    refine List.map_congr_left fun x hx => ?_
    obtain ⟨a, _, rfl⟩ := List.mem_map.mp (h.mem_iff.mp hx)
    simp [un_pr]
  · have := h.map unP
    rw [List.map_map] at this
    have e : as.map (unP ∘ prP) = as := by
      conv => rhs; rw [← List.map_id as]
      exact List.map_congr_left fun x _ => un_pr x
    rw [e] at this
    exact this
theorem perm_nats {l : List D} {as : List Nat} (h : List.Perm l (nats as)) : ∃ bs, l = nats bs ∧ List.Perm bs as := by
  let un : D → Nat := fun d => match d with | .int a => a.toNat | _ => 0
  have hu : ∀ a : Nat, un (.int (a : Nat)) = a := fun a => by simp [un]
  refine ⟨l.map un, ?_, ?_⟩
  · unfold nats
    rw [List.map_map]
    conv => lhs; rw [← List.map_id l]
    refine List.map_congr_left fun x hx => ?_
    obtain ⟨a, _, rfl⟩ := List.mem_map.mp (h.mem_iff.mp hx)
    simp [hu]
  · have := h.map un
    unfold nats at this
    rw [List.map_map] at this
    have e : as.map (un ∘ fun i => D.int (i : Nat)) = as := by
      conv => rhs; rw [← List.map_id as]
      exact List.map_congr_left fun x _ => hu x
    rw [e] at this
    exact this
theorem listR_ok (n : Nat) (hn : n ≤ 1000) (st : Store) : biD false .listR [.int (n : Nat)] st = .ok (.lst (nats (List.range n))) st := by
  have e : ∀ args : List D, biD false .listR args st = (match rangeA args with | some xs => newL false xs st | none => .stuck) := fun args => rfl
  have hr : RgeOk 0 ((n : Nat) : Int) := by unfold RgeOk; omega
  have e2 : rangeA [.int (n : Nat)] = some (rangeL 0 (n : Nat)) := by
    unfold rangeA
    simp only [if_pos hr]
  rw [e, e2]
  simp only [range0]
  exact newL_f _ _ (by simp; exact few hn)
theorem idx_nats {ol : List Nat} {e : Nat} (h : e ∈ ol) : ((nats ol).findIdx? fun z => D.eqv z (.int (e : Nat))) = some (ol.idxOf e) := by
  induction ol with
  | nil => cases h
  | cons x ol ih =>
    rw [nats, List.map_cons, List.findIdx?_cons, eqv_int]
    by_cases hx : x = e
    · subst hx; simp
    · have h2 : ¬ (x : Int) = (e : Int) := by omega
      rw [decide_eq_false h2]
      have := ih (by rcases List.mem_cons.mp h with q | q; exact absurd q.symm hx; exact q)
      rw [show List.map (fun i => D.int ((i : Nat) : Int)) ol = nats ol from rfl, this, List.idxOf_cons]
      have hb : (x == e) = false := by simpa using hx
      simp [hb]
theorem index_at {st : Store} {a : Nat} {ol : List Nat} (h : st[a]? = some (.lst (nats ol))) {e : Nat} (he : e ∈ ol) : mtD .index (.loc a) [.int (e : Nat)] st = .ok (.int (ol.idxOf e : Nat)) st := by
  have q : mtD .index (.loc a) [.int (e : Nat)] st = (match view st (.loc a) with
    | .lst xs => if (D.int (e : Nat)).data 62 && D.dataL xs 62 then optR ((xs.findIdx? fun z => D.eqv z (.int (e : Nat))).map fun j => D.int (j : Nat)) st else .stuck
    | _ => .stuck) := rfl
  have hd : (D.int (e : Nat)).data 62 = true := rfl
  rw [q, view_at h]
  simp only [hd, dataL_nats, Bool.and_self, if_true, idx_nats he, Option.map_some, optR_some]
theorem srcE_prs {st : Store} {a : Nat} {prs : List (Nat × Nat)} (h : st[a]? = some (.lst (prs.map prP))) : srcItems st (.enum (.loc a)) = some ((List.range prs.length).map fun q => .tup [.int (q : Nat), prP (prs.getD q (0, 0))]) := by
  rw [srcE_at h]
  congr 1
  apply List.ext_getElem?
  intro i
  rw [List.getElem?_map, List.getElem?_map, List.getElem?_zipIdx]
  by_cases hi : i < prs.length
  · rw [List.getElem?_range hi, List.getElem?_eq_getElem hi]
    simp [List.getD_eq_getElem?_getD, List.getElem?_eq_getElem hi]
  · rw [List.getElem?_eq_none (show prs.length ≤ i by omega), List.getElem?_eq_none (show (List.range prs.length).length ≤ i by simp; omega)]; rfl
/-- the arrows of the first k pairs -/
def arrK (prs : List (Nat × Nat)) (k : Nat) : List Arrow := (List.range k).flatMap fun q => [(1, ((prs.getD q (0, 0)).1 : Int), (q : Int)), (0, (q : Int), ((prs.getD q (0, 0)).2 : Int))]
theorem arrK_succ (prs : List (Nat × Nat)) (k : Nat) : arrK prs (k + 1) = arrK prs k ++ [(1, ((prs.getD k (0, 0)).1 : Int), (k : Int)), (0, (k : Int), ((prs.getD k (0, 0)).2 : Int))] := by
  unfold arrK; rw [List.range_succ, List.flatMap_append]; simp
theorem arrK_len (prs : List (Nat × Nat)) (k : Nat) : (arrK prs k).length = 2 * k := by
  unfold arrK
  rw [flat_len _ 2 (fun q => rfl), List.length_range]; omega
def arI (a : Arrow) : List Int := [a.1, a.2.1, a.2.2]
theorem arI_D (as : List Arrow) : as.map arD = as.map (tupI arI) := rfl
/-- what has been drawn -/
structure Drn (most n : Nat) (prs : List (Nat × Nat)) (ms ol : List Nat) : Prop where
  n1 : 0 < n
  n2 : n ≤ most
  np : prs.length ≤ n + 3
  inn : ∀ p, p ∈ prs → p.1 < n ∧ p.2 < n
  into : ∀ d, d < n → ∃ p, p ∈ prs ∧ p.2 = d
  ml : ms.length = prs.length
  m2 : ∀ q, q < prs.length → ms.getD q 0 ≤ 2
  ac : ∀ q, q < prs.length → ms.getD q 0 = 0 → ol.idxOf (prs.getD q (0, 0)).1 < ol.idxOf (prs.getD q (0, 0)).2
  ol : List.Perm ol (List.range n)
def prevE : E := .comp true (.tup [(.ix (.var 6) (.bin false .Sub (.var 12) (.int 1))), (.ix (.var 6) (.var 12))]) (.nm 12) .rng [(.var 3)] [] [12]
def moreB : List S := [.ex (.mt .append (.var 4) [(.tup [(.call "_law_pick" [(.var 0), (.var 3)]), (.call "_law_pick" [(.var 0), (.var 3)])])])]
def arrB : List S := [.asg (.nm 8) (.bin false .Add (.var 8) (.lst false [(.tup [(.int 1), (.var 13), (.var 10)]), (.tup [(.int 0), (.var 10), (.var 14)])])), .asg (.nm 11) (.bi false .int [(.cmp .GtE (.mt .index (.var 7) [(.var 13)]) (.mt .index (.var 7) [(.var 14)]))]), .ex (.mt .append (.var 9) [(.bin false .Add (.var 11) (.call "_law_pick" [(.var 0), (.bin false .Sub (.bin false .Add (.var 2) (.int 1)) (.var 11))]))])]
theorem c3 : 0 + 1 + 1 + 1 ≤ sizeLine := few (by decide)
def prev (rl : List Nat) (k : Nat) : Nat × Nat := (if k = 0 then rl.getD (rl.length - 1) 0 else rl.getD (k - 1) 0, rl.getD k 0)
theorem prev_ok {F : WT.Fun} {n a : Nat} (hn : n ≤ 1000) {rl : List Nat} (hl : rl.length = n) {t : Store} (g : t[a]? = some (.lst (nats rl))) (x0 x1 x2 x4 x5 x7 x8 x9 x10 x11 x12 x13 x14 : Option D) :
    den F prevE [x0, x1, x2, some (.int (n : Nat)), x4, x5, some (.loc a), x7, x8, x9, x10, x11, x12, x13, x14] t = .ok (.loc t.length) (t ++ [.lst (((List.range n).map (prev rl)).map prP)]) := by
  have C : cM (fun x : Nat => stepC (den F (.tup [(.ix (.var 6) (.bin false .Sub (.var 12) (.int 1))), (.ix (.var 6) (.var 12))])) (denIf F []) (.nm 12) [x0, x1, x2, some (.int (n : Nat)), x4, x5, some (.loc a), x7, x8, x9, x10, x11, none, x13, x14] (.int (x : Nat))) (List.range n) t = .ok ((List.range n).map fun k => prP (prev rl k)) t := by
    refine cM_toS _ fun k hk => ?_
    have hk' : k < rl.length := by rw [hl]; exact List.mem_range.mp hk
    by_cases h0 : k = 0
    · subst h0
      have e1 : ((0 : Nat) : Int) - 1 = -1 := rfl
      have hp : 0 < (nats rl).length := by rw [nats_len]; exact hk'
      have e2 : (nats rl).length - 1 = rl.length - 1 := by rw [nats_len]
      simp only [stepC_eq, ev_var, ev_int, ev_bl, ev_non, ev_str, ev_tup, ev_lst, ev_dnew, ev_disp, ev_bin, ev_neg, ev_cmp, ev_chain, ev_and, ev_or, ev_not, ev_ite, ev_ix, ev_sl, ev_rev, ev_call, ev_bi, ev_mt, ev_comp2, ev_nil, ev_cons, ev_ifn, ev_ifc,  ev_asg, ev_aug, ev_setIx, ev_augIx, ev_ex, ev_ret, ev_retN, ev_if, ev_for2, ev_brk, ev_cont, ev_pass, ev_snil, ev_scons, then_nx, then_rt, then_bk, then_ct, end_rt, end_nx, optR_some, finish_self, asg_nm, asg_tp, asg_nil, asg_cons,  truth_bl, truth_int, Res.bind_ok, safe_ok, List.getElem?_cons_zero, List.getElem?_cons_succ, List.set_cons_zero, List.set_cons_succ, List.length_cons, List.length_nil, Option.map_some, Option.bind_some, Option.bind_eq_bind, wipeE, if_true, if_false, Bool.false_eq_true, ite_true, ite_false, reduceIte, reduceCtorEq, b_add, b_sub, b_eq, b_ne, b_lt, b_le, b_gt, b_ge, u_abs, u_int, u_intb, u_tuple_l, u_tuple_t, u_len_l, u_len_t, eq_self, decide_true, decide_false, e1, x_last g hp, x_at g, e2, nats_getD rl _ (show rl.length - 1 < rl.length by omega), nats_getD rl _ hk', c2]
      rfl
    · have e1 : ((k : Nat) : Int) - 1 = ((k - 1 : Nat) : Int) := by omega
      simp only [stepC_eq, ev_var, ev_int, ev_bl, ev_non, ev_str, ev_tup, ev_lst, ev_dnew, ev_disp, ev_bin, ev_neg, ev_cmp, ev_chain, ev_and, ev_or, ev_not, ev_ite, ev_ix, ev_sl, ev_rev, ev_call, ev_bi, ev_mt, ev_comp2, ev_nil, ev_cons, ev_ifn, ev_ifc,  ev_asg, ev_aug, ev_setIx, ev_augIx, ev_ex, ev_ret, ev_retN, ev_if, ev_for2, ev_brk, ev_cont, ev_pass, ev_snil, ev_scons, then_nx, then_rt, then_bk, then_ct, end_rt, end_nx, optR_some, finish_self, asg_nm, asg_tp, asg_nil, asg_cons,  truth_bl, truth_int, Res.bind_ok, safe_ok, List.getElem?_cons_zero, List.getElem?_cons_succ, List.set_cons_zero, List.set_cons_succ, List.length_cons, List.length_nil, Option.map_some, Option.bind_some, Option.bind_eq_bind, wipeE, if_true, if_false, Bool.false_eq_true, ite_true, ite_false, reduceIte, reduceCtorEq, b_add, b_sub, b_eq, b_ne, b_lt, b_le, b_gt, b_ge, u_abs, u_int, u_intb, u_tuple_l, u_tuple_t, u_len_l, u_len_t, eq_self, decide_true, decide_false, e1, x_at g, nats_getD rl _ (show k - 1 < rl.length by omega), nats_getD rl _ hk', c2]
      unfold prev
      rw [if_neg h0]; rfl
  simp only [prevE, ev_var, ev_int, ev_bl, ev_non, ev_str, ev_tup, ev_lst, ev_dnew, ev_disp, ev_bin, ev_neg, ev_cmp, ev_chain, ev_and, ev_or, ev_not, ev_ite, ev_ix, ev_sl, ev_rev, ev_call, ev_bi, ev_mt, ev_comp2, ev_nil, ev_cons, ev_ifn, ev_ifc,  ev_asg, ev_aug, ev_setIx, ev_augIx, ev_ex, ev_ret, ev_retN, ev_if, ev_for2, ev_brk, ev_cont, ev_pass, ev_snil, ev_scons, then_nx, then_rt, then_bk, then_ct, end_rt, end_nx, optR_some, finish_self, asg_nm, asg_tp, asg_nil, asg_cons,  truth_bl, truth_int, Res.bind_ok, safe_ok, List.getElem?_cons_zero, List.getElem?_cons_succ, List.set_cons_zero, List.set_cons_succ, List.length_cons, List.length_nil, Option.map_some, Option.bind_some, Option.bind_eq_bind, wipeE, if_true, if_false, Bool.false_eq_true, ite_true, ite_false, reduceIte, reduceCtorEq, compK_rng _ _ _ _ _ _ n (few hn), C]
  rw [List.map_map]
  exact newL_t _ _ (by simp; exact few hn)
theorem more_ok (kk : Nat) {st : Store} {g4 : Store} {n : Nat} (hn0 : 0 < n) (hn : n ≤ 20) (r : Nat) (hr : r < 4) {prs : List (Nat × Nat)} (hlen : prs.length = n) (hin : ∀ p, p ∈ prs → p.1 < n ∧ p.2 < n) {t : Store} (ho : On st (g4 ++ [.lst (prs.map prP)]) t) (x1 x2 x5 x6 x7 x8 x9 x10 x11 x12 x13 x14 : Option D) :
    OkP (loopF (.nm 5) (denSs (phi Pr (kk + 1)) moreB) ((List.range r).map fun i => D.int (i : Nat)) [some (.loc 1), x1, x2, some (.int (n : Nat)), some (.loc (st.length + g4.length)), x5, x6, x7, x8, x9, x10, x11, x12, x13, x14] t) fun fr t' => ∃ (prs' : List (Nat × Nat)) (y5 : Option D), fr = (.nx, [some (.loc 1), x1, x2, some (.int (n : Nat)), some (.loc (st.length + g4.length)), y5, x6, x7, x8, x9, x10, x11, x12, x13, x14]) ∧ On st (g4 ++ [.lst (prs'.map prP)]) t' ∧ prs'.length ≤ n + 3 ∧ (∀ p, p ∈ prs' → p.1 < n ∧ p.2 < n) ∧ ∀ p, p ∈ prs → p ∈ prs' := by
  refine loop_list (fun l1 rr t' => ∃ (prs' : List (Nat × Nat)) (y5 : Option D), rr = [some (.loc 1), x1, x2, some (.int (n : Nat)), some (.loc (st.length + g4.length)), y5, x6, x7, x8, x9, x10, x11, x12, x13, x14] ∧ On st (g4 ++ [.lst (prs'.map prP)]) t' ∧ prs'.length = n + l1.length ∧ (∀ p, p ∈ prs' → p.1 < n ∧ p.2 < n) ∧ ∀ p, p ∈ prs → p ∈ prs') ⟨prs, x5, rfl, ho, by simp [hlen], hin, fun p hp => hp⟩ (fun l1 x l2 rr t' hx hI => ?_) fun rr t' hI => ?_
  · obtain ⟨prs', y5, rfl, o, hl, hi, hs⟩ := hI
    have hll : l1.length < r := by
      have := congrArg List.length hx
      simp only [List.length_range, List.length_append, List.length_cons] at this; omega
    obtain ⟨a, t1, e1, ha, o1⟩ := o.pickN W kk n hn0 (by omega)
    obtain ⟨b, t2, e2, hb, o2⟩ := o1.pickN W kk n hn0 (by omega)
    have g0 : t'[st.length + g4.length]? = some (.lst (prs'.map prP)) := by rw [o.get, List.getElem?_append_right (Nat.le_refl _), Nat.sub_self]; rfl
    have g2 : t2[st.length + g4.length]? = some (.lst (prs'.map prP)) := by rw [o2.get, List.getElem?_append_right (Nat.le_refl _), Nat.sub_self]; rfl
    have hz : (prs'.map prP).length < sizeLine := by rw [List.length_map, sizeLine_eq]; omega
    have o3 := o2.set g4.length (.lst (prs'.map prP ++ [prP (a, b)]))
    rw [List.set_append_right _ _ (Nat.le_refl _), Nat.sub_self, List.set_cons_zero] at o3
    refine ⟨_, asg_nm _ _ _, ?_⟩
    simp only [List.set_cons_zero, List.set_cons_succ, moreB, ev_var, ev_int, ev_bl, ev_non, ev_str, ev_tup, ev_lst, ev_dnew, ev_disp, ev_bin, ev_neg, ev_cmp, ev_chain, ev_and, ev_or, ev_not, ev_ite, ev_ix, ev_sl, ev_rev, ev_call, ev_bi, ev_mt, ev_comp2, ev_nil, ev_cons, ev_ifn, ev_ifc,  ev_asg, ev_aug, ev_setIx, ev_augIx, ev_ex, ev_ret, ev_retN, ev_if, ev_for2, ev_brk, ev_cont, ev_pass, ev_snil, ev_scons, then_nx, then_rt, then_bk, then_ct, end_rt, end_nx, optR_some, finish_self, asg_nm, asg_tp, asg_nil, asg_cons,  truth_bl, truth_int, Res.bind_ok, safe_ok, List.getElem?_cons_zero, List.getElem?_cons_succ, List.set_cons_zero, List.set_cons_succ, List.length_cons, List.length_nil, Option.map_some, Option.bind_some, Option.bind_eq_bind, wipeE, if_true, if_false, Bool.false_eq_true, ite_true, ite_false, reduceIte, reduceCtorEq, mtOk_loc g0 (m := .append) (by decide), e1, e2, c2, app_at g2 hz, okP_ok]
    refine ⟨prs' ++ [(a, b)], _, rfl, ?_, by simp [hl]; omega, fun p hp => ?_, fun p hp => List.mem_append_left _ (hs p hp)⟩
    · rw [List.map_append]; exact o3
    · rcases List.mem_append.mp hp with hp | hp
      · exact hi p hp
      · rw [List.mem_singleton] at hp; subst hp; exact ⟨ha, hb⟩
  · obtain ⟨prs', y5, rfl, o, hl, hi, hs⟩ := hI
    rw [List.length_range] at hl
    exact ⟨prs', y5, rfl, o, by omega, hi, hs⟩
theorem arrs_ok (kk : Nat) {st : Store} {g3 g5 : Store} (h3 : g3.length = 3) {prs : List (Nat × Nat)} (hlen : prs.length ≤ 30) {ol : List Nat} (hin : ∀ p, p ∈ prs → p.1 ∈ ol ∧ p.2 ∈ ol) {t : Store} (ho : On st ((g3 ++ [.lst (nats ol)]) ++ (g5 ++ [.lst (prs.map prP), .lst (nats [])])) t) (h5 : g5.length = 2) (x1 x3 x5 x6 x10 x11 x12 x13 x14 : Option D) :
    OkP (limR fun m => loopL (.tp [(.nm 10), (.tp [(.nm 13), (.nm 14)])]) (denSs (phi Pr (kk + 1)) arrB) (.enum (.loc (st.length + 6))) m 0 [some (.loc 1), x1, some (.int 2), x3, some (.loc (st.length + 6)), x5, x6, some (.loc (st.length + 3)), some (.lst ((arrK prs 0).map arD)), some (.loc (st.length + 7)), x10, x11, x12, x13, x14] t) fun fr t' => ∃ ms y10 y11 y13 y14, fr = (.nx, [some (.loc 1), x1, some (.int 2), x3, some (.loc (st.length + 6)), x5, x6, some (.loc (st.length + 3)), some (.lst ((arrK prs prs.length).map arD)), some (.loc (st.length + 7)), y10, y11, x12, y13, y14]) ∧ On st ((g3 ++ [.lst (nats ol)]) ++ (g5 ++ [.lst (prs.map prP), .lst (nats ms)])) t' ∧ ms.length = prs.length ∧ ∀ q, q < prs.length → ms.getD q 0 ≤ 2 ∧ (ms.getD q 0 = 0 → ol.idxOf (prs.getD q (0, 0)).1 < ol.idxOf (prs.getD q (0, 0)).2) := by
  have at3 : ∀ {t : Store} {ms : List Nat}, On st ((g3 ++ [.lst (nats ol)]) ++ (g5 ++ [.lst (prs.map prP), .lst (nats ms)])) t → t[st.length + 3]? = some (.lst (nats ol)) := fun {t ms} o => by
    rw [o.get, List.getElem?_append_left (by simp [h3]), List.getElem?_append_right (by omega), h3]; rfl
  have at6 : ∀ {t : Store} {ms : List Nat}, On st ((g3 ++ [.lst (nats ol)]) ++ (g5 ++ [.lst (prs.map prP), .lst (nats ms)])) t → t[st.length + 6]? = some (.lst (prs.map prP)) := fun {t ms} o => by
    rw [o.get, List.getElem?_append_right (by simp [h3]), List.getElem?_append_right (by simp [h3, h5])]; simp [h3, h5]
  have at7 : ∀ {t : Store} {ms : List Nat}, On st ((g3 ++ [.lst (nats ol)]) ++ (g5 ++ [.lst (prs.map prP), .lst (nats ms)])) t → t[st.length + 7]? = some (.lst (nats ms)) := fun {t ms} o => by
    rw [o.get, List.getElem?_append_right (by simp [h3]), List.getElem?_append_right (by simp [h3, h5])]; simp [h3, h5]
  refine loopL_list (l := List.range prs.length) (e := fun q => .tup [.int (q : Nat), prP (prs.getD q (0, 0))]) (fun l1 r t' => ∃ ms y10 y11 y13 y14, r = [some (.loc 1), x1, some (.int 2), x3, some (.loc (st.length + 6)), x5, x6, some (.loc (st.length + 3)), some (.lst ((arrK prs l1.length).map arD)), some (.loc (st.length + 7)), y10, y11, x12, y13, y14] ∧ On st ((g3 ++ [.lst (nats ol)]) ++ (g5 ++ [.lst (prs.map prP), .lst (nats ms)])) t' ∧ ms.length = l1.length ∧ ∀ q, q < l1.length → ms.getD q 0 ≤ 2 ∧ (ms.getD q 0 = 0 → ol.idxOf (prs.getD q (0, 0)).1 < ol.idxOf (prs.getD q (0, 0)).2)) ⟨[], _, _, _, _, rfl, ho, rfl, fun q hq => absurd hq (by simp)⟩ (fun l1 r t' hI => ?_) (fun l1 q l2 r t' hx hI => ?_) fun r t' hI => ?_
  · obtain ⟨ms, _, _, _, _, _, o, _⟩ := hI
    exact srcE_prs (at6 o)
  · obtain ⟨ms, y10, y11, y13, y14, rfl, o, hl, hq⟩ := hI
    have hqn : q < prs.length := List.mem_range.mp (by rw [hx]; simp)
    have hql : q = l1.length := by
      have h1 : (List.range prs.length)[l1.length]? = some q := by rw [hx, List.getElem?_append_right (Nat.le_refl _), Nat.sub_self]; rfl
      obtain ⟨h2, h3⟩ := List.getElem?_eq_some_iff.mp h1
      simpa using h3.symm
    subst hql
    have hm : prs.getD l1.length (0, 0) ∈ prs := by
      rw [List.getD_eq_getElem?_getD, List.getElem?_eq_getElem hqn]; exact List.getElem_mem _
    obtain ⟨i1, i2⟩ := hin _ hm
    have ek := arrK_succ prs l1.length
    generalize hp : prs.getD l1.length (0, 0) = p at hm i1 i2 ek
    obtain ⟨e, l⟩ := p
    simp only at i1 i2 ek
    have g3' := at3 o
    obtain ⟨ls, hls, hls1, hls2⟩ : ∃ ls : Nat, (if decide (((ol.idxOf l : Nat) : Int) ≤ ((ol.idxOf e : Nat) : Int)) = true then (1 : Int) else 0) = (ls : Nat) ∧ ls ≤ 1 ∧ (ls = 0 → ol.idxOf e < ol.idxOf l) := by
      by_cases hc : ol.idxOf l ≤ ol.idxOf e
      · exact ⟨1, by rw [if_pos (by simpa using hc)]; rfl, by omega, fun z => by omega⟩
      · exact ⟨0, by rw [if_neg (by simpa using hc)]; rfl, by omega, fun _ => by omega⟩
    have e3 : (2 : Int) + 1 - (ls : Int) = ((3 - ls : Nat) : Int) := by omega
    obtain ⟨r, t1, e1, hr, o1⟩ := o.pickN W kk (3 - ls) (by omega) (by omega)
    have e4 : ((ls : Nat) : Int) + (r : Int) = ((ls + r : Nat) : Int) := by omega
    have g7 := at7 o
    have g7' := at7 o1
    have hz : (nats ms).length < sizeLine := by rw [nats_len, sizeLine_eq]; omega
    have hz2 : ((arrK prs l1.length).map arD).length + (0 + 1 + 1) ≤ sizeLine := by rw [List.length_map, arrK_len, sizeLine_eq]; omega
    have o3 := o1.set 7 (.lst (nats ms ++ [.int (ls + r : Nat)]))
    have es : (((g3 ++ [Ob.lst (nats ol)]) ++ (g5 ++ [Ob.lst (prs.map prP), Ob.lst (nats ms)])).set 7 (Ob.lst (nats ms ++ [D.int (ls + r : Nat)])) : Store) = (g3 ++ [Ob.lst (nats ol)]) ++ (g5 ++ [Ob.lst (prs.map prP), Ob.lst (nats (ms ++ [ls + r]))]) := by
      rw [List.set_append_right _ _ (by simp [h3]), List.set_append_right _ _ (by simp [h3, h5])]
      simp [h3, h5, nats]
    rw [es] at o3
    refine ⟨_, by simp only [prP, asg_tp, asg_cons, asg_nm, asg_nil, Option.bind_some, Option.bind_eq_bind]; rfl, ?_⟩
    simp only [hp, List.set_cons_zero, List.set_cons_succ, arrB, ev_var, ev_int, ev_bl, ev_non, ev_str, ev_tup, ev_lst, ev_dnew, ev_disp, ev_bin, ev_neg, ev_cmp, ev_chain, ev_and, ev_or, ev_not, ev_ite, ev_ix, ev_sl, ev_rev, ev_call, ev_bi, ev_mt, ev_comp2, ev_nil, ev_cons, ev_ifn, ev_ifc,  ev_asg, ev_aug, ev_setIx, ev_augIx, ev_ex, ev_ret, ev_retN, ev_if, ev_for2, ev_brk, ev_cont, ev_pass, ev_snil, ev_scons, then_nx, then_rt, then_bk, then_ct, end_rt, end_nx, optR_some, finish_self, asg_nm, asg_tp, asg_nil, asg_cons,  truth_bl, truth_int, Res.bind_ok, safe_ok, List.getElem?_cons_zero, List.getElem?_cons_succ, List.set_cons_zero, List.set_cons_succ, List.length_cons, List.length_nil, Option.map_some, Option.bind_some, Option.bind_eq_bind, wipeE, if_true, if_false, Bool.false_eq_true, ite_true, ite_false, reduceIte, reduceCtorEq, newL_f, c2, c3, b_lst, hz2, mtOk_loc g3' (m := .index) (by decide), index_at g3' i1, index_at g3' i2, b_add, b_sub, b_eq, b_ne, b_lt, b_le, b_gt, b_ge, u_abs, u_int, u_intb, u_tuple_l, u_tuple_t, u_len_l, u_len_t, eq_self, decide_true, decide_false, hls, mtOk_loc g7 (m := .append) (by decide), e3, e1, e4, app_at g7' hz, okP_ok]
    refine ⟨ms ++ [ls + r], some (.int (l1.length : Nat)), some (.int (ls : Nat)), some (.int (e : Nat)), some (.int (l : Nat)), ?_, o3, by simp [hl], fun q hq' => ?_⟩
    · rw [List.length_append, List.length_singleton, ek, List.map_append]; rfl
    · rw [List.length_append, List.length_singleton] at hq'
      by_cases hc : q < l1.length
      · have := hq q hc
        have eg : (ms ++ [ls + r]).getD q 0 = ms.getD q 0 := by
          simp only [List.getD_eq_getElem?_getD]
          rw [List.getElem?_append_left (by omega)]
        rw [eg]; exact this
      · have : q = l1.length := by omega
        subst this
        have eg : (ms ++ [ls + r]).getD l1.length 0 = ls + r := by
          simp only [List.getD_eq_getElem?_getD]
          rw [List.getElem?_append_right (by omega), hl, Nat.sub_self]; rfl
        rw [eg, hp]
        exact ⟨by omega, fun z => hls2 (by omega)⟩
  · obtain ⟨ms, y10, y11, y13, y14, rfl, o, hl, hq⟩ := hI
    rw [List.length_range] at hl hq
    exact ⟨ms, y10, y11, y13, y14, by rw [List.length_range], o, hl, hq⟩
theorem ringnet_ok (kk : Nat) {st : Store} (hst : Source st) (most : Nat) (hm0 : 0 < most) (hm : most ≤ 17) : ∃ n prs ms ol as t g, phi Pr (kk + 3) "_law_ring_net" [.loc 1, .int (most : Nat), .int 2] st = .ok (.tup [netD prs.length n as, .tup (nats ms), .loc (st.length + 6)]) t ∧ On st g t ∧ g[6]? = some (.lst (prs.map prP)) ∧ Drn most n prs ms ol ∧ List.Perm as (arrK prs prs.length) := by
  obtain ⟨r, t1, e1, hr, o1⟩ := (On.refl hst).pickN W (kk + 1) most hm0 (by omega)
  obtain ⟨n, hn⟩ : ∃ n, n = 1 + r := ⟨_, rfl⟩
  have en : (1 : Int) + (r : Int) = ((n : Nat) : Int) := by omega
  have hnl : (nats (List.range n)).length ≤ 1000 := by simp [nats]; omega
  obtain ⟨d1, t2, e2, p1, o2⟩ := mixedT_ok W (Pr := Pr) rfl kk o1.src (d := .lst (nats (List.range n))) rfl hnl
  obtain ⟨rl, rfl, prl⟩ := perm_nats p1
  obtain ⟨d2, t3, e3, p2, o3⟩ := mixedT_ok W (Pr := Pr) rfl kk o2.src (d := .lst (nats (List.range n))) rfl hnl
  obtain ⟨ol, rfl, pol⟩ := perm_nats p2
  have o3' := (o1.trans o2).trans o3
  simp only [List.nil_append, List.cons_append] at o3'
  have l1 : t1.length = st.length := by rw [o1.len]; rfl
  have l2 : t2.length = st.length + 2 := by rw [o2.len, l1]; rfl
  have l3 : t3.length = st.length + 4 := by rw [o3'.len]; rfl
  rw [l1] at e2
  rw [l2] at e3
  have g1 : t3[st.length + 1]? = some (.lst (nats rl)) := by rw [o3'.get]; rfl
  have hrl : rl.length = n := by rw [prl.length_eq, List.length_range]
  have mrl : ∀ k, k < n → rl.getD k 0 < n := fun k hk => by
    rw [List.getD_eq_getElem?_getD, List.getElem?_eq_getElem (by omega)]
    exact List.mem_range.mp (prl.mem_iff.mp (List.getElem_mem _))
  have hpin : ∀ p, p ∈ (List.range n).map (prev rl) → p.1 < n ∧ p.2 < n := fun p hp => by
    obtain ⟨k, hk, rfl⟩ := List.mem_map.mp hp
    have hk := List.mem_range.mp hk
    unfold prev
    refine ⟨?_, mrl k hk⟩
    simp only
    split
    · exact mrl _ (by omega)
    · exact mrl _ (by omega)
  have e4 := prev_ok (F := phi Pr (kk + 2)) (n := n) (a := st.length + 1) (by omega) hrl g1 (some (.loc 1)) (some (.int (most : Nat))) (some (.int 2)) none none (some (.loc (st.length + 2 + 1))) none none none none none none none
  rw [l3] at e4
  have o4 := o3'.push (.lst (((List.range n).map (prev rl)).map prP))
  obtain ⟨w, t5, e5, hw, o5⟩ := o4.pickN W (kk + 1) 4 (by decide) (by decide)
  have e5' : phi Pr (kk + 2) "_law_pick" [.loc 1, .int 4] (t3 ++ [.lst (((List.range n).map (prev rl)).map prP)]) = .ok (.int (w : Nat)) t5 := e5
  obtain ⟨fr, t6, e6, prs, y5, rfl, o6, lp, ip, sp⟩ := OkP.ex (more_ok (kk + 1) (st := st) (g4 := [.lst [], .lst (nats rl), .lst [], .lst (nats ol)]) (n := n) (by omega) (by omega) w hw (by simp) hpin o5 (some (.int (most : Nat))) (some (.int 2)) none (some (.loc (st.length + 1))) (some (.loc (st.length + 2 + 1))) none none none none none none none)
  have g6 : t6[st.length + 4]? = some (.lst (prs.map prP)) := by rw [o6.get]; rfl
  obtain ⟨d3, t7, e7, p3, o7⟩ := mixedT_ok W (Pr := Pr) rfl kk o6.src (d := .loc (st.length + 4)) (items_at g6) (by rw [List.length_map]; omega)
  obtain ⟨prs2, rfl, pp⟩ := perm_prP p3
  have l6 : t6.length = st.length + 5 := by rw [o6.len]; rfl
  rw [l6] at e7
  have o7' := o6.trans o7
  have l7 : t7.length = st.length + 7 := by rw [o7'.len]; rfl
  have o8 := o7'.push (.lst (nats []))
  have mol : ∀ d, d < n → d ∈ ol := fun d hd => pol.mem_iff.mpr (List.mem_range.mpr hd)
  have ip2 : ∀ p, p ∈ prs2 → p.1 < n ∧ p.2 < n := fun p hp => ip p (pp.mem_iff.mp hp)
  have lp2 : prs2.length ≤ n + 3 := by rw [pp.length_eq]; exact lp
  obtain ⟨fr, t9, e9, ms, y10, y11, y13, y14, rfl, o9, lm, hms⟩ := OkP.ex (arrs_ok (kk + 1) (st := st) (g3 := [.lst [], .lst (nats rl), .lst []]) (g5 := [.lst (prs.map prP), .lst []]) rfl (prs := prs2) (by omega) (ol := ol) (fun p hp => ⟨mol _ (ip2 p hp).1, mol _ (ip2 p hp).2⟩) o8 rfl (some (.int (most : Nat))) (some (.int (n : Nat))) y5 (some (.loc (st.length + 1))) none none none none none)
  have g9 : t9[st.length + 6]? = some (.lst (prs2.map prP)) := by rw [o9.get]; rfl
  have g9m : t9[st.length + 7]? = some (.lst (nats ms)) := by rw [o9.get]; rfl
  have g8 : (t7 ++ [Ob.lst (nats [])])[st.length + 6]? = some (.lst (prs2.map prP)) := by rw [o8.get]; rfl
  have hal : (arrK prs2 prs2.length).length ≤ sizeLine := by rw [arrK_len]; exact few (by omega)
  have hs := sorted_tup arI (arrK prs2 prs2.length) (fun x _ => by simp [arI]) hal t9
  rw [← arI_D, ← arI_D] at hs
  refine ⟨n, prs2, ms, ol, srt arI (arrK prs2 prs2.length), t9, _, ?_, o9, rfl, ⟨by omega, by omega, lp2, ip2, fun d hd => ?_, lm, fun q hq => (hms q hq).1, fun q hq z => (hms q hq).2 z, pol⟩, srt_perm _ _⟩
  · have c0 : 0 ≤ sizeLine := few (by decide)
    have et : biD false .tuple [.loc (st.length + 7)] t9 = .ok (.tup (nats ms)) t9 := by
      have : biD false .tuple [.loc (st.length + 7)] t9 = (match view t9 (.loc (st.length + 7)) with
        | .tup xs => .ok (.tup xs) t9
        | .lst xs => .ok (.tup xs) t9
        | _ => .stuck) := rfl
      rw [this, view_at g9m]
    have el : biD false .len [.loc (st.length + 6)] t9 = .ok (.int (prs2.length : Nat)) t9 := by rw [len_loc g9, List.length_map]
    have e6' : loopF (.nm 5) (denSs (phi Pr (kk + 2)) moreB) ((List.range w).map fun i => D.int (i : Nat)) [some (.loc 1), some (.int (most : Nat)), some (.int 2), some (.int (n : Nat)), some (.loc (st.length + 4)), none, some (.loc (st.length + 1)), some (.loc (st.length + 2 + 1)), none, none, none, none, none, none, none] t5 = .ok (.nx, [some (.loc 1), some (.int (most : Nat)), some (.int 2), some (.int (n : Nat)), some (.loc (st.length + 4)), y5, some (.loc (st.length + 1)), some (.loc (st.length + 2 + 1)), none, none, none, none, none, none, none]) t6 := e6
    have e9' : (limR fun m => loopL (.tp [(.nm 10), (.tp [(.nm 13), (.nm 14)])]) (denSs (phi Pr (kk + 2)) arrB) (.enum (.loc (st.length + 5 + 1))) m 0 [some (.loc 1), some (.int (most : Nat)), some (.int 2), some (.int (n : Nat)), some (.loc (st.length + 5 + 1)), y5, some (.loc (st.length + 1)), some (.loc (st.length + 2 + 1)), some (.lst []), some (.loc (st.length + 7)), none, none, none, none, none] (t7 ++ [Ob.lst []])) = .ok (.nx, [some (.loc 1), some (.int (most : Nat)), some (.int 2), some (.int (n : Nat)), some (.loc (st.length + 6)), y5, some (.loc (st.length + 1)), some (.loc (st.length + 3)), some (.lst ((arrK prs2 prs2.length).map arD)), some (.loc (st.length + 7)), y10, y11, none, y13, y14]) t9 := e9
    have g8' : (t7 ++ [Ob.lst []])[st.length + 5 + 1]? = some (.lst (prs2.map prP)) := g8
    rw [phi_def p__law_ring_net rfl]
    show (denSs (phi Pr (kk + 2)) [
      .asg (.nm 3) (.bin false .Add (.int 1) (.call "_law_pick" [(.var 0), (.var 1)])),
      .asg (.tp [(.nm 6), (.nm 7)]) (.tup [(.call "_law_mixed" [(.var 0), (.bi false .listR [(.var 3)])]), (.call "_law_mixed" [(.var 0), (.bi false .listR [(.var 3)])])]),
      .asg (.nm 4) prevE,
      .for_ (.nm 5) .rng [(.call "_law_pick" [(.var 0), (.int 4)])] moreB,
      .asg (.nm 4) (.call "_law_mixed" [(.var 0), (.var 4)]),
      .asg (.tp [(.nm 8), (.nm 9)]) (.tup [(.lst false []), (.lst true [])]),
      .for_ (.tp [(.nm 10), (.tp [(.nm 13), (.nm 14)])]) .enum [(.var 4)] arrB,
      .ret (.tup [(.tup [(.bi false .len [(.var 4)]), (.var 3), (.bi false .tuple [(.bi false .sorted [(.var 8)])])]), (.bi false .tuple [(.var 9)]), (.var 4)])] [some (.loc 1), some (.int (most : Nat)), some (.int 2), none, none, none, none, none, none, none, none, none, none, none, none] st).bind (endOf st) = _
    simp only [ev_var, ev_int, ev_bl, ev_non, ev_str, ev_tup, ev_lst, ev_dnew, ev_disp, ev_bin, ev_neg, ev_cmp, ev_chain, ev_and, ev_or, ev_not, ev_ite, ev_ix, ev_sl, ev_rev, ev_call, ev_bi, ev_mt, ev_nil, ev_cons, ev_ifn, ev_ifc,  ev_asg, ev_aug, ev_setIx, ev_augIx, ev_ex, ev_ret, ev_retN, ev_if, ev_for2, ev_brk, ev_cont, ev_pass, ev_snil, ev_scons, then_nx, then_rt, then_bk, then_ct, end_rt, end_nx, optR_some, finish_self, asg_nm, asg_tp, asg_nil, asg_cons,  truth_bl, truth_int, Res.bind_ok, safe_ok, List.getElem?_cons_zero, List.getElem?_cons_succ, List.set_cons_zero, List.set_cons_succ, List.length_cons, List.length_nil, Option.map_some, Option.bind_some, Option.bind_eq_bind, wipeE, if_true, if_false, Bool.false_eq_true, ite_true, ite_false, reduceIte, reduceCtorEq, e1, b_add, b_sub, b_eq, b_ne, b_lt, b_le, b_gt, b_ge, u_abs, u_int, u_intb, u_tuple_l, u_tuple_t, u_len_l, u_len_t, eq_self, decide_true, decide_false, en, listR_ok n (by omega), e2, e3, c2, c3, e4, e5', forK_rng _ _ _ _ _ (few (show w ≤ 1000 by omega)), e6', e7, newL_f, newL_t, c0, l7, forK_enumAt g8', e9', el, hs, et]
    unfold WT.finish
    rw [if_neg (by simp [D.low, D.lowL]; intro _ _ z; omega)]
    rfl
  · obtain ⟨i, hi⟩ := List.getElem_of_mem (prl.mem_iff.mpr (List.mem_range.mpr hd))
    obtain ⟨h1, h2⟩ := hi
    refine ⟨prev rl i, pp.mem_iff.mpr (sp _ (List.mem_map.mpr ⟨i, List.mem_range.mpr (by omega), rfl⟩)), ?_⟩
    unfold prev
    simp only
    rw [List.getD_eq_getElem?_getD, List.getElem?_eq_getElem h1, h2]; rfl
end Wk92

set_option maxRecDepth 100000
set_option maxHeartbeats 2000000
set_option linter.all false
namespace Wk92
open PySem WT Wring
/-! the ring net that has been drawn -/
def mkR (n : Nat) (prs : List (Nat × Nat)) (ms ol ts : List Nat) : RN where
  n := n
  np := prs.length
  E q := (prs.getD q (0, 0)).1
  L q := (prs.getD q (0, 0)).2
  M q := ms.getD q 0
  T d := ts.getD d 0
  rk d := ol.idxOf d
theorem nats_rng (l : List Nat) : nats l = (List.range l.length).map fun i => D.int (l.getD i 0 : Nat) := by
  apply List.ext_getElem?
  intro i
  rw [nats_at, List.getElem?_map]
  by_cases h : i < l.length
  · rw [List.getElem?_range h]; simp [List.getD_eq_getElem?_getD, List.getElem?_eq_getElem h]
  · rw [List.getElem?_eq_none (by omega), List.getElem?_eq_none (show (List.range l.length).length ≤ i by simp; omega)]; rfl
theorem prs_rng (l : List (Nat × Nat)) : l.map prP = (List.range l.length).map fun i => prP (l.getD i (0, 0)) := by
  apply List.ext_getElem?
  intro i
  rw [List.getElem?_map, List.getElem?_map]
  by_cases h : i < l.length
  · rw [List.getElem?_range h]; simp [List.getD_eq_getElem?_getD, List.getElem?_eq_getElem h]
  · rw [List.getElem?_eq_none (by omega), List.getElem?_eq_none (show (List.range l.length).length ≤ i by simp; omega)]; rfl
section
variable {most n : Nat} {prs : List (Nat × Nat)} {ms ol ts : List Nat}
theorem mk_pairs : pairsD (mkR n prs ms ol ts) = prs.map prP := by rw [prs_rng]; rfl
theorem mk_mark (h : ms.length = prs.length) : markD (mkR n prs ms ol ts) = .tup (nats ms) := by
  rw [nats_rng, h]; rfl
theorem mk_times (h : ts.length = n) : timesD (mkR n prs ms ol ts) = .tup (nats ts) := by
  rw [nats_rng, h]; rfl
theorem mk_ok (h : Drn most n prs ms ol) (hl : ts.length = n) (ht : ∀ x, x ∈ ts → 1 ≤ x ∧ x ≤ 6) : (mkR n prs ms ol ts).Ok := by
  have mem : ∀ q, q < prs.length → prs.getD q (0, 0) ∈ prs := fun q hq => by
    rw [List.getD_eq_getElem?_getD, List.getElem?_eq_getElem hq]; exact List.getElem_mem _
  have mt : ∀ d, d < n → ts.getD d 0 ∈ ts := fun d hd => by
    rw [List.getD_eq_getElem?_getD, List.getElem?_eq_getElem (by omega)]; exact List.getElem_mem _
  have lo : ol.length = n := by rw [h.ol.length_eq, List.length_range]
  exact {
    e := fun q hq => (h.inn _ (mem q hq)).1
    l := fun q hq => (h.inn _ (mem q hq)).2
    rk := fun d hd => by
      show ol.idxOf d < n
      rw [← lo]
      exact List.idxOf_lt_length_of_mem (h.ol.mem_iff.mpr (List.mem_range.mpr hd))
    ac := fun q hq z => h.ac q hq z
    m2 := fun q hq => h.m2 q hq
    t1 := fun d hd => (ht _ (mt d hd)).1
    t2 := fun d hd => (ht _ (mt d hd)).2
    into := fun d hd => by
      obtain ⟨p, hp, e⟩ := h.into d hd
      obtain ⟨q, hq, rfl⟩ := List.getElem_of_mem hp
      refine ⟨q, hq, ?_⟩
      show (prs.getD q (0, 0)).2 = d
      rw [List.getD_eq_getElem?_getD, List.getElem?_eq_getElem hq]; exact e }
theorem mk_net (h : Drn most n prs ms ol) (hm : most ≤ 17) {as : List Arrow} (ha : List.Perm as (arrK prs prs.length)) : Net (mkR n prs ms ol ts) as :=
  ⟨ha, by have := h.np; have := h.n2; show prs.length ≤ 20; omega, by have := h.n2; show n ≤ 20; omega⟩
end
/-! past u nothing more comes -/
theorem past_one {R : RN} (hR : R.Ok) {m u : Nat} (h : Past R m u) {k d : Nat} (hd : d < R.n) (hk : m ≤ k + 1) : oneOf R u k d = [] := by
  unfold oneOf
  have := h d hd
  have := B_mono_le hR hd (show m - 1 ≤ k by omega)
  rw [if_neg (by omega)]
theorem past_same {R : RN} (hR : R.Ok) {m m' u : Nat} (h : Past R m u) (hm : m ≤ m') : byDeed R m' u = byDeed R m u := by
  unfold byDeed
  have : ∀ d, d < R.n → ((List.range m').flatMap fun k => oneOf R u k d) = (List.range m).flatMap fun k => oneOf R u k d := by
    intro d hd
    have e : List.range m' = List.range m ++ (List.range m').drop m := by
      conv => lhs; rw [← List.take_append_drop m (List.range m')]
      rw [List.take_range, Nat.min_eq_left hm]
    rw [e, List.flatMap_append]
    have : ((List.range m').drop m).flatMap (fun k => oneOf R u k d) = [] := by
      rw [List.flatMap_eq_nil_iff]
      intro k hk
      obtain ⟨i, hi, rfl⟩ := List.getElem_of_mem hk
      rw [List.getElem_drop, List.getElem_range]
      exact past_one hR h hd (by omega)
    rw [this, List.append_nil]
  rw [List.flatMap_def, List.flatMap_def]
  congr 1
  exact List.map_congr_left fun d hd => this d (List.mem_range.mp hd)
theorem due_same {R : RN} (hR : R.Ok) {m m' u : Nat} (h : Past R m u) (h' : Past R m' u) : due R m u = due R m' u := by
  unfold due
  rcases Nat.le_total m m' with q | q
  · rw [past_same hR h q]
  · rw [past_same hR h' q]
/-! the law's own while -/
def lastE : E := .comp false (.ix (.var 15) (.neg (.int 1))) (.nm 15) .val [(.var 3)] [] [15]
def condL : E := .cmp .LtE (.bi false .min [lastE]) (.var 12)
def loopB : List S := [.asg (.nm 14) (.bin false .Mult (.int 2) (.var 14)), .asg (.nm 3) (.call "_law_begins" [(.var 10), (.var 9), (.var 11), (.var 14)])]
abbrev envW (a0 a1 a2 x4 x5 x6 x7 x8 x13 x15 x16 x17 x18 x19 x20 x21 : Option D) (rows mk pr tm : D) (u m : Nat) : WT.Env :=
  [a0, a1, a2, some rows, x4, x5, x6, x7, x8, some mk, some pr, some tm, some (.int (u : Nat)), x13, some (.int (m : Nat)), x15, x16, x17, x18, x19, x20, x21]
section
variable {R : RN} (hR : R.Ok) (hn : R.n ≤ 20) (h0 : 0 < R.n)
include hn in
theorem last_ok (F : WT.Fun) (b G : Store) (m u : Nat) (hm : 0 < m) (mk pr tm : D) (a0 a1 a2 x4 x5 x6 x7 x8 x13 x15 x16 x17 x18 x19 x20 x21 : Option D) :
    den F lastE (envW a0 a1 a2 x4 x5 x6 x7 x8 x13 x15 x16 x17 x18 x19 x20 x21 (.lst (locs b.length R.n)) mk pr tm u m) (LX R R.B b m G) = .ok (.lst (nats (row R (m - 1)))) (LX R R.B b m G) := by
  have C : cM (fun d : Nat => stepC (den F (.ix (.var 15) (.neg (.int 1)))) (denIf F []) (.nm 15) [a0, a1, a2, some (.lst (locs b.length R.n)), x4, x5, x6, x7, x8, some mk, some pr, some tm, some (.int (u : Nat)), x13, some (.int (m : Nat)), none, x16, x17, x18, x19, x20, x21] (.loc (b.length + d))) (List.range R.n) (LX R R.B b m G) = .ok ((List.range R.n).map fun d => .int (R.B (m - 1) d : Nat)) (LX R R.B b m G) := by
    refine cM_toS _ fun d hd => ?_
    have g := LX_col R R.B b m G [] (List.mem_range.mp hd)
    rw [List.append_nil] at g
    have hl : 0 < (nats (colX R.B m d)).length := by rw [nats_len]; simp [colX]; exact hm
    have e : (nats (colX R.B m d)).length - 1 = m - 1 := by rw [nats_len]; simp [colX]
    simp only [stepC_eq, ev_var, ev_int, ev_bl, ev_non, ev_str, ev_tup, ev_lst, ev_dnew, ev_disp, ev_bin, ev_neg, ev_cmp, ev_chain, ev_and, ev_or, ev_not, ev_ite, ev_ix, ev_sl, ev_rev, ev_call, ev_bi, ev_mt, ev_comp2, ev_nil, ev_cons, ev_ifn, ev_ifc,  ev_asg, ev_aug, ev_setIx, ev_augIx, ev_ex, ev_ret, ev_retN, ev_if, ev_for2, ev_brk, ev_cont, ev_pass, ev_snil, ev_scons, then_nx, then_rt, then_bk, then_ct, end_rt, end_nx, optR_some, finish_self, asg_nm, asg_tp, asg_nil, asg_cons,  truth_bl, truth_int, Res.bind_ok, safe_ok, List.getElem?_cons_zero, List.getElem?_cons_succ, List.set_cons_zero, List.set_cons_succ, List.length_cons, List.length_nil, Option.map_some, Option.bind_some, Option.bind_eq_bind, wipeE, if_true, if_false, Bool.false_eq_true, ite_true, ite_false, reduceIte, reduceCtorEq, x_last g hl, e, colX_at _ _ _ _ (show m - 1 < m by omega)]
  have hl : (nats (row R (m - 1))).length ≤ sizeLine := by rw [nats_len]; simp [row]; exact few (by omega)
  have e : ((List.range R.n).map fun d => D.int (R.B (m - 1) d : Nat)) = nats (row R (m - 1)) := by simp [nats, row]
  rw [e, ← cM_map (stepC (den F (.ix (.var 15) (.neg (.int 1)))) (denIf F []) (.nm 15) [a0, a1, a2, some (.lst (locs b.length R.n)), x4, x5, x6, x7, x8, some mk, some pr, some tm, some (.int (u : Nat)), x13, some (.int (m : Nat)), none, x16, x17, x18, x19, x20, x21]) (fun d : Nat => D.loc (b.length + d)), ← locs_map] at C
  simp only [lastE, envW, ev_var, ev_int, ev_bl, ev_non, ev_str, ev_tup, ev_lst, ev_dnew, ev_disp, ev_bin, ev_neg, ev_cmp, ev_chain, ev_and, ev_or, ev_not, ev_ite, ev_ix, ev_sl, ev_rev, ev_call, ev_bi, ev_mt, ev_comp2, ev_nil, ev_cons, ev_ifn, ev_ifc,  ev_asg, ev_aug, ev_setIx, ev_augIx, ev_ex, ev_ret, ev_retN, ev_if, ev_for2, ev_brk, ev_cont, ev_pass, ev_snil, ev_scons, then_nx, then_rt, then_bk, then_ct, end_rt, end_nx, optR_some, finish_self, asg_nm, asg_tp, asg_nil, asg_cons,  truth_bl, truth_int, Res.bind_ok, safe_ok, List.getElem?_cons_zero, List.getElem?_cons_succ, List.set_cons_zero, List.set_cons_succ, List.length_cons, List.length_nil, Option.map_some, Option.bind_some, Option.bind_eq_bind, wipeE, if_true, if_false, Bool.false_eq_true, ite_true, ite_false, reduceIte, reduceCtorEq, compK_lst, C]
  exact newL_f _ _ hl
include hR hn h0 in
theorem lawwhile_ok (kk : Nat) {t0 : Store} {pl : Nat} (hp : t0[pl]? = some (.lst (pairsD R))) (u : Nat) (hu : u ≤ 100) (a0 a1 a2 x4 x5 x6 x7 x8 x13 x15 x16 x17 x18 x19 x20 x21 : Option D) {b0 G0 : Store} (hb0 : ∃ g, b0 = t0 ++ g) :
    OkP (denS (phi Pr (kk + 1)) (.loop condL loopB) (envW a0 a1 a2 x4 x5 x6 x7 x8 x13 x15 x16 x17 x18 x19 x20 x21 (.lst (locs b0.length R.n)) (markD R) (.loc pl) (timesD R) u 1) (LX R R.B b0 1 G0)) fun fr t => ∃ m b G, fr = (.nx, envW a0 a1 a2 x4 x5 x6 x7 x8 x13 x15 x16 x17 x18 x19 x20 x21 (.lst (locs b.length R.n)) (markD R) (.loc pl) (timesD R) u m) ∧ t = LX R R.B b m G ∧ (∃ g, b = t0 ++ g) ∧ 0 < m ∧ m ≤ 1000 ∧ Past R m u := by
  rw [ev_loop]
  refine loop_inv (fun w r t => ∃ m b G, r = envW a0 a1 a2 x4 x5 x6 x7 x8 x13 x15 x16 x17 x18 x19 x20 x21 (.lst (locs b.length R.n)) (markD R) (.loc pl) (timesD R) u m ∧ t = LX R R.B b m G ∧ (∃ g, b = t0 ++ g) ∧ 0 < m ∧ m ≤ 4 * u + 4 ∧ w = 4 * u + 5 - m) (m := 4 * u + 4) ⟨1, b0, G0, rfl, rfl, hb0, by omega, by omega, by omega⟩ fun w r t hI => ?_
  obtain ⟨m, b, G, rfl, rfl, ⟨g, hg⟩, hm0, hm, rfl⟩ := hI
  have e1 := last_ok (R := R) hn (phi Pr (kk + 1)) b G m u hm0 (markD R) (.loc pl) (timesD R) a0 a1 a2 x4 x5 x6 x7 x8 x13 x15 x16 x17 x18 x19 x20 x21
  obtain ⟨v, e2, hv, hmin⟩ := min_nats (st := LX R R.B b m G) (b := .lst (nats (row R (m - 1)))) rfl (row_ne h0 (m - 1)) false
  have ec : den (phi Pr (kk + 1)) condL (envW a0 a1 a2 x4 x5 x6 x7 x8 x13 x15 x16 x17 x18 x19 x20 x21 (.lst (locs b.length R.n)) (markD R) (.loc pl) (timesD R) u m) (LX R R.B b m G) = .ok (.bl (decide ((v : Int) ≤ (u : Nat)))) (LX R R.B b m G) := by
    rw [condL, ev_cmp, ev_bi, ev_cons, e1]
    simp only [envW, ev_var, ev_int, ev_bl, ev_non, ev_str, ev_tup, ev_lst, ev_dnew, ev_disp, ev_bin, ev_neg, ev_cmp, ev_chain, ev_and, ev_or, ev_not, ev_ite, ev_ix, ev_sl, ev_rev, ev_call, ev_bi, ev_mt, ev_comp2, ev_nil, ev_cons, ev_ifn, ev_ifc,  ev_asg, ev_aug, ev_setIx, ev_augIx, ev_ex, ev_ret, ev_retN, ev_if, ev_for2, ev_brk, ev_cont, ev_pass, ev_snil, ev_scons, then_nx, then_rt, then_bk, then_ct, end_rt, end_nx, optR_some, finish_self, asg_nm, asg_tp, asg_nil, asg_cons,  truth_bl, truth_int, Res.bind_ok, safe_ok, List.getElem?_cons_zero, List.getElem?_cons_succ, List.set_cons_zero, List.set_cons_succ, List.length_cons, List.length_nil, Option.map_some, Option.bind_some, Option.bind_eq_bind, wipeE, if_true, if_false, Bool.false_eq_true, ite_true, ite_false, reduceIte, reduceCtorEq, e2, b_add, b_sub, b_eq, b_ne, b_lt, b_le, b_gt, b_ge, u_abs, u_int, u_intb, u_tuple_l, u_tuple_t, u_len_l, u_len_t, eq_self, decide_true, decide_false]
  rw [ec]
  by_cases hc : v ≤ u
  · have hc' : (v : Int) ≤ (u : Nat) := by omega
    have ht : (LX R R.B b m G)[pl]? = some (.lst (pairsD R)) := by
      have := LX_old R R.B b m G [] (i := pl) (o := .lst (pairsD R)) (by
        rw [hg, List.getElem?_append_left (List.getElem?_eq_some_iff.mp hp).1]; exact hp)
      rwa [List.append_nil] at this
    have hB : m ≤ 2 * u + 2 := by
      unfold row at hv
      obtain ⟨d, hd, rfl⟩ := List.mem_map.mp hv
      have := B_grow hR (m - 1) d (List.mem_range.mp hd)
      omega
    obtain ⟨G', e3⟩ := begins_ok hR hn h0 kk (LX R R.B b m G) pl (2 * m) (by omega) ht
    have e4 : (2 : Int) * (m : Int) = ((2 * m : Nat) : Int) := by omega
    have l2 : (2 : Int).natAbs < 2 ^ 40 := by decide
    simp only [envW, loopB, ev_var, ev_int, ev_bl, ev_non, ev_str, ev_tup, ev_lst, ev_dnew, ev_disp, ev_bin, ev_neg, ev_cmp, ev_chain, ev_and, ev_or, ev_not, ev_ite, ev_ix, ev_sl, ev_rev, ev_call, ev_bi, ev_mt, ev_comp2, ev_nil, ev_cons, ev_ifn, ev_ifc,  ev_asg, ev_aug, ev_setIx, ev_augIx, ev_ex, ev_ret, ev_retN, ev_if, ev_for2, ev_brk, ev_cont, ev_pass, ev_snil, ev_scons, then_nx, then_rt, then_bk, then_ct, end_rt, end_nx, optR_some, finish_self, asg_nm, asg_tp, asg_nil, asg_cons,  truth_bl, truth_int, Res.bind_ok, safe_ok, List.getElem?_cons_zero, List.getElem?_cons_succ, List.set_cons_zero, List.set_cons_succ, List.length_cons, List.length_nil, Option.map_some, Option.bind_some, Option.bind_eq_bind, wipeE, if_true, if_false, Bool.false_eq_true, ite_true, ite_false, reduceIte, reduceCtorEq, hc', decide_true, okP_ok, b_mul _ (.inl l2), e4, e3]
    refine ⟨4 * u + 5 - 2 * m, by omega, 2 * m, LX R R.B b m G, G', rfl, rfl, ⟨g ++ (colsX R R.B m ++ G), ?_⟩, by omega, by omega, rfl⟩
    unfold LX
    rw [hg, List.append_assoc]
  · have hc' : ¬ (v : Int) ≤ (u : Nat) := by omega
    simp only [ev_var, ev_int, ev_bl, ev_non, ev_str, ev_tup, ev_lst, ev_dnew, ev_disp, ev_bin, ev_neg, ev_cmp, ev_chain, ev_and, ev_or, ev_not, ev_ite, ev_ix, ev_sl, ev_rev, ev_call, ev_bi, ev_mt, ev_comp2, ev_nil, ev_cons, ev_ifn, ev_ifc,  ev_asg, ev_aug, ev_setIx, ev_augIx, ev_ex, ev_ret, ev_retN, ev_if, ev_for2, ev_brk, ev_cont, ev_pass, ev_snil, ev_scons, then_nx, then_rt, then_bk, then_ct, end_rt, end_nx, optR_some, finish_self, asg_nm, asg_tp, asg_nil, asg_cons,  truth_bl, truth_int, Res.bind_ok, safe_ok, List.getElem?_cons_zero, List.getElem?_cons_succ, List.set_cons_zero, List.set_cons_succ, List.length_cons, List.length_nil, Option.map_some, Option.bind_some, Option.bind_eq_bind, wipeE, if_true, if_false, Bool.false_eq_true, ite_true, ite_false, reduceIte, reduceCtorEq, hc', decide_false, okP_ok]
    refine ⟨m, b, G, rfl, rfl, ⟨g, hg⟩, hm0, by omega, fun d hd => ?_⟩
    have := hmin (R.B (m - 1) d) (List.mem_map.mpr ⟨d, List.mem_range.mpr hd, rfl⟩)
    omega
end
/-! the law's own list -/
def gatB : List S := [.asg (.nm 4) (.bin false .Add (.var 4) (.comp false (.tup [(.var 18), (.var 7)]) (.nm 18) .val [(.var 15)] [(.cmp .LtE (.var 18) (.var 12))] [18]))]
def deedOf (R : RN) (m u d : Nat) : List (Nat × Nat) := (List.range m).flatMap fun k => oneOf R u k d
theorem deed_list (R : RN) (m u d : Nat) : (((List.range m).filter fun k => decide (R.B k d ≤ u)).map fun k => D.tup [.int (R.B k d : Nat), .int (d : Nat)]) = prD (deedOf R m u d) := by
  rw [flat_if]
  unfold deedOf prD
  rw [List.map_flatMap]
  congr 1
  funext k
  unfold oneOf
  by_cases h : R.B k d ≤ u
  · rw [if_pos (by simpa using h), if_pos h]; rfl
  · rw [if_neg (by simpa using h), if_neg h]; rfl
theorem deed_few (R : RN) (m u d : Nat) : (deedOf R m u d).length ≤ m := by
  have := congrArg List.length (deed_list R m u d)
  rw [List.length_map, prD, List.length_map] at this
  rw [← this]
  have := List.length_filter_le (fun k => decide (R.B k d ≤ u)) (List.range m)
  rwa [List.length_range] at this
theorem deeds_few (R : RN) (m u : Nat) (l : List Nat) : (l.flatMap (deedOf R m u)).length ≤ l.length * m := by
  induction l with
  | nil => simp
  | cons x l ih =>
    have := deed_few R m u x
    simp only [List.flatMap_cons, List.length_append, List.length_cons, Nat.add_mul, Nat.one_mul]; omega
theorem byDeed_eq (R : RN) (m u : Nat) : byDeed R m u = (List.range R.n).flatMap (deedOf R m u) := rfl
abbrev envG (a0 a1 a2 x5 x6 x7 x8 x13 x14 x15 x16 x17 x18 x19 x20 x21 : Option D) (rows sm mk pr tm : D) (u : Nat) : WT.Env :=
  [a0, a1, a2, some rows, some sm, x5, x6, x7, x8, some mk, some pr, some tm, some (.int (u : Nat)), x13, x14, x15, x16, x17, x18, x19, x20, x21]
theorem locs_zip (a n : Nat) (st : Store) : srcItems st (.enum (.lst (locs a n))) = some ((List.range n).map fun d => .tup [.int (d : Nat), .loc (a + d)]) := by
  show some (enumL (locs a n) 0) = _
  rw [locs_map, enumL_map, zip_range_ix, List.map_map]; rfl
theorem lawgather_ok {R : RN} (hn : R.n ≤ 20) (F : WT.Fun) (b G : Store) (m u : Nat) (hm : m ≤ 1000) (mk pr tm : D) (a0 a1 a2 x5 x6 x7 x8 x13 x14 x15 x16 x17 x18 x19 x20 x21 : Option D) :
    OkP (loopF (.tp [(.nm 7), (.nm 15)]) (denSs F gatB) ((List.range R.n).map fun d => .tup [.int (d : Nat), .loc (b.length + d)]) (envG a0 a1 a2 x5 x6 x7 x8 x13 x14 x15 x16 x17 x18 x19 x20 x21 (.lst (locs b.length R.n)) (.lst (prD [])) mk pr tm u) (LX R R.B b m G)) fun fr t => ∃ y7 y15, fr = (.nx, envG a0 a1 a2 x5 x6 y7 x8 x13 x14 y15 x16 x17 x18 x19 x20 x21 (.lst (locs b.length R.n)) (.lst (prD (byDeed R m u))) mk pr tm u) ∧ t = LX R R.B b m G := by
  refine loop_list (fun l1 r t => ∃ y7 y15, r = envG a0 a1 a2 x5 x6 y7 x8 x13 x14 y15 x16 x17 x18 x19 x20 x21 (.lst (locs b.length R.n)) (.lst (prD (l1.flatMap (deedOf R m u)))) mk pr tm u ∧ t = LX R R.B b m G) ⟨_, _, rfl, rfl⟩ (fun l1 d l2 r t hx hI => ?_) fun r t hI => ?_
  · obtain ⟨y7, y15, rfl, rfl⟩ := hI
    have hd : d < R.n := List.mem_range.mp (by rw [hx]; simp)
    have hl1 : l1.length ≤ 20 := by
      have := congrArg List.length hx
      simp only [List.length_range, List.length_append, List.length_cons] at this; omega
    have g := LX_col R R.B b m G [] hd
    rw [List.append_nil] at g
    have g' : (LX R R.B b m G)[b.length + d]? = some (.lst ((List.range m).map fun j => .int (R.B j d : Nat))) := by rw [g]; simp [nats, colX]
    have hc : den F (.comp false (.tup [(.var 18), (.var 7)]) (.nm 18) .val [(.var 15)] [(.cmp .LtE (.var 18) (.var 12))] [18]) (envG a0 a1 a2 x5 x6 (some (.int (d : Nat))) x8 x13 x14 (some (.loc (b.length + d))) x16 x17 x18 x19 x20 x21 (.lst (locs b.length R.n)) (.lst (prD (l1.flatMap (deedOf R m u)))) mk pr tm u) (LX R R.B b m G) = .ok (.lst (prD (deedOf R m u d))) (LX R R.B b m G) := by
      simp only [envG, ev_var, ev_int, ev_bl, ev_non, ev_str, ev_tup, ev_lst, ev_dnew, ev_disp, ev_bin, ev_neg, ev_cmp, ev_chain, ev_and, ev_or, ev_not, ev_ite, ev_ix, ev_sl, ev_rev, ev_call, ev_bi, ev_mt, ev_comp2, ev_nil, ev_cons, ev_ifn, ev_ifc,  ev_asg, ev_aug, ev_setIx, ev_augIx, ev_ex, ev_ret, ev_retN, ev_if, ev_for2, ev_brk, ev_cont, ev_pass, ev_snil, ev_scons, then_nx, then_rt, then_bk, then_ct, end_rt, end_nx, optR_some, finish_self, asg_nm, asg_tp, asg_nil, asg_cons,  truth_bl, truth_int, Res.bind_ok, safe_ok, List.getElem?_cons_zero, List.getElem?_cons_succ, List.set_cons_zero, List.set_cons_succ, List.length_cons, List.length_nil, Option.map_some, Option.bind_some, Option.bind_eq_bind, wipeE, if_true, if_false, Bool.false_eq_true, ite_true, ite_false, reduceIte, reduceCtorEq]
      rw [compK_at (List.range m) (fun j => D.int (R.B j d : Nat)) (fun k => decide (R.B k d ≤ u)) (fun k => .tup [.int (R.B k d : Nat), .int (d : Nat)]) g' fun k _ => ⟨_, asg_nm _ _ _, by
        simp only [ev_var, ev_int, ev_bl, ev_non, ev_str, ev_tup, ev_lst, ev_dnew, ev_disp, ev_bin, ev_neg, ev_cmp, ev_chain, ev_and, ev_or, ev_not, ev_ite, ev_ix, ev_sl, ev_rev, ev_call, ev_bi, ev_mt, ev_comp2, ev_nil, ev_cons, ev_ifn, ev_ifc,  ev_asg, ev_aug, ev_setIx, ev_augIx, ev_ex, ev_ret, ev_retN, ev_if, ev_for2, ev_brk, ev_cont, ev_pass, ev_snil, ev_scons, then_nx, then_rt, then_bk, then_ct, end_rt, end_nx, optR_some, finish_self, asg_nm, asg_tp, asg_nil, asg_cons,  truth_bl, truth_int, Res.bind_ok, safe_ok, List.getElem?_cons_zero, List.getElem?_cons_succ, List.set_cons_zero, List.set_cons_succ, List.length_cons, List.length_nil, Option.map_some, Option.bind_some, Option.bind_eq_bind, wipeE, if_true, if_false, Bool.false_eq_true, ite_true, ite_false, reduceIte, reduceCtorEq, b_add, b_sub, b_eq, b_ne, b_lt, b_le, b_gt, b_ge, u_abs, u_int, u_intb, u_tuple_l, u_tuple_t, u_len_l, u_len_t, eq_self, decide_true, decide_false]
        by_cases hb : R.B k d ≤ u
        · have : ((R.B k d : Nat) : Int) ≤ (u : Nat) := by omega
          simp only [this, hb, decide_true, ev_var, ev_int, ev_bl, ev_non, ev_str, ev_tup, ev_lst, ev_dnew, ev_disp, ev_bin, ev_neg, ev_cmp, ev_chain, ev_and, ev_or, ev_not, ev_ite, ev_ix, ev_sl, ev_rev, ev_call, ev_bi, ev_mt, ev_comp2, ev_nil, ev_cons, ev_ifn, ev_ifc,  ev_asg, ev_aug, ev_setIx, ev_augIx, ev_ex, ev_ret, ev_retN, ev_if, ev_for2, ev_brk, ev_cont, ev_pass, ev_snil, ev_scons, then_nx, then_rt, then_bk, then_ct, end_rt, end_nx, optR_some, finish_self, asg_nm, asg_tp, asg_nil, asg_cons,  truth_bl, truth_int, Res.bind_ok, safe_ok, List.getElem?_cons_zero, List.getElem?_cons_succ, List.set_cons_zero, List.set_cons_succ, List.length_cons, List.length_nil, Option.map_some, Option.bind_some, Option.bind_eq_bind, wipeE, if_true, if_false, Bool.false_eq_true, ite_true, ite_false, reduceIte, reduceCtorEq]
        · have : ¬ ((R.B k d : Nat) : Int) ≤ (u : Nat) := by omega
          simp only [this, hb, decide_false, ev_var, ev_int, ev_bl, ev_non, ev_str, ev_tup, ev_lst, ev_dnew, ev_disp, ev_bin, ev_neg, ev_cmp, ev_chain, ev_and, ev_or, ev_not, ev_ite, ev_ix, ev_sl, ev_rev, ev_call, ev_bi, ev_mt, ev_comp2, ev_nil, ev_cons, ev_ifn, ev_ifc,  ev_asg, ev_aug, ev_setIx, ev_augIx, ev_ex, ev_ret, ev_retN, ev_if, ev_for2, ev_brk, ev_cont, ev_pass, ev_snil, ev_scons, then_nx, then_rt, then_bk, then_ct, end_rt, end_nx, optR_some, finish_self, asg_nm, asg_tp, asg_nil, asg_cons,  truth_bl, truth_int, Res.bind_ok, safe_ok, List.getElem?_cons_zero, List.getElem?_cons_succ, List.set_cons_zero, List.set_cons_succ, List.length_cons, List.length_nil, Option.map_some, Option.bind_some, Option.bind_eq_bind, wipeE, if_true, if_false, Bool.false_eq_true, ite_true, ite_false, reduceIte, reduceCtorEq], fun _ => by simp only [ev_var, ev_int, ev_bl, ev_non, ev_str, ev_tup, ev_lst, ev_dnew, ev_disp, ev_bin, ev_neg, ev_cmp, ev_chain, ev_and, ev_or, ev_not, ev_ite, ev_ix, ev_sl, ev_rev, ev_call, ev_bi, ev_mt, ev_comp2, ev_nil, ev_cons, ev_ifn, ev_ifc,  ev_asg, ev_aug, ev_setIx, ev_augIx, ev_ex, ev_ret, ev_retN, ev_if, ev_for2, ev_brk, ev_cont, ev_pass, ev_snil, ev_scons, then_nx, then_rt, then_bk, then_ct, end_rt, end_nx, optR_some, finish_self, asg_nm, asg_tp, asg_nil, asg_cons,  truth_bl, truth_int, Res.bind_ok, safe_ok, List.getElem?_cons_zero, List.getElem?_cons_succ, List.set_cons_zero, List.set_cons_succ, List.length_cons, List.length_nil, Option.map_some, Option.bind_some, Option.bind_eq_bind, wipeE, if_true, if_false, Bool.false_eq_true, ite_true, ite_false, reduceIte, reduceCtorEq, c2]⟩]
      rw [deed_list]
      exact newL_f _ _ (by rw [prD, List.length_map]; have := deed_few R m u d; exact few (by omega))
    have hs : (prD (l1.flatMap (deedOf R m u))).length + (prD (deedOf R m u d)).length ≤ sizeLine := by
      have h1 := deeds_few R m u l1
      have h2 := deed_few R m u d
      have h3 : l1.length * m ≤ 20 * 1000 := Nat.mul_le_mul hl1 hm
      simp only [prD, List.length_map, sizeLine_eq]; omega
    refine ⟨_, by simp only [envG, asg_tp, asg_cons, asg_nm, asg_nil, Option.bind_some, Option.bind_eq_bind]; rfl, ?_⟩
    simp only [List.set_cons_zero, List.set_cons_succ]
    simp only [envG] at hc ⊢
    rw [gatB, ev_scons, ev_asg, ev_bin]
    simp only [ev_var, ev_int, ev_bl, ev_non, ev_str, ev_tup, ev_lst, ev_dnew, ev_disp, ev_bin, ev_neg, ev_cmp, ev_chain, ev_and, ev_or, ev_not, ev_ite, ev_ix, ev_sl, ev_rev, ev_call, ev_bi, ev_mt, ev_nil, ev_cons, ev_ifn, ev_ifc,  ev_asg, ev_aug, ev_setIx, ev_augIx, ev_ex, ev_ret, ev_retN, ev_if, ev_for2, ev_brk, ev_cont, ev_pass, ev_snil, ev_scons, then_nx, then_rt, then_bk, then_ct, end_rt, end_nx, optR_some, finish_self, asg_nm, asg_tp, asg_nil, asg_cons,  truth_bl, truth_int, Res.bind_ok, safe_ok, List.getElem?_cons_zero, List.getElem?_cons_succ, List.set_cons_zero, List.set_cons_succ, List.length_cons, List.length_nil, Option.map_some, Option.bind_some, Option.bind_eq_bind, wipeE, if_true, if_false, Bool.false_eq_true, ite_true, ite_false, reduceIte, reduceCtorEq, hc, b_lst _ _ _ hs, ← prD_app, okP_ok]
    refine ⟨some (.int (d : Nat)), some (.loc (b.length + d)), ?_, trivial⟩
    rw [List.flatMap_append]
    simp
  · obtain ⟨y7, y15, rfl, rfl⟩ := hI
    exact ⟨y7, y15, rfl, rfl⟩
end Wk92

set_option maxRecDepth 100000
set_option maxHeartbeats 2000000
set_option linter.all false
namespace Wk92
open PySem WT Wring
def triI (z : Nat × Nat × Nat) : List Int := [(z.1 : Int), (z.2.1 : Int), (z.2.2 : Int)]
def pr3 (z : Nat × Nat × Nat) : Nat × Nat := (z.1, z.2.2)
def lateE : E := .comp false (.tup [(.var 18), (.call "_law_pick" [(.var 1), (.int 99)]), (.var 7)]) (.tp [(.nm 18), (.nm 7)]) .val [(.var 4)] [] [18, 7]
theorem c3' : 0 + 1 + 1 + 1 ≤ sizeLine := few (by decide)
theorem late_ok (kk : Nat) {t : Store} (ht : Source t) (l : List (Nat × Nat)) (hl : l.length ≤ sizeLine) (x0 x2 x3 x5 x6 x7 x8 x9 x10 x11 x12 x13 x14 x15 x16 x17 x18 x19 x20 x21 : Option D) :
    ∃ (zs : List (Nat × Nat × Nat)) (t' : Store), den (phi Pr (kk + 1)) lateE [x0, some (.loc 1), x2, x3, some (.lst (prD l)), x5, x6, x7, x8, x9, x10, x11, x12, x13, x14, x15, x16, x17, x18, x19, x20, x21] t = .ok (.lst (zs.map (tupI triI))) t' ∧ On t [] t' ∧ zs.map pr3 = l := by
  have C : OkP (cM (fun y : Nat × Nat => stepC (den (phi Pr (kk + 1)) (.tup [(.var 18), (.call "_law_pick" [(.var 1), (.int 99)]), (.var 7)])) (denIf (phi Pr (kk + 1)) []) (.tp [(.nm 18), (.nm 7)]) [x0, some (.loc 1), x2, x3, some (.lst (prD l)), x5, x6, none, x8, x9, x10, x11, x12, x13, x14, x15, x16, x17, none, x19, x20, x21] (tupI prI y)) l t) fun xs t' => ∃ zs : List (Nat × Nat × Nat), xs = zs.map (tupI triI) ∧ On t [] t' ∧ zs.map pr3 = l := by
    refine cM_inv (fun l1 acc t' => ∃ zs : List (Nat × Nat × Nat), acc = zs.map (tupI triI) ∧ On t [] t' ∧ zs.map pr3 = l1) ⟨[], rfl, On.refl ht, rfl⟩ (fun l1 y l2 acc t' hx hI => ?_) fun acc t' hI => hI
    obtain ⟨zs, rfl, o, hz⟩ := hI
    obtain ⟨r, t1, e1, hr, o1⟩ := o.pickN W kk 99 (by decide) (by decide)
    have e1' : phi Pr (kk + 1) "_law_pick" [.loc 1, .int 99] t' = .ok (.int (r : Nat)) t1 := e1
    simp only [stepC_eq, tupI, prI, intL, List.map_cons, List.map_nil, ev_var, ev_int, ev_bl, ev_non, ev_str, ev_tup, ev_lst, ev_dnew, ev_disp, ev_bin, ev_neg, ev_cmp, ev_chain, ev_and, ev_or, ev_not, ev_ite, ev_ix, ev_sl, ev_rev, ev_call, ev_bi, ev_mt, ev_comp2, ev_nil, ev_cons, ev_ifn, ev_ifc,  ev_asg, ev_aug, ev_setIx, ev_augIx, ev_ex, ev_ret, ev_retN, ev_if, ev_for2, ev_brk, ev_cont, ev_pass, ev_snil, ev_scons, then_nx, then_rt, then_bk, then_ct, end_rt, end_nx, optR_some, finish_self, asg_nm, asg_tp, asg_nil, asg_cons,  truth_bl, truth_int, Res.bind_ok, safe_ok, List.getElem?_cons_zero, List.getElem?_cons_succ, List.set_cons_zero, List.set_cons_succ, List.length_cons, List.length_nil, Option.map_some, Option.bind_some, Option.bind_eq_bind, wipeE, if_true, if_false, Bool.false_eq_true, ite_true, ite_false, reduceIte, reduceCtorEq, e1', c3', okP_ok]
    exact ⟨zs ++ [(y.1, r, y.2)], by rw [List.map_append]; rfl, o1, by rw [List.map_append, hz]; rfl⟩
  obtain ⟨xs, t', e, zs, rfl, o, hz⟩ := OkP.ex C
  refine ⟨zs, t', ?_, o, hz⟩
  have hzl : (zs.map (tupI triI)).length ≤ sizeLine := by
    have := congrArg List.length hz
    rw [List.length_map] at this ⊢; omega
  rw [← cM_map (stepC (den (phi Pr (kk + 1)) (.tup [(.var 18), (.call "_law_pick" [(.var 1), (.int 99)]), (.var 7)])) (denIf (phi Pr (kk + 1)) []) (.tp [(.nm 18), (.nm 7)]) [x0, some (.loc 1), x2, x3, some (.lst (prD l)), x5, x6, none, x8, x9, x10, x11, x12, x13, x14, x15, x16, x17, none, x19, x20, x21]) (tupI prI)] at e
  have e' : cM (stepC (den (phi Pr (kk + 1)) (.tup [(.var 18), (.call "_law_pick" [(.var 1), (.int 99)]), (.var 7)])) (denIf (phi Pr (kk + 1)) []) (.tp [(.nm 18), (.nm 7)]) [x0, some (.loc 1), x2, x3, some (.lst (prD l)), x5, x6, none, x8, x9, x10, x11, x12, x13, x14, x15, x16, x17, none, x19, x20, x21]) (prD l) t = .ok (zs.map (tupI triI)) t' := e
  simp only [lateE, ev_var, ev_int, ev_bl, ev_non, ev_str, ev_tup, ev_lst, ev_dnew, ev_disp, ev_bin, ev_neg, ev_cmp, ev_chain, ev_and, ev_or, ev_not, ev_ite, ev_ix, ev_sl, ev_rev, ev_call, ev_bi, ev_mt, ev_comp2, ev_nil, ev_cons, ev_ifn, ev_ifc,  ev_asg, ev_aug, ev_setIx, ev_augIx, ev_ex, ev_ret, ev_retN, ev_if, ev_for2, ev_brk, ev_cont, ev_pass, ev_snil, ev_scons, then_nx, then_rt, then_bk, then_ct, end_rt, end_nx, optR_some, finish_self, asg_nm, asg_tp, asg_nil, asg_cons,  truth_bl, truth_int, Res.bind_ok, safe_ok, List.getElem?_cons_zero, List.getElem?_cons_succ, List.set_cons_zero, List.set_cons_succ, List.length_cons, List.length_nil, Option.map_some, Option.bind_some, Option.bind_eq_bind, wipeE, if_true, if_false, Bool.false_eq_true, ite_true, ite_false, reduceIte, reduceCtorEq, compK_lst, e', newL_f, hzl]
theorem lex_time (a b : Nat × Nat) (h : lexLe (prI a) (prI b) = true) : a.1 ≤ b.1 := by
  simp only [prI, lexLe, Bool.or_eq_true, Bool.and_eq_true, decide_eq_true_eq] at h
  rcases h with h | ⟨h, _⟩ <;> omega
theorem lex_time3 (a b : Nat × Nat × Nat) (h : lexLe (triI a) (triI b) = true) : a.1 ≤ b.1 := by
  simp only [triI, lexLe, Bool.or_eq_true, Bool.and_eq_true, decide_eq_true_eq] at h
  rcases h with h | ⟨h, _⟩ <;> omega
theorem due_run {R : RN} (hR : R.Ok) {m u : Nat} (h : Past R m u) : RunOk R (due R m u) := by
  unfold due
  exact run_of hR h _ (srt_perm prI _) ((srt_sorted prI _).imp fun h => lex_time _ _ h)
theorem late_run {R : RN} (hR : R.Ok) {m u : Nat} (h : Past R m u) {zs : List (Nat × Nat × Nat)} (hz : zs.map pr3 = byDeed R m u) : RunOk R ((srt triI zs).map fun z => z.2.2) := by
  have := run_of hR h ((srt triI zs).map pr3) (by rw [← hz]; exact (srt_perm triI zs).map _) (List.pairwise_map.mpr ((srt_sorted triI zs).imp fun h => lex_time3 _ _ h))
  rwa [List.map_map] at this
/-! the plan, deed by deed -/
def dB1 : S := .ite (.cmp .NotEq (.comp false (.var 19) (.nm 19) .rng [(.int 9)] [(.cmp .Lt (.ix (.ix (.var 16) (.var 7)) (.var 19)) (.ix (.ix (.var 17) (.var 7)) (.var 19)))] [19]) (.lst false [])) [.ret (.bl false)] []
def dB2 : S := .ite (.cmp .Gt (.bi false .len [(.comp false (.var 18) (.nm 18) .val [(.ix (.var 16) (.var 7))] [(.cmp .LtE (.var 18) (.var 12))] [18])]) (.bi false .len [(.comp false (.var 21) (.nm 21) .val [(.var 5)] [(.cmp .Eq (.var 21) (.var 7))] [21])])) [.ret (.bl false)] []
abbrev envP (x0 x1 x2 x3 x4 x6 x7 x8 x9 x10 x11 x13 x14 x15 x18 x19 x20 x21 : Option D) (du pn tl : D) (u : Nat) : WT.Env :=
  [x0, x1, x2, x3, x4, some du, x6, x7, x8, x9, x10, x11, some (.int (u : Nat)), x13, x14, x15, some pn, some tl, x18, x19, x20, x21]
theorem rowsOf_at (R : RN) (k : Nat) {d : Nat} (hd : d < R.n) (st : Store) : ixD (rowsOf R k) (.int (d : Nat)) st = .ok (.tup (nats (colX R.B k d))) st := by
  unfold rowsOf
  rw [x_tup, List.getElem?_map, List.getElem?_range hd]; rfl
theorem count_due {R : RN} {m u d : Nat} (hd : d < R.n) : ((due R m u).filter fun x => decide (x = d)).length = (List.range m).countP fun k => decide (R.B k d ≤ u) := by
  rw [← List.countP_eq_length_filter]
  unfold due
  rw [List.countP_map]
  have g := count_of (R := R) m u d hd fun _ => true
  simp only [Bool.and_true] at g
  rw [← g, ← (srt_perm prI (byDeed R m u)).countP_eq]
  rfl
theorem count_sub (a b : Nat) (p : Nat → Bool) (h : ∀ k, k < a → p k = true → k < b) : (List.range a).countP p ≤ (List.range b).countP p := by
  rw [List.countP_eq_length_filter, List.countP_eq_length_filter]
  refine nodup_sub (List.nodup_range.filter _) fun k hk => ?_
  obtain ⟨h1, h2⟩ := List.mem_filter.mp hk
  exact List.mem_filter.mpr ⟨List.mem_range.mpr (h k (List.mem_range.mp h1) h2), h2⟩
theorem plan_few {R : RN} (hR : R.Ok) {m u d : Nat} (hd : d < R.n) (hp : Past R m u) {X : Nat → Nat → Nat} (hX : LowX R X 9) : ((List.range 9).filter fun k => decide (X k d ≤ u)).length ≤ ((due R m u).filter fun x => decide (x = d)).length := by
  rw [count_due hd, ← List.countP_eq_length_filter]
  have h1 : (List.range 9).countP (fun k => decide (X k d ≤ u)) ≤ (List.range 9).countP fun k => decide (R.B k d ≤ u) := by
    refine List.countP_mono_left fun k hk h => ?_
    have := hX k (List.mem_range.mp hk) d hd
    simp only [decide_eq_true_eq] at h ⊢; omega
  refine Nat.le_trans h1 (count_sub _ _ _ fun k _ h => ?_)
  simp only [decide_eq_true_eq] at h
  rcases Nat.lt_or_ge k m with q | q
  · exact q
  · have := hp d hd
    have := B_mono_le hR hd (show m - 1 ≤ k by omega)
    omega
theorem filter_nil {l : List Nat} {p : Nat → Bool} (h : ∀ x, x ∈ l → p x = false) : l.filter p = [] := by
  rw [List.filter_eq_nil_iff]; intro x hx; rw [h x hx]; simp
theorem deed_ok {R : RN} (hR : R.Ok) (F : WT.Fun) {m u d : Nat} (hd : d < R.n) (hp : Past R m u) {X : Nat → Nat → Nat} (hX : LowX R X 9) {b s G : Store} (hb : s.length = b.length) (hdl : (due R m u).length ≤ sizeLine) (x0 x1 x2 x3 x4 x6 x8 x9 x10 x11 x13 x14 x15 x18 x19 x20 x21 : Option D) :
    denSs F [dB1, dB2] (envP x0 x1 x2 x3 x4 x6 (some (.int (d : Nat))) x8 x9 x10 x11 x13 x14 x15 x18 x19 x20 x21 (.tup (nats (due R m u))) (.lst (locs b.length R.n)) (rowsOf R 9) u) (LX R X s 9 G) = .ok (.nx, envP x0 x1 x2 x3 x4 x6 (some (.int (d : Nat))) x8 x9 x10 x11 x13 x14 x15 x18 x19 x20 x21 (.tup (nats (due R m u))) (.lst (locs b.length R.n)) (rowsOf R 9) u) (LX R X s 9 G) := by
  have g := LX_col R X s 9 G [] hd
  rw [List.append_nil, hb] at g
  have xt : ∀ k, k < 9 → ixD (.tup (nats (colX R.B 9 d))) (.int (k : Nat)) (LX R X s 9 G) = .ok (.int (R.B k d : Nat)) (LX R X s 9 G) := fun k hk => by rw [x_tup, colX_at _ _ _ _ hk]; rfl
  have c1 := ev_crngf (F := F) (elt := .var 19) (t := .cmp .Lt (.ix (.ix (.var 16) (.var 7)) (.var 19)) (.ix (.ix (.var 17) (.var 7)) (.var 19))) (i := 19) (e := .int 9) (own := [19]) (r := envP x0 x1 x2 x3 x4 x6 (some (.int (d : Nat))) x8 x9 x10 x11 x13 x14 x15 x18 x19 x20 x21 (.tup (nats (due R m u))) (.lst (locs b.length R.n)) (rowsOf R 9) u) (st := LX R X s 9 G) 9 (fun _ => false) (fun k => .int (k : Nat)) (by simp only [ev_var, ev_int, ev_bl, ev_non, ev_str, ev_tup, ev_lst, ev_dnew, ev_disp, ev_bin, ev_neg, ev_cmp, ev_chain, ev_and, ev_or, ev_not, ev_ite, ev_ix, ev_sl, ev_rev, ev_call, ev_bi, ev_mt, ev_comp2, ev_nil, ev_cons, ev_ifn, ev_ifc,  ev_asg, ev_aug, ev_setIx, ev_augIx, ev_ex, ev_ret, ev_retN, ev_if, ev_for2, ev_brk, ev_cont, ev_pass, ev_snil, ev_scons, then_nx, then_rt, then_bk, then_ct, end_rt, end_nx, optR_some, finish_self, asg_nm, asg_tp, asg_nil, asg_cons,  truth_bl, truth_int, Res.bind_ok, safe_ok, List.getElem?_cons_zero, List.getElem?_cons_succ, List.set_cons_zero, List.set_cons_succ, List.length_cons, List.length_nil, Option.map_some, Option.bind_some, Option.bind_eq_bind, wipeE, if_true, if_false, Bool.false_eq_true, ite_true, ite_false, reduceIte, reduceCtorEq]; rfl) (few (by decide)) fun k hk => by
    have hlow := hX k hk d hd
    have : ¬ ((X k d : Nat) : Int) < ((R.B k d : Nat) : Int) := by omega
    simp only [envP, ev_var, ev_int, ev_bl, ev_non, ev_str, ev_tup, ev_lst, ev_dnew, ev_disp, ev_bin, ev_neg, ev_cmp, ev_chain, ev_and, ev_or, ev_not, ev_ite, ev_ix, ev_sl, ev_rev, ev_call, ev_bi, ev_mt, ev_comp2, ev_nil, ev_cons, ev_ifn, ev_ifc,  ev_asg, ev_aug, ev_setIx, ev_augIx, ev_ex, ev_ret, ev_retN, ev_if, ev_for2, ev_brk, ev_cont, ev_pass, ev_snil, ev_scons, then_nx, then_rt, then_bk, then_ct, end_rt, end_nx, optR_some, finish_self, asg_nm, asg_tp, asg_nil, asg_cons,  truth_bl, truth_int, Res.bind_ok, safe_ok, List.getElem?_cons_zero, List.getElem?_cons_succ, List.set_cons_zero, List.set_cons_succ, List.length_cons, List.length_nil, Option.map_some, Option.bind_some, Option.bind_eq_bind, wipeE, if_true, if_false, Bool.false_eq_true, ite_true, ite_false, reduceIte, reduceCtorEq, b_add, b_sub, b_eq, b_ne, b_lt, b_le, b_gt, b_ge, u_abs, u_int, u_intb, u_tuple_l, u_tuple_t, u_len_l, u_len_t, eq_self, decide_true, decide_false, x_lst, locs_at _ _ _ hd, x_at g, colX_at X 9 d k hk, rowsOf_at R 9 hd, xt k hk, this, decide_false]
    exact ⟨trivial, fun z => by cases z⟩
  rw [filter_nil (fun _ _ => rfl), List.map_nil] at c1
  have c0 : 0 ≤ sizeLine := few (by decide)
  have s1 : denS F dB1 (envP x0 x1 x2 x3 x4 x6 (some (.int (d : Nat))) x8 x9 x10 x11 x13 x14 x15 x18 x19 x20 x21 (.tup (nats (due R m u))) (.lst (locs b.length R.n)) (rowsOf R 9) u) (LX R X s 9 G) = .ok (.nx, envP x0 x1 x2 x3 x4 x6 (some (.int (d : Nat))) x8 x9 x10 x11 x13 x14 x15 x18 x19 x20 x21 (.tup (nats (due R m u))) (.lst (locs b.length R.n)) (rowsOf R 9) u) (LX R X s 9 G) := by
    rw [dB1, ev_if, ev_cmp, c1]
    simp only [ev_var, ev_int, ev_bl, ev_non, ev_str, ev_tup, ev_lst, ev_dnew, ev_disp, ev_bin, ev_neg, ev_cmp, ev_chain, ev_and, ev_or, ev_not, ev_ite, ev_ix, ev_sl, ev_rev, ev_call, ev_bi, ev_mt, ev_comp2, ev_nil, ev_cons, ev_ifn, ev_ifc,  ev_asg, ev_aug, ev_setIx, ev_augIx, ev_ex, ev_ret, ev_retN, ev_if, ev_for2, ev_brk, ev_cont, ev_pass, ev_snil, ev_scons, then_nx, then_rt, then_bk, then_ct, end_rt, end_nx, optR_some, finish_self, asg_nm, asg_tp, asg_nil, asg_cons,  truth_bl, truth_int, Res.bind_ok, safe_ok, List.getElem?_cons_zero, List.getElem?_cons_succ, List.set_cons_zero, List.set_cons_succ, List.length_cons, List.length_nil, Option.map_some, Option.bind_some, Option.bind_eq_bind, wipeE, if_true, if_false, Bool.false_eq_true, ite_true, ite_false, reduceIte, reduceCtorEq, newL_f, c0, eq_nil2 (xs := []) (by rfl) (by rfl), decide_true, Bool.not_true]
  have g' : (LX R X s 9 G)[b.length + d]? = some (.lst ((List.range 9).map fun j => .int (X j d : Nat))) := by rw [g]; simp [nats, colX]
  have a2 : den F (.comp false (.var 18) (.nm 18) .val [(.ix (.var 16) (.var 7))] [(.cmp .LtE (.var 18) (.var 12))] [18]) (envP x0 x1 x2 x3 x4 x6 (some (.int (d : Nat))) x8 x9 x10 x11 x13 x14 x15 x18 x19 x20 x21 (.tup (nats (due R m u))) (.lst (locs b.length R.n)) (rowsOf R 9) u) (LX R X s 9 G) = .ok (.lst (((List.range 9).filter fun k => decide (X k d ≤ u)).map fun k => .int (X k d : Nat))) (LX R X s 9 G) := by
    simp only [envP, ev_var, ev_int, ev_bl, ev_non, ev_str, ev_tup, ev_lst, ev_dnew, ev_disp, ev_bin, ev_neg, ev_cmp, ev_chain, ev_and, ev_or, ev_not, ev_ite, ev_ix, ev_sl, ev_rev, ev_call, ev_bi, ev_mt, ev_comp2, ev_nil, ev_cons, ev_ifn, ev_ifc,  ev_asg, ev_aug, ev_setIx, ev_augIx, ev_ex, ev_ret, ev_retN, ev_if, ev_for2, ev_brk, ev_cont, ev_pass, ev_snil, ev_scons, then_nx, then_rt, then_bk, then_ct, end_rt, end_nx, optR_some, finish_self, asg_nm, asg_tp, asg_nil, asg_cons,  truth_bl, truth_int, Res.bind_ok, safe_ok, List.getElem?_cons_zero, List.getElem?_cons_succ, List.set_cons_zero, List.set_cons_succ, List.length_cons, List.length_nil, Option.map_some, Option.bind_some, Option.bind_eq_bind, wipeE, if_true, if_false, Bool.false_eq_true, ite_true, ite_false, reduceIte, reduceCtorEq, x_lst, locs_at _ _ _ hd]
    rw [compK_at (List.range 9) (fun j => D.int (X j d : Nat)) (fun k => decide (X k d ≤ u)) (fun k => .int (X k d : Nat)) g' fun k _ => ⟨_, asg_nm _ _ _, by
      simp only [ev_var, ev_int, ev_bl, ev_non, ev_str, ev_tup, ev_lst, ev_dnew, ev_disp, ev_bin, ev_neg, ev_cmp, ev_chain, ev_and, ev_or, ev_not, ev_ite, ev_ix, ev_sl, ev_rev, ev_call, ev_bi, ev_mt, ev_comp2, ev_nil, ev_cons, ev_ifn, ev_ifc,  ev_asg, ev_aug, ev_setIx, ev_augIx, ev_ex, ev_ret, ev_retN, ev_if, ev_for2, ev_brk, ev_cont, ev_pass, ev_snil, ev_scons, then_nx, then_rt, then_bk, then_ct, end_rt, end_nx, optR_some, finish_self, asg_nm, asg_tp, asg_nil, asg_cons,  truth_bl, truth_int, Res.bind_ok, safe_ok, List.getElem?_cons_zero, List.getElem?_cons_succ, List.set_cons_zero, List.set_cons_succ, List.length_cons, List.length_nil, Option.map_some, Option.bind_some, Option.bind_eq_bind, wipeE, if_true, if_false, Bool.false_eq_true, ite_true, ite_false, reduceIte, reduceCtorEq, b_add, b_sub, b_eq, b_ne, b_lt, b_le, b_gt, b_ge, u_abs, u_int, u_intb, u_tuple_l, u_tuple_t, u_len_l, u_len_t, eq_self, decide_true, decide_false]
      by_cases hb : X k d ≤ u
      · have : ((X k d : Nat) : Int) ≤ (u : Nat) := by omega
        simp only [this, hb, decide_true, ev_var, ev_int, ev_bl, ev_non, ev_str, ev_tup, ev_lst, ev_dnew, ev_disp, ev_bin, ev_neg, ev_cmp, ev_chain, ev_and, ev_or, ev_not, ev_ite, ev_ix, ev_sl, ev_rev, ev_call, ev_bi, ev_mt, ev_comp2, ev_nil, ev_cons, ev_ifn, ev_ifc,  ev_asg, ev_aug, ev_setIx, ev_augIx, ev_ex, ev_ret, ev_retN, ev_if, ev_for2, ev_brk, ev_cont, ev_pass, ev_snil, ev_scons, then_nx, then_rt, then_bk, then_ct, end_rt, end_nx, optR_some, finish_self, asg_nm, asg_tp, asg_nil, asg_cons,  truth_bl, truth_int, Res.bind_ok, safe_ok, List.getElem?_cons_zero, List.getElem?_cons_succ, List.set_cons_zero, List.set_cons_succ, List.length_cons, List.length_nil, Option.map_some, Option.bind_some, Option.bind_eq_bind, wipeE, if_true, if_false, Bool.false_eq_true, ite_true, ite_false, reduceIte, reduceCtorEq]
      · have : ¬ ((X k d : Nat) : Int) ≤ (u : Nat) := by omega
        simp only [this, hb, decide_false, ev_var, ev_int, ev_bl, ev_non, ev_str, ev_tup, ev_lst, ev_dnew, ev_disp, ev_bin, ev_neg, ev_cmp, ev_chain, ev_and, ev_or, ev_not, ev_ite, ev_ix, ev_sl, ev_rev, ev_call, ev_bi, ev_mt, ev_comp2, ev_nil, ev_cons, ev_ifn, ev_ifc,  ev_asg, ev_aug, ev_setIx, ev_augIx, ev_ex, ev_ret, ev_retN, ev_if, ev_for2, ev_brk, ev_cont, ev_pass, ev_snil, ev_scons, then_nx, then_rt, then_bk, then_ct, end_rt, end_nx, optR_some, finish_self, asg_nm, asg_tp, asg_nil, asg_cons,  truth_bl, truth_int, Res.bind_ok, safe_ok, List.getElem?_cons_zero, List.getElem?_cons_succ, List.set_cons_zero, List.set_cons_succ, List.length_cons, List.length_nil, Option.map_some, Option.bind_some, Option.bind_eq_bind, wipeE, if_true, if_false, Bool.false_eq_true, ite_true, ite_false, reduceIte, reduceCtorEq], fun _ => by simp only [ev_var, ev_int, ev_bl, ev_non, ev_str, ev_tup, ev_lst, ev_dnew, ev_disp, ev_bin, ev_neg, ev_cmp, ev_chain, ev_and, ev_or, ev_not, ev_ite, ev_ix, ev_sl, ev_rev, ev_call, ev_bi, ev_mt, ev_comp2, ev_nil, ev_cons, ev_ifn, ev_ifc,  ev_asg, ev_aug, ev_setIx, ev_augIx, ev_ex, ev_ret, ev_retN, ev_if, ev_for2, ev_brk, ev_cont, ev_pass, ev_snil, ev_scons, then_nx, then_rt, then_bk, then_ct, end_rt, end_nx, optR_some, finish_self, asg_nm, asg_tp, asg_nil, asg_cons,  truth_bl, truth_int, Res.bind_ok, safe_ok, List.getElem?_cons_zero, List.getElem?_cons_succ, List.set_cons_zero, List.set_cons_succ, List.length_cons, List.length_nil, Option.map_some, Option.bind_some, Option.bind_eq_bind, wipeE, if_true, if_false, Bool.false_eq_true, ite_true, ite_false, reduceIte, reduceCtorEq]⟩]
    refine newL_f _ _ ?_
    rw [List.length_map]
    have := List.length_filter_le (fun k => decide (X k d ≤ u)) (List.range 9)
    rw [List.length_range] at this
    exact few (by omega)
  have a3 := ev_cvalf (F := F) (elt := .var 21) (t := .cmp .Eq (.var 21) (.var 7)) (i := 21) (e := .var 5) (own := [21]) (r := envP x0 x1 x2 x3 x4 x6 (some (.int (d : Nat))) x8 x9 x10 x11 x13 x14 x15 x18 x19 x20 x21 (.tup (nats (due R m u))) (.lst (locs b.length R.n)) (rowsOf R 9) u) (st := LX R X s 9 G) (.tup (nats (due R m u))) (due R m u) (fun i => .int (i : Nat)) (fun x => decide (x = d)) (fun i => .int (i : Nat)) (by simp only [envP, ev_var, ev_int, ev_bl, ev_non, ev_str, ev_tup, ev_lst, ev_dnew, ev_disp, ev_bin, ev_neg, ev_cmp, ev_chain, ev_and, ev_or, ev_not, ev_ite, ev_ix, ev_sl, ev_rev, ev_call, ev_bi, ev_mt, ev_comp2, ev_nil, ev_cons, ev_ifn, ev_ifc,  ev_asg, ev_aug, ev_setIx, ev_augIx, ev_ex, ev_ret, ev_retN, ev_if, ev_for2, ev_brk, ev_cont, ev_pass, ev_snil, ev_scons, then_nx, then_rt, then_bk, then_ct, end_rt, end_nx, optR_some, finish_self, asg_nm, asg_tp, asg_nil, asg_cons,  truth_bl, truth_int, Res.bind_ok, safe_ok, List.getElem?_cons_zero, List.getElem?_cons_succ, List.set_cons_zero, List.set_cons_succ, List.length_cons, List.length_nil, Option.map_some, Option.bind_some, Option.bind_eq_bind, wipeE, if_true, if_false, Bool.false_eq_true, ite_true, ite_false, reduceIte, reduceCtorEq]) rfl hdl fun x _ => by
    have : decide (((x : Nat) : Int) = (d : Int)) = decide (x = d) := by rw [decide_eq_decide]; omega
    simp only [envP, ev_var, ev_int, ev_bl, ev_non, ev_str, ev_tup, ev_lst, ev_dnew, ev_disp, ev_bin, ev_neg, ev_cmp, ev_chain, ev_and, ev_or, ev_not, ev_ite, ev_ix, ev_sl, ev_rev, ev_call, ev_bi, ev_mt, ev_comp2, ev_nil, ev_cons, ev_ifn, ev_ifc,  ev_asg, ev_aug, ev_setIx, ev_augIx, ev_ex, ev_ret, ev_retN, ev_if, ev_for2, ev_brk, ev_cont, ev_pass, ev_snil, ev_scons, then_nx, then_rt, then_bk, then_ct, end_rt, end_nx, optR_some, finish_self, asg_nm, asg_tp, asg_nil, asg_cons,  truth_bl, truth_int, Res.bind_ok, safe_ok, List.getElem?_cons_zero, List.getElem?_cons_succ, List.set_cons_zero, List.set_cons_succ, List.length_cons, List.length_nil, Option.map_some, Option.bind_some, Option.bind_eq_bind, wipeE, if_true, if_false, Bool.false_eq_true, ite_true, ite_false, reduceIte, reduceCtorEq, b_add, b_sub, b_eq, b_ne, b_lt, b_le, b_gt, b_ge, u_abs, u_int, u_intb, u_tuple_l, u_tuple_t, u_len_l, u_len_t, eq_self, decide_true, decide_false, this]
    exact ⟨trivial, fun _ => trivial⟩
  have hle := plan_few hR hd hp hX
  have s2 : denS F dB2 (envP x0 x1 x2 x3 x4 x6 (some (.int (d : Nat))) x8 x9 x10 x11 x13 x14 x15 x18 x19 x20 x21 (.tup (nats (due R m u))) (.lst (locs b.length R.n)) (rowsOf R 9) u) (LX R X s 9 G) = .ok (.nx, envP x0 x1 x2 x3 x4 x6 (some (.int (d : Nat))) x8 x9 x10 x11 x13 x14 x15 x18 x19 x20 x21 (.tup (nats (due R m u))) (.lst (locs b.length R.n)) (rowsOf R 9) u) (LX R X s 9 G) := by
    have hn : ¬ ((((due R m u).filter fun x => decide (x = d)).length : Nat) : Int) < ((((List.range 9).filter fun k => decide (X k d ≤ u)).length : Nat) : Int) := by omega
    rw [dB2, ev_if, ev_cmp, ev_bi, ev_cons, a2]
    simp only [ev_var, ev_int, ev_bl, ev_non, ev_str, ev_tup, ev_lst, ev_dnew, ev_disp, ev_bin, ev_neg, ev_cmp, ev_chain, ev_and, ev_or, ev_not, ev_ite, ev_ix, ev_sl, ev_rev, ev_call, ev_bi, ev_mt, ev_nil, ev_cons, ev_ifn, ev_ifc,  ev_asg, ev_aug, ev_setIx, ev_augIx, ev_ex, ev_ret, ev_retN, ev_if, ev_for2, ev_brk, ev_cont, ev_pass, ev_snil, ev_scons, then_nx, then_rt, then_bk, then_ct, end_rt, end_nx, optR_some, finish_self, asg_nm, asg_tp, asg_nil, asg_cons,  truth_bl, truth_int, Res.bind_ok, safe_ok, List.getElem?_cons_zero, List.getElem?_cons_succ, List.set_cons_zero, List.set_cons_succ, List.length_cons, List.length_nil, Option.map_some, Option.bind_some, Option.bind_eq_bind, wipeE, if_true, if_false, Bool.false_eq_true, ite_true, ite_false, reduceIte, reduceCtorEq, a3, b_add, b_sub, b_eq, b_ne, b_lt, b_le, b_gt, b_ge, u_abs, u_int, u_intb, u_tuple_l, u_tuple_t, u_len_l, u_len_t, eq_self, decide_true, decide_false, List.length_map, hn, decide_false]
  rw [ev_scons, s1, Res.bind_ok, then_nx, ev_scons, s2, Res.bind_ok, then_nx, ev_snil]
theorem deeds_ok {R : RN} (hR : R.Ok) (F : WT.Fun) {m u : Nat} (hp : Past R m u) {X : Nat → Nat → Nat} (hX : LowX R X 9) {b s G : Store} (hb : s.length = b.length) (hdl : (due R m u).length ≤ sizeLine) (x0 x1 x2 x3 x4 x6 x7 x8 x9 x10 x11 x13 x14 x15 x18 x19 x20 x21 : Option D) :
    OkP (loopF (.nm 7) (denSs F [dB1, dB2]) ((List.range R.n).map fun i => D.int (i : Nat)) (envP x0 x1 x2 x3 x4 x6 x7 x8 x9 x10 x11 x13 x14 x15 x18 x19 x20 x21 (.tup (nats (due R m u))) (.lst (locs b.length R.n)) (rowsOf R 9) u) (LX R X s 9 G)) fun fr t => ∃ y7, fr = (.nx, envP x0 x1 x2 x3 x4 x6 y7 x8 x9 x10 x11 x13 x14 x15 x18 x19 x20 x21 (.tup (nats (due R m u))) (.lst (locs b.length R.n)) (rowsOf R 9) u) ∧ t = LX R X s 9 G := by
  refine loop_list (fun l1 r t => ∃ y7, r = envP x0 x1 x2 x3 x4 x6 y7 x8 x9 x10 x11 x13 x14 x15 x18 x19 x20 x21 (.tup (nats (due R m u))) (.lst (locs b.length R.n)) (rowsOf R 9) u ∧ t = LX R X s 9 G) ⟨_, rfl, rfl⟩ (fun l1 d l2 r t hx hI => ?_) fun r t hI => by obtain ⟨y7, rfl, rfl⟩ := hI; exact ⟨y7, rfl, rfl⟩
  obtain ⟨y7, rfl, rfl⟩ := hI
  have hd : d < R.n := List.mem_range.mp (by rw [hx]; simp)
  have e := deed_ok hR F hd hp hX (G := G) hb hdl x0 x1 x2 x3 x4 x6 x8 x9 x10 x11 x13 x14 x15 x18 x19 x20 x21
  refine ⟨_, asg_nm _ _ _, ?_⟩
  simp only [envP, List.set_cons_zero, List.set_cons_succ] at e ⊢
  rw [e, okP_ok]
  exact ⟨some (.int (d : Nat)), rfl, rfl⟩
/-! what repr may be asked of -/
theorem Sh.nats {b n : Nat} {ns : List Nat} (h : ∀ x, x ∈ ns → x ≤ b) (hb : b < 10 ^ 12) (hl : ns.length ≤ n) : WT.Sh 1 (n * 41) (.tup (WT.nats ns)) :=
  WT.Sh.tup (k := 0) (b := 40) (fun x hx => by
    obtain ⟨i, hi, rfl⟩ := List.mem_map.mp hx
    exact WT.Sh.int 0 (by have := h i hi; omega)) (by rw [nats_len]; exact hl)
theorem Sh.ringnet {R : RN} {as : List Arrow} (h : Net R as) (hR : R.Ok) : WT.Sh 3 20000 (netD R.np R.n as) := by
  have hp := h.np
  have hn := h.n
  have q : WT.Sh 2 (40 * 124) (.tup (as.map arD)) := WT.Sh.tup (k := 1) (b := 123) (fun x hx => by
    obtain ⟨a, ha, rfl⟩ := List.mem_map.mp hx
    rw [h.perm.mem_iff] at ha
    simp only [arr, List.mem_flatMap, List.mem_range, List.mem_cons, List.not_mem_nil, or_false] at ha
    obtain ⟨q, hq, e⟩ := ha
    have h1 := hR.e q hq
    have h2 := hR.l q hq
    refine WT.Sh.tup (k := 0) (b := 40) (n := 3) (fun y hy => ?_) (by simp)
    simp only [List.mem_cons, List.not_mem_nil, or_false] at hy
    rcases e with rfl | rfl <;> rcases hy with rfl | rfl | rfl <;> exact WT.Sh.int 0 (by simp only; omega)) (by rw [List.length_map, h.perm.length_eq, arr_len]; omega)
  refine WT.Sh.le (WT.Sh.tup (k := 2) (b := 5000) (n := 3) (fun y hy => ?_) (by simp)) (Nat.le_refl _) (by omega)
  simp only [List.mem_cons, List.not_mem_nil, or_false] at hy
  rcases hy with rfl | rfl | rfl
  · exact (WT.Sh.int 2 (by omega)).le (Nat.le_refl _) (by omega)
  · exact (WT.Sh.int 2 (by omega)).le (Nat.le_refl _) (by omega)
  · exact q.le (Nat.le_refl _) (by omega)
theorem Sh.held {R : RN} {as : List Arrow} (h : Net R as) (hR : R.Ok) : WT.Sh 4 70000 (.tup [netD R.np R.n as, markD R, timesD R]) := by
  have hp := h.np
  have hn := h.n
  have h1 : WT.Sh 1 (20 * 41) (markD R) := WT.Sh.tup (k := 0) (b := 40) (fun x hx => by
    obtain ⟨q, hq, rfl⟩ := List.mem_map.mp hx
    have := hR.m2 q (List.mem_range.mp hq)
    exact WT.Sh.int 0 (by omega)) (by simpa using hp)
  have h2 : WT.Sh 1 (20 * 41) (timesD R) := WT.Sh.tup (k := 0) (b := 40) (fun x hx => by
    obtain ⟨q, hq, rfl⟩ := List.mem_map.mp hx
    have := hR.t2 q (List.mem_range.mp hq)
    exact WT.Sh.int 0 (by omega)) (by simpa using hn)
  refine WT.Sh.le (WT.Sh.tup (k := 3) (b := 20000) (n := 3) (fun y hy => ?_) (by simp)) (Nat.le_refl _) (by omega)
  simp only [List.mem_cons, List.not_mem_nil, or_false] at hy
  rcases hy with rfl | rfl | rfl
  · exact Sh.ringnet h hR
  · exact h1.le (by omega) (by omega)
  · exact h2.le (by omega) (by omega)
theorem due_mem {R : RN} {m u d : Nat} (h : d ∈ due R m u) : d < R.n := by
  unfold due at h
  obtain ⟨y, hy, rfl⟩ := List.mem_map.mp h
  have := (srt_perm prI (byDeed R m u)).mem_iff.mp hy
  obtain ⟨z, hz, hz2⟩ := List.mem_flatMap.mp this
  obtain ⟨k, _, hk⟩ := List.mem_flatMap.mp hz2
  unfold oneOf at hk
  split at hk
  · rw [List.mem_singleton] at hk; subst hk; exact List.mem_range.mp hz
  · cases hk
theorem due_len {R : RN} {m u : Nat} : (due R m u).length ≤ R.n * m := by
  unfold due
  rw [List.length_map, (srt_perm prI _).length_eq, byDeed_eq]
  have := deeds_few R m u (List.range R.n)
  rwa [List.length_range] at this
end Wk92

set_option maxRecDepth 100000
set_option maxHeartbeats 4000000
set_option linter.all false
namespace Wk92
open PySem WT Wring
theorem c2' : 0 + 1 + 1 ≤ sizeLine := few (by decide)
theorem c0' : 0 ≤ sizeLine := few (by decide)
theorem sz_at (i : Nat) (h : i < 3) : ∃ s : Nat, 0 < s ∧ s ≤ 5 ∧ ∀ st, ixD (.lst [.int 3, .int 4, .int 5]) (.int (i : Nat)) st = .ok (.int (s : Nat)) st := by
  have : i = 0 ∨ i = 1 ∨ i = 2 := by omega
  rcases this with rfl | rfl | rfl
  · exact ⟨3, by decide, by decide, fun st => by rw [x_lst]; rfl⟩
  · exact ⟨4, by decide, by decide, fun st => by rw [x_lst]; rfl⟩
  · exact ⟨5, by decide, by decide, fun st => by rw [x_lst]; rfl⟩
def lapB : List S := [
  .asg (.tp [(.nm 8), (.nm 9), (.nm 10)]) (.call "_law_ring_net" [(.var 1), (.ix (.lst false [(.int 3), (.int 4), (.int 5)]) (.var 2)), (.int 2)]),
  .asg (.tp [(.nm 11), (.nm 12)]) (.tup [(.call "_law_times" [(.var 1), (.ix (.var 8) (.int 1)), (.int 6)]), (.call "_law_pick" [(.var 1), (.int 25)])]),
  .asg (.tp [(.nm 13), (.nm 14)]) (.tup [(.bi false .repr [(.tup [(.var 8), (.var 9), (.var 11)])]), (.int 1)]),
  .asg (.nm 3) (.call "_law_begins" [(.var 10), (.var 9), (.var 11), (.int 1)]),
  .loop condL loopB,
  .asg (.nm 4) (.lst false []),
  .for_ (.tp [(.nm 7), (.nm 15)]) .enum [(.var 3)] gatB,
  .asg (.nm 5) (.bi false .tuple [(.comp false (.var 7) (.tp [(.nm 18), (.nm 7)]) .val [(.bi false .sorted [(.var 4)])] [] [18, 7])]),
  .ite (.or (.cmp .NotEq (.bi false .repr [(.call "soon_run" [(.var 8), (.var 9), (.var 11), (.var 12)])]) (.bi false .repr [(.var 5)])) (.not (.call "_law_is_run" [(.var 10), (.var 9), (.var 5)]))) [.ret (.bl false)] [],
  .asg (.nm 6) (.bi false .sorted [lateE]),
  .ite (.not (.call "_law_is_run" [(.var 10), (.var 9), (.comp false (.var 7) (.tp [(.nm 18), (.nm 20), (.nm 7)]) .val [(.var 6)] [] [18, 20, 7])])) [.ret (.bl false)] [],
  .asg (.tp [(.nm 16), (.nm 17)]) (.tup [(.call "_law_let_plan" [(.var 1), (.var 10), (.var 9), (.var 11), (.int 9)]), (.call "begin_rows" [(.var 8), (.var 9), (.var 11), (.int 9)])]),
  .for_ (.nm 7) .rng [(.ix (.var 8) (.int 1))] [dB1, dB2],
  .ite (.cmp .NotEq (.bi false .repr [(.tup [(.var 8), (.var 9), (.var 11)])]) (.var 13)) [.ret (.bl false)] []]
theorem lap_ok (ns : List Int) {st : Store} (h : Source st) (i : Nat) (hi : i < 3) (x3 x4 x5 x6 x7 x8 x9 x10 x11 x12 x13 x14 x15 x16 x17 x18 x19 x20 x21 : Option D) : OkP (denSs (phi Pr 19) lapB [some (.scr (intL ns)), some (.loc 1), some (.int (i : Nat)), x3, x4, x5, x6, x7, x8, x9, x10, x11, x12, x13, x14, x15, x16, x17, x18, x19, x20, x21] st) fun fr st' => Source st' ∧ ∃ y3 y4 y5 y6 y7 y8 y9 y10 y11 y12 y13 y14 y15 y16 y17 y18 y19 y20 y21, fr = (.nx, [some (.scr (intL ns)), some (.loc 1), some (.int (i : Nat)), y3, y4, y5, y6, y7, y8, y9, y10, y11, y12, y13, y14, y15, y16, y17, y18, y19, y20, y21]) := by
  obtain ⟨sz, z1, z2, z3⟩ := sz_at i hi
  obtain ⟨n, prs, ms, ol, as, t1, g, e1, o1, hg, hD, ha⟩ := ringnet_ok 16 h sz z1 (by omega)
  have hn5 : n ≤ 5 := by have := hD.n2; omega
  have hn1 := hD.n1
  obtain ⟨ts, t2, e2, o2, lt, ht⟩ := times_ok 17 o1.src n (by omega) 6 (by decide) (by decide)
  obtain ⟨u, t3, e3, hu, o3⟩ := o2.pickN W 18 25 (by decide) (by decide)
  obtain ⟨pl, hpl⟩ : ∃ pl, pl = st.length + 6 := ⟨_, rfl⟩
  obtain ⟨R, hRd⟩ : ∃ R, R = mkR n prs ms ol ts := ⟨_, rfl⟩
  have kn : netD prs.length n as = netD R.np R.n as := by rw [hRd]; rfl
  have km : D.tup (nats ms) = markD R := by rw [hRd]; exact (mk_mark hD.ml).symm
  have kt : D.tup (nats ts) = timesD R := by rw [hRd]; exact (mk_times lt).symm
  have kR : n = R.n := by rw [hRd]; rfl
  have hR : R.Ok := by rw [hRd]; exact mk_ok hD lt ht
  have hN : Net R as := by rw [hRd]; exact mk_net hD (by omega) ha
  have hp1 : t1[pl]? = some (.lst (pairsD R)) := by rw [hpl, o1.get 6, hg, hRd, mk_pairs]
  have hp : t3[pl]? = some (.lst (pairsD R)) := by
    rw [o3.old (by omega) (List.getElem?_eq_some_iff.mp hp1).1]; exact hp1
  rw [kn, km, ← hpl] at e1
  rw [kt, kR] at e2
  have e2' : phi Pr 19 "_law_times" [.loc 1, .int (R.n : Nat), .int 6] t1 = .ok (timesD R) t2 := e2
  have e3' : phi Pr 19 "_law_pick" [.loc 1, .int 25] t2 = .ok (.int (u : Nat)) t3 := e3
  rw [kR] at hn5 hn1
  clear kn km kt hg hD ha lt ht e2 e3 kR hRd
  have hn : R.n ≤ 20 := by omega
  have hnp := hN.np
  have h2 : 2 ≤ pl := by have := h.len; omega
  have shH := (Sh.held hN hR).repr (by decide) (by decide) (al := false)
  obtain ⟨G0, e4⟩ := begins_ok hR hn hn1 18 t3 pl 1 (by decide) hp
  have e4' : phi Pr 19 "_law_begins" [.loc pl, markD R, timesD R, .int 1] t3 = .ok (.lst (locs t3.length R.n)) (LX R R.B t3 1 G0) := e4
  have s1 : denS (phi Pr 19) (.asg (.tp [(.nm 8), (.nm 9), (.nm 10)]) (.call "_law_ring_net" [(.var 1), (.ix (.lst false [(.int 3), (.int 4), (.int 5)]) (.var 2)), (.int 2)])) [some (.scr (intL ns)), some (.loc 1), some (.int (i : Nat)), x3, x4, x5, x6, x7, x8, x9, x10, x11, x12, x13, x14, x15, x16, x17, x18, x19, x20, x21] st = .ok (.nx, [some (.scr (intL ns)), some (.loc 1), some (.int (i : Nat)), x3, x4, x5, x6, x7, some (netD R.np R.n as), some (markD R), some (.loc pl), x11, x12, x13, x14, x15, x16, x17, x18, x19, x20, x21]) t1 := by
    simp only [ev_var, ev_int, ev_bl, ev_non, ev_str, ev_tup, ev_lst, ev_dnew, ev_disp, ev_bin, ev_neg, ev_cmp, ev_chain, ev_and, ev_or, ev_not, ev_ite, ev_ix, ev_sl, ev_rev, ev_call, ev_bi, ev_mt, ev_comp2, ev_nil, ev_cons, ev_ifn, ev_ifc,  ev_asg, ev_aug, ev_setIx, ev_augIx, ev_ex, ev_ret, ev_retN, ev_if, ev_for2, ev_brk, ev_cont, ev_pass, ev_snil, ev_scons, then_nx, then_rt, then_bk, then_ct, end_rt, end_nx, optR_some, finish_self, asg_nm, asg_tp, asg_nil, asg_cons,  truth_bl, truth_int, Res.bind_ok, safe_ok, List.getElem?_cons_zero, List.getElem?_cons_succ, List.set_cons_zero, List.set_cons_succ, List.length_cons, List.length_nil, Option.map_some, Option.bind_some, Option.bind_eq_bind, wipeE, if_true, if_false, Bool.false_eq_true, ite_true, ite_false, reduceIte, reduceCtorEq, newL_f, c3', z3, e1]
  have s2 : denS (phi Pr 19) (.asg (.tp [(.nm 11), (.nm 12)]) (.tup [(.call "_law_times" [(.var 1), (.ix (.var 8) (.int 1)), (.int 6)]), (.call "_law_pick" [(.var 1), (.int 25)])])) [some (.scr (intL ns)), some (.loc 1), some (.int (i : Nat)), x3, x4, x5, x6, x7, some (netD R.np R.n as), some (markD R), some (.loc pl), x11, x12, x13, x14, x15, x16, x17, x18, x19, x20, x21] t1 = .ok (.nx, [some (.scr (intL ns)), some (.loc 1), some (.int (i : Nat)), x3, x4, x5, x6, x7, some (netD R.np R.n as), some (markD R), some (.loc pl), some (timesD R), some (.int (u : Nat)), x13, x14, x15, x16, x17, x18, x19, x20, x21]) t3 := by
    simp only [ev_var, ev_int, ev_bl, ev_non, ev_str, ev_tup, ev_lst, ev_dnew, ev_disp, ev_bin, ev_neg, ev_cmp, ev_chain, ev_and, ev_or, ev_not, ev_ite, ev_ix, ev_sl, ev_rev, ev_call, ev_bi, ev_mt, ev_comp2, ev_nil, ev_cons, ev_ifn, ev_ifc,  ev_asg, ev_aug, ev_setIx, ev_augIx, ev_ex, ev_ret, ev_retN, ev_if, ev_for2, ev_brk, ev_cont, ev_pass, ev_snil, ev_scons, then_nx, then_rt, then_bk, then_ct, end_rt, end_nx, optR_some, finish_self, asg_nm, asg_tp, asg_nil, asg_cons,  truth_bl, truth_int, Res.bind_ok, safe_ok, List.getElem?_cons_zero, List.getElem?_cons_succ, List.set_cons_zero, List.set_cons_succ, List.length_cons, List.length_nil, Option.map_some, Option.bind_some, Option.bind_eq_bind, wipeE, if_true, if_false, Bool.false_eq_true, ite_true, ite_false, reduceIte, reduceCtorEq, net_1, e2', e3', c2']
  have s3 : denS (phi Pr 19) (.asg (.tp [(.nm 13), (.nm 14)]) (.tup [(.bi false .repr [(.tup [(.var 8), (.var 9), (.var 11)])]), (.int 1)])) [some (.scr (intL ns)), some (.loc 1), some (.int (i : Nat)), x3, x4, x5, x6, x7, some (netD R.np R.n as), some (markD R), some (.loc pl), some (timesD R), some (.int (u : Nat)), x13, x14, x15, x16, x17, x18, x19, x20, x21] t3 = .ok (.nx, [some (.scr (intL ns)), some (.loc 1), some (.int (i : Nat)), x3, x4, x5, x6, x7, some (netD R.np R.n as), some (markD R), some (.loc pl), some (timesD R), some (.int (u : Nat)), some (.str (txt (.tup [netD R.np R.n as, markD R, timesD R]))), some (.int 1), x15, x16, x17, x18, x19, x20, x21]) t3 := by
    simp only [ev_var, ev_int, ev_bl, ev_non, ev_str, ev_tup, ev_lst, ev_dnew, ev_disp, ev_bin, ev_neg, ev_cmp, ev_chain, ev_and, ev_or, ev_not, ev_ite, ev_ix, ev_sl, ev_rev, ev_call, ev_bi, ev_mt, ev_comp2, ev_nil, ev_cons, ev_ifn, ev_ifc,  ev_asg, ev_aug, ev_setIx, ev_augIx, ev_ex, ev_ret, ev_retN, ev_if, ev_for2, ev_brk, ev_cont, ev_pass, ev_snil, ev_scons, then_nx, then_rt, then_bk, then_ct, end_rt, end_nx, optR_some, finish_self, asg_nm, asg_tp, asg_nil, asg_cons,  truth_bl, truth_int, Res.bind_ok, safe_ok, List.getElem?_cons_zero, List.getElem?_cons_succ, List.set_cons_zero, List.set_cons_succ, List.length_cons, List.length_nil, Option.map_some, Option.bind_some, Option.bind_eq_bind, wipeE, if_true, if_false, Bool.false_eq_true, ite_true, ite_false, reduceIte, reduceCtorEq, c2', c3', shH]
  have s4 : denS (phi Pr 19) (.asg (.nm 3) (.call "_law_begins" [(.var 10), (.var 9), (.var 11), (.int 1)])) [some (.scr (intL ns)), some (.loc 1), some (.int (i : Nat)), x3, x4, x5, x6, x7, some (netD R.np R.n as), some (markD R), some (.loc pl), some (timesD R), some (.int (u : Nat)), some (.str (txt (.tup [netD R.np R.n as, markD R, timesD R]))), some (.int 1), x15, x16, x17, x18, x19, x20, x21] t3 = .ok (.nx, [some (.scr (intL ns)), some (.loc 1), some (.int (i : Nat)), some (.lst (locs t3.length R.n)), x4, x5, x6, x7, some (netD R.np R.n as), some (markD R), some (.loc pl), some (timesD R), some (.int (u : Nat)), some (.str (txt (.tup [netD R.np R.n as, markD R, timesD R]))), some (.int 1), x15, x16, x17, x18, x19, x20, x21]) (LX R R.B t3 1 G0) := by
    simp only [ev_var, ev_int, ev_bl, ev_non, ev_str, ev_tup, ev_lst, ev_dnew, ev_disp, ev_bin, ev_neg, ev_cmp, ev_chain, ev_and, ev_or, ev_not, ev_ite, ev_ix, ev_sl, ev_rev, ev_call, ev_bi, ev_mt, ev_comp2, ev_nil, ev_cons, ev_ifn, ev_ifc,  ev_asg, ev_aug, ev_setIx, ev_augIx, ev_ex, ev_ret, ev_retN, ev_if, ev_for2, ev_brk, ev_cont, ev_pass, ev_snil, ev_scons, then_nx, then_rt, then_bk, then_ct, end_rt, end_nx, optR_some, finish_self, asg_nm, asg_tp, asg_nil, asg_cons,  truth_bl, truth_int, Res.bind_ok, safe_ok, List.getElem?_cons_zero, List.getElem?_cons_succ, List.set_cons_zero, List.set_cons_succ, List.length_cons, List.length_nil, Option.map_some, Option.bind_some, Option.bind_eq_bind, wipeE, if_true, if_false, Bool.false_eq_true, ite_true, ite_false, reduceIte, reduceCtorEq, e4']
  obtain ⟨fr, t, e5, m, b, G, rfl, rfl, ⟨g', hb⟩, hm0, hm, past⟩ := OkP.ex (lawwhile_ok hR hn hn1 18 hp u (by omega) (some (.scr (intL ns))) (some (.loc 1)) (some (.int (i : Nat))) (x4) (x5) (x6) (x7) (some (netD R.np R.n as)) (some (.str (txt (.tup [netD R.np R.n as, markD R, timesD R])))) (x15) (x16) (x17) (x18) (x19) (x20) (x21) (b0 := t3) (G0 := G0) ⟨[], by simp⟩)
  have s5 : denS (phi Pr 19) (.loop condL loopB) [some (.scr (intL ns)), some (.loc 1), some (.int (i : Nat)), some (.lst (locs t3.length R.n)), x4, x5, x6, x7, some (netD R.np R.n as), some (markD R), some (.loc pl), some (timesD R), some (.int (u : Nat)), some (.str (txt (.tup [netD R.np R.n as, markD R, timesD R]))), some (.int 1), x15, x16, x17, x18, x19, x20, x21] (LX R R.B t3 1 G0) = .ok (.nx, [some (.scr (intL ns)), some (.loc 1), some (.int (i : Nat)), some (.lst (locs b.length R.n)), x4, x5, x6, x7, some (netD R.np R.n as), some (markD R), some (.loc pl), some (timesD R), some (.int (u : Nat)), some (.str (txt (.tup [netD R.np R.n as, markD R, timesD R]))), some (.int (m : Nat)), x15, x16, x17, x18, x19, x20, x21]) (LX R R.B b m G) := by
    exact e5
  have s6 : denS (phi Pr 19) (.asg (.nm 4) (.lst false [])) [some (.scr (intL ns)), some (.loc 1), some (.int (i : Nat)), some (.lst (locs b.length R.n)), x4, x5, x6, x7, some (netD R.np R.n as), some (markD R), some (.loc pl), some (timesD R), some (.int (u : Nat)), some (.str (txt (.tup [netD R.np R.n as, markD R, timesD R]))), some (.int (m : Nat)), x15, x16, x17, x18, x19, x20, x21] (LX R R.B b m G) = .ok (.nx, [some (.scr (intL ns)), some (.loc 1), some (.int (i : Nat)), some (.lst (locs b.length R.n)), some (.lst []), x5, x6, x7, some (netD R.np R.n as), some (markD R), some (.loc pl), some (timesD R), some (.int (u : Nat)), some (.str (txt (.tup [netD R.np R.n as, markD R, timesD R]))), some (.int (m : Nat)), x15, x16, x17, x18, x19, x20, x21]) (LX R R.B b m G) := by
    simp only [ev_var, ev_int, ev_bl, ev_non, ev_str, ev_tup, ev_lst, ev_dnew, ev_disp, ev_bin, ev_neg, ev_cmp, ev_chain, ev_and, ev_or, ev_not, ev_ite, ev_ix, ev_sl, ev_rev, ev_call, ev_bi, ev_mt, ev_comp2, ev_nil, ev_cons, ev_ifn, ev_ifc,  ev_asg, ev_aug, ev_setIx, ev_augIx, ev_ex, ev_ret, ev_retN, ev_if, ev_for2, ev_brk, ev_cont, ev_pass, ev_snil, ev_scons, then_nx, then_rt, then_bk, then_ct, end_rt, end_nx, optR_some, finish_self, asg_nm, asg_tp, asg_nil, asg_cons,  truth_bl, truth_int, Res.bind_ok, safe_ok, List.getElem?_cons_zero, List.getElem?_cons_succ, List.set_cons_zero, List.set_cons_succ, List.length_cons, List.length_nil, Option.map_some, Option.bind_some, Option.bind_eq_bind, wipeE, if_true, if_false, Bool.false_eq_true, ite_true, ite_false, reduceIte, reduceCtorEq, newL_f, c0']
  have hSb : Source (LX R R.B b m G) := by
    unfold LX
    rw [hb]
    exact (o3.src.app g').app _
  have hp4 : (LX R R.B b m G)[pl]? = some (.lst (pairsD R)) := by
    have := LX_old R R.B b m G [] (i := pl) (o := .lst (pairsD R)) (by
      rw [hb, List.getElem?_append_left (List.getElem?_eq_some_iff.mp hp).1]; exact hp)
    rwa [List.append_nil] at this
  have hl : (byDeed R m u).length ≤ sizeLine := by
    have h1 := deeds_few R m u (List.range R.n)
    rw [List.length_range, ← byDeed_eq] at h1
    have h3 : R.n * m ≤ 5 * 1000 := Nat.mul_le_mul hn5 hm
    rw [sizeLine_eq]; omega
  have hdn : (due R m u).length ≤ 5000 := by
    have h1 := due_len (R := R) (m := m) (u := u)
    have h3 : R.n * m ≤ 5 * 1000 := Nat.mul_le_mul hn5 hm
    omega
  obtain ⟨fr, t, e7, y7, y15, rfl, rfl⟩ := OkP.ex (lawgather_ok hn (phi Pr 19) b G m u hm (markD R) (.loc pl) (timesD R) (some (.scr (intL ns))) (some (.loc 1)) (some (.int (i : Nat))) (x5) (x6) (x7) (some (netD R.np R.n as)) (some (.str (txt (.tup [netD R.np R.n as, markD R, timesD R])))) (some (.int (m : Nat))) (x15) (x16) (x17) (x18) (x19) (x20) (x21))
  have s7 : denS (phi Pr 19) (.for_ (.tp [(.nm 7), (.nm 15)]) .enum [(.var 3)] gatB) [some (.scr (intL ns)), some (.loc 1), some (.int (i : Nat)), some (.lst (locs b.length R.n)), some (.lst []), x5, x6, x7, some (netD R.np R.n as), some (markD R), some (.loc pl), some (timesD R), some (.int (u : Nat)), some (.str (txt (.tup [netD R.np R.n as, markD R, timesD R]))), some (.int (m : Nat)), x15, x16, x17, x18, x19, x20, x21] (LX R R.B b m G) = .ok (.nx, [some (.scr (intL ns)), some (.loc 1), some (.int (i : Nat)), some (.lst (locs b.length R.n)), some (.lst ((byDeed R m u).map (tupI prI))), x5, x6, y7, some (netD R.np R.n as), some (markD R), some (.loc pl), some (timesD R), some (.int (u : Nat)), some (.str (txt (.tup [netD R.np R.n as, markD R, timesD R]))), some (.int (m : Nat)), y15, x16, x17, x18, x19, x20, x21]) (LX R R.B b m G) := by
    have f7 : forK (.tp [(.nm 7), (.nm 15)]) (denSs (phi Pr 19) gatB) [some (.scr (intL ns)), some (.loc 1), some (.int (i : Nat)), some (.lst (locs b.length R.n)), some (.lst []), x5, x6, x7, some (netD R.np R.n as), some (markD R), some (.loc pl), some (timesD R), some (.int (u : Nat)), some (.str (txt (.tup [netD R.np R.n as, markD R, timesD R]))), some (.int (m : Nat)), x15, x16, x17, x18, x19, x20, x21] .enum [.lst (locs b.length R.n)] (LX R R.B b m G) = .ok (.nx, [some (.scr (intL ns)), some (.loc 1), some (.int (i : Nat)), some (.lst (locs b.length R.n)), some (.lst ((byDeed R m u).map (tupI prI))), x5, x6, y7, some (netD R.np R.n as), some (markD R), some (.loc pl), some (timesD R), some (.int (u : Nat)), some (.str (txt (.tup [netD R.np R.n as, markD R, timesD R]))), some (.int (m : Nat)), y15, x16, x17, x18, x19, x20, x21]) (LX R R.B b m G) := (forK_eq (src := .enum (.lst (locs b.length R.n))) rfl (locs_zip b.length R.n _) rfl).trans e7
    simp only [ev_var, ev_int, ev_bl, ev_non, ev_str, ev_tup, ev_lst, ev_dnew, ev_disp, ev_bin, ev_neg, ev_cmp, ev_chain, ev_and, ev_or, ev_not, ev_ite, ev_ix, ev_sl, ev_rev, ev_call, ev_bi, ev_mt, ev_comp2, ev_nil, ev_cons, ev_ifn, ev_ifc,  ev_asg, ev_aug, ev_setIx, ev_augIx, ev_ex, ev_ret, ev_retN, ev_if, ev_for2, ev_brk, ev_cont, ev_pass, ev_snil, ev_scons, then_nx, then_rt, then_bk, then_ct, end_rt, end_nx, optR_some, finish_self, asg_nm, asg_tp, asg_nil, asg_cons,  truth_bl, truth_int, Res.bind_ok, safe_ok, List.getElem?_cons_zero, List.getElem?_cons_succ, List.set_cons_zero, List.set_cons_succ, List.length_cons, List.length_nil, Option.map_some, Option.bind_some, Option.bind_eq_bind, wipeE, if_true, if_false, Bool.false_eq_true, ite_true, ite_false, reduceIte, reduceCtorEq, f7]
  have hs := sorted_tup prI (byDeed R m u) (fun x _ => by simp [prI]) hl (LX R R.B b m G)
  have hz : (srt prI (byDeed R m u)).length ≤ sizeLine := by rw [(srt_perm prI _).length_eq]; exact hl
  have hdue : nats (due R m u) = (srt prI (byDeed R m u)).map fun y => D.int (y.2 : Nat) := by simp [nats, due]
  have s8 : denS (phi Pr 19) (.asg (.nm 5) (.bi false .tuple [(.comp false (.var 7) (.tp [(.nm 18), (.nm 7)]) .val [(.bi false .sorted [(.var 4)])] [] [18, 7])])) [some (.scr (intL ns)), some (.loc 1), some (.int (i : Nat)), some (.lst (locs b.length R.n)), some (.lst ((byDeed R m u).map (tupI prI))), x5, x6, y7, some (netD R.np R.n as), some (markD R), some (.loc pl), some (timesD R), some (.int (u : Nat)), some (.str (txt (.tup [netD R.np R.n as, markD R, timesD R]))), some (.int (m : Nat)), y15, x16, x17, x18, x19, x20, x21] (LX R R.B b m G) = .ok (.nx, [some (.scr (intL ns)), some (.loc 1), some (.int (i : Nat)), some (.lst (locs b.length R.n)), some (.lst ((byDeed R m u).map (tupI prI))), some (.tup (nats (due R m u))), x6, y7, some (netD R.np R.n as), some (markD R), some (.loc pl), some (timesD R), some (.int (u : Nat)), some (.str (txt (.tup [netD R.np R.n as, markD R, timesD R]))), some (.int (m : Nat)), y15, x16, x17, x18, x19, x20, x21]) (LX R R.B b m G) := by
    rw [hdue]
    simp only [ev_var, ev_int, ev_bl, ev_non, ev_str, ev_tup, ev_lst, ev_dnew, ev_disp, ev_bin, ev_neg, ev_cmp, ev_chain, ev_and, ev_or, ev_not, ev_ite, ev_ix, ev_sl, ev_rev, ev_call, ev_bi, ev_mt, ev_comp2, ev_nil, ev_cons, ev_ifn, ev_ifc,  ev_asg, ev_aug, ev_setIx, ev_augIx, ev_ex, ev_ret, ev_retN, ev_if, ev_for2, ev_brk, ev_cont, ev_pass, ev_snil, ev_scons, then_nx, then_rt, then_bk, then_ct, end_rt, end_nx, optR_some, finish_self, asg_nm, asg_tp, asg_nil, asg_cons,  truth_bl, truth_int, Res.bind_ok, safe_ok, List.getElem?_cons_zero, List.getElem?_cons_succ, List.set_cons_zero, List.set_cons_succ, List.length_cons, List.length_nil, Option.map_some, Option.bind_some, Option.bind_eq_bind, wipeE, if_true, if_false, Bool.false_eq_true, ite_true, ite_false, reduceIte, reduceCtorEq, hs, compK_lst, newL_f, cM_map, stepC_eq, tupI, prI, intL, List.map_cons, List.map_nil, cM_ok, List.length_map, hz, b_add, b_sub, b_eq, b_ne, b_lt, b_le, b_gt, b_ge, u_abs, u_int, u_intb, u_tuple_l, u_tuple_t, u_len_l, u_len_t, eq_self, decide_true, decide_false]
  obtain ⟨m', h0', hm', past', e9⟩ := soon_ok hN hR 14 hn1 (LX R R.B b m G) u (by omega)
  rw [← due_same hR past past'] at e9
  have shD := (Sh.nats (b := 20) (n := 5000) (fun x hx => by have := due_mem hx; omega) (by decide) hdn).repr (by decide) (by decide) (al := false)
  have e9b := isrun_ok hnp 18 hp4 (.tup _) (due_run hR past)
  have s9 : denS (phi Pr 19) (.ite (.or (.cmp .NotEq (.bi false .repr [(.call "soon_run" [(.var 8), (.var 9), (.var 11), (.var 12)])]) (.bi false .repr [(.var 5)])) (.not (.call "_law_is_run" [(.var 10), (.var 9), (.var 5)]))) [.ret (.bl false)] []) [some (.scr (intL ns)), some (.loc 1), some (.int (i : Nat)), some (.lst (locs b.length R.n)), some (.lst ((byDeed R m u).map (tupI prI))), some (.tup (nats (due R m u))), x6, y7, some (netD R.np R.n as), some (markD R), some (.loc pl), some (timesD R), some (.int (u : Nat)), some (.str (txt (.tup [netD R.np R.n as, markD R, timesD R]))), some (.int (m : Nat)), y15, x16, x17, x18, x19, x20, x21] (LX R R.B b m G) = .ok (.nx, [some (.scr (intL ns)), some (.loc 1), some (.int (i : Nat)), some (.lst (locs b.length R.n)), some (.lst ((byDeed R m u).map (tupI prI))), some (.tup (nats (due R m u))), x6, y7, some (netD R.np R.n as), some (markD R), some (.loc pl), some (timesD R), some (.int (u : Nat)), some (.str (txt (.tup [netD R.np R.n as, markD R, timesD R]))), some (.int (m : Nat)), y15, x16, x17, x18, x19, x20, x21]) (LX R R.B b m G) := by
    simp only [ev_var, ev_int, ev_bl, ev_non, ev_str, ev_tup, ev_lst, ev_dnew, ev_disp, ev_bin, ev_neg, ev_cmp, ev_chain, ev_and, ev_or, ev_not, ev_ite, ev_ix, ev_sl, ev_rev, ev_call, ev_bi, ev_mt, ev_comp2, ev_nil, ev_cons, ev_ifn, ev_ifc,  ev_asg, ev_aug, ev_setIx, ev_augIx, ev_ex, ev_ret, ev_retN, ev_if, ev_for2, ev_brk, ev_cont, ev_pass, ev_snil, ev_scons, then_nx, then_rt, then_bk, then_ct, end_rt, end_nx, optR_some, finish_self, asg_nm, asg_tp, asg_nil, asg_cons,  truth_bl, truth_int, Res.bind_ok, safe_ok, List.getElem?_cons_zero, List.getElem?_cons_succ, List.set_cons_zero, List.set_cons_succ, List.length_cons, List.length_nil, Option.map_some, Option.bind_some, Option.bind_eq_bind, wipeE, if_true, if_false, Bool.false_eq_true, ite_true, ite_false, reduceIte, reduceCtorEq, e9, shD, e9b, b_strne, decide_true, Bool.not_true]
  obtain ⟨zs, t4, e10, o10, hzs⟩ := late_ok 18 hSb (byDeed R m u) hl (some (.scr (intL ns))) (some (.int (i : Nat))) (some (.lst (locs b.length R.n))) (some (.tup (nats (due R m u)))) (x6) (y7) (some (netD R.np R.n as)) (some (markD R)) (some (.loc pl)) (some (timesD R)) (some (.int (u : Nat))) (some (.str (txt (.tup [netD R.np R.n as, markD R, timesD R])))) (some (.int (m : Nat))) (y15) (x16) (x17) (x18) (x19) (x20) (x21)
  have hp5 : t4[pl]? = some (.lst (pairsD R)) := by
    rw [o10.old h2 (List.getElem?_eq_some_iff.mp hp4).1]; exact hp4
  have hzl : zs.length ≤ sizeLine := by
    have := congrArg List.length hzs
    rw [List.length_map] at this; omega
  have hs2 := sorted_tup triI zs (fun x _ => by simp [triI]) hzl t4
  have hz2 : (srt triI zs).length ≤ sizeLine := by rw [(srt_perm triI _).length_eq]; exact hzl
  have e10' : den (phi Pr 19) lateE [some (.scr (intL ns)), some (.loc 1), some (.int (i : Nat)), some (.lst (locs b.length R.n)), some (.lst ((byDeed R m u).map (tupI prI))), some (.tup (nats (due R m u))), x6, y7, some (netD R.np R.n as), some (markD R), some (.loc pl), some (timesD R), some (.int (u : Nat)), some (.str (txt (.tup [netD R.np R.n as, markD R, timesD R]))), some (.int (m : Nat)), y15, x16, x17, x18, x19, x20, x21] (LX R R.B b m G) = .ok (.lst (zs.map (tupI triI))) t4 := e10
  have s10 : denS (phi Pr 19) (.asg (.nm 6) (.bi false .sorted [lateE])) [some (.scr (intL ns)), some (.loc 1), some (.int (i : Nat)), some (.lst (locs b.length R.n)), some (.lst ((byDeed R m u).map (tupI prI))), some (.tup (nats (due R m u))), x6, y7, some (netD R.np R.n as), some (markD R), some (.loc pl), some (timesD R), some (.int (u : Nat)), some (.str (txt (.tup [netD R.np R.n as, markD R, timesD R]))), some (.int (m : Nat)), y15, x16, x17, x18, x19, x20, x21] (LX R R.B b m G) = .ok (.nx, [some (.scr (intL ns)), some (.loc 1), some (.int (i : Nat)), some (.lst (locs b.length R.n)), some (.lst ((byDeed R m u).map (tupI prI))), some (.tup (nats (due R m u))), some (.lst ((srt triI zs).map (tupI triI))), y7, some (netD R.np R.n as), some (markD R), some (.loc pl), some (timesD R), some (.int (u : Nat)), some (.str (txt (.tup [netD R.np R.n as, markD R, timesD R]))), some (.int (m : Nat)), y15, x16, x17, x18, x19, x20, x21]) t4 := by
    rw [ev_asg, ev_bi, ev_cons, e10']
    simp only [ev_var, ev_int, ev_bl, ev_non, ev_str, ev_tup, ev_lst, ev_dnew, ev_disp, ev_bin, ev_neg, ev_cmp, ev_chain, ev_and, ev_or, ev_not, ev_ite, ev_ix, ev_sl, ev_rev, ev_call, ev_bi, ev_mt, ev_comp2, ev_nil, ev_cons, ev_ifn, ev_ifc,  ev_asg, ev_aug, ev_setIx, ev_augIx, ev_ex, ev_ret, ev_retN, ev_if, ev_for2, ev_brk, ev_cont, ev_pass, ev_snil, ev_scons, then_nx, then_rt, then_bk, then_ct, end_rt, end_nx, optR_some, finish_self, asg_nm, asg_tp, asg_nil, asg_cons,  truth_bl, truth_int, Res.bind_ok, safe_ok, List.getElem?_cons_zero, List.getElem?_cons_succ, List.set_cons_zero, List.set_cons_succ, List.length_cons, List.length_nil, Option.map_some, Option.bind_some, Option.bind_eq_bind, wipeE, if_true, if_false, Bool.false_eq_true, ite_true, ite_false, reduceIte, reduceCtorEq, hs2]
  have e11 := isrun_ok hnp 18 hp5 (.lst _) (late_run hR past hzs)
  have hlt : nats ((srt triI zs).map fun z => z.2.2) = (srt triI zs).map fun z => D.int (z.2.2 : Nat) := by simp [nats]
  rw [hlt] at e11
  have s11 : denS (phi Pr 19) (.ite (.not (.call "_law_is_run" [(.var 10), (.var 9), (.comp false (.var 7) (.tp [(.nm 18), (.nm 20), (.nm 7)]) .val [(.var 6)] [] [18, 20, 7])])) [.ret (.bl false)] []) [some (.scr (intL ns)), some (.loc 1), some (.int (i : Nat)), some (.lst (locs b.length R.n)), some (.lst ((byDeed R m u).map (tupI prI))), some (.tup (nats (due R m u))), some (.lst ((srt triI zs).map (tupI triI))), y7, some (netD R.np R.n as), some (markD R), some (.loc pl), some (timesD R), some (.int (u : Nat)), some (.str (txt (.tup [netD R.np R.n as, markD R, timesD R]))), some (.int (m : Nat)), y15, x16, x17, x18, x19, x20, x21] t4 = .ok (.nx, [some (.scr (intL ns)), some (.loc 1), some (.int (i : Nat)), some (.lst (locs b.length R.n)), some (.lst ((byDeed R m u).map (tupI prI))), some (.tup (nats (due R m u))), some (.lst ((srt triI zs).map (tupI triI))), y7, some (netD R.np R.n as), some (markD R), some (.loc pl), some (timesD R), some (.int (u : Nat)), some (.str (txt (.tup [netD R.np R.n as, markD R, timesD R]))), some (.int (m : Nat)), y15, x16, x17, x18, x19, x20, x21]) t4 := by
    simp only [ev_var, ev_int, ev_bl, ev_non, ev_str, ev_tup, ev_lst, ev_dnew, ev_disp, ev_bin, ev_neg, ev_cmp, ev_chain, ev_and, ev_or, ev_not, ev_ite, ev_ix, ev_sl, ev_rev, ev_call, ev_bi, ev_mt, ev_comp2, ev_nil, ev_cons, ev_ifn, ev_ifc,  ev_asg, ev_aug, ev_setIx, ev_augIx, ev_ex, ev_ret, ev_retN, ev_if, ev_for2, ev_brk, ev_cont, ev_pass, ev_snil, ev_scons, then_nx, then_rt, then_bk, then_ct, end_rt, end_nx, optR_some, finish_self, asg_nm, asg_tp, asg_nil, asg_cons,  truth_bl, truth_int, Res.bind_ok, safe_ok, List.getElem?_cons_zero, List.getElem?_cons_succ, List.set_cons_zero, List.set_cons_succ, List.length_cons, List.length_nil, Option.map_some, Option.bind_some, Option.bind_eq_bind, wipeE, if_true, if_false, Bool.false_eq_true, ite_true, ite_false, reduceIte, reduceCtorEq, compK_lst, newL_f, cM_map, stepC_eq, tupI, triI, intL, List.map_cons, List.map_nil, cM_ok, List.length_map, hz2, e11, Bool.not_true]
  obtain ⟨XX, s, G5, e12, hX, kp, hs5⟩ := plan_ok hR hn hn1 17 o10.src pl 9 (by decide) h2 hp5
  have e12' : phi Pr 19 "_law_let_plan" [.loc 1, .loc pl, markD R, timesD R, .int 9] t4 = .ok (.lst (locs t4.length R.n)) (LX R XX s 9 G5) := e12
  have e13 : phi Pr 19 "begin_rows" [netD R.np R.n as, markD R, timesD R, .int 9] (LX R XX s 9 G5) = .ok (rowsOf R 9) (LX R XX s 9 G5) := rows_ok hN hR 14 (LX R XX s 9 G5) 9 (by decide)
  have s12 : denS (phi Pr 19) (.asg (.tp [(.nm 16), (.nm 17)]) (.tup [(.call "_law_let_plan" [(.var 1), (.var 10), (.var 9), (.var 11), (.int 9)]), (.call "begin_rows" [(.var 8), (.var 9), (.var 11), (.int 9)])])) [some (.scr (intL ns)), some (.loc 1), some (.int (i : Nat)), some (.lst (locs b.length R.n)), some (.lst ((byDeed R m u).map (tupI prI))), some (.tup (nats (due R m u))), some (.lst ((srt triI zs).map (tupI triI))), y7, some (netD R.np R.n as), some (markD R), some (.loc pl), some (timesD R), some (.int (u : Nat)), some (.str (txt (.tup [netD R.np R.n as, markD R, timesD R]))), some (.int (m : Nat)), y15, x16, x17, x18, x19, x20, x21] t4 = .ok (.nx, [some (.scr (intL ns)), some (.loc 1), some (.int (i : Nat)), some (.lst (locs b.length R.n)), some (.lst ((byDeed R m u).map (tupI prI))), some (.tup (nats (due R m u))), some (.lst ((srt triI zs).map (tupI triI))), y7, some (netD R.np R.n as), some (markD R), some (.loc pl), some (timesD R), some (.int (u : Nat)), some (.str (txt (.tup [netD R.np R.n as, markD R, timesD R]))), some (.int (m : Nat)), y15, some (.lst (locs t4.length R.n)), some (rowsOf R 9), x18, x19, x20, x21]) (LX R XX s 9 G5) := by
    simp only [ev_var, ev_int, ev_bl, ev_non, ev_str, ev_tup, ev_lst, ev_dnew, ev_disp, ev_bin, ev_neg, ev_cmp, ev_chain, ev_and, ev_or, ev_not, ev_ite, ev_ix, ev_sl, ev_rev, ev_call, ev_bi, ev_mt, ev_comp2, ev_nil, ev_cons, ev_ifn, ev_ifc,  ev_asg, ev_aug, ev_setIx, ev_augIx, ev_ex, ev_ret, ev_retN, ev_if, ev_for2, ev_brk, ev_cont, ev_pass, ev_snil, ev_scons, then_nx, then_rt, then_bk, then_ct, end_rt, end_nx, optR_some, finish_self, asg_nm, asg_tp, asg_nil, asg_cons,  truth_bl, truth_int, Res.bind_ok, safe_ok, List.getElem?_cons_zero, List.getElem?_cons_succ, List.set_cons_zero, List.set_cons_succ, List.length_cons, List.length_nil, Option.map_some, Option.bind_some, Option.bind_eq_bind, wipeE, if_true, if_false, Bool.false_eq_true, ite_true, ite_false, reduceIte, reduceCtorEq, e12', e13, c2']
  obtain ⟨fr, t, e14, q7, rfl, rfl⟩ := OkP.ex (deeds_ok hR (phi Pr 19) past hX (b := t4) (s := s) (G := G5) kp.1 (by rw [sizeLine_eq]; omega) (some (.scr (intL ns))) (some (.loc 1)) (some (.int (i : Nat))) (some (.lst (locs b.length R.n))) (some (.lst ((byDeed R m u).map (tupI prI)))) (some (.lst ((srt triI zs).map (tupI triI)))) (y7) (some (netD R.np R.n as)) (some (markD R)) (some (.loc pl)) (some (timesD R)) (some (.str (txt (.tup [netD R.np R.n as, markD R, timesD R])))) (some (.int (m : Nat))) (y15) (x18) (x19) (x20) (x21))
  have s13 : denS (phi Pr 19) (.for_ (.nm 7) .rng [(.ix (.var 8) (.int 1))] [dB1, dB2]) [some (.scr (intL ns)), some (.loc 1), some (.int (i : Nat)), some (.lst (locs b.length R.n)), some (.lst ((byDeed R m u).map (tupI prI))), some (.tup (nats (due R m u))), some (.lst ((srt triI zs).map (tupI triI))), y7, some (netD R.np R.n as), some (markD R), some (.loc pl), some (timesD R), some (.int (u : Nat)), some (.str (txt (.tup [netD R.np R.n as, markD R, timesD R]))), some (.int (m : Nat)), y15, some (.lst (locs t4.length R.n)), some (rowsOf R 9), x18, x19, x20, x21] (LX R XX s 9 G5) = .ok (.nx, [some (.scr (intL ns)), some (.loc 1), some (.int (i : Nat)), some (.lst (locs b.length R.n)), some (.lst ((byDeed R m u).map (tupI prI))), some (.tup (nats (due R m u))), some (.lst ((srt triI zs).map (tupI triI))), q7, some (netD R.np R.n as), some (markD R), some (.loc pl), some (timesD R), some (.int (u : Nat)), some (.str (txt (.tup [netD R.np R.n as, markD R, timesD R]))), some (.int (m : Nat)), y15, some (.lst (locs t4.length R.n)), some (rowsOf R 9), x18, x19, x20, x21]) (LX R XX s 9 G5) := by
    have f13 : forK (.nm 7) (denSs (phi Pr 19) [dB1, dB2]) [some (.scr (intL ns)), some (.loc 1), some (.int (i : Nat)), some (.lst (locs b.length R.n)), some (.lst ((byDeed R m u).map (tupI prI))), some (.tup (nats (due R m u))), some (.lst ((srt triI zs).map (tupI triI))), y7, some (netD R.np R.n as), some (markD R), some (.loc pl), some (timesD R), some (.int (u : Nat)), some (.str (txt (.tup [netD R.np R.n as, markD R, timesD R]))), some (.int (m : Nat)), y15, some (.lst (locs t4.length R.n)), some (rowsOf R 9), x18, x19, x20, x21] .rng [.int (R.n : Nat)] (LX R XX s 9 G5) = .ok (.nx, [some (.scr (intL ns)), some (.loc 1), some (.int (i : Nat)), some (.lst (locs b.length R.n)), some (.lst ((byDeed R m u).map (tupI prI))), some (.tup (nats (due R m u))), some (.lst ((srt triI zs).map (tupI triI))), q7, some (netD R.np R.n as), some (markD R), some (.loc pl), some (timesD R), some (.int (u : Nat)), some (.str (txt (.tup [netD R.np R.n as, markD R, timesD R]))), some (.int (m : Nat)), y15, some (.lst (locs t4.length R.n)), some (rowsOf R 9), x18, x19, x20, x21]) (LX R XX s 9 G5) := (forK_rng (.nm 7) _ _ _ R.n (few (by omega))).trans e14
    simp only [ev_var, ev_int, ev_bl, ev_non, ev_str, ev_tup, ev_lst, ev_dnew, ev_disp, ev_bin, ev_neg, ev_cmp, ev_chain, ev_and, ev_or, ev_not, ev_ite, ev_ix, ev_sl, ev_rev, ev_call, ev_bi, ev_mt, ev_comp2, ev_nil, ev_cons, ev_ifn, ev_ifc,  ev_asg, ev_aug, ev_setIx, ev_augIx, ev_ex, ev_ret, ev_retN, ev_if, ev_for2, ev_brk, ev_cont, ev_pass, ev_snil, ev_scons, then_nx, then_rt, then_bk, then_ct, end_rt, end_nx, optR_some, finish_self, asg_nm, asg_tp, asg_nil, asg_cons,  truth_bl, truth_int, Res.bind_ok, safe_ok, List.getElem?_cons_zero, List.getElem?_cons_succ, List.set_cons_zero, List.set_cons_succ, List.length_cons, List.length_nil, Option.map_some, Option.bind_some, Option.bind_eq_bind, wipeE, if_true, if_false, Bool.false_eq_true, ite_true, ite_false, reduceIte, reduceCtorEq, net_1, f13]
  have s14 : denS (phi Pr 19) (.ite (.cmp .NotEq (.bi false .repr [(.tup [(.var 8), (.var 9), (.var 11)])]) (.var 13)) [.ret (.bl false)] []) [some (.scr (intL ns)), some (.loc 1), some (.int (i : Nat)), some (.lst (locs b.length R.n)), some (.lst ((byDeed R m u).map (tupI prI))), some (.tup (nats (due R m u))), some (.lst ((srt triI zs).map (tupI triI))), q7, some (netD R.np R.n as), some (markD R), some (.loc pl), some (timesD R), some (.int (u : Nat)), some (.str (txt (.tup [netD R.np R.n as, markD R, timesD R]))), some (.int (m : Nat)), y15, some (.lst (locs t4.length R.n)), some (rowsOf R 9), x18, x19, x20, x21] (LX R XX s 9 G5) = .ok (.nx, [some (.scr (intL ns)), some (.loc 1), some (.int (i : Nat)), some (.lst (locs b.length R.n)), some (.lst ((byDeed R m u).map (tupI prI))), some (.tup (nats (due R m u))), some (.lst ((srt triI zs).map (tupI triI))), q7, some (netD R.np R.n as), some (markD R), some (.loc pl), some (timesD R), some (.int (u : Nat)), some (.str (txt (.tup [netD R.np R.n as, markD R, timesD R]))), some (.int (m : Nat)), y15, some (.lst (locs t4.length R.n)), some (rowsOf R 9), x18, x19, x20, x21]) (LX R XX s 9 G5) := by
    simp only [ev_var, ev_int, ev_bl, ev_non, ev_str, ev_tup, ev_lst, ev_dnew, ev_disp, ev_bin, ev_neg, ev_cmp, ev_chain, ev_and, ev_or, ev_not, ev_ite, ev_ix, ev_sl, ev_rev, ev_call, ev_bi, ev_mt, ev_comp2, ev_nil, ev_cons, ev_ifn, ev_ifc,  ev_asg, ev_aug, ev_setIx, ev_augIx, ev_ex, ev_ret, ev_retN, ev_if, ev_for2, ev_brk, ev_cont, ev_pass, ev_snil, ev_scons, then_nx, then_rt, then_bk, then_ct, end_rt, end_nx, optR_some, finish_self, asg_nm, asg_tp, asg_nil, asg_cons,  truth_bl, truth_int, Res.bind_ok, safe_ok, List.getElem?_cons_zero, List.getElem?_cons_succ, List.set_cons_zero, List.set_cons_succ, List.length_cons, List.length_nil, Option.map_some, Option.bind_some, Option.bind_eq_bind, wipeE, if_true, if_false, Bool.false_eq_true, ite_true, ite_false, reduceIte, reduceCtorEq, c3', shH, b_strne, decide_true, Bool.not_true]
  rw [lapB, ev_scons, s1, Res.bind_ok, then_nx, ev_scons, s2, Res.bind_ok, then_nx, ev_scons, s3, Res.bind_ok, then_nx, ev_scons, s4, Res.bind_ok, then_nx, ev_scons, s5, Res.bind_ok, then_nx, ev_scons, s6, Res.bind_ok, then_nx, ev_scons, s7, Res.bind_ok, then_nx, ev_scons, s8, Res.bind_ok, then_nx, ev_scons, s9, Res.bind_ok, then_nx, ev_scons, s10, Res.bind_ok, then_nx, ev_scons, s11, Res.bind_ok, then_nx, ev_scons, s12, Res.bind_ok, then_nx, ev_scons, s13, Res.bind_ok, then_nx, ev_scons, s14, Res.bind_ok, then_nx, ev_snil, okP_ok]
  exact ⟨hs5.app _, _, _, _, _, _, _, _, _, _, _, _, _, _, _, _, _, _, _, _, rfl⟩
end Wk92

set_option maxRecDepth 100000
set_option maxHeartbeats 4000000
set_option linter.all false
namespace Wk92
open PySem WT Wring
theorem finish_val {st0 st : Store} {d : D} : OkP (WT.finish st0 d st) fun d' _ => d' = d := by
  unfold WT.finish
  split <;> exact okP_ok.mpr rfl
theorem laps_ok (ns : List Int) {st : Store} (h : Source st) : OkP (loopF (.nm 2) (denSs (phi Pr 19) lapB) ((List.range 3).map fun i => D.int (i : Nat)) [some (.scr (intL ns)), some (.loc 1), none, none, none, none, none, none, none, none, none, none, none, none, none, none, none, none, none, none, none, none] st) fun fr st' => Source st' ∧ ∃ y2 y3 y4 y5 y6 y7 y8 y9 y10 y11 y12 y13 y14 y15 y16 y17 y18 y19 y20 y21, fr = (.nx, [some (.scr (intL ns)), some (.loc 1), y2, y3, y4, y5, y6, y7, y8, y9, y10, y11, y12, y13, y14, y15, y16, y17, y18, y19, y20, y21]) := by
  refine loop_list (fun _ r s => Source s ∧ ∃ y2 y3 y4 y5 y6 y7 y8 y9 y10 y11 y12 y13 y14 y15 y16 y17 y18 y19 y20 y21, r = [some (.scr (intL ns)), some (.loc 1), y2, y3, y4, y5, y6, y7, y8, y9, y10, y11, y12, y13, y14, y15, y16, y17, y18, y19, y20, y21]) ⟨h, _, _, _, _, _, _, _, _, _, _, _, _, _, _, _, _, _, _, _, _, rfl⟩ (fun l1 x l2 r s hx hI => ?_) fun r s hI => ?_
  · obtain ⟨g, y2, y3, y4, y5, y6, y7, y8, y9, y10, y11, y12, y13, y14, y15, y16, y17, y18, y19, y20, y21, rfl⟩ := hI
    have hi : x < 3 := List.mem_range.mp (by rw [hx]; simp)
    refine ⟨_, asg_nm _ _ _, ?_⟩
    simp only [List.set_cons_zero, List.set_cons_succ]
    refine OkP.imp (lap_ok ns g x hi y3 y4 y5 y6 y7 y8 y9 y10 y11 y12 y13 y14 y15 y16 y17 y18 y19 y20 y21) fun fr s' q => ?_
    obtain ⟨g', z3, z4, z5, z6, z7, z8, z9, z10, z11, z12, z13, z14, z15, z16, z17, z18, z19, z20, z21, rfl⟩ := q
    exact ⟨g', some (.int (x : Nat)), z3, z4, z5, z6, z7, z8, z9, z10, z11, z12, z13, z14, z15, z16, z17, z18, z19, z20, z21, rfl⟩
  · obtain ⟨g, y2, y3, y4, y5, y6, y7, y8, y9, y10, y11, y12, y13, y14, y15, y16, y17, y18, y19, y20, y21, rfl⟩ := hI
    exact ⟨g, y2, y3, y4, y5, y6, y7, y8, y9, y10, y11, y12, y13, y14, y15, y16, y17, y18, y19, y20, y21, rfl⟩
theorem law_ok : LawOk Pr 20 63 := by
  intro ns hns
  rw [← okP_post]
  rw [phi_def p_law rfl]
  obtain ⟨x, st, e, rfl, g, hl⟩ := OkP.ex (cells2_ok (Pr := Pr) rfl 18 ns hns)
  obtain ⟨fr, st2, e2, g2, y2, y3, y4, y5, y6, y7, y8, y9, y10, y11, y12, y13, y14, y15, y16, y17, y18, y19, y20, y21, rfl⟩ := OkP.ex (laps_ok ns g)
  have forR : ∀ (tg : Tg) (b : WT.Env → Store → Res (Fl × WT.Env)) (r : WT.Env) (st : Store), forK tg b r .rng [.int 3] st = loopF tg b ((List.range 3).map fun i => D.int (i : Nat)) r st := fun tg b r st => forK_rng tg b r st 3 (few (by decide))
  show OkP ((denSs (phi Pr 19) ([.asg (.nm 1) (.call "_law_source" [(.var 0)]),
    .for_ (.nm 2) .rng [(.int 3)] lapB,
    .ret (.bl true)]) [some (.scr (intL ns)), none, none, none, none, none, none, none, none, none, none, none, none, none, none, none, none, none, none, none, none, none] []).bind (endOf [])) _
  simp only [ev_var, ev_int, ev_bl, ev_non, ev_str, ev_tup, ev_lst, ev_dnew, ev_disp, ev_bin, ev_neg, ev_cmp, ev_chain, ev_and, ev_or, ev_not, ev_ite, ev_ix, ev_sl, ev_rev, ev_call, ev_bi, ev_mt, ev_comp2, ev_nil, ev_cons, ev_ifn, ev_ifc,  ev_asg, ev_aug, ev_setIx, ev_augIx, ev_ex, ev_ret, ev_retN, ev_if, ev_for2, ev_brk, ev_cont, ev_pass, ev_snil, ev_scons, then_nx, then_rt, then_bk, then_ct, end_rt, end_nx, optR_some, finish_self, asg_nm, asg_tp, asg_nil, asg_cons,  truth_bl, truth_int, Res.bind_ok, safe_ok, List.getElem?_cons_zero, List.getElem?_cons_succ, List.set_cons_zero, List.set_cons_succ, List.length_cons, List.length_nil, Option.map_some, Option.bind_some, Option.bind_eq_bind, wipeE, if_true, if_false, Bool.false_eq_true, ite_true, ite_false, reduceIte, reduceCtorEq, e, forR, e2]
  exact finish_val
end Wk92

set_option Elab.async false
set_option linter.all false
set_option maxRecDepth 100000
set_option maxHeartbeats 4000000
/-! the pure defs of law k92 are the text (printed by gen.py) -/
namespace Wk92
open PySem L2 WT
theorem m_places_ahead : all2 (mS 40 ⟨N_places_ahead, defScope (top 1), funs, fun _ => true⟩) (defBody (top 1)) d_places_ahead.body = true := by decide +kernel
theorem s_places_ahead : FnScope N_places_ahead ["net", "deed"] (defScope (top 1)) := ⟨rfl, rfl, rfl, by decide +kernel, rfl, by decide +kernel, by decide +kernel⟩
theorem o_places_ahead {K : PySem.W.Frag} {h : Heap} {mg : Str → Option Value} (X : K.In h) (G : h.Ns mainGlobals mg) {f : Addr} {od an : Option Addr} {sl : Array (Option Value)} {oc kV dc pm cd ct : Value}
    (a : PySem.W.nsIn K mainGlobals "places_ahead" = some (some (.ref f))) (l : K.lookup f = some ⟨oc, od, .func (PySem.W.fnOf "places_ahead" "places_ahead" (defArgs (top 1)) (defBody (top 1)) (defScope (top 1)) .none kV dc pm an cd ct), sl⟩)
    (c : PySem.W.codeIn K cd "places_ahead" = true) (k : PySem.W.keepIn K (.ref f) = true) : DefOk K mg Pr funs "places_ahead" :=
  ⟨top 1, f, oc, kV, dc, pm, cd, ct, od, an, sl, N_places_ahead, ["net", "deed"], d_places_ahead, 40, l, c, k, PySem.W.mg_of X G a, s_places_ahead, (fun us hl => match us, hl with | [_, _], _ => rfl), p_places_ahead, rfl, rfl, m_places_ahead⟩
theorem m_takers : all2 (mS 40 ⟨N_takers, defScope (top 3), funs, fun _ => true⟩) (defBody (top 3)) d_takers.body = true := by decide +kernel
theorem s_takers : FnScope N_takers ["net", "place"] (defScope (top 3)) := ⟨rfl, rfl, rfl, by decide +kernel, rfl, by decide +kernel, by decide +kernel⟩
theorem o_takers {K : PySem.W.Frag} {h : Heap} {mg : Str → Option Value} (X : K.In h) (G : h.Ns mainGlobals mg) {f : Addr} {od an : Option Addr} {sl : Array (Option Value)} {oc kV dc pm cd ct : Value}
    (a : PySem.W.nsIn K mainGlobals "takers" = some (some (.ref f))) (l : K.lookup f = some ⟨oc, od, .func (PySem.W.fnOf "takers" "takers" (defArgs (top 3)) (defBody (top 3)) (defScope (top 3)) .none kV dc pm an cd ct), sl⟩)
    (c : PySem.W.codeIn K cd "takers" = true) (k : PySem.W.keepIn K (.ref f) = true) : DefOk K mg Pr funs "takers" :=
  ⟨top 3, f, oc, kV, dc, pm, cd, ct, od, an, sl, N_takers, ["net", "place"], d_takers, 40, l, c, k, PySem.W.mg_of X G a, s_takers, (fun us hl => match us, hl with | [_, _], _ => rfl), p_takers, rfl, rfl, m_takers⟩
theorem m_givers : all2 (mS 40 ⟨N_givers, defScope (top 4), funs, fun _ => true⟩) (defBody (top 4)) d_givers.body = true := by decide +kernel
theorem s_givers : FnScope N_givers ["net", "place"] (defScope (top 4)) := ⟨rfl, rfl, rfl, by decide +kernel, rfl, by decide +kernel, by decide +kernel⟩
theorem o_givers {K : PySem.W.Frag} {h : Heap} {mg : Str → Option Value} (X : K.In h) (G : h.Ns mainGlobals mg) {f : Addr} {od an : Option Addr} {sl : Array (Option Value)} {oc kV dc pm cd ct : Value}
    (a : PySem.W.nsIn K mainGlobals "givers" = some (some (.ref f))) (l : K.lookup f = some ⟨oc, od, .func (PySem.W.fnOf "givers" "givers" (defArgs (top 4)) (defBody (top 4)) (defScope (top 4)) .none kV dc pm an cd ct), sl⟩)
    (c : PySem.W.codeIn K cd "givers" = true) (k : PySem.W.keepIn K (.ref f) = true) : DefOk K mg Pr funs "givers" :=
  ⟨top 4, f, oc, kV, dc, pm, cd, ct, od, an, sl, N_givers, ["net", "place"], d_givers, 40, l, c, k, PySem.W.mg_of X G a, s_givers, (fun us hl => match us, hl with | [_, _], _ => rfl), p_givers, rfl, rfl, m_givers⟩
theorem m_sides : all2 (mS 40 ⟨N_sides, defScope (top 6), funs, fun _ => true⟩) (defBody (top 6)) d_sides.body = true := by decide +kernel
theorem s_sides : FnScope N_sides ["net", "place"] (defScope (top 6)) := ⟨rfl, rfl, rfl, by decide +kernel, rfl, by decide +kernel, by decide +kernel⟩
theorem o_sides {K : PySem.W.Frag} {h : Heap} {mg : Str → Option Value} (X : K.In h) (G : h.Ns mainGlobals mg) {f : Addr} {od an : Option Addr} {sl : Array (Option Value)} {oc kV dc pm cd ct : Value}
    (a : PySem.W.nsIn K mainGlobals "sides" = some (some (.ref f))) (l : K.lookup f = some ⟨oc, od, .func (PySem.W.fnOf "sides" "sides" (defArgs (top 6)) (defBody (top 6)) (defScope (top 6)) .none kV dc pm an cd ct), sl⟩)
    (c : PySem.W.codeIn K cd "sides" = true) (k : PySem.W.keepIn K (.ref f) = true) : DefOk K mg Pr funs "sides" :=
  ⟨top 6, f, oc, kV, dc, pm, cd, ct, od, an, sl, N_sides, ["net", "place"], d_sides, 40, l, c, k, PySem.W.mg_of X G a, s_sides, (fun us hl => match us, hl with | [_, _], _ => rfl), p_sides, rfl, rfl, m_sides⟩
theorem m_empty_places : all2 (mS 40 ⟨N_empty_places, defScope (top 7), funs, fun _ => true⟩) (defBody (top 7)) d_empty_places.body = true := by decide +kernel
theorem s_empty_places : FnScope N_empty_places ["net", "marking"] (defScope (top 7)) := ⟨rfl, rfl, rfl, by decide +kernel, rfl, by decide +kernel, by decide +kernel⟩
theorem o_empty_places {K : PySem.W.Frag} {h : Heap} {mg : Str → Option Value} (X : K.In h) (G : h.Ns mainGlobals mg) {f : Addr} {od an : Option Addr} {sl : Array (Option Value)} {oc kV dc pm cd ct : Value}
    (a : PySem.W.nsIn K mainGlobals "empty_places" = some (some (.ref f))) (l : K.lookup f = some ⟨oc, od, .func (PySem.W.fnOf "empty_places" "empty_places" (defArgs (top 7)) (defBody (top 7)) (defScope (top 7)) .none kV dc pm an cd ct), sl⟩)
    (c : PySem.W.codeIn K cd "empty_places" = true) (k : PySem.W.keepIn K (.ref f) = true) : DefOk K mg Pr funs "empty_places" :=
  ⟨top 7, f, oc, kV, dc, pm, cd, ct, od, an, sl, N_empty_places, ["net", "marking"], d_empty_places, 40, l, c, k, PySem.W.mg_of X G a, s_empty_places, (fun us hl => match us, hl with | [_, _], _ => rfl), p_empty_places, rfl, rfl, m_empty_places⟩
theorem m_sequence : all2 (mS 40 ⟨N_sequence, defScope (top 8), funs, fun _ => true⟩) (defBody (top 8)) d_sequence.body = true := by decide +kernel
theorem s_sequence : FnScope N_sequence ["net", "marking"] (defScope (top 8)) := ⟨rfl, rfl, rfl, by decide +kernel, rfl, by decide +kernel, by decide +kernel⟩
theorem o_sequence {K : PySem.W.Frag} {h : Heap} {mg : Str → Option Value} (X : K.In h) (G : h.Ns mainGlobals mg) {f : Addr} {od an : Option Addr} {sl : Array (Option Value)} {oc kV dc pm cd ct : Value}
    (a : PySem.W.nsIn K mainGlobals "sequence" = some (some (.ref f))) (l : K.lookup f = some ⟨oc, od, .func (PySem.W.fnOf "sequence" "sequence" (defArgs (top 8)) (defBody (top 8)) (defScope (top 8)) .none kV dc pm an cd ct), sl⟩)
    (c : PySem.W.codeIn K cd "sequence" = true) (k : PySem.W.keepIn K (.ref f) = true) : DefOk K mg Pr funs "sequence" :=
  ⟨top 8, f, oc, kV, dc, pm, cd, ct, od, an, sl, N_sequence, ["net", "marking"], d_sequence, 40, l, c, k, PySem.W.mg_of X G a, s_sequence, (fun us hl => match us, hl with | [_, _], _ => rfl), p_sequence, rfl, rfl, m_sequence⟩
theorem m_begin_table : all2 (mS 40 ⟨N_begin_table, defScope (top 10), funs, fun _ => true⟩) (defBody (top 10)) d_begin_table.body = true := by decide +kernel
theorem s_begin_table : FnScope N_begin_table ["net", "marking", "times", "many"] (defScope (top 10)) := ⟨rfl, rfl, rfl, by decide +kernel, rfl, by decide +kernel, by decide +kernel⟩
theorem o_begin_table {K : PySem.W.Frag} {h : Heap} {mg : Str → Option Value} (X : K.In h) (G : h.Ns mainGlobals mg) {f : Addr} {od an : Option Addr} {sl : Array (Option Value)} {oc kV dc pm cd ct : Value}
    (a : PySem.W.nsIn K mainGlobals "begin_table" = some (some (.ref f))) (l : K.lookup f = some ⟨oc, od, .func (PySem.W.fnOf "begin_table" "begin_table" (defArgs (top 10)) (defBody (top 10)) (defScope (top 10)) .none kV dc pm an cd ct), sl⟩)
    (c : PySem.W.codeIn K cd "begin_table" = true) (k : PySem.W.keepIn K (.ref f) = true) : DefOk K mg Pr funs "begin_table" :=
  ⟨top 10, f, oc, kV, dc, pm, cd, ct, od, an, sl, N_begin_table, ["net", "marking", "times", "many"], d_begin_table, 40, l, c, k, PySem.W.mg_of X G a, s_begin_table, (fun us hl => match us, hl with | [_, _, _, _], _ => rfl), p_begin_table, rfl, rfl, m_begin_table⟩
theorem m_begin_rows : all2 (mS 40 ⟨N_begin_rows, defScope (top 11), funs, fun _ => true⟩) (defBody (top 11)) d_begin_rows.body = true := by decide +kernel
theorem s_begin_rows : FnScope N_begin_rows ["net", "marking", "times", "k"] (defScope (top 11)) := ⟨rfl, rfl, rfl, by decide +kernel, rfl, by decide +kernel, by decide +kernel⟩
theorem o_begin_rows {K : PySem.W.Frag} {h : Heap} {mg : Str → Option Value} (X : K.In h) (G : h.Ns mainGlobals mg) {f : Addr} {od an : Option Addr} {sl : Array (Option Value)} {oc kV dc pm cd ct : Value}
    (a : PySem.W.nsIn K mainGlobals "begin_rows" = some (some (.ref f))) (l : K.lookup f = some ⟨oc, od, .func (PySem.W.fnOf "begin_rows" "begin_rows" (defArgs (top 11)) (defBody (top 11)) (defScope (top 11)) .none kV dc pm an cd ct), sl⟩)
    (c : PySem.W.codeIn K cd "begin_rows" = true) (k : PySem.W.keepIn K (.ref f) = true) : DefOk K mg Pr funs "begin_rows" :=
  ⟨top 11, f, oc, kV, dc, pm, cd, ct, od, an, sl, N_begin_rows, ["net", "marking", "times", "k"], d_begin_rows, 40, l, c, k, PySem.W.mg_of X G a, s_begin_rows, (fun us hl => match us, hl with | [_, _, _, _], _ => rfl), p_begin_rows, rfl, rfl, m_begin_rows⟩
theorem m_soon_run : all2 (mS 40 ⟨N_soon_run, defScope (top 12), funs, fun _ => true⟩) (defBody (top 12)) d_soon_run.body = true := by decide +kernel
theorem s_soon_run : FnScope N_soon_run ["net", "marking", "times", "until"] (defScope (top 12)) := ⟨rfl, rfl, rfl, by decide +kernel, rfl, by decide +kernel, by decide +kernel⟩
theorem o_soon_run {K : PySem.W.Frag} {h : Heap} {mg : Str → Option Value} (X : K.In h) (G : h.Ns mainGlobals mg) {f : Addr} {od an : Option Addr} {sl : Array (Option Value)} {oc kV dc pm cd ct : Value}
    (a : PySem.W.nsIn K mainGlobals "soon_run" = some (some (.ref f))) (l : K.lookup f = some ⟨oc, od, .func (PySem.W.fnOf "soon_run" "soon_run" (defArgs (top 12)) (defBody (top 12)) (defScope (top 12)) .none kV dc pm an cd ct), sl⟩)
    (c : PySem.W.codeIn K cd "soon_run" = true) (k : PySem.W.keepIn K (.ref f) = true) : DefOk K mg Pr funs "soon_run" :=
  ⟨top 12, f, oc, kV, dc, pm, cd, ct, od, an, sl, N_soon_run, ["net", "marking", "times", "until"], d_soon_run, 40, l, c, k, PySem.W.mg_of X G a, s_soon_run, (fun us hl => match us, hl with | [_, _, _, _], _ => rfl), p_soon_run, rfl, rfl, m_soon_run⟩
theorem m__law_source : all2 (mS 40 ⟨N__law_source, defScope (top 14), funs, fun _ => true⟩) (defBody (top 14)) d__law_source.body = true := by decide +kernel
theorem s__law_source : FnScope N__law_source ["script"] (defScope (top 14)) := ⟨rfl, rfl, rfl, by decide +kernel, rfl, by decide +kernel, by decide +kernel⟩
theorem o__law_source {K : PySem.W.Frag} {h : Heap} {mg : Str → Option Value} (X : K.In h) (G : h.Ns mainGlobals mg) {f : Addr} {od an : Option Addr} {sl : Array (Option Value)} {oc kV dc pm cd ct : Value}
    (a : PySem.W.nsIn K mainGlobals "_law_source" = some (some (.ref f))) (l : K.lookup f = some ⟨oc, od, .func (PySem.W.fnOf "_law_source" "_law_source" (defArgs (top 14)) (defBody (top 14)) (defScope (top 14)) .none kV dc pm an cd ct), sl⟩)
    (c : PySem.W.codeIn K cd "_law_source" = true) (k : PySem.W.keepIn K (.ref f) = true) : DefOk K mg Pr funs "_law_source" :=
  ⟨top 14, f, oc, kV, dc, pm, cd, ct, od, an, sl, N__law_source, ["script"], d__law_source, 40, l, c, k, PySem.W.mg_of X G a, s__law_source, (fun us hl => match us, hl with | [_], _ => rfl), p__law_source, rfl, rfl, m__law_source⟩
theorem m__law_pick : all2 (mS 40 ⟨N__law_pick, defScope (top 15), funs, fun _ => true⟩) (defBody (top 15)) d__law_pick.body = true := by decide +kernel
theorem s__law_pick : FnScope N__law_pick ["source", "many"] (defScope (top 15)) := ⟨rfl, rfl, rfl, by decide +kernel, rfl, by decide +kernel, by decide +kernel⟩
theorem o__law_pick {K : PySem.W.Frag} {h : Heap} {mg : Str → Option Value} (X : K.In h) (G : h.Ns mainGlobals mg) {f : Addr} {od an : Option Addr} {sl : Array (Option Value)} {oc kV dc pm cd ct : Value}
    (a : PySem.W.nsIn K mainGlobals "_law_pick" = some (some (.ref f))) (l : K.lookup f = some ⟨oc, od, .func (PySem.W.fnOf "_law_pick" "_law_pick" (defArgs (top 15)) (defBody (top 15)) (defScope (top 15)) .none kV dc pm an cd ct), sl⟩)
    (c : PySem.W.codeIn K cd "_law_pick" = true) (k : PySem.W.keepIn K (.ref f) = true) : DefOk K mg Pr funs "_law_pick" :=
  ⟨top 15, f, oc, kV, dc, pm, cd, ct, od, an, sl, N__law_pick, ["source", "many"], d__law_pick, 40, l, c, k, PySem.W.mg_of X G a, s__law_pick, (fun us hl => match us, hl with | [_, _], _ => rfl), p__law_pick, rfl, rfl, m__law_pick⟩
theorem m__law_of : all2 (mS 40 ⟨N__law_of, defScope (top 16), funs, fun _ => true⟩) (defBody (top 16)) d__law_of.body = true := by decide +kernel
theorem s__law_of : FnScope N__law_of ["source", "some"] (defScope (top 16)) := ⟨rfl, rfl, rfl, by decide +kernel, rfl, by decide +kernel, by decide +kernel⟩
theorem o__law_of {K : PySem.W.Frag} {h : Heap} {mg : Str → Option Value} (X : K.In h) (G : h.Ns mainGlobals mg) {f : Addr} {od an : Option Addr} {sl : Array (Option Value)} {oc kV dc pm cd ct : Value}
    (a : PySem.W.nsIn K mainGlobals "_law_of" = some (some (.ref f))) (l : K.lookup f = some ⟨oc, od, .func (PySem.W.fnOf "_law_of" "_law_of" (defArgs (top 16)) (defBody (top 16)) (defScope (top 16)) .none kV dc pm an cd ct), sl⟩)
    (c : PySem.W.codeIn K cd "_law_of" = true) (k : PySem.W.keepIn K (.ref f) = true) : DefOk K mg Pr funs "_law_of" :=
  ⟨top 16, f, oc, kV, dc, pm, cd, ct, od, an, sl, N__law_of, ["source", "some"], d__law_of, 40, l, c, k, PySem.W.mg_of X G a, s__law_of, (fun us hl => match us, hl with | [_, _], _ => rfl), p__law_of, rfl, rfl, m__law_of⟩
theorem m__law_mixed : all2 (mS 40 ⟨N__law_mixed, defScope (top 17), funs, fun _ => true⟩) (defBody (top 17)) d__law_mixed.body = true := by decide +kernel
theorem s__law_mixed : FnScope N__law_mixed ["source", "things"] (defScope (top 17)) := ⟨rfl, rfl, rfl, by decide +kernel, rfl, by decide +kernel, by decide +kernel⟩
theorem o__law_mixed {K : PySem.W.Frag} {h : Heap} {mg : Str → Option Value} (X : K.In h) (G : h.Ns mainGlobals mg) {f : Addr} {od an : Option Addr} {sl : Array (Option Value)} {oc kV dc pm cd ct : Value}
    (a : PySem.W.nsIn K mainGlobals "_law_mixed" = some (some (.ref f))) (l : K.lookup f = some ⟨oc, od, .func (PySem.W.fnOf "_law_mixed" "_law_mixed" (defArgs (top 17)) (defBody (top 17)) (defScope (top 17)) .none kV dc pm an cd ct), sl⟩)
    (c : PySem.W.codeIn K cd "_law_mixed" = true) (k : PySem.W.keepIn K (.ref f) = true) : DefOk K mg Pr funs "_law_mixed" :=
  ⟨top 17, f, oc, kV, dc, pm, cd, ct, od, an, sl, N__law_mixed, ["source", "things"], d__law_mixed, 40, l, c, k, PySem.W.mg_of X G a, s__law_mixed, (fun us hl => match us, hl with | [_, _], _ => rfl), p__law_mixed, rfl, rfl, m__law_mixed⟩
theorem m__law_ring_net : all2 (mS 40 ⟨N__law_ring_net, defScope (top 18), funs, fun _ => true⟩) (defBody (top 18)) d__law_ring_net.body = true := by decide +kernel
theorem s__law_ring_net : FnScope N__law_ring_net ["source", "most", "tokens"] (defScope (top 18)) := ⟨rfl, rfl, rfl, by decide +kernel, rfl, by decide +kernel, by decide +kernel⟩
theorem o__law_ring_net {K : PySem.W.Frag} {h : Heap} {mg : Str → Option Value} (X : K.In h) (G : h.Ns mainGlobals mg) {f : Addr} {od an : Option Addr} {sl : Array (Option Value)} {oc kV dc pm cd ct : Value}
    (a : PySem.W.nsIn K mainGlobals "_law_ring_net" = some (some (.ref f))) (l : K.lookup f = some ⟨oc, od, .func (PySem.W.fnOf "_law_ring_net" "_law_ring_net" (defArgs (top 18)) (defBody (top 18)) (defScope (top 18)) .none kV dc pm an cd ct), sl⟩)
    (c : PySem.W.codeIn K cd "_law_ring_net" = true) (k : PySem.W.keepIn K (.ref f) = true) : DefOk K mg Pr funs "_law_ring_net" :=
  ⟨top 18, f, oc, kV, dc, pm, cd, ct, od, an, sl, N__law_ring_net, ["source", "most", "tokens"], d__law_ring_net, 40, l, c, k, PySem.W.mg_of X G a, s__law_ring_net, (fun us hl => match us, hl with | [_, _, _], _ => rfl), p__law_ring_net, rfl, rfl, m__law_ring_net⟩
theorem m__law_times : all2 (mS 40 ⟨N__law_times, defScope (top 19), funs, fun _ => true⟩) (defBody (top 19)) d__law_times.body = true := by decide +kernel
theorem s__law_times : FnScope N__law_times ["source", "n", "most"] (defScope (top 19)) := ⟨rfl, rfl, rfl, by decide +kernel, rfl, by decide +kernel, by decide +kernel⟩
theorem o__law_times {K : PySem.W.Frag} {h : Heap} {mg : Str → Option Value} (X : K.In h) (G : h.Ns mainGlobals mg) {f : Addr} {od an : Option Addr} {sl : Array (Option Value)} {oc kV dc pm cd ct : Value}
    (a : PySem.W.nsIn K mainGlobals "_law_times" = some (some (.ref f))) (l : K.lookup f = some ⟨oc, od, .func (PySem.W.fnOf "_law_times" "_law_times" (defArgs (top 19)) (defBody (top 19)) (defScope (top 19)) .none kV dc pm an cd ct), sl⟩)
    (c : PySem.W.codeIn K cd "_law_times" = true) (k : PySem.W.keepIn K (.ref f) = true) : DefOk K mg Pr funs "_law_times" :=
  ⟨top 19, f, oc, kV, dc, pm, cd, ct, od, an, sl, N__law_times, ["source", "n", "most"], d__law_times, 40, l, c, k, PySem.W.mg_of X G a, s__law_times, (fun us hl => match us, hl with | [_, _, _], _ => rfl), p__law_times, rfl, rfl, m__law_times⟩
theorem m__law_begins : all2 (mS 40 ⟨N__law_begins, defScope (top 20), funs, fun _ => true⟩) (defBody (top 20)) d__law_begins.body = true := by decide +kernel
theorem s__law_begins : FnScope N__law_begins ["pairs", "marking", "times", "many"] (defScope (top 20)) := ⟨rfl, rfl, rfl, by decide +kernel, rfl, by decide +kernel, by decide +kernel⟩
theorem o__law_begins {K : PySem.W.Frag} {h : Heap} {mg : Str → Option Value} (X : K.In h) (G : h.Ns mainGlobals mg) {f : Addr} {od an : Option Addr} {sl : Array (Option Value)} {oc kV dc pm cd ct : Value}
    (a : PySem.W.nsIn K mainGlobals "_law_begins" = some (some (.ref f))) (l : K.lookup f = some ⟨oc, od, .func (PySem.W.fnOf "_law_begins" "_law_begins" (defArgs (top 20)) (defBody (top 20)) (defScope (top 20)) .none kV dc pm an cd ct), sl⟩)
    (c : PySem.W.codeIn K cd "_law_begins" = true) (k : PySem.W.keepIn K (.ref f) = true) : DefOk K mg Pr funs "_law_begins" :=
  ⟨top 20, f, oc, kV, dc, pm, cd, ct, od, an, sl, N__law_begins, ["pairs", "marking", "times", "many"], d__law_begins, 40, l, c, k, PySem.W.mg_of X G a, s__law_begins, (fun us hl => match us, hl with | [_, _, _, _], _ => rfl), p__law_begins, rfl, rfl, m__law_begins⟩
theorem m__law_is_run : all2 (mS 40 ⟨N__law_is_run, defScope (top 21), funs, fun _ => true⟩) (defBody (top 21)) d__law_is_run.body = true := by decide +kernel
theorem s__law_is_run : FnScope N__law_is_run ["pairs", "marking", "row"] (defScope (top 21)) := ⟨rfl, rfl, rfl, by decide +kernel, rfl, by decide +kernel, by decide +kernel⟩
theorem o__law_is_run {K : PySem.W.Frag} {h : Heap} {mg : Str → Option Value} (X : K.In h) (G : h.Ns mainGlobals mg) {f : Addr} {od an : Option Addr} {sl : Array (Option Value)} {oc kV dc pm cd ct : Value}
    (a : PySem.W.nsIn K mainGlobals "_law_is_run" = some (some (.ref f))) (l : K.lookup f = some ⟨oc, od, .func (PySem.W.fnOf "_law_is_run" "_law_is_run" (defArgs (top 21)) (defBody (top 21)) (defScope (top 21)) .none kV dc pm an cd ct), sl⟩)
    (c : PySem.W.codeIn K cd "_law_is_run" = true) (k : PySem.W.keepIn K (.ref f) = true) : DefOk K mg Pr funs "_law_is_run" :=
  ⟨top 21, f, oc, kV, dc, pm, cd, ct, od, an, sl, N__law_is_run, ["pairs", "marking", "row"], d__law_is_run, 40, l, c, k, PySem.W.mg_of X G a, s__law_is_run, (fun us hl => match us, hl with | [_, _, _], _ => rfl), p__law_is_run, rfl, rfl, m__law_is_run⟩
theorem m__law_let_plan : all2 (mS 40 ⟨N__law_let_plan, defScope (top 22), funs, fun _ => true⟩) (defBody (top 22)) d__law_let_plan.body = true := by decide +kernel
theorem s__law_let_plan : FnScope N__law_let_plan ["source", "pairs", "marking", "times", "many"] (defScope (top 22)) := ⟨rfl, rfl, rfl, by decide +kernel, rfl, by decide +kernel, by decide +kernel⟩
theorem o__law_let_plan {K : PySem.W.Frag} {h : Heap} {mg : Str → Option Value} (X : K.In h) (G : h.Ns mainGlobals mg) {f : Addr} {od an : Option Addr} {sl : Array (Option Value)} {oc kV dc pm cd ct : Value}
    (a : PySem.W.nsIn K mainGlobals "_law_let_plan" = some (some (.ref f))) (l : K.lookup f = some ⟨oc, od, .func (PySem.W.fnOf "_law_let_plan" "_law_let_plan" (defArgs (top 22)) (defBody (top 22)) (defScope (top 22)) .none kV dc pm an cd ct), sl⟩)
    (c : PySem.W.codeIn K cd "_law_let_plan" = true) (k : PySem.W.keepIn K (.ref f) = true) : DefOk K mg Pr funs "_law_let_plan" :=
  ⟨top 22, f, oc, kV, dc, pm, cd, ct, od, an, sl, N__law_let_plan, ["source", "pairs", "marking", "times", "many"], d__law_let_plan, 40, l, c, k, PySem.W.mg_of X G a, s__law_let_plan, (fun us hl => match us, hl with | [_, _, _, _, _], _ => rfl), p__law_let_plan, rfl, rfl, m__law_let_plan⟩
theorem m_law : all2 (mS 40 ⟨N_law, defScope (top 23), funs, fun _ => true⟩) (defBody (top 23)) d_law.body = true := by decide +kernel
theorem s_law : FnScope N_law ["script"] (defScope (top 23)) := ⟨rfl, rfl, rfl, by decide +kernel, rfl, by decide +kernel, by decide +kernel⟩
theorem o_law {K : PySem.W.Frag} {h : Heap} {mg : Str → Option Value} (X : K.In h) (G : h.Ns mainGlobals mg) {f : Addr} {od an : Option Addr} {sl : Array (Option Value)} {oc kV dc pm cd ct : Value}
    (a : PySem.W.nsIn K mainGlobals "law" = some (some (.ref f))) (l : K.lookup f = some ⟨oc, od, .func (PySem.W.fnOf "law" "law" (defArgs (top 23)) (defBody (top 23)) (defScope (top 23)) .none kV dc pm an cd ct), sl⟩)
    (c : PySem.W.codeIn K cd "law" = true) (k : PySem.W.keepIn K (.ref f) = true) : DefOk K mg Pr funs "law" :=
  ⟨top 23, f, oc, kV, dc, pm, cd, ct, od, an, sl, N_law, ["script"], d_law, 40, l, c, k, PySem.W.mg_of X G a, s_law, (fun us hl => match us, hl with | [_], _ => rfl), p_law, rfl, rfl, m_law⟩
theorem no_bi {K : PySem.W.Frag} {h : Heap} {mg : Str → Option Value} (X : K.In h) (G : h.Ns mainGlobals mg) (z1 : PySem.W.nsIn K mainGlobals "len" = some none) (z2 : PySem.W.nsIn K mainGlobals "abs" = some none) (z3 : PySem.W.nsIn K mainGlobals "int" = some none) (z4 : PySem.W.nsIn K mainGlobals "str" = some none) (z5 : PySem.W.nsIn K mainGlobals "repr" = some none) (z6 : PySem.W.nsIn K mainGlobals "tuple" = some none) (z7 : PySem.W.nsIn K mainGlobals "list" = some none) (z8 : PySem.W.nsIn K mainGlobals "sorted" = some none) (z9 : PySem.W.nsIn K mainGlobals "sum" = some none) (z10 : PySem.W.nsIn K mainGlobals "max" = some none) (z11 : PySem.W.nsIn K mainGlobals "min" = some none) (z12 : PySem.W.nsIn K mainGlobals "all" = some none) (z13 : PySem.W.nsIn K mainGlobals "any" = some none) (z14 : PySem.W.nsIn K mainGlobals "dict" = some none) (z15 : PySem.W.nsIn K mainGlobals "range" = some none) (z16 : PySem.W.nsIn K mainGlobals "enumerate" = some none) (z17 : PySem.W.nsIn K mainGlobals "zip" = some none) (z18 : PySem.W.nsIn K mainGlobals "isinstance" = some none) (z19 : PySem.W.nsIn K mainGlobals "bool" = some none) : ∀ x, x ∈ bNames → mg x = none :=
  List.forall_mem_cons.mpr ⟨PySem.W.mg_none_of X G z1, List.forall_mem_cons.mpr ⟨PySem.W.mg_none_of X G z2, List.forall_mem_cons.mpr ⟨PySem.W.mg_none_of X G z3, List.forall_mem_cons.mpr ⟨PySem.W.mg_none_of X G z4, List.forall_mem_cons.mpr ⟨PySem.W.mg_none_of X G z5, List.forall_mem_cons.mpr ⟨PySem.W.mg_none_of X G z6, List.forall_mem_cons.mpr ⟨PySem.W.mg_none_of X G z7, List.forall_mem_cons.mpr ⟨PySem.W.mg_none_of X G z8, List.forall_mem_cons.mpr ⟨PySem.W.mg_none_of X G z9, List.forall_mem_cons.mpr ⟨PySem.W.mg_none_of X G z10, List.forall_mem_cons.mpr ⟨PySem.W.mg_none_of X G z11, List.forall_mem_cons.mpr ⟨PySem.W.mg_none_of X G z12, List.forall_mem_cons.mpr ⟨PySem.W.mg_none_of X G z13, List.forall_mem_cons.mpr ⟨PySem.W.mg_none_of X G z14, List.forall_mem_cons.mpr ⟨PySem.W.mg_none_of X G z15, List.forall_mem_cons.mpr ⟨PySem.W.mg_none_of X G z16, List.forall_mem_cons.mpr ⟨PySem.W.mg_none_of X G z17, List.forall_mem_cons.mpr ⟨PySem.W.mg_none_of X G z18, List.forall_mem_cons.mpr ⟨PySem.W.mg_none_of X G z19, List.forall_mem_nil _⟩⟩⟩⟩⟩⟩⟩⟩⟩⟩⟩⟩⟩⟩⟩⟩⟩⟩⟩
end Wk92



set_option Elab.async false
set_option linter.all false
set_option maxRecDepth 100000
/-! law k92: the end (printed by gen.py) -/
open PySem PySem.W PyProof.Rows
set_option maxRecDepth 100000 in
set_option maxHeartbeats 0 in
theorem PySem.Challenge.cw_wholetokens_k92_whole_beginnings_as_runs_holds : PySem.Challenge.rw_wholetokens_k92_whole_beginnings_as_runs.Holds := by
  w_on; o_law; k_head; (case hw => w_witness2)
  k_fill
  refine WT.walk (l := PySem.Challenge.rw_wholetokens_k92_whole_beginnings_as_runs) (k := 20) (n := 63) (Pr := Wk92.Pr) (funs := Wk92.funs) rfl (by decide) rfl ⟨rfl, by decide, by decide⟩ rfl (by decide +kernel) ⟨_, Wk92.p_law, rfl⟩ (fun w h Y => PySem.W.kIn_of Y) ?mgB ?all Wk92.law_ok
  case mgB =>
    intro w mg h KX G
    refine' Wk92.no_bi KX G ?z1 ?z2 ?z3 ?z4 ?z5 ?z6 ?z7 ?z8 ?z9 ?z10 ?z11 ?z12 ?z13 ?z14 ?z15 ?z16 ?z17 ?z18 ?z19
    (case z1 => k_is); (case z2 => k_is); (case z3 => k_is); (case z4 => k_is); (case z5 => k_is); (case z6 => k_is); (case z7 => k_is); (case z8 => k_is); (case z9 => k_is); (case z10 => k_is); (case z11 => k_is); (case z12 => k_is); (case z13 => k_is); (case z14 => k_is); (case z15 => k_is); (case z16 => k_is); (case z17 => k_is); (case z18 => k_is); (case z19 => k_is)
  case all =>
    intro w mg h KX G
    refine' List.forall_mem_cons.mpr ⟨Wk92.o_places_ahead KX G ?a1 ?l1 ?c1 ?k1, List.forall_mem_cons.mpr ⟨Wk92.o_takers KX G ?a2 ?l2 ?c2 ?k2, List.forall_mem_cons.mpr ⟨Wk92.o_givers KX G ?a3 ?l3 ?c3 ?k3, List.forall_mem_cons.mpr ⟨Wk92.o_sides KX G ?a4 ?l4 ?c4 ?k4, List.forall_mem_cons.mpr ⟨Wk92.o_empty_places KX G ?a5 ?l5 ?c5 ?k5, List.forall_mem_cons.mpr ⟨Wk92.o_sequence KX G ?a6 ?l6 ?c6 ?k6, List.forall_mem_cons.mpr ⟨Wk92.o_begin_table KX G ?a7 ?l7 ?c7 ?k7, List.forall_mem_cons.mpr ⟨Wk92.o_begin_rows KX G ?a8 ?l8 ?c8 ?k8, List.forall_mem_cons.mpr ⟨Wk92.o_soon_run KX G ?a9 ?l9 ?c9 ?k9, List.forall_mem_cons.mpr ⟨Wk92.o__law_source KX G ?a10 ?l10 ?c10 ?k10, List.forall_mem_cons.mpr ⟨Wk92.o__law_pick KX G ?a11 ?l11 ?c11 ?k11, List.forall_mem_cons.mpr ⟨Wk92.o__law_of KX G ?a12 ?l12 ?c12 ?k12, List.forall_mem_cons.mpr ⟨Wk92.o__law_mixed KX G ?a13 ?l13 ?c13 ?k13, List.forall_mem_cons.mpr ⟨Wk92.o__law_ring_net KX G ?a14 ?l14 ?c14 ?k14, List.forall_mem_cons.mpr ⟨Wk92.o__law_times KX G ?a15 ?l15 ?c15 ?k15, List.forall_mem_cons.mpr ⟨Wk92.o__law_begins KX G ?a16 ?l16 ?c16 ?k16, List.forall_mem_cons.mpr ⟨Wk92.o__law_is_run KX G ?a17 ?l17 ?c17 ?k17, List.forall_mem_cons.mpr ⟨Wk92.o__law_let_plan KX G ?a18 ?l18 ?c18 ?k18, List.forall_mem_cons.mpr ⟨Wk92.o_law KX G ?a19 ?l19 ?c19 ?k19, List.forall_mem_nil _⟩⟩⟩⟩⟩⟩⟩⟩⟩⟩⟩⟩⟩⟩⟩⟩⟩⟩⟩
    (case a1 => k_is); (case l1 => k_is); (case c1 => k_is); (case k1 => k_is)
    (case a2 => k_is); (case l2 => k_is); (case c2 => k_is); (case k2 => k_is)
    (case a3 => k_is); (case l3 => k_is); (case c3 => k_is); (case k3 => k_is)
    (case a4 => k_is); (case l4 => k_is); (case c4 => k_is); (case k4 => k_is)
    (case a5 => k_is); (case l5 => k_is); (case c5 => k_is); (case k5 => k_is)
    (case a6 => k_is); (case l6 => k_is); (case c6 => k_is); (case k6 => k_is)
    (case a7 => k_is); (case l7 => k_is); (case c7 => k_is); (case k7 => k_is)
    (case a8 => k_is); (case l8 => k_is); (case c8 => k_is); (case k8 => k_is)
    (case a9 => k_is); (case l9 => k_is); (case c9 => k_is); (case k9 => k_is)
    (case a10 => k_is); (case l10 => k_is); (case c10 => k_is); (case k10 => k_is)
    (case a11 => k_is); (case l11 => k_is); (case c11 => k_is); (case k11 => k_is)
    (case a12 => k_is); (case l12 => k_is); (case c12 => k_is); (case k12 => k_is)
    (case a13 => k_is); (case l13 => k_is); (case c13 => k_is); (case k13 => k_is)
    (case a14 => k_is); (case l14 => k_is); (case c14 => k_is); (case k14 => k_is)
    (case a15 => k_is); (case l15 => k_is); (case c15 => k_is); (case k15 => k_is)
    (case a16 => k_is); (case l16 => k_is); (case c16 => k_is); (case k16 => k_is)
    (case a17 => k_is); (case l17 => k_is); (case c17 => k_is); (case k17 => k_is)
    (case a18 => k_is); (case l18 => k_is); (case c18 => k_is); (case k18 => k_is)
    (case a19 => k_is); (case l19 => k_is); (case c19 => k_is); (case k19 => k_is)
