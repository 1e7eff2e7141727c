import PyProof.Rows.All
import Wide.All
import OpenK.AllK
import Wide.FinOn
import KE.DataMinMax
import HandS.ForMost
import HandS.Exc
import HandS.TupAny
import HandS.Wide
import HandS.Deep
import HandS.TupLe
import HandS.SetFor
import HandS.IsInst
import HandS.Text
import HandS.SortInts
import KE.SortData
import HandS.CallSlots
import HandS.Zip
import HandS.Nested
import KE.KStateDown
import HandS.Ends
import HandS.More
import HandS.Words
import HandS.WordsExc
import HandS.Defaults
import HandS.Head0
import HandS.Head1
import HandS.Head2
import HandS.HeadEnd
import HandS.HeadHook1
import HandS.HeadHook2
import PySem.Challenge.RW_anyfloors_k05_longest_waits_and_empty_wa
set_option Elab.async false
set_option linter.all false
set_option maxRecDepth 100000
/-! Core: a small language, its values, its evaluator (plain Lean). -/
namespace AF
open PySem

/-- values: data, the script, a reference into the store, a global def or class, a caught exception -/
inductive D where
  | non | bl (b : Bool) | int (i : Int) | str (x : List Nat) | tup (l : List D) | lst (l : List D)
  | scr (ns : List Int) | ref (n : Nat) | glo (n : Nat) | exn (c : Nat) (fs : List D)
deriving Inhabited
/-- objects of the store -/
inductive Ob where
  | lst (l : List D)
  | ins (c : Nat) (fs : List (Nat × D))
abbrev Store := List Ob
/-- an exception: its class, what it carries -/
structure Ex where
  c : Nat
  fs : List D
inductive R (α : Type) where
  | ok (a : α) (st : Store)
  | exc (x : Ex) (st : Store)
  | bad
def R.bind {α β : Type} (r : R α) (f : α → Store → R β) : R β := match r with
  | .ok a st => f a st
  | .exc x st => .exc x st
  | .bad => .bad
@[simp] theorem R.bind_ok {α β : Type} (a : α) (st : Store) (f : α → Store → R β) : (R.ok a st).bind f = f a st := rfl
@[simp] theorem R.bind_exc {α β : Type} (x : Ex) (st : Store) (f : α → Store → R β) : (R.exc x st : R α).bind f = .exc x st := rfl
@[simp] theorem R.bind_bad {α β : Type} (f : α → Store → R β) : (R.bad : R α).bind f = .bad := rfl
abbrev Env := List (Option D)
inductive Fl where
  | next | brk | cont | ret (d : D)
inductive SR where
  | ok (f : Fl) (ρ : Env) (st : Store)
  | exc (x : Ex) (ρ : Env) (st : Store)
  | bad

/-! ### equality of values as a Bool (of lists that a loop walks) -/
mutual
def D.beq : D → D → Bool
  | .non, .non => true
  | .bl a, .bl b => a == b
  | .int a, .int b => a == b
  | .str a, .str b => a == b
  | .tup a, .tup b => D.beqs a b
  | .lst a, .lst b => D.beqs a b
  | .scr a, .scr b => a == b
  | .ref a, .ref b => a == b
  | .glo a, .glo b => a == b
  | .exn a x, .exn b y => a == b && D.beqs x y
  | _, _ => false
def D.beqs : List D → List D → Bool
  | [], [] => true
  | a :: x, b :: y => D.beq a b && D.beqs x y
  | _, _ => false
end
mutual
theorem D.beq_eq : ∀ {a b : D}, D.beq a b = true → a = b
  | .non, b, h => by cases b <;> simp [D.beq] at h ⊢
  | .bl _, b, h => by cases b <;> simp [D.beq] at h ⊢; exact h
  | .int _, b, h => by cases b <;> simp [D.beq] at h ⊢; exact h
  | .str _, b, h => by cases b <;> simp [D.beq] at h ⊢; exact h
  | .tup x, b, h => by cases b <;> simp [D.beq] at h ⊢; exact D.beqs_eq h
  | .lst x, b, h => by cases b <;> simp [D.beq] at h ⊢; exact D.beqs_eq h
  | .scr _, b, h => by cases b <;> simp [D.beq] at h ⊢; exact h
  | .ref _, b, h => by cases b <;> simp [D.beq] at h ⊢; exact h
  | .glo _, b, h => by cases b <;> simp [D.beq] at h ⊢; exact h
  | .exn _ x, b, h => by cases b <;> simp [D.beq] at h ⊢; exact ⟨h.1, D.beqs_eq h.2⟩
theorem D.beqs_eq : ∀ {a b : List D}, D.beqs a b = true → a = b
  | [], b, h => by cases b <;> simp [D.beqs] at h ⊢
  | x :: r, b, h => by
    cases b with
    | nil => simp [D.beqs] at h
    | cons y s =>
      simp [D.beqs] at h
      rw [D.beq_eq h.1, D.beqs_eq h.2]
end
mutual
theorem D.beq_refl : ∀ a : D, D.beq a a = true
  | .non => rfl
  | .bl b => by simp [D.beq]
  | .int _ => by simp [D.beq]
  | .str _ => by simp [D.beq]
  | .tup x => by simp [D.beq, D.beqs_refl x]
  | .lst x => by simp [D.beq, D.beqs_refl x]
  | .scr _ => by simp [D.beq]
  | .ref _ => by simp [D.beq]
  | .glo _ => by simp [D.beq]
  | .exn _ x => by simp [D.beq, D.beqs_refl x]
theorem D.beqs_refl : ∀ a : List D, D.beqs a a = true
  | [] => rfl
  | x :: r => by simp [D.beqs, D.beq_refl x, D.beqs_refl r]
end

/-! ### data of a value, for == and in -/
def optAll {α β : Type} (f : α → Option β) : List α → Option (List β)
  | [] => some []
  | a :: r => match f a with
    | some b => (match optAll f r with | some s => some (b :: s) | none => none)
    | none => none
def cpsOk (x : List Nat) : Bool := x.all fun c => decide (c < 0x110000)
def toStr (x : List Nat) : Str := ⟨x.toArray⟩
def py (st : Store) : Nat → D → Option PyData
  | 0, _ => none
  | k + 1, d => match d with
    | .non => some .none
    | .bl b => some (.bool b)
    | .int i => some (.int i)
    | .str x => if cpsOk x then some (.str (toStr x)) else none
    | .tup l => (optAll (py st k) l).map .tuple
    | .lst l => (optAll (py st k) l).map .list
    | .ref n => (match st[n]? with
      | some (.lst l) => (optAll (py st k) l).map .list
      | _ => none)
    | _ => none
theorem py_int (st : Store) (k : Nat) (i : Int) : py st (k + 1) (.int i) = some (.int i) := by rw [py]
theorem py_tup (st : Store) (k : Nat) (l : List D) : py st (k + 1) (.tup l) = (optAll (py st k) l).map .tuple := by rw [py]
theorem py_lst (st : Store) (k : Nat) (l : List D) : py st (k + 1) (.lst l) = (optAll (py st k) l).map .list := by rw [py]
theorem py_bl (st : Store) (k : Nat) (b : Bool) : py st (k + 1) (.bl b) = some (.bool b) := by rw [py]
theorem py_non (st : Store) (k : Nat) : py st (k + 1) .non = some .none := by rw [py]
theorem py_str (st : Store) (k : Nat) (x : List Nat) : py st (k + 1) (.str x) = if cpsOk x then some (.str (toStr x)) else none := by rw [py]
def PYN : Nat := 24
abbrev look (st : Store) (d : D) : Option PyData := py st PYN d
def eqD (st : Store) (a b : D) : Option Bool := match look st a, look st b with
  | some p, some q => some (PyData.eqv p q)
  | _, _ => none
/-- x in a list or tuple: the items as data -/
def inD (st : Store) (a b : D) : Option Bool := match look st a, look st b with
  | some p, some (.list qs) => some (qs.any fun z => PyData.eqv z p)
  | some p, some (.tuple qs) => some (qs.any fun z => PyData.eqv z p)
  | _, _ => none

/-! ### syntax -/
inductive BO where
  | add | sub | mul | fdiv | mod | pow
inductive CO where
  | eq | ne | lt | le | gt | ge | isin | notin | is_ | isnot
deriving DecidableEq
/-- built-in functions -/
inductive BF where
  | len | int | abs | min | max | sorted | tuple | list | all | any | str | bool
deriving DecidableEq
/-- built-in types for isinstance -/
inductive TY where
  | int | bool | str | tuple | list
deriving DecidableEq
/-- built-in methods -/
inductive BM where
  | append | count | index | join | split
deriving DecidableEq
inductive Tg where
  | name (i : Nat)
  | tup (ts : List Tg)
mutual
inductive E where
  | var (i : Nat)
  | non | bl (b : Bool) | int (i : Int) | str (x : List Nat)
  | con (i : Nat)
  | tup (es : Es) | lst (m : Bool) (es : Es)
  | bin (op : BO) (m : Bool) (a b : E)
  | neg (a : E) | not (a : E)
  | and (a b : E) | or (a b : E)
  | cmp (op : CO) (a b : E) | chn (op op' : CO) (a b c : E)
  | ite (c a b : E)
  | idx (a b : E) | slc (a : E) (lo hi : Oe)
  | call (f : Nat) (es : Es)
  | blt (f : BF) (m : Bool) (es : Es)
  | isi (t : TY) (a : E)
  | mth (f : BM) (a : E) (es : Es)
  | lc (m : Bool) (own : List Nat) (tg : Tg) (it : It) (c : Oe) (e : E)
  | lc2 (m : Bool) (own own1 : List Nat) (tg : Tg) (it : It) (tg1 : Tg) (it1 : It) (e : E)
inductive Es where
  | nil | cons (e : E) (es : Es)
inductive Oe where
  | none | some (e : E)
inductive It where
  | of (a : E) | rng1 (a : E) | rng2 (a b : E) | zip (a b : E) | enum (a : E)
end
mutual
inductive S where
  | asg (t : Tg) (e : E)
  | setI (a i e : E)
  | expr (e : E) | ret (e : E) | retN | pass | brk | cont
  | ite (c : E) (a b : Ss)
  | whl (c : E) (a : Ss)
  | for_ (tg : Tg) (it : It) (a : Ss)
  | rais (c : Nat) (es : Es)
inductive Ss where
  | nil | cons (s : S) (r : Ss)
end

/-! ### operations by values -/
def mkL (m : Bool) (l : List D) (st : Store) : R D := if m then .ok (.ref st.length) (st ++ [.lst l]) else .ok (.lst l) st
/-- a list's items -/
def lstOf (st : Store) : D → Option (List D)
  | .lst l => some l
  | .ref n => (match st[n]? with | some (.lst l) => some l | _ => none)
  | _ => none
def seqOf (st : Store) : D → Option (List D)
  | .tup l => some l
  | d => lstOf st d
def LIM : Nat := 1000000
def small64 (i : Int) : Bool := decide (-(2 ^ 64) < i) && decide (i < 2 ^ 64)
def bin (op : BO) (m : Bool) (a b : D) (st : Store) : R D := match op, a, b with
  | .add, .int i, .int j => .ok (.int (i + j)) st
  | .add, .str x, .str y => if x.length + y.length ≤ LIM then .ok (.str (x ++ y)) st else .bad
  | .add, .tup x, .tup y => if x.length + y.length ≤ LIM then .ok (.tup (x ++ y)) st else .bad
  | .add, .lst x, .lst y => if x.length + y.length ≤ LIM then mkL m (x ++ y) st else .bad
  | .add, .lst x, .ref q => (match lstOf st (.ref q) with
    | some y => if x.length + y.length ≤ LIM then mkL m (x ++ y) st else .bad
    | none => .bad)
  | .add, .ref p, .lst y => (match lstOf st (.ref p) with
    | some x => if x.length + y.length ≤ LIM then mkL m (x ++ y) st else .bad
    | none => .bad)
  | .add, .ref p, .ref q => (match lstOf st (.ref p), lstOf st (.ref q) with
    | some x, some y => if x.length + y.length ≤ LIM then mkL m (x ++ y) st else .bad
    | _, _ => .bad)
  | .sub, .int i, .int j => .ok (.int (i - j)) st
  | .mul, .int i, .int j => if small64 i || small64 j then .ok (.int (i * j)) st else .bad
  | .mul, .lst x, .int k => if 0 ≤ k ∧ k ≤ 1000 ∧ x.length ≤ 1000 then mkL m (List.replicate k.toNat x).flatten st else .bad
  | .fdiv, .int i, .int j => if 0 < j ∧ j < 10 ^ 100 then .ok (.int (i / j)) st else .bad
  | .mod, .int i, .int j => if 0 < j then .ok (.int (i % j)) st else .bad
  | .pow, .int i, .int j => if 0 ≤ j ∧ j ≤ 1000 ∧ small64 i = true then .ok (.int (i ^ j.toNat)) st else .bad
  | _, _, _ => .bad
def isNon : D → Bool
  | .non => true
  | _ => false
def cmp (op : CO) (a b : D) (st : Store) : R D := match op with
  | .eq => (match eqD st a b with | some r => .ok (.bl r) st | none => .bad)
  | .ne => (match eqD st a b with | some r => .ok (.bl (!r)) st | none => .bad)
  | .lt => (match a, b with | .int i, .int j => .ok (.bl (decide (i < j))) st | _, _ => .bad)
  | .le => (match a, b with | .int i, .int j => .ok (.bl (decide (i ≤ j))) st | _, _ => .bad)
  | .gt => (match a, b with | .int i, .int j => .ok (.bl (decide (j < i))) st | _, _ => .bad)
  | .ge => (match a, b with | .int i, .int j => .ok (.bl (decide (j ≤ i))) st | _, _ => .bad)
  | .isin => (match inD st a b with | some r => .ok (.bl r) st | none => .bad)
  | .notin => (match inD st a b with | some r => .ok (.bl (!r)) st | none => .bad)
  | .is_ => (match b with
    | .non => .ok (.bl (isNon a)) st
    | .bl c => (match a with | .bl d => .ok (.bl (d == c)) st | .non => .ok (.bl false) st | _ => .bad)
    | _ => .bad)
  | .isnot => (match b with
    | .non => .ok (.bl (!isNon a)) st
    | _ => .bad)
/-- the place that an index of any sign means -/
def ixI (n : Nat) (i : Int) : Option Nat := if 0 ≤ i then (if i < n then some i.toNat else none) else if -(n : Int) ≤ i then some (i + n).toNat else none
def itemAt {α : Type} (l : List α) (i : Int) : Option α := match ixI l.length i with
  | some j => l[j]?
  | none => none
def idx (a b : D) (st : Store) : R D := match b with
  | .int i => (match a with
    | .scr ns => (match itemAt ns i with | some v => .ok (.int v) st | none => .bad)
    | .str x => if x.length ≤ LIM then (match itemAt x i with | some c => .ok (.str [c]) st | none => .bad) else .bad
    | _ => (match seqOf st a with
      | some l => (match itemAt l i with | some d => .ok d st | none => .bad)
      | none => .bad))
  | _ => .bad
def cut {α : Type} (xs : List α) (lo hi : Option Int) : List α := (xs.drop (HT.sIx xs.length 0 lo)).take (HT.sIx xs.length xs.length hi - HT.sIx xs.length 0 lo)
def slc (a : D) (lo hi : Option Int) (st : Store) : R D := match a with
  | .tup l => .ok (.tup (cut l lo hi)) st
  | d => (match lstOf st d with
    | some l => .ok (.lst (cut l lo hi)) st
    | none => .bad)
/-! ints, and pairs that begin with unlike ints, sorted -/
def keyI : D → Option Int
  | .int i => some i
  | .tup (.int i :: _ :: _) => some i
  | _ => none
def intsOf : List D → Option (List Int)
  | [] => some []
  | .int i :: r => (match intsOf r with | some s => some (i :: s) | none => none)
  | _ => none
def insD (k : Int) (d : D) : List (Int × D) → List (Int × D)
  | [] => [(k, d)]
  | (j, e) :: r => if k ≤ j then (k, d) :: (j, e) :: r else (j, e) :: insD k d r
def sortK : List (Int × D) → List (Int × D)
  | [] => []
  | (k, d) :: r => insD k d (sortK r)
/-- pairs (int, anything) -/
def pairsOf : List D → Option (List (Int × D))
  | [] => some []
  | .tup [.int i, d] :: r => (match pairsOf r with | some s => some ((i, d) :: s) | none => none)
  | _ => none
def nodupI : List Int → Bool
  | [] => true
  | a :: r => !r.contains a && nodupI r
def insI (k : Int) : List Int → List Int
  | [] => [k]
  | j :: r => if k ≤ j then k :: j :: r else j :: insI k r
def sortI : List Int → List Int
  | [] => []
  | k :: r => insI k (sortI r)
def sortD (l : List D) : Option (List D) := match intsOf l with
  | some ns => some ((sortI ns).map .int)
  | none => (match pairsOf l with
    | some ps => if nodupI (ps.map (·.1)) then some ((sortK ps).map fun p => .tup [.int p.1, p.2]) else none
    | none => none)
def minI : List Int → Option Int
  | [] => none
  | a :: r => some (r.foldl (fun m x => if x < m then x else m) a)
def minK : List (Int × D) → Option (Int × D)
  | [] => none
  | p :: r => some (r.foldl (fun m x => if x.1 < m.1 then x else m) p)
/-- items that can be compared with one another -/
def alikeB (st : Store) (l : List D) : Bool := match optAll (look st) l with
  | some ps => ps.all fun p => ps.all fun q => PySem.W.alike p q
  | none => false
def minD (st : Store) (l : List D) : Option D := match intsOf l with
  | some ns => (minI ns).map .int
  | none => (match pairsOf l with
    | some ps => if nodupI (ps.map (·.1)) && alikeB st l then (minK ps).map (fun p => .tup [.int p.1, p.2]) else none
    | none => none)
def maxI : List Int → Option Int
  | [] => none
  | a :: r => some (r.foldl (fun m x => if x > m then x else m) a)
def bools : List D → Option (List Bool)
  | [] => some []
  | .bl b :: r => (match bools r with | some s => some (b :: s) | none => none)
  | _ => none
def strsOf : List D → Option (List (List Nat))
  | [] => some []
  | .str x :: r => (match strsOf r with | some s => some (x :: s) | none => none)
  | _ => none
def isiD (t : TY) (a : D) (st : Store) : Option Bool := match a with
  | .non => some false
  | .bl _ => some (match t with | .bool => true | .int => true | _ => false)
  | .int _ => some (match t with | .int => true | _ => false)
  | .str _ => some (match t with | .str => true | _ => false)
  | .tup _ => some (match t with | .tuple => true | _ => false)
  | .lst _ => some (match t with | .list => true | _ => false)
  | .ref n => (match st[n]? with | some (.lst _) => some (match t with | .list => true | _ => false) | _ => none)
  | _ => none
def blt (f : BF) (m : Bool) (xs : List D) (st : Store) : R D := match f, xs with
  | .len, [.scr ns] => .ok (.int ns.length) st
  | .len, [.str x] => if x.length ≤ LIM then .ok (.int x.length) st else .bad
  | .len, [d] => (match seqOf st d with | some l => .ok (.int l.length) st | none => .bad)
  | .int, [.int i] => .ok (.int i) st
  | .int, [.bl b] => .ok (.int (if b then 1 else 0)) st
  | .abs, [.int i] => .ok (.int (if i < 0 then -i else i)) st
  | .min, [.int i, .int j] => .ok (.int (if j < i then j else i)) st
  | .max, [.int i, .int j] => .ok (.int (if j > i then j else i)) st
  | .min, [d] => (match lstOf st d with
    | some l => if l.length ≤ LIM then (match minD st l with | some e => .ok e st | none => .bad) else .bad
    | none => .bad)
  | .max, [d] => (match lstOf st d with
    | some l => (match intsOf l with | some ns => (match maxI ns with | some k => .ok (.int k) st | none => .bad) | none => .bad)
    | none => .bad)
  | .sorted, [d] => (match seqOf st d with
    | some l => if l.length ≤ 60 then (match sortD l with | some s => mkL m s st | none => .bad) else .bad
    | none => .bad)
  | .tuple, [.tup l] => .ok (.tup l) st
  | .tuple, [d] => (match lstOf st d with | some l => .ok (.tup l) st | none => .bad)
  | .list, [d] => (match seqOf st d with | some l => mkL m l st | none => .bad)
  | .all, [d] => (match lstOf st d with | some l => (match bools l with | some bs => .ok (.bl (bs.all id)) st | none => .bad) | none => .bad)
  | .any, [d] => (match lstOf st d with | some l => (match bools l with | some bs => .ok (.bl (bs.any id)) st | none => .bad) | none => .bad)
  | _, _ => .bad
def mth (f : BM) (a : D) (xs : List D) (st : Store) : R D := match f, a, xs with
  | .append, .ref n, [d] => (match st[n]? with
    | some (.lst l) => if l.length < LIM then .ok .non (st.set n (.lst (l ++ [d]))) else .bad
    | _ => .bad)
  | .count, d, [x] => (match look st d, look st x with
    | some (.list qs), some p => .ok (.int ((qs.filter fun z => PyData.eqv z p).length : Nat)) st
    | _, _ => .bad)
  | .index, d, [x] => (match look st d, look st x with
    | some (.list qs), some p => (match qs.findIdx? fun z => PyData.eqv z p with
      | some j => .ok (.int (j : Nat)) st
      | none => .bad)
    | _, _ => .bad)
  | _, _, _ => .bad
/-- what a method asks of its receiver -/
def recvOk (f : BM) (a : D) (st : Store) : Bool := match f, a with
  | .join, .str _ => true
  | .split, .str _ => true
  | .join, _ => false
  | .split, _ => false
  | _, d => (lstOf st d).isSome
/-- a[i] = v -/
def setI (a i v : D) (st : Store) : R Unit := match a, i with
  | .ref n, .int k => (match st[n]? with
    | some (.lst l) => (match ixI l.length k with
      | some j => .ok () (st.set n (.lst (l.set j v)))
      | none => .bad)
    | _ => .bad)
  | _, _ => .bad

/-! ### targets, loops -/
mutual
def asg : Tg → D → Env → Option Env
  | .name i, d, ρ => if i < ρ.length then some (ρ.set i (some d)) else none
  | .tup ts, d, ρ => (match d with
    | .tup l => asgs ts l ρ
    | _ => none)
def asgs : List Tg → List D → Env → Option Env
  | [], [], ρ => some ρ
  | t :: ts, d :: ds, ρ => (match asg t d ρ with
    | some ρ' => asgs ts ds ρ'
    | none => none)
  | _, _, _ => none
end
/-- a source: its items, the lists of the store that must stay -/
structure Src where
  its : List D
  gs : List (Nat × List D)
def gOne (st : Store) (p : Nat × List D) : Bool := match st[p.1]? with
  | some (.lst l) => D.beqs l p.2
  | _ => false
def guard (gs : List (Nat × List D)) (st : Store) : Bool := gs.all (gOne st)
def evFor (gs : List (Nat × List D)) (tg : Tg) (body : Env → Store → SR) : List D → Env → Store → SR
  | [], ρ, st => if guard gs st then .ok .next ρ st else .bad
  | x :: xs, ρ, st => if guard gs st then (match asg tg x ρ with
      | none => .bad
      | some ρ1 => (match body ρ1 st with
        | .ok .next ρ2 st2 => evFor gs tg body xs ρ2 st2
        | .ok .cont ρ2 st2 => evFor gs tg body xs ρ2 st2
        | .ok .brk ρ2 st2 => .ok .next ρ2 st2
        | .ok (.ret d) ρ2 st2 => .ok (.ret d) ρ2 st2
        | .exc x ρ2 st2 => .exc x ρ2 st2
        | .bad => .bad))
    else .bad
def evWhile (c : Env → Store → R D) (body : Env → Store → SR) : Nat → Env → Store → SR
  | 0, _, _ => .bad
  | k + 1, ρ, st => (match c ρ st with
    | .ok (.bl true) st1 => (match body ρ st1 with
      | .ok .next ρ2 st2 => evWhile c body k ρ2 st2
      | .ok .cont ρ2 st2 => evWhile c body k ρ2 st2
      | .ok .brk ρ2 st2 => .ok .next ρ2 st2
      | .ok (.ret d) ρ2 st2 => .ok (.ret d) ρ2 st2
      | .exc x ρ2 st2 => .exc x ρ2 st2
      | .bad => .bad)
    | .ok (.bl false) st1 => .ok .next ρ st1
    | .ok _ _ => .bad
    | .exc x st1 => .exc x ρ st1
    | .bad => .bad)
/-- the slots forgotten -/
def wipeE (ρ : Env) : List Nat → Env
  | [] => ρ
  | v :: vs => (wipeE ρ vs).set v none
/-- a comprehension's turns: acc is what is made so far -/
def evLc (gs : List (Nat × List D)) (tg : Tg) (c : Env → Store → R D) (e : Env → Store → R D) (ρ : Env) : List D → List D → Store → R (List D)
  | [], acc, st => if guard gs st then .ok acc st else .bad
  | x :: xs, acc, st => if guard gs st then (match asg tg x ρ with
      | none => .bad
      | some ρ1 => (match c ρ1 st with
        | .ok (.bl true) st1 => (match e ρ1 st1 with
          | .ok d st2 => if acc.length < LIM then evLc gs tg c e ρ xs (acc ++ [d]) st2 else .bad
          | _ => .bad)
        | .ok (.bl false) st1 => evLc gs tg c e ρ xs acc st1
        | _ => .bad))
    else .bad
def evLc2 (gs : List (Nat × List D)) (tg : Tg) (src : Env → Store → R Src) (own1 : List Nat) (tg1 : Tg) (e : Env → Store → R D) (ρ : Env) : List D → List D → Store → R (List D)
  | [], acc, st => if guard gs st then .ok acc st else .bad
  | x :: xs, acc, st => if guard gs st then (match asg tg x ρ with
      | none => .bad
      | some ρ1 => (match src ρ1 st with
        | .ok s st1 => (match evLc s.gs tg1 (fun _ st => .ok (.bl true) st) e (wipeE ρ1 own1) s.its acc st1 with
          | .ok acc1 st2 => evLc2 gs tg src own1 tg1 e ρ xs acc1 st2
          | _ => .bad)
        | _ => .bad))
    else .bad
/-! ### the evaluator -/
/-- what it knows of the text: the constants of the module -/
structure Kn where
  cons : List D
  fuel : Nat
  call : Nat → List D → Store → R D
def srcOf (d : D) (st : Store) : R Src := match d with
  | .tup l => .ok ⟨l, []⟩ st
  | .lst l => .ok ⟨l, []⟩ st
  | .ref n => (match st[n]? with | some (.lst l) => .ok ⟨l, [(n, l)]⟩ st | _ => .bad)
  | _ => .bad
def enumD : Nat → List D → List D
  | _, [] => []
  | i, d :: r => .tup [.int (i : Nat), d] :: enumD (i + 1) r
def zipD : List D → List D → List D
  | a :: x, b :: y => .tup [a, b] :: zipD x y
  | _, _ => []
def rngD (lo : Int) : Nat → List D
  | 0 => []
  | n + 1 => .int lo :: rngD (lo + 1) n
def okR (i : Int) : Bool := decide (-1000000 ≤ i) && decide (i ≤ 1000000)
def lift (r : R D) (ρ : Env) (k : D → Store → SR) : SR := match r with
  | .ok d st => k d st
  | .exc x st => .exc x ρ st
  | .bad => .bad
@[simp] theorem lift_ok (d : D) (st : Store) (ρ : Env) (k : D → Store → SR) : lift (.ok d st) ρ k = k d st := rfl
@[simp] theorem lift_bad (ρ : Env) (k : D → Store → SR) : lift .bad ρ k = .bad := rfl
@[simp] theorem lift_exc (x : Ex) (st : Store) (ρ : Env) (k : D → Store → SR) : lift (.exc x st) ρ k = .exc x ρ st := rfl
mutual
def evE (kn : Kn) : E → Env → Store → R D
  | .var i, ρ, st => (match ρ[i]? with | some (some d) => .ok d st | _ => .bad)
  | .non, _, st => .ok .non st
  | .bl b, _, st => .ok (.bl b) st
  | .int i, _, st => .ok (.int i) st
  | .str x, _, st => .ok (.str x) st
  | .con i, _, st => (match kn.cons[i]? with | some d => .ok d st | none => .bad)
  | .tup es, ρ, st => (evEs kn es ρ st).bind fun ds st => .ok (.tup ds) st
  | .lst m es, ρ, st => (evEs kn es ρ st).bind fun ds st => mkL m ds st
  | .bin op m a b, ρ, st => (evE kn a ρ st).bind fun x st => (evE kn b ρ st).bind fun y st => bin op m x y st
  | .neg a, ρ, st => (evE kn a ρ st).bind fun x st => (match x with | .int i => .ok (.int (-i)) st | _ => .bad)
  | .not a, ρ, st => (evE kn a ρ st).bind fun x st => (match x with | .bl b => .ok (.bl (!b)) st | _ => .bad)
  | .and a b, ρ, st => (evE kn a ρ st).bind fun x st => (match x with | .bl true => evE kn b ρ st | .bl false => .ok (.bl false) st | _ => .bad)
  | .or a b, ρ, st => (evE kn a ρ st).bind fun x st => (match x with | .bl true => .ok (.bl true) st | .bl false => evE kn b ρ st | _ => .bad)
  | .cmp op a b, ρ, st => (evE kn a ρ st).bind fun x st => (evE kn b ρ st).bind fun y st => cmp op x y st
  | .chn op op' a b c, ρ, st => (evE kn a ρ st).bind fun x st => (evE kn b ρ st).bind fun y st => (cmp op x y st).bind fun r st =>
      (match r with | .bl true => (evE kn c ρ st).bind fun z st => cmp op' y z st | .bl false => .ok (.bl false) st | _ => .bad)
  | .ite c a b, ρ, st => (evE kn c ρ st).bind fun x st => (match x with | .bl true => evE kn a ρ st | .bl false => evE kn b ρ st | _ => .bad)
  | .idx a b, ρ, st => (evE kn a ρ st).bind fun x st => (evE kn b ρ st).bind fun y st => idx x y st
  | .slc a lo hi, ρ, st => (evE kn a ρ st).bind fun x st => (evOe kn lo ρ st).bind fun l st => (evOe kn hi ρ st).bind fun h st => slc x l h st
  | .call f es, ρ, st => (evEs kn es ρ st).bind fun ds st => kn.call f ds st
  | .blt f m es, ρ, st => (evEs kn es ρ st).bind fun ds st => blt f m ds st
  | .isi t a, ρ, st => (evE kn a ρ st).bind fun x st => (match isiD t x st with | some b => .ok (.bl b) st | none => .bad)
  | .mth f a es, ρ, st => (evE kn a ρ st).bind fun x st => if recvOk f x st then (evEs kn es ρ st).bind fun ds st => mth f x ds st else .bad
  | .lc m own tg it c e, ρ, st => (evIt kn it ρ st).bind fun s st =>
      (evLc s.gs tg (evOc kn c) (evE kn e) (wipeE ρ own) s.its [] st).bind fun l st => mkL m l st
  | .lc2 m own own1 tg it tg1 it1 e, ρ, st => (evIt kn it ρ st).bind fun s st =>
      (evLc2 s.gs tg (evIt kn it1) own1 tg1 (evE kn e) (wipeE ρ own) s.its [] st).bind fun l st => mkL m l st
def evEs (kn : Kn) : Es → Env → Store → R (List D)
  | .nil, _, st => .ok [] st
  | .cons e es, ρ, st => (evE kn e ρ st).bind fun d st => (evEs kn es ρ st).bind fun ds st => .ok (d :: ds) st
/-- a slice's part: left out, or an int -/
def evOe (kn : Kn) : Oe → Env → Store → R (Option Int)
  | .none, _, st => .ok none st
  | .some e, ρ, st => (evE kn e ρ st).bind fun d st => (match d with | .int i => .ok (some i) st | _ => .bad)
/-- a comprehension's test -/
def evOc (kn : Kn) : Oe → Env → Store → R D
  | .none, _, st => .ok (.bl true) st
  | .some e, ρ, st => evE kn e ρ st
def evIt (kn : Kn) : It → Env → Store → R Src
  | .of a, ρ, st => (evE kn a ρ st).bind fun d st => srcOf d st
  | .rng1 a, ρ, st => (evE kn a ρ st).bind fun d st => (match d with
    | .int j => if okR j then .ok ⟨rngD 0 j.toNat, []⟩ st else .bad
    | _ => .bad)
  | .rng2 a b, ρ, st => (evE kn a ρ st).bind fun x st => (evE kn b ρ st).bind fun y st => (match x, y with
    | .int i, .int j => if okR i && okR j then .ok ⟨rngD i (j - i).toNat, []⟩ st else .bad
    | _, _ => .bad)
  | .zip a b, ρ, st => (evE kn a ρ st).bind fun x st => (evE kn b ρ st).bind fun y st => (match x, y with
    | .tup l, .tup k => .ok ⟨zipD l k, []⟩ st
    | x, y => (match x, y with
      | .tup _, _ => .bad
      | _, .tup _ => .bad
      | x, y => (srcOf x st).bind fun s st => (srcOf y st).bind fun t st => .ok ⟨zipD s.its t.its, s.gs ++ t.gs⟩ st))
  | .enum a, ρ, st => (evE kn a ρ st).bind fun x st => (match x with
    | .tup _ => .bad
    | x => (srcOf x st).bind fun s st => .ok ⟨enumD 0 s.its, s.gs⟩ st)
end
mutual
def evS (kn : Kn) : S → Env → Store → SR
  | .asg t e, ρ, st => lift (evE kn e ρ st) ρ fun d st => (match asg t d ρ with | some ρ' => .ok .next ρ' st | none => .bad)
  | .setI a i e, ρ, st => lift (evE kn e ρ st) ρ fun d st => lift (evE kn a ρ st) ρ fun x st => lift (evE kn i ρ st) ρ fun y st =>
      (match setI x y d st with | .ok _ st => .ok .next ρ st | .exc _ _ => .bad | .bad => .bad)
  | .expr e, ρ, st => lift (evE kn e ρ st) ρ fun _ st => .ok .next ρ st
  | .ret e, ρ, st => lift (evE kn e ρ st) ρ fun d st => .ok (.ret d) ρ st
  | .retN, ρ, st => .ok (.ret .non) ρ st
  | .pass, ρ, st => .ok .next ρ st
  | .brk, ρ, st => .ok .brk ρ st
  | .cont, ρ, st => .ok .cont ρ st
  | .ite c a b, ρ, st => lift (evE kn c ρ st) ρ fun x st => (match x with | .bl true => evSs kn a ρ st | .bl false => evSs kn b ρ st | _ => .bad)
  | .whl c a, ρ, st => evWhile (evE kn c) (evSs kn a) kn.fuel ρ st
  | .for_ tg it a, ρ, st => (match evIt kn it ρ st with
    | .ok s st => evFor s.gs tg (evSs kn a) s.its ρ st
    | .exc x st => .exc x ρ st
    | .bad => .bad)
  | .rais c es, ρ, st => (match evEs kn es ρ st with
    | .ok _ st => .exc ⟨c, []⟩ ρ st
    | .exc x st => .exc x ρ st
    | .bad => .bad)
def evSs (kn : Kn) : Ss → Env → Store → SR
  | .nil, ρ, st => .ok .next ρ st
  | .cons s r, ρ, st => (match evS kn s ρ st with
    | .ok .next ρ1 st1 => evSs kn r ρ1 st1
    | x => x)
end
/-- a def: how many names, how many parameters, its body -/
structure Fn where
  n : Nat
  ps : Nat
  body : Ss
def envOf (n : Nat) (ds : List D) : Env := ds.map some ++ List.replicate (n - ds.length) none
def callBody (kn : Kn) (f : Fn) (ds : List D) (st : Store) : R D :=
  if ds.length = f.ps then (match evSs kn f.body (envOf f.n ds) st with
    | .ok .next _ st => .ok .non st
    | .ok (.ret d) _ st => .ok d st
    | .exc x _ st => .exc x st
    | _ => .bad)
  else .bad
structure Prog where
  cons : List D
  fns : List Fn
  fuel : Nat
def evCall (P : Prog) : Nat → Nat → List D → Store → R D
  | 0, _, _, _ => .bad
  | k + 1, f, ds, st => (match P.fns[f]? with
    | some fn => callBody ⟨P.cons, P.fuel, evCall P k⟩ fn ds st
    | none => .bad)
end AF

/-! Rel: how values and stores of the core stand in the heap; readings. -/
namespace AF
open PySem PySem.Spec PyProof.Rows L2

def MutO : Option HO → Prop
  | some (.lst _) => True
  | some (.ins _ _ _) => True
  | _ => False
theorem MutO.some {o : Option HO} (h : MutO o) : ∃ u, o = some u := by
  cases o with
  | none => exact h.elim
  | some u => exact ⟨u, rfl⟩

/-- what the relation knows of the text: the written part, the addresses of its defs and classes -/
structure Tx where
  K : PySem.W.Frag
  fa : Nat → Addr
  ca : Nat → Addr
  /-- lists that are being made: no value is one of them -/
  gh : List Addr

/-- a list that is known and stays: the script -/
def SqF (K : PySem.W.Frag) (H : Hp) (a : Addr) (xs : List V) : Prop := (∃ o, H a = some (.frz o (.lst xs))) ∨
  ∃ (o : Obj) (its : Array Value) (n : Nat), K.lookup a = some o ∧ o.cls = .type "list" ∧ o.dict = none ∧ o.data = .seq its n ∧ its.size ≤ sizeLine ∧ Vals xs its.toList
theorem SqF.seq {K : PySem.W.Frag} {H : Hp} {a : Addr} {xs : List V} (h : SqF K H a xs) : SqL K H a xs := by
  rcases h with h | h
  · exact .inl (.inr h)
  · exact .inr h
section
variable (T : Tx) (μ : List Addr) (H : Hp)
mutual
inductive Rep : D → V → Prop where
  | non : Rep .non .non
  | bl (b : Bool) : Rep (.bl b) (.bl b)
  | int (i : Int) : Rep (.int i) (.int i)
  | str (x : List Nat) : Rep (.str x) (.str (toStr x))
  | tup {a : Addr} {xs : List V} {l : List D} : SqT T.K H a xs → Reps l xs → Rep (.tup l) (.ref a)
  | lst {a : Addr} {xs : List V} {l : List D} : H a = some (.lst xs) → (a ∉ μ ∧ a ∉ T.gh) → Reps l xs → Rep (.lst l) (.ref a)
  | scr {a : Addr} {ns : List Int} : SqF T.K H a (ns.map V.int) → Rep (.scr ns) (.ref a)
  | ref {n : Nat} {a : Addr} : μ[n]? = some a → Rep (.ref n) (.ref a)
  | glo (n : Nat) : Rep (.glo n) (.ref (T.fa n))
inductive Reps : List D → List V → Prop where
  | nil : Reps [] []
  | cons {d : D} {v : V} {l : List D} {xs : List V} : Rep d v → Reps l xs → Reps (d :: l) (v :: xs)
end
end
/-- an object of the store at its address -/
def ObRel (T : Tx) (μ : List Addr) (H : Hp) (a : Addr) : Ob → Prop
  | .lst l => ∃ xs, H a = some (.lst xs) ∧ Reps T μ H l xs
  | .ins c fs => False
structure Rel (T : Tx) (μ : List Addr) (st : Store) (H : Hp) : Prop where
  len : μ.length = st.length
  inj : ∀ (i j : Nat) (a : Addr), μ[i]? = some a → μ[j]? = some a → i = j
  obj : ∀ (n : Nat) (o : Ob), st[n]? = some o → ∃ a, μ[n]? = some a ∧ ObRel T μ H a o
  gh : ∀ a ∈ T.gh, a ∉ μ ∧ ∃ xs, H a = some (.lst xs)
structure Ext (μ : List Addr) (H : Hp) (μ' : List Addr) (H' : Hp) : Prop where
  pre : ∃ t, μ' = μ ++ t ∧ ∀ a ∈ t, H a = none
  keep : ∀ a o, H a = some o → a ∉ μ → H' a = some o
  mut0 : ∀ a ∈ μ, MutO (H a)
  mut1 : ∀ a ∈ μ', MutO (H' a)

section
variable {T : Tx} {μ μ' μ1 μ2 : List Addr} {H H' H1 H2 : Hp} {st st' : Store}
theorem ObRel.mut {a : Addr} {o : Ob} (h : ObRel T μ H a o) : MutO (H a) := by
  cases o with
  | lst l => obtain ⟨xs, e, _⟩ := h; rw [e]; trivial
  | ins c fs => exact h.elim
theorem Rel.mut (R : Rel T μ st H) : ∀ a ∈ μ, MutO (H a) := fun a ha => by
  obtain ⟨i, hi, e⟩ := List.mem_iff_getElem.mp ha
  have e2 : μ[i]? = some a := by rw [List.getElem?_eq_getElem hi, e]
  have hi2 : i < st.length := by rw [← R.len]; exact hi
  obtain ⟨b, hb, hr⟩ := R.obj i _ (List.getElem?_eq_getElem hi2)
  rw [e2] at hb; cases hb
  exact hr.mut
theorem Ext.refl (R : Rel T μ st H) : Ext μ H μ H := ⟨⟨[], by simp, by simp⟩, fun _ _ e _ => e, R.mut, R.mut⟩
theorem Ext.trans (a : Ext μ H μ1 H1) (b : Ext μ1 H1 μ2 H2) : Ext μ H μ2 H2 := by
  obtain ⟨t, rfl, ht⟩ := a.pre
  obtain ⟨t2, rfl, ht2⟩ := b.pre
  refine ⟨⟨t ++ t2, by simp, fun c hc => ?_⟩, fun c o e hc => ?_, a.mut0, b.mut1⟩
  · rcases List.mem_append.mp hc with hc | hc
    · exact ht c hc
    · cases q : H c with
      | none => rfl
      | some o =>
        by_cases hm : c ∈ μ
        · obtain ⟨u, hu⟩ := (a.mut1 c (List.mem_append_left _ hm)).some
          rw [ht2 c hc] at hu; cases hu
        · have := a.keep c o q hm
          rw [ht2 c hc] at this; cases this
  · refine b.keep c o (a.keep c o e hc) fun hm => ?_
    rcases List.mem_append.mp hm with hm | hm
    · exact hc hm
    · rw [ht c hm] at e; cases e
theorem Ext.notin (x : Ext μ H μ' H') {a : Addr} {o : HO} (e : H a = some o) (h : a ∉ μ) : a ∉ μ' := by
  obtain ⟨t, rfl, ht⟩ := x.pre
  intro hm
  rcases List.mem_append.mp hm with hm | hm
  · exact h hm
  · rw [ht a hm] at e; cases e
theorem Ext.get (x : Ext μ H μ' H') {n : Nat} {a : Addr} (e : μ[n]? = some a) : μ'[n]? = some a := by
  obtain ⟨t, rfl, ht⟩ := x.pre
  rw [List.getElem?_append_left (List.getElem?_eq_some_iff.mp e).1]; exact e
theorem Ext.stay (x : Ext μ H μ' H') {a : Addr} {o : HO} (e : H a = some o) (hm : ¬ MutO (some o)) : H' a = some o :=
  x.keep a o e fun h => hm (by rw [← e]; exact x.mut0 a h)
theorem Ext.tup (x : Ext μ H μ' H') {a : Addr} {xs : List V} (h : SqT T.K H a xs) : SqT T.K H' a xs := by
  rcases h with (h | ⟨o, h⟩) | h
  · exact .inl (.inl (x.stay h fun z => z))
  · exact .inl (.inr ⟨o, x.stay h fun z => z⟩)
  · exact .inr h
theorem Ext.sqf (x : Ext μ H μ' H') {a : Addr} {xs : List V} (h : SqF T.K H a xs) : SqF T.K H' a xs := by
  rcases h with ⟨o, h⟩ | h
  · exact .inl ⟨o, x.stay h fun z => z⟩
  · exact .inr h
mutual
theorem Rep.mono (x : Ext μ H μ' H') : ∀ {d : D} {v : V}, Rep T μ H d v → Rep T μ' H' d v
  | _, _, .non => .non
  | _, _, .bl b => .bl b
  | _, _, .int i => .int i
  | _, _, .str s => .str s
  | _, _, .tup h r => .tup (x.tup h) (Reps.mono x r)
  | _, _, .lst h n r => .lst (x.keep _ _ h n.1) ⟨x.notin h n.1, n.2⟩ (Reps.mono x r)
  | _, _, .scr h => .scr (x.sqf h)
  | _, _, .ref h => .ref (x.get h)
  | _, _, .glo n => .glo n
theorem Reps.mono (x : Ext μ H μ' H') : ∀ {l : List D} {xs : List V}, Reps T μ H l xs → Reps T μ' H' l xs
  | _, _, .nil => .nil
  | _, _, .cons a r => .cons (Rep.mono x a) (Reps.mono x r)
end
end
end AF

/-! Rel2: new objects, stores; readings of the core; how they compose. -/
namespace AF
open PySem PySem.Spec PyProof.Rows L2
section
variable {T : Tx} {μ μ' μ1 μ2 : List Addr} {H H' H1 H2 : Hp} {st st' : Store}
/-- a new object that the store does not hold -/
theorem Ext.new (R : Rel T μ st H) {p : Addr} {o : HO} (hp : H p = none) : Ext μ H μ (upd H p o) := by
  have ne : ∀ a u, H a = some u → a ≠ p := fun a u e z => by rw [z, hp] at e; cases e
  refine ⟨⟨[], by simp, by simp⟩, fun a u e _ => by rw [upd_ne (ne a u e)]; exact e, R.mut, fun a ha => ?_⟩
  obtain ⟨u, hu⟩ := (R.mut a ha).some
  rw [upd_ne (ne a u hu)]; exact R.mut a ha
theorem ObRel.mono (x : Ext μ H μ' H') {a : Addr} {o : Ob} (hk : H' a = H a) (h : ObRel T μ H a o) : ObRel T μ' H' a o := by
  cases o with
  | lst l => obtain ⟨xs, e, r⟩ := h; exact ⟨xs, hk.trans e, r.mono x⟩
  | ins c fs => exact h.elim
theorem Rel.new (R : Rel T μ st H) {p : Addr} {o : HO} (hp : H p = none) : Rel T μ st (upd H p o) := by
  refine ⟨R.len, R.inj, fun n ob e => ?_, fun a ha => ⟨(R.gh a ha).1, let ⟨o, e⟩ := (R.gh a ha).2; ⟨o, by rw [upd_ne (fun z => by rw [z, hp] at e; cases e)]; exact e⟩⟩⟩
  obtain ⟨a, ha, r⟩ := R.obj n ob e
  obtain ⟨u, hu⟩ := r.mut.some
  exact ⟨a, ha, r.mono (Ext.new R hp) (upd_ne fun z => by rw [z, hp] at hu; cases hu)⟩
/-- a new object that the store holds -/
theorem Ext.newM (R : Rel T μ st H) {p : Addr} {o : HO} (hp : H p = none) (hm : MutO (some o)) : Ext μ H (μ ++ [p]) (upd H p o) := by
  obtain ⟨_, k, m0, m1⟩ := Ext.new (o := o) R hp
  refine ⟨⟨[p], rfl, by simpa using hp⟩, k, m0, fun a ha => ?_⟩
  rcases List.mem_append.mp ha with ha | ha
  · exact m1 a ha
  · have e : a = p := by simpa using ha
    subst e; rw [upd_same]; exact hm
theorem Rel.newM (R : Rel T μ st H) {p : Addr} {o : HO} {ob : Ob} (hp : H p = none) (hm : MutO (some o)) (h : ObRel T (μ ++ [p]) (upd H p o) p ob) : Rel T (μ ++ [p]) (st ++ [ob]) (upd H p o) := by
  have np : p ∉ μ := fun hm => by obtain ⟨u, hu⟩ := (R.mut p hm).some; rw [hp] at hu; cases hu
  refine ⟨by simp [R.len], fun i j a hi hj => ?_, fun n ob' e => ?_, fun a ha => ?_⟩
  · by_cases h1 : i < μ.length <;> by_cases h2 : j < μ.length
    · rw [List.getElem?_append_left h1] at hi; rw [List.getElem?_append_left h2] at hj
      exact R.inj i j a hi hj
    · rw [List.getElem?_append_left h1] at hi; rw [List.getElem?_append_right (by omega)] at hj
      have : a = p := by
        have := List.mem_of_getElem? hj
        simpa using this
      subst this; exact absurd (List.mem_of_getElem? hi) np
    · rw [List.getElem?_append_right (by omega)] at hi; rw [List.getElem?_append_left h2] at hj
      have : a = p := by
        have := List.mem_of_getElem? hi
        simpa using this
      subst this; exact absurd (List.mem_of_getElem? hj) np
    · rw [List.getElem?_append_right (by omega)] at hi hj
      have e1 := (List.getElem?_eq_some_iff.mp hi).1
      have e2 := (List.getElem?_eq_some_iff.mp hj).1
      simp only [List.length_singleton] at e1 e2
      omega
  · by_cases h1 : n < st.length
    · rw [List.getElem?_append_left h1] at e
      obtain ⟨a, ha, r⟩ := R.obj n ob' e
      obtain ⟨u, hu⟩ := r.mut.some
      exact ⟨a, by rw [List.getElem?_append_left (by rw [R.len]; exact h1)]; exact ha, r.mono (Ext.newM R hp hm) (upd_ne fun z => by rw [z, hp] at hu; cases hu)⟩
    · rw [List.getElem?_append_right (by omega)] at e
      have e1 := (List.getElem?_eq_some_iff.mp e).1
      simp only [List.length_singleton] at e1
      have hn : n = st.length := by omega
      subst hn
      simp at e; subst e
      refine ⟨p, ?_, h⟩
      rw [← R.len]; simp
  · obtain ⟨g1, o, g2⟩ := R.gh a ha
    have z : a ≠ p := fun z => by rw [z, hp] at g2; cases g2
    exact ⟨by simp [g1, z], o, by rw [upd_ne z]; exact g2⟩
/-- an object of the store is changed -/
theorem Ext.set (R : Rel T μ st H) {n : Nat} {a : Addr} {o : HO} (ha : μ[n]? = some a) (hm : MutO (some o)) : Ext μ H μ (upd H a o) := by
  have ham := List.mem_of_getElem? ha
  refine ⟨⟨[], by simp, by simp⟩, fun b u e hb => by rw [upd_ne (fun z : b = a => hb (by rw [z]; exact ham))]; exact e, R.mut, fun b hb => ?_⟩
  by_cases z : b = a
  · subst z; rw [upd_same]; exact hm
  · rw [upd_ne z]; exact R.mut b hb
theorem Rel.set (R : Rel T μ st H) {n : Nat} {a : Addr} {o : HO} {ob : Ob} (ha : μ[n]? = some a) (hm : MutO (some o)) (h : ObRel T μ (upd H a o) a ob) : Rel T μ (st.set n ob) (upd H a o) := by
  refine ⟨by rw [List.length_set]; exact R.len, R.inj, fun k ob' e => ?_, fun b hb => ⟨(R.gh b hb).1, let ⟨o, e⟩ := (R.gh b hb).2; ⟨o, by rw [upd_ne (fun z : b = a => (R.gh b hb).1 (by rw [z]; exact List.mem_of_getElem? ha))]; exact e⟩⟩⟩
  by_cases hk : k = n
  · subst hk
    have hl : k < st.length := by have := (List.getElem?_eq_some_iff.mp ha).1; rw [R.len] at this; exact this
    rw [List.getElem?_set_self hl] at e; cases e
    exact ⟨a, ha, h⟩
  · rw [List.getElem?_set_ne (Ne.symm hk)] at e
    obtain ⟨b, hb, r⟩ := R.obj k ob' e
    exact ⟨b, hb, r.mono (Ext.set R ha hm) (upd_ne fun z => hk (R.inj k n a (z ▸ hb) ha))⟩
/-- a list of the store -/
theorem Rel.lst (R : Rel T μ st H) {n : Nat} {l : List D} (e : st[n]? = some (.lst l)) : ∃ a xs, μ[n]? = some a ∧ H a = some (.lst xs) ∧ Reps T μ H l xs := by
  obtain ⟨a, ha, xs, h1, h2⟩ := R.obj n _ e
  exact ⟨a, xs, ha, h1, h2⟩
theorem Reps.length : ∀ {l : List D} {xs : List V}, Reps T μ H l xs → xs.length = l.length
  | _, _, .nil => rfl
  | _, _, .cons _ r => by simp [Reps.length r]
theorem Reps.append : ∀ {l k : List D} {xs ys : List V}, Reps T μ H l xs → Reps T μ H k ys → Reps T μ H (l ++ k) (xs ++ ys)
  | _, _, _, _, .nil, s => s
  | _, _, _, _, .cons a r, s => .cons a (Reps.append r s)
theorem Reps.get : ∀ {l : List D} {xs : List V} {i : Nat} {d : D}, Reps T μ H l xs → l[i]? = some d → ∃ v, xs[i]? = some v ∧ Rep T μ H d v
  | _, _, _, _, .nil, e => by simp at e
  | _, _, 0, _, .cons a _, e => by simp at e; subst e; exact ⟨_, by simp, a⟩
  | _, _, i + 1, _, .cons _ r, e => by
    obtain ⟨v, h1, h2⟩ := Reps.get (i := i) r (by simpa using e)
    exact ⟨v, by simpa using h1, h2⟩
theorem Reps.take : ∀ {l : List D} {xs : List V} (n : Nat), Reps T μ H l xs → Reps T μ H (l.take n) (xs.take n)
  | _, _, 0, _ => by simp; exact .nil
  | _, _, _ + 1, .nil => .nil
  | _, _, n + 1, .cons a r => .cons a (Reps.take n r)
theorem Reps.drop : ∀ {l : List D} {xs : List V} (n : Nat), Reps T μ H l xs → Reps T μ H (l.drop n) (xs.drop n)
  | _, _, 0, r => r
  | _, _, _ + 1, .nil => .nil
  | _, _, n + 1, .cons _ r => Reps.drop n r
theorem Reps.set {d : D} {v : V} (h : Rep T μ H d v) : ∀ {l : List D} {xs : List V} (i : Nat), Reps T μ H l xs → Reps T μ H (l.set i d) (xs.set i v)
  | _, _, _, .nil => .nil
  | _, _, 0, .cons _ r => .cons h r
  | _, _, i + 1, .cons a r => .cons a (Reps.set h i r)
theorem Reps.rep {l : List D} {xs : List V} (h : Reps T μ H l xs) : ∀ k : Nat, Reps T μ H (List.replicate k l).flatten (List.replicate k xs).flatten
  | 0 => .nil
  | k + 1 => by
    rw [List.replicate_succ, List.replicate_succ, List.flatten_cons, List.flatten_cons]
    exact Reps.append h (Reps.rep h k)
end

/-! ### environments -/
structure REnv (T : Tx) (μ : List Addr) (H : Hp) (ρ : Env) (σ : L2.St) : Prop where
  len : ρ.length = σ.length
  get : ∀ (i : Nat) (d : D), ρ[i]? = some (some d) → ∃ v, σ[i]? = some (some v) ∧ Rep T μ H d v
section
variable {T : Tx} {μ μ' : List Addr} {H H' : Hp} {st : Store} {ρ : Env} {σ : L2.St}
theorem REnv.mono (x : Ext μ H μ' H') (e : REnv T μ H ρ σ) : REnv T μ' H' ρ σ :=
  ⟨e.len, fun i d h => let ⟨v, h1, h2⟩ := e.get i d h; ⟨v, h1, h2.mono x⟩⟩
theorem REnv.set (e : REnv T μ H ρ σ) {i : Nat} {d : D} {v : V} (h : Rep T μ H d v) (hi : i < ρ.length) : REnv T μ H (ρ.set i (some d)) (σ.set i (some v)) := by
  refine ⟨by simp [e.len], fun j d' hj => ?_⟩
  by_cases z : j = i
  · subst z
    rw [List.getElem?_set_self hi] at hj
    have hd : d = d' := by injection hj with hj; injection hj
    subst hd
    exact ⟨v, List.getElem?_set_self (by rw [← e.len]; exact hi), h⟩
  · rw [List.getElem?_set_ne (Ne.symm z)] at hj
    obtain ⟨w, h1, h2⟩ := e.get j d' hj
    exact ⟨w, by rw [List.getElem?_set_ne (Ne.symm z)]; exact h1, h2⟩
theorem REnv.drop1 (e : REnv T μ H ρ σ) (i : Nat) : REnv T μ H (ρ.set i none) (σ.set i none) := by
  refine ⟨by simp [e.len], fun j d' hj => ?_⟩
  by_cases z : j = i
  · subst z
    by_cases hl : j < ρ.length
    · rw [List.getElem?_set_self hl] at hj; cases hj
    · rw [List.getElem?_eq_none (by simpa using hl)] at hj; cases hj
  · rw [List.getElem?_set_ne (Ne.symm z)] at hj
    obtain ⟨w, h1, h2⟩ := e.get j d' hj
    exact ⟨w, by rw [List.getElem?_set_ne (Ne.symm z)]; exact h1, h2⟩
theorem REnv.wipe (e : REnv T μ H ρ σ) : ∀ vs : List Nat, REnv T μ H (wipeE ρ vs) (wipe σ vs)
  | [] => e
  | v :: vs => (REnv.wipe e vs).drop1 v
theorem REnv.envOf {n : Nat} {ds : List D} {vs : List V} (r : Reps T μ H ds vs) {N : List Str} (hn : n = N.length) : REnv T μ H (envOf n ds) (L2.start N vs) := by
  subst hn
  unfold AF.envOf L2.start
  refine ⟨by simp [r.length], fun i d h => ?_⟩
  by_cases hi : i < ds.length
  · rw [List.getElem?_append_left (by simpa using hi), List.getElem?_map] at h
    cases e : ds[i]? with
    | none => rw [e] at h; cases h
    | some d' =>
      rw [e] at h
      have : d' = d := by simpa using h
      subst this
      obtain ⟨v, h1, h2⟩ := r.get e
      exact ⟨v, by rw [List.getElem?_append_left (by simpa [r.length] using hi), List.getElem?_map, h1]; rfl, h2⟩
  · rw [List.getElem?_append_right (by simpa using hi), List.getElem?_replicate] at h
    split at h <;> cases h
end

/-! ### readings -/
/-- how an exception lies -/
def ExRel (T : Tx) (μ : List Addr) (H : Hp) (x : Ex) (cls : Value) (dx : Option Addr) : Prop := cls = .ref (T.ca x.c) ∧ x.fs = [] ∧ dx = none
def Aft {α β : Type} (T : Tx) (W : WX) (σ : L2.St) (RA : List Addr → Hp → α → β → Prop) (r : R α) (μ : List Addr) (H : Hp) (Q : β → Hp → Prop) : Prop := match r with
  | .ok d st' => ∀ μ' H' v, Ext μ H μ' H' → Rel T μ' st' H' → RA μ' H' d v → Q v H'
  | .exc x st' => ∀ μ' H' cls dx, Ext μ H μ' H' → Rel T μ' st' H' → ExRel T μ' H' x cls dx → W cls dx σ H'
  | .bad => False
/-- as Aft, no exception -/
def AftV {α β : Type} (T : Tx) (RA : List Addr → Hp → α → β → Prop) (r : R α) (μ : List Addr) (H : Hp) (Q : β → Hp → Prop) : Prop := match r with
  | .ok d st' => ∀ μ' H' v, Ext μ H μ' H' → Rel T μ' st' H' → RA μ' H' d v → Q v H'
  | _ => False
abbrev RepT (T : Tx) : List Addr → Hp → D → V → Prop := fun μ H d v => Rep T μ H d v
abbrev RepsT (T : Tx) : List Addr → Hp → List D → List V → Prop := fun μ H d v => Reps T μ H d v
abbrev REq {α : Type} : List Addr → Hp → α → α → Prop := fun _ _ a b => a = b
section
variable {T : Tx} {W : WX} {σ : L2.St} {α β γ δ : Type} {μ μ' : List Addr} {H H' : Hp} {st : Store}
theorem Aft.shift {RA : List Addr → Hp → α → β → Prop} {r : R α} {Q : β → Hp → Prop} (h : Aft T W σ RA r μ H Q) (x : Ext μ H μ' H') : Aft T W σ RA r μ' H' Q := by
  cases r with
  | ok d st' => exact fun μ2 H2 v e R P => h μ2 H2 v (x.trans e) R P
  | exc y st' => exact fun μ2 H2 c d e R P => h μ2 H2 c d (x.trans e) R P
  | bad => exact h
theorem Aft.mono {RA : List Addr → Hp → α → β → Prop} {r : R α} {Q Q' : β → Hp → Prop} (h : Aft T W σ RA r μ H Q) (k : ∀ v H', Q v H' → Q' v H') : Aft T W σ RA r μ H Q' := by
  cases r with
  | ok d st' => exact fun μ2 H2 v e R P => k _ _ (h μ2 H2 v e R P)
  | exc y st' => exact h
  | bad => exact h
/-- what is known behind the first step -/
theorem Aft.bind {RA : List Addr → Hp → α → β → Prop} {RB : List Addr → Hp → γ → δ → Prop} {r : R α} {f : α → Store → R γ} {Q : δ → Hp → Prop} (h : Aft T W σ RB (r.bind f) μ H Q) :
    Aft T W σ RA r μ H fun v H1 => ∃ μ1 d st1, r = .ok d st1 ∧ Ext μ H μ1 H1 ∧ Rel T μ1 st1 H1 ∧ RA μ1 H1 d v ∧ Aft T W σ RB (f d st1) μ1 H1 Q := by
  cases r with
  | ok d st' => exact fun μ2 H2 v e R P => ⟨μ2, d, st', rfl, e, R, P, Aft.shift h e⟩
  | exc y st' => exact h
  | bad => exact h
theorem Aft.ok {RA : List Addr → Hp → α → β → Prop} {a : α} {Q : β → Hp → Prop} {v : β} (h : Aft T W σ RA (.ok a st) μ H Q) (R : Rel T μ st H) (P : RA μ H a v) : Q v H := h μ H v (Ext.refl R) R P
theorem Aft.v {RA : List Addr → Hp → α → β → Prop} {r : R α} {Q : β → Hp → Prop} (h : Aft T W σ RA r μ H Q) (n : ∀ x s, r ≠ .exc x s) : AftV T RA r μ H Q := by
  cases r with
  | ok d st' => exact h
  | exc y st' => exact absurd rfl (n y st')
  | bad => exact h
theorem AftV.ok {RA : List Addr → Hp → α → β → Prop} {a : α} {Q : β → Hp → Prop} {v : β} (h : AftV T RA (.ok a st) μ H Q) (R : Rel T μ st H) (P : RA μ H a v) : Q v H := h μ H v (Ext.refl R) R P
end

def rdE (T : Tx) (W : WX) (ev : Env → Store → R D) : TE := fun σ H Q => ∃ μ ρ st, Rel T μ st H ∧ REnv T μ H ρ σ ∧ Aft T W σ (RepT T) (ev ρ st) μ H Q
/-- a value as a test -/
def asB : R D → R Bool
  | .ok (.bl b) st => .ok b st
  | .ok _ _ => .bad
  | .exc x st => .exc x st
  | .bad => .bad
def rdT (T : Tx) (W : WX) (ev : Env → Store → R D) : TT := fun σ H Q => ∃ μ ρ st, Rel T μ st H ∧ REnv T μ H ρ σ ∧ Aft T W σ REq (asB (ev ρ st)) μ H Q
def rdA (T : Tx) (W : WX) (ev : Env → Store → R (List D)) : TA := fun σ H Q => ∃ μ ρ st, Rel T μ st H ∧ REnv T μ H ρ σ ∧ Aft T W σ (RepsT T) (ev ρ st) μ H Q
theorem PE.weak {X : Cx} {e : Expr} {t t' : TE} (h : PE X e t) (k : ∀ σ H Q, t' σ H Q → t σ H Q) : PE X e t' := ⟨fun pins s σ H Q I q => h.run pins s σ H Q I (k σ H Q q)⟩
theorem PT.weak {X : Cx} {e : Expr} {t t' : TT} (h : PT X e t) (k : ∀ σ H Q, t' σ H Q → t σ H Q) : PT X e t' := ⟨fun pins s σ H Q I q => h.run pins s σ H Q I (k σ H Q q)⟩
theorem PW.weak {X : Cx} {e : Expr} {t t' : TT} (h : PW X e t) (k : ∀ σ H Q, t' σ H Q → t σ H Q) : PW X e t' := ⟨fun wh pins s σ H Q I q => h.run wh pins s σ H Q I (k σ H Q q)⟩
theorem PA.weak {X : Cx} {e : List Expr} {t t' : TA} (h : PA X e t) (k : ∀ σ H Q, t' σ H Q → t σ H Q) : PA X e t' := ⟨fun pos pins s σ H Q I q => h.run pos pins s σ H Q I (k σ H Q q)⟩
theorem PS.weak {X : Cx} {e : Stmt} {t t' : TS} (h : PS X e t) (k : ∀ D σ H, t' D σ H → t D σ H) : PS X e t' := ⟨fun pins s σ H D I q => h.run pins s σ H D I (k D σ H q)⟩
theorem PSs.weak {X : Cx} {e : List Stmt} {t t' : TS} (h : PSs X e t) (k : ∀ D σ H, t' D σ H → t D σ H) : PSs X e t' := ⟨fun pins s σ H D I q => h.run pins s σ H D I (k D σ H q)⟩
theorem PG.weak {X : Cx} {e : Expr} {t t' : TG} (h : PG X e t) (k : ∀ v σ H Q, t' v σ H Q → t v σ H Q) : PG X e t' := ⟨fun pins s σ H v u Q I r q => h.run pins s σ H v u Q I r (k v σ H Q q)⟩
theorem PI.weak {X : Cx} {tg e : Expr} {t t' : TI} (h : PI X tg e t) (k : ∀ σ H Q, t' σ H Q → t σ H Q) : PI X tg e t' := ⟨fun pins s σ H R I q => h.run pins s σ H R I (k σ H R q)⟩
theorem PO.weak {X : Cx} {e : Option Expr} {t t' : TO} (h : PO X e t) (k : ∀ σ H Q, t' σ H Q → t σ H Q) : PO X e t' := ⟨fun pins s σ H Q I q => h.run pins s σ H Q I (k σ H Q q)⟩
end AF

/-! Ops: the operations by values. -/
namespace AF
open PySem PySem.Spec PyProof.Rows L2
section
variable {T : Tx} {μ : List Addr} {H : Hp} {st : Store}
theorem optAll_dp {f : D → Option PyData} {n : Nat} : ∀ {l : List D} {xs : List V} {ps : List PyData}, optAll f l = some ps → Reps T μ H l xs →
    (∀ d v p, f d = some p → Rep T μ H d v → Dp T.K H v p ∧ p.canLay0 = true ∧ p.depth ≤ n) → DpAll T.K H xs ps ∧ PyData.canLayAll0 ps = true ∧ PyData.depthAll ps ≤ n
  | [], _, ps, e, r, k => by
    cases r
    simp [optAll] at e; subst e
    exact ⟨.nil, by simp [PyData.canLayAll0], by simp [PyData.depthAll]⟩
  | d :: l, _, ps, e, r, k => by
    cases r with
    | cons a r =>
      simp only [optAll] at e
      cases e1 : f d with
      | none => rw [e1] at e; cases e
      | some p =>
        rw [e1] at e
        cases e2 : optAll f l with
        | none => rw [e2] at e; cases e
        | some s =>
          rw [e2] at e
          have e3 : p :: s = ps := by simpa using e
          subst e3
          obtain ⟨h1, h2, h3⟩ := k d _ p e1 a
          obtain ⟨g1, g2, g3⟩ := optAll_dp e2 r k
          exact ⟨.cons h1 g1, by simp [PyData.canLayAll0, h2, g2], by simp only [PyData.depthAll]; omega⟩
theorem strOk_of {x : List Nat} (h : cpsOk x = true) : PyData.strOk (toStr x) = true := by
  unfold PyData.strOk toStr
  unfold cpsOk at h
  simpa using h
theorem py_dp (R : Rel T μ st H) : ∀ (k : Nat) (d : D) (v : V) (p : PyData), py st k d = some p → Rep T μ H d v → Dp T.K H v p ∧ p.canLay0 = true ∧ p.depth ≤ k
  | 0, _, _, _, e, _ => by cases e
  | k + 1, d, v, p, e, r => by
    have ih := py_dp R k
    cases r with
    | non => simp [py] at e; subst e; exact ⟨.non, by simp [PyData.canLay0], by simp [PyData.depth]⟩
    | bl b => simp [py] at e; subst e; exact ⟨.bl b, by simp [PyData.canLay0], by simp [PyData.depth]⟩
    | int i => simp [py] at e; subst e; exact ⟨.int i, by simp [PyData.canLay0], by simp [PyData.depth]⟩
    | str x =>
      simp only [py] at e
      split at e
      · rename_i hc
        have : PyData.str (toStr x) = p := by simpa using e
        subst this
        exact ⟨.str _, by simp [PyData.canLay0, strOk_of hc], by simp [PyData.depth]⟩
      · cases e
    | tup h rs =>
      simp only [py] at e
      cases e1 : optAll (py st k) _ with
      | none => rw [e1] at e; cases e
      | some ps =>
        rw [e1] at e
        have : PyData.tuple ps = p := by simpa using e
        subst this
        obtain ⟨h1, h2, h3⟩ := optAll_dp e1 rs fun d v p e r => ih d v p e r
        exact ⟨.tup h h1, by simp only [PyData.canLay0]; exact h2, by simp only [PyData.depth]; omega⟩
    | lst h n rs =>
      simp only [py] at e
      cases e1 : optAll (py st k) _ with
      | none => rw [e1] at e; cases e
      | some ps =>
        rw [e1] at e
        have : PyData.list ps = p := by simpa using e
        subst this
        obtain ⟨h1, h2, h3⟩ := optAll_dp e1 rs fun d v p e r => ih d v p e r
        exact ⟨.lst (SqL.of h) h1, by simp only [PyData.canLay0]; exact h2, by simp only [PyData.depth]; omega⟩
    | scr h => simp [py] at e
    | @ref n a hn =>
      simp only [py] at e
      cases e0 : st[n]? with
      | none => rw [e0] at e; cases e
      | some o =>
        rw [e0] at e
        cases o with
        | ins c fs => cases e
        | lst l =>
          dsimp only at e
          cases e1 : optAll (py st k) l with
          | none => rw [e1] at e; cases e
          | some ps =>
            rw [e1] at e
            have : PyData.list ps = p := by simpa using e
            subst this
            obtain ⟨b, xs, hb, hx, rs⟩ := R.lst e0
            rw [hn] at hb; cases hb
            obtain ⟨h1, h2, h3⟩ := optAll_dp e1 rs fun d v p e r => ih d v p e r
            exact ⟨.lst (SqL.of hx) h1, by simp only [PyData.canLay0]; exact h2, by simp only [PyData.depth]; omega⟩
    | glo n => simp [py] at e
theorem look_dp (R : Rel T μ st H) {d : D} {v : V} {p : PyData} (e : look st d = some p) (r : Rep T μ H d v) : Dp T.K H v p ∧ SeqAt.shaped p = true := by
  obtain ⟨h1, h2, h3⟩ := py_dp R PYN d v p e r
  refine ⟨h1, ?_⟩
  unfold SeqAt.shaped
  rw [Bool.and_eq_true]
  exact ⟨h2, decide_eq_true (Nat.le_trans h3 (by decide))⟩
end

/-! ### rules by values -/
section
variable (T : Tx)
/-- two values in, what f makes of them -/
def rB (f : D → D → Store → R D) : R2 := fun x y H Q => ∃ μ st a b, Rel T μ st H ∧ Rep T μ H a x ∧ Rep T μ H b y ∧ AftV T (RepT T) (f a b st) μ H Q
def rU (f : D → Store → R D) : V → Hp → VK → Prop := fun x H Q => ∃ μ st a, Rel T μ st H ∧ Rep T μ H a x ∧ AftV T (RepT T) (f a st) μ H Q
def rL (f : List D → Store → R D) : List V → Hp → VK → Prop := fun xs H Q => ∃ μ st ds, Rel T μ st H ∧ Reps T μ H ds xs ∧ AftV T (RepT T) (f ds st) μ H Q
def rM (f : D → List D → Store → R D) : V → List V → Hp → VK → Prop := fun x xs H Q => ∃ μ st a ds, Rel T μ st H ∧ Rep T μ H a x ∧ Reps T μ H ds xs ∧ AftV T (RepT T) (f a ds st) μ H Q
end
section
variable {T : Tx} {μ : List Addr} {H : Hp} {st : Store}
theorem limS : LIM ≤ sizeLine := by rw [sizeLine_eq]; decide
/-- a new list, kept by the store or not -/
theorem mkL_new {m : Bool} {l : List D} {xs : List V} {Q : VK} (h : AftV T (RepT T) (mkL m l st) μ H Q) (R : Rel T μ st H) (r : Reps T μ H l xs) : ∀ p, H p = none → Q (.ref p) (upd H p (.lst xs)) := by
  intro p hp
  have np : p ∉ μ := fun hm => by obtain ⟨u, hu⟩ := (R.mut p hm).some; rw [hp] at hu; cases hu
  cases m with
  | false => exact h μ _ _ (Ext.new R hp) (R.new hp) (.lst upd_same ⟨np, fun hg => by obtain ⟨_, o, e⟩ := R.gh p hg; rw [hp] at e; cases e⟩ (r.mono (Ext.new R hp)))
  | true =>
    have x : Ext μ H (μ ++ [p]) (upd H p (.lst xs)) := Ext.newM R hp trivial
    refine h (μ ++ [p]) _ _ x (R.newM hp trivial ⟨xs, upd_same, r.mono x⟩) (.ref ?_)
    rw [← R.len]; simp
theorem tup_new {l : List D} {xs : List V} {Q : VK} (h : AftV T (RepT T) (.ok (.tup l) st) μ H Q) (R : Rel T μ st H) (r : Reps T μ H l xs) : ∀ p, H p = none → Q (.ref p) (upd H p (.tup xs)) := fun p hp =>
  h μ _ _ (Ext.new R hp) (R.new hp) (.tup (SqT.of upd_same) (r.mono (Ext.new R hp)))
theorem Reps.nil_iff {l : List D} {xs : List V} (r : Reps T μ H l xs) : xs = [] ↔ l = [] := by
  cases r with
  | nil => simp
  | cons _ _ => simp
/-- a list's items in the heap -/
theorem lstOf_at (R : Rel T μ st H) {d : D} {v : V} {l : List D} (e : lstOf st d = some l) (r : Rep T μ H d v) : ∃ a xs, v = .ref a ∧ H a = some (.lst xs) ∧ Reps T μ H l xs := by
  cases r with
  | lst h n rs => simp [lstOf] at e; subst e; exact ⟨_, _, rfl, h, rs⟩
  | @ref n a hn =>
    simp only [lstOf] at e
    cases e0 : st[n]? with
    | none => rw [e0] at e; cases e
    | some o =>
      rw [e0] at e
      cases o with
      | ins c fs => cases e
      | lst k =>
        have : k = l := by simpa using e
        subst this
        obtain ⟨b, xs, hb, hx, rs⟩ := R.lst e0
        rw [hn] at hb; cases hb
        exact ⟨a, xs, rfl, hx, rs⟩
  | _ => simp [lstOf] at e
theorem seqOf_at (R : Rel T μ st H) {d : D} {v : V} {l : List D} (e : seqOf st d = some l) (r : Rep T μ H d v) : ∃ a xs, v = .ref a ∧ (SqL T.K H a xs ∨ SqT T.K H a xs) ∧ Reps T μ H l xs := by
  cases r with
  | tup h rs => simp [seqOf] at e; subst e; exact ⟨_, _, rfl, .inr h, rs⟩
  | lst h n rs =>
    obtain ⟨a, xs, h1, h2, h3⟩ := lstOf_at R (d := .lst _) (by simpa [seqOf] using e) (.lst h n rs)
    exact ⟨a, xs, h1, .inl (SqL.of h2), h3⟩
  | ref hn =>
    obtain ⟨a, xs, h1, h2, h3⟩ := lstOf_at R (d := .ref _) (by simpa [seqOf] using e) (.ref hn)
    exact ⟨a, xs, h1, .inl (SqL.of h2), h3⟩
  | _ => simp [seqOf, lstOf] at e
end
theorem toStr_append (x y : List Nat) : toStr x ++ toStr y = toStr (x ++ y) := by
  show (⟨_ ++ _⟩ : Str) = ⟨_⟩
  simp [toStr]
theorem small64_ok {i : Int} (h : small64 i = true) : -(2 ^ 64) < i ∧ i < 2 ^ 64 := by
  unfold small64 at h
  rw [Bool.and_eq_true, decide_eq_true_eq, decide_eq_true_eq] at h
  exact h
theorem op_isN_bl {X : Cx} : OpR X (compareOp .Is) (fun x y H Q => ∃ b, x = .non ∧ y = .bl b ∧ Q (.bl false) H) := by
  intro pins s σ H x y v u Q I rx ry h
  obtain ⟨b, rfl, rfl, q⟩ := h
  cases (show v = Value.none from rx)
  cases (show u = Value.bool b from ry)
  exact wpAny_is_other rfl (fun z => nomatch z) ⟨.bl false, H, I, rfl, q⟩
section
variable {T : Tx} {X : Cx} (hK : X.K = T.K)
include hK
theorem op_addW {m : Bool} : OpR X (binaryOp .Add) (rB T (bin .add m)) := by
  intro pins s σ H x y v u Q I rx ry ⟨μ, st, a, b, R, ra, rb, h⟩
  have lst_add : ∀ {l k : List D}, lstOf st a = some l → lstOf st b = some k → l.length + k.length ≤ LIM → AftV T (RepT T) (mkL m (l ++ k) st) μ H Q → wpAny (model X.prog X.w) X.A (binaryOp .Add v u) (EP X pins σ Q) X.xe s := fun h1 h2 hl h => by
    obtain ⟨p, xs, e1, g1, r1⟩ := lstOf_at R h1 ra
    obtain ⟨q, ys, e2, g2, r2⟩ := lstOf_at R h2 rb
    refine op_cat pins s σ H x y v u Q I rx ry ⟨_, _, _, _, e1, e2, g1, g2, ?_, mkL_new h R (r1.append r2)⟩
    rw [r1.length, r2.length]; exact Nat.le_trans hl limS
  have e1 := ra
  have e2 := rb
  cases ra <;> cases rb <;> simp only [bin] at h <;> first | exact h.elim | skip
  · exact op_add pins s σ H _ _ v u Q I rx ry ⟨_, _, rfl, rfl, h.ok R (.int _)⟩
  · split at h
    · rename_i hl
      refine op_add_str pins s σ H _ _ v u Q I rx ry ⟨_, _, rfl, rfl, ?_, ?_⟩
      · simp only [toStr, Str.length, List.size_toArray]; exact Nat.le_trans hl limS
      · rw [toStr_append]; exact h.ok R (.str _)
    · exact h.elim
  · rename_i h1 r1 _ _ _ h2 r2
    split at h
    · rename_i hl
      refine op_catA pins s σ H _ _ v u Q I rx ry ⟨_, _, _, _, rfl, rfl, by rw [hK]; exact h1, by rw [hK]; exact h2, ?_, fun z => ?_, fun z z2 => ?_, fun _ _ => tup_new h R (r1.append r2)⟩
      · rw [r1.length, r2.length]; exact Nat.le_trans hl limS
      · have := r1.nil_iff.mp z; subst this
        exact h.ok R e2
      · have := r2.nil_iff.mp z2; subst this
        rw [List.append_nil] at h
        exact h.ok R e1
    · exact h.elim
  · split at h
    · exact lst_add rfl rfl (by assumption) h
    · exact h.elim
  · split at h
    · split at h
      · exact lst_add rfl (by assumption) (by assumption) h
      · exact h.elim
    · exact h.elim
  · split at h
    · split at h
      · exact lst_add (by assumption) rfl (by assumption) h
      · exact h.elim
    · exact h.elim
  · split at h
    · split at h
      · exact lst_add (by assumption) (by assumption) (by assumption) h
      · exact h.elim
    · exact h.elim
theorem op_subW {m : Bool} : OpR X (binaryOp .Sub) (rB T (bin .sub m)) := by
  intro pins s σ H x y v u Q I rx ry ⟨μ, st, a, b, R, ra, rb, h⟩
  cases ra <;> cases rb <;> simp only [bin] at h <;> first | exact h.elim | skip
  exact op_sub pins s σ H _ _ v u Q I rx ry ⟨_, _, rfl, rfl, h.ok R (.int _)⟩
theorem op_mulW' {m : Bool} : OpR X (binaryOp .Mult) (rB T (bin .mul m)) := by
  intro pins s σ H x y v u Q I rx ry ⟨μ, st, a, b, R, ra, rb, h⟩
  have e1 := ra
  cases ra <;> cases rb <;> simp only [bin] at h <;> first | exact h.elim | skip
  · split at h
    · rename_i hs
      rw [Bool.or_eq_true] at hs
      exact op_mul pins s σ H _ _ v u Q I rx ry ⟨_, _, rfl, rfl, hs.imp small64_ok small64_ok, h.ok R (.int _)⟩
    · exact h.elim
  · rename_i h1 _ r1 k
    split at h
    · rename_i hs
      obtain ⟨h0, h9, hl⟩ := hs
      have hk : k.toNat ≤ 1000 := by omega
      refine op_rep pins s σ H _ _ v u Q I rx ry ⟨_, k, _, rfl, rfl, h1, by omega, by omega, ?_, mkL_new h R (r1.rep _)⟩
      rw [r1.length, sizeLine_eq]
      exact Nat.le_trans (Nat.mul_le_mul hl hk) (by decide)
    · exact h.elim
theorem op_fdivW' {m : Bool} : OpR X (binaryOp .FloorDiv) (rB T (bin .fdiv m)) := by
  intro pins s σ H x y v u Q I rx ry ⟨μ, st, a, b, R, ra, rb, h⟩
  cases ra <;> cases rb <;> simp only [bin] at h <;> first | exact h.elim | skip
  split at h
  · rename_i hs
    obtain ⟨h0, h9⟩ := hs
    refine op_fdivW pins s σ H _ _ v u Q I rx ry ⟨_, _, rfl, rfl, wide_div (b := 9000) h0 ?_ (by decide) (by decide), h.ok R (.int _)⟩
    have e : (10 ^ 100 : Nat) < 2 ^ 9000 := by decide +kernel
    have e2 : ((10 ^ 100 : Nat) : Int) = (10 : Int) ^ 100 := by norm_cast
    omega
  · exact h.elim
theorem op_modW' {m : Bool} : OpR X (binaryOp .Mod) (rB T (bin .mod m)) := by
  intro pins s σ H x y v u Q I rx ry ⟨μ, st, a, b, R, ra, rb, h⟩
  cases ra <;> cases rb <;> simp only [bin] at h <;> first | exact h.elim | skip
  split at h
  · exact op_mod pins s σ H _ _ v u Q I rx ry ⟨_, _, rfl, rfl, by assumption, h.ok R (.int _)⟩
  · exact h.elim
theorem op_powW' {m : Bool} : OpR X (binaryOp .Pow) (rB T (bin .pow m)) := by
  intro pins s σ H x y v u Q I rx ry ⟨μ, st, a, b, R, ra, rb, h⟩
  cases ra <;> cases rb <;> simp only [bin] at h <;> first | exact h.elim | skip
  split at h
  · rename_i hs
    obtain ⟨h0, h9, h3⟩ := hs
    have := small64_ok h3
    exact op_pow pins s σ H _ _ v u Q I rx ry ⟨_, _, rfl, rfl, ⟨h0, by omega, by omega⟩, h.ok R (.int _)⟩
  · exact h.elim

/-! ### comparisons -/
theorem op_eqW (hu : X.A.units + 64 < cLine) : OpR X (compareOp .Eq) (rB T (cmp .eq)) := by
  intro pins s σ H x y v u Q I rx ry ⟨μ, st, a, b, R, ra, rb, h⟩
  simp only [cmp, eqD] at h
  cases e1 : look st a with
  | none => rw [e1] at h; exact h.elim
  | some p =>
    cases e2 : look st b with
    | none => rw [e1, e2] at h; exact h.elim
    | some q =>
      rw [e1, e2] at h
      obtain ⟨d1, s1⟩ := look_dp R e1 ra
      obtain ⟨d2, s2⟩ := look_dp R e2 rb
      exact op_eqD hu pins s σ H x y v u Q I rx ry ⟨p, q, by rw [hK]; exact d1, by rw [hK]; exact d2, s1, s2, h.ok R (.bl _)⟩
theorem op_neW (hu : X.A.units + 64 < cLine) : OpR X (compareOp .NotEq) (rB T (cmp .ne)) := by
  intro pins s σ H x y v u Q I rx ry ⟨μ, st, a, b, R, ra, rb, h⟩
  simp only [cmp, eqD] at h
  cases e1 : look st a with
  | none => rw [e1] at h; exact h.elim
  | some p =>
    cases e2 : look st b with
    | none => rw [e1, e2] at h; exact h.elim
    | some q =>
      rw [e1, e2] at h
      obtain ⟨d1, s1⟩ := look_dp R e1 ra
      obtain ⟨d2, s2⟩ := look_dp R e2 rb
      exact op_neD hu pins s σ H x y v u Q I rx ry ⟨p, q, by rw [hK]; exact d1, by rw [hK]; exact d2, s1, s2, h.ok R (.bl _)⟩
theorem op_ltW : OpR X (compareOp .Lt) (rB T (cmp .lt)) := by
  intro pins s σ H x y v u Q I rx ry ⟨μ, st, a, b, R, ra, rb, h⟩
  cases ra <;> cases rb <;> simp only [cmp] at h <;> first | exact h.elim | skip
  exact op_lt pins s σ H _ _ v u Q I rx ry ⟨_, _, rfl, rfl, h.ok R (.bl _)⟩
theorem op_leW : OpR X (compareOp .LtE) (rB T (cmp .le)) := by
  intro pins s σ H x y v u Q I rx ry ⟨μ, st, a, b, R, ra, rb, h⟩
  cases ra <;> cases rb <;> simp only [cmp] at h <;> first | exact h.elim | skip
  exact op_le pins s σ H _ _ v u Q I rx ry ⟨_, _, rfl, rfl, h.ok R (.bl _)⟩
theorem op_gtW : OpR X (compareOp .Gt) (rB T (cmp .gt)) := by
  intro pins s σ H x y v u Q I rx ry ⟨μ, st, a, b, R, ra, rb, h⟩
  cases ra <;> cases rb <;> simp only [cmp] at h <;> first | exact h.elim | skip
  exact op_gt pins s σ H _ _ v u Q I rx ry ⟨_, _, rfl, rfl, h.ok R (.bl _)⟩
theorem op_geW : OpR X (compareOp .GtE) (rB T (cmp .ge)) := by
  intro pins s σ H x y v u Q I rx ry ⟨μ, st, a, b, R, ra, rb, h⟩
  cases ra <;> cases rb <;> simp only [cmp] at h <;> first | exact h.elim | skip
  exact op_ge pins s σ H _ _ v u Q I rx ry ⟨_, _, rfl, rfl, h.ok R (.bl _)⟩
theorem op_inW (hu : X.A.units + 65 < cLine) : OpR X (compareOp .In) (rB T (cmp .isin)) := by
  intro pins s σ H x y v u Q I rx ry ⟨μ, st, a, b, R, ra, rb, h⟩
  simp only [cmp, inD] at h
  cases e1 : look st a with
  | none => rw [e1] at h; exact h.elim
  | some p =>
    cases e2 : look st b with
    | none => rw [e1, e2] at h; exact h.elim
    | some q =>
      rw [e1, e2] at h
      obtain ⟨d1, s1⟩ := look_dp R e1 ra
      obtain ⟨d2, s2⟩ := look_dp R e2 rb
      rw [← hK] at d1 d2
      cases q with
      | list qs => exact op_inD hu pins s σ H x y v u Q I rx ry ⟨p, qs, d1, d2, s1, s2, h.ok R (.bl _)⟩
      | tuple qs =>
        obtain ⟨as, r1⟩ := Dp.reads I p x v d1 rx
        obtain ⟨bs, r2⟩ := Dp.reads I (.tuple qs) y u d2 ry
        exact SeqAt.in_tuple_reads r2 r1 (SeqAt.canLay_of_shaped s2) (SeqAt.canLay_of_shaped s1) (room_in_shaped s1 hu) ⟨.bl _, H, I, rfl, h.ok R (.bl _)⟩
      | _ => exact h.elim
theorem op_ninW (hu : X.A.units + 65 < cLine) : OpR X (compareOp .NotIn) (rB T (cmp .notin)) := by
  intro pins s σ H x y v u Q I rx ry ⟨μ, st, a, b, R, ra, rb, h⟩
  simp only [cmp, inD] at h
  cases e1 : look st a with
  | none => rw [e1] at h; exact h.elim
  | some p =>
    cases e2 : look st b with
    | none => rw [e1, e2] at h; exact h.elim
    | some q =>
      rw [e1, e2] at h
      obtain ⟨d1, s1⟩ := look_dp R e1 ra
      obtain ⟨d2, s2⟩ := look_dp R e2 rb
      rw [← hK] at d1 d2
      cases q with
      | list qs => exact op_notInD hu pins s σ H x y v u Q I rx ry ⟨p, qs, d1, d2, s1, s2, h.ok R (.bl _)⟩
      | tuple qs =>
        obtain ⟨as, r1⟩ := Dp.reads I p x v d1 rx
        obtain ⟨bs, r2⟩ := Dp.reads I (.tuple qs) y u d2 ry
        exact SeqAt.notIn_tuple_reads r2 r1 (SeqAt.canLay_of_shaped s2) (SeqAt.canLay_of_shaped s1) (room_in_shaped s1 hu) ⟨.bl _, H, I, rfl, h.ok R (.bl _)⟩
      | _ => exact h.elim
theorem op_isW : OpR X (compareOp .Is) (rB T (cmp .is_)) := by
  intro pins s σ H x y v u Q I rx ry ⟨μ, st, a, b, R, ra, rb, h⟩
  cases rb <;> simp only [cmp] at h <;> first | exact h.elim | skip
  · refine op_isN pins s σ H _ _ v u Q I rx ry ⟨rfl, ?_⟩
    have e : decide (x = V.non) = isNon a := by cases ra <;> rfl
    rw [e]; exact h.ok R (.bl _)
  · rename_i c
    cases ra <;> first | exact h.elim | skip
    · refine op_isN_bl pins s σ H _ _ v u Q I rx ry ⟨c, rfl, rfl, h.ok R (.bl _)⟩
    · rename_i d
      refine op_is_bl pins s σ H _ _ v u Q I rx ry ⟨_, _, rfl, rfl, ?_⟩
      have e : decide (d = c) = (d == c) := by cases d <;> cases c <;> rfl
      rw [e]; exact h.ok R (.bl _)
theorem op_isntW : OpR X (compareOp .IsNot) (rB T (cmp .isnot)) := by
  intro pins s σ H x y v u Q I rx ry ⟨μ, st, a, b, R, ra, rb, h⟩
  cases rb <;> simp only [cmp] at h <;> first | exact h.elim | skip
  refine op_notN pins s σ H _ _ v u Q I rx ry ⟨rfl, ?_⟩
  have e : (!decide (x = V.non)) = (!isNon a) := by cases ra <;> rfl
  rw [e]; exact h.ok R (.bl _)
end
end AF

/-! Ops2: items, slices, built-in functions and methods by values. -/
namespace AF
open PySem PySem.Spec PyProof.Rows L2
theorem itemAt_atI {α : Type} (l : List α) (i : Int) : itemAt l i = atI l i := by
  unfold itemAt atI
  show (match ixN l.length i with | some j => l[j]? | none => none) = _
  cases ixN l.length i <;> rfl
section
variable {T : Tx} {μ : List Addr} {H : Hp} {st : Store}
theorem Reps.atI {l : List D} {xs : List V} {i : Int} {d : D} (r : Reps T μ H l xs) (e : itemAt l i = some d) : ∃ v, atI xs i = some v ∧ Rep T μ H d v := by
  rw [itemAt_atI] at e
  unfold L2.atI at e ⊢
  rw [r.length]
  cases q : ixN l.length i with
  | none => rw [q] at e; cases e
  | some j => rw [q] at e; exact r.get e
theorem Reps.cut {l : List D} {xs : List V} (r : Reps T μ H l xs) (lo hi : Option Int) : Reps T μ H (AF.cut l lo hi) (cutV xs lo hi) := by
  unfold AF.cut cutV
  rw [r.length]
  exact (r.drop _).take _
theorem cut_whole {α : Type} {l : List α} {lo hi : Option Int} (h : HT.sIx l.length 0 lo = 0 ∧ HT.sIx l.length l.length hi = l.length) : AF.cut l lo hi = l := by
  unfold AF.cut
  rw [h.1, h.2]
  simp
theorem Reps.ints : ∀ {l : List D} {xs : List V} {ns : List Int}, Reps T μ H l xs → intsOf l = some ns → xs = ns.map V.int
  | _, _, _, .nil, e => by simp [intsOf] at e; subst e; rfl
  | d :: l, _, ns, .cons a r, e => by
    cases a <;> simp only [intsOf] at e <;> first | (cases e; done) | skip
    rename_i z
    cases q : intsOf l with
    | none => rw [q] at e; cases e
    | some s =>
      rw [q] at e
      have e2 : z :: s = ns := by simpa using e
      subst e2
      rw [List.map_cons, ← Reps.ints r q]
theorem Reps.of_ints : ∀ (ns : List Int), Reps T μ H (ns.map D.int) (ns.map V.int)
  | [] => .nil
  | n :: ns => .cons (.int n) (Reps.of_ints ns)
theorem Reps.bools : ∀ {l : List D} {xs : List V} {bs : List Bool}, Reps T μ H l xs → bools l = some bs → xs = bs.map V.bl
  | _, _, _, .nil, e => by simp [AF.bools] at e; subst e; rfl
  | d :: l, _, bs, .cons a r, e => by
    cases a <;> simp only [AF.bools] at e <;> first | (cases e; done) | skip
    rename_i z
    cases q : AF.bools l with
    | none => rw [q] at e; cases e
    | some s =>
      rw [q] at e
      have e2 : z :: s = bs := by simpa using e
      subst e2
      rw [List.map_cons, ← Reps.bools r q]
end
section
variable {T : Tx} {X : Cx} (hK : X.K = T.K)
include hK
theorem ix_W : IxR X (rB T idx) := by
  intro value slice pins s σ H x y v u Q I rx ry ⟨μ, st, a, b, R, ra, rb, h⟩ hs
  cases rb <;> simp only [idx] at h <;> first | exact h.elim | skip
  rename_i i
  have sq : ∀ {l : List D}, seqOf st a = some l → (AftV T (RepT T) (match itemAt l i with | some d => .ok d st | none => .bad) μ H Q) → wpAny (model X.prog X.w) X.A (subscriptTail value slice v u) (EP X pins σ Q) X.xe s := fun {l} e h => by
    obtain ⟨p, xs, rfl, hx, r⟩ := seqOf_at R e ra
    cases q : itemAt l i with
    | none => rw [q] at h; exact h.elim
    | some d =>
      rw [q] at h
      obtain ⟨w', h1, h2⟩ := r.atI q
      rw [← hK] at hx
      rcases hx with hx | hx
      · exact ix_list value slice pins s σ H _ _ v u Q I rx ry ⟨p, xs, i, w', rfl, rfl, hx, h1, h.ok R h2⟩ hs
      · exact ix_tup value slice pins s σ H _ _ v u Q I rx ry ⟨p, xs, i, w', rfl, rfl, hx, h1, h.ok R h2⟩ hs
  have ra' := ra
  cases ra with
  | str x =>
    dsimp only at h
    split at h
    · rename_i hl
      cases q : itemAt x i with
      | none => rw [q] at h; exact h.elim
      | some c =>
        rw [q] at h
        refine ix_str value slice pins s σ H _ _ v u Q I rx ry ⟨toStr x, i, c, rfl, rfl, ?_, ?_, ?_⟩ hs
        · simp only [toStr, Str.length, List.size_toArray]; exact Nat.le_trans hl limS
        · rw [← itemAt_atI]; simpa [toStr] using q
        · exact h.ok R (.str [c])
    · exact h.elim
  | @scr a ns hf =>
    dsimp only at h
    cases q : itemAt ns i with
    | none => rw [q] at h; exact h.elim
    | some k =>
      rw [q] at h
      refine ix_list value slice pins s σ H _ _ v u Q I rx ry ⟨a, ns.map V.int, i, .int k, rfl, rfl, by rw [hK]; exact hf.seq, ?_, h.ok R (.int k)⟩ hs
      rw [itemAt_atI] at q
      unfold atI at q ⊢
      rw [List.length_map]
      cases q2 : ixN ns.length i with
      | none => rw [q2] at q; cases q
      | some j =>
        rw [q2] at q
        have q3 : ns[j]? = some k := q
        show (ns.map V.int)[j]? = some (V.int k)
        rw [List.getElem?_map, q3]; rfl
  | tup h1 h2 => exact sq rfl h
  | lst h1 h2 h3 => exact sq rfl h
  | ref h1 =>
    dsimp only at h
    split at h
    · exact sq (by assumption) h
    · exact h.elim
  | _ => simp only [seqOf, lstOf] at h; exact h.elim
/-- a slice's reading by values -/
def rSl (T : Tx) : V → Option Int → Option Int → Hp → VK → Prop := fun x lo hi H Q => ∃ μ st a, Rel T μ st H ∧ Rep T μ H a x ∧ AftV T (RepT T) (slc a lo hi st) μ H Q
theorem sl_W : SlR X (rSl T) := by
  intro pins s σ H x v vl vu lo hi sl Q I rx hs pl pu ⟨μ, st, a, R, ra, h⟩
  have ls : ∀ {l : List D}, lstOf st a = some l → AftV T (RepT T) (.ok (.lst (cut l lo hi)) st) μ H Q → ∃ T' id, typeLookup (.type T') "__getitem__" = pure (some (.builtin id)) ∧ s.TypeIs v T' ∧ wpAny (model X.prog X.w) X.A (getItem v (.ref sl)) (EP X pins σ Q) X.xe s := fun {l} e h => by
    obtain ⟨p, xs, rfl, hx, r⟩ := lstOf_at R e ra
    refine sl_list pins s σ H _ v vl vu lo hi sl Q I rx hs pl pu ⟨p, xs, rfl, SqL.of hx, ?_⟩
    exact mkL_new (m := false) h R (r.cut lo hi)
  have ra' := ra
  cases ra with
  | @tup a xs l h1 r =>
    simp only [slc] at h
    refine sl_tupA pins s σ H _ v vl vu lo hi sl Q I rx hs pl pu ⟨a, xs, rfl, by rw [hK]; exact h1, fun z => ?_, fun _ => tup_new h R (r.cut lo hi)⟩
    rw [r.length] at z
    rw [cut_whole z] at h
    exact h.ok R ra'
  | lst h1 h2 h3 =>
    simp only [slc, lstOf] at h
    exact ls rfl h
  | ref h1 =>
    simp only [slc] at h
    split at h
    · exact ls (by assumption) h
    · exact h.elim
  | _ => simp only [slc, lstOf] at h; exact h.elim
theorem set_W : PSet X (fun o i v H Q => ∃ μ st a b c, Rel T μ st H ∧ Rep T μ H a o ∧ Rep T μ H b i ∧ Rep T μ H c v ∧ AftV T (fun _ _ (_ : Unit) (_ : Unit) => True) (setI a b c st) μ H fun _ H' => Q H') := by
  intro pins s σ H o i v ov iv u Q I ro ri rv ⟨μ, st, a, b, c, R, ra, rb, rc, h⟩
  cases ra <;> cases rb <;> simp only [setI] at h <;> first | exact h.elim | skip
  rename_i n p hn k
  cases e0 : st[n]? with
  | none => rw [e0] at h; exact h.elim
  | some ob =>
    rw [e0] at h
    cases ob with
    | ins c fs => exact h.elim
    | lst l =>
      dsimp only at h
      cases e1 : ixI l.length k with
      | none => rw [e1] at h; exact h.elim
      | some j =>
        rw [e1] at h
        obtain ⟨q, xs, hq, hx, rs⟩ := R.lst e0
        rw [hn] at hq; cases hq
        refine set_list pins s σ H _ _ v ov iv u Q I ro ri rv ⟨p, xs, k, j, rfl, rfl, hx, by rw [rs.length]; exact e1, ?_⟩
        have x : Ext μ H μ (upd H p (.lst (xs.set j v))) := Ext.set R hn trivial
        exact h μ _ () x (R.set hn trivial ⟨_, upd_same, (rs.mono x).set (rc.mono x) j⟩) trivial
theorem un_negW : UnR X (unaryOp .USub) (rU T fun a st => match a with | .int i => .ok (.int (-i)) st | _ => .bad) := by
  intro pins s σ H x v Q I rx ⟨μ, st, a, R, ra, h⟩
  cases ra <;> first | exact h.elim | skip
  exact un_neg pins s σ H _ v Q I rx ⟨_, rfl, h.ok R (.int _)⟩
end
end AF

set_option maxHeartbeats 4000000
/-! Sort: sorted and min of lists and tuples of ints, of pairs that begin with unlike ints. -/
namespace AF
open PySem PyProof.Rows Srt SrtO
section
variable {prog : Program} {w : World} {A : Around} {E : Value → Shared → Prop} {s : Shared}
/-- the items of a list or tuple collected -/
theorem collect_lt {l : Addr} {o : Obj} {c : String} {vs : List Value} {n : Nat} {Q : List Value → Shared → Prop} (hc2 : c = "list" ∨ c = "tuple") (ho : s.heap.get? l = some o) (hc : o.cls = .type c) (hd : o.data = .seq vs.toArray n)
    (h : Q vs { s with heap := (s.heap.push (seqObj "list" #[] 0)).update s.heap.objs.size (Obj.mapSeq (· ++ vs.toArray)) }) (hsz : vs.length ≤ sizeLine) :
    wpAny (model prog w) A (collect (.ref l)) Q E s := by
  unfold collect
  refine wpAny_bind (wpAny_runValue (codeAny_builtin entry_proto_collect' ?_))
  show wpAny _ _ (newList [] >>= fun x => again (.builtin "list.__iadd__" ⟨[x, .ref l], []⟩)) _ _ s
  refine wpAny_bind (wpAny_newList (wpAny_pure ⟨Code.quiet_builtin _ (by decide +kernel), codeAny_builtin entry_list_iadd' ?_⟩))
  show wpAny _ A.in1 (Builtin.List.listExtendWith (.ref s.heap.objs.size) (.ref l) (.ref s.heap.objs.size)) _ _ { s with heap := s.heap.push (seqObj "list" #[] 0) }
  unfold Builtin.List.listExtendWith
  have ho' : (s.heap.push (seqObj "list" #[] 0)).get? l = some o := Heap.get?_push_of_some _ ho
  have hnew : (s.heap.push (seqObj "list" #[] 0)).get? s.heap.objs.size = some (seqObj "list" #[] 0) := Heap.get?_push_size _ rfl
  refine wpAny_bind (wpAny_typeOf (T := c) ⟨o, ho', hc⟩ ?_)
  rw [if_pos (by rcases hc2 with e | e <;> subst e <;> simp)]
  refine wpAny_bind (listItems_at ho' hd (wpAny_bind (listItems_at hnew rfl ?_)))
  rw [if_neg (by simp)]
  refine wpAny_bind (listUpdate_at hnew rfl ?_ (Nat.zero_le _) (by simp only [Array.size_append, List.size_toArray]; simp; omega))
  refine wpAny_pure ?_
  have hfin : ((s.heap.push (seqObj "list" #[] 0)).update s.heap.objs.size (Obj.mapSeq (· ++ vs.toArray))).get? s.heap.objs.size = some (seqObj "list" (#[] ++ vs.toArray) _) := get?_update_seq hnew _
  show wpAny (model prog w) A (load s.heap.objs.size >>= fun o => match o.data with | .seq xs _ => pure xs.toList | _ => unsupported "internal:collect") Q E _
  refine wpAny_bind (wpAny_load hfin ?_)
  show wpAny _ _ (pure ((#[] : Array Value) ++ vs.toArray).toList) Q E _
  have e : ((#[] : Array Value) ++ vs.toArray).toList = vs := by simp
  rw [e]
  exact wpAny_pure h
theorem sorted_lt {l : Addr} {o : Obj} {c : String} {vs : List Value} {n : Nat} {ltv : Value → Value → Bool} {Q : Value → Shared → Prop} (hc2 : c = "list" ∨ c = "tuple") (ho : s.heap.get? l = some o) (hc : o.cls = .type c) (hd : o.data = .seq vs.toArray n) (O : Swo ltv) (hz : vs.length ≤ sizeLine)
    (hS : 2 ≤ vs.length → ∀ (h₁ : Heap) (a : Addr), h₁.get? a = some (seqObj "list" vs.toArray 0) → (∀ b o, s.heap.get? b = some o → b ≠ a ∧ h₁.get? b = some o) → SortableO prog w A.in1.in1 { s with heap := h₁ } a vs ltv)
    (h : ∀ out : List Value, Srtd ltv out → Stb ltv out vs → Q (.ref (s.heap.objs.size + 1)) { s with heap := sortedAll s.heap vs out.toArray }) :
    wpAny (model prog w) A (call (.builtin "sorted") [.ref l]) Q E s := by
  refine Calls.call_function_entry kind_sorted plain_sorted entry_sorted (args_sorted1 _) ?_
  unfold Builtin.«sorted»
  refine wpAny_bind (m := checkCount "sorted" 1 1 _) (wpAny_pure (wpAny_bind (collect_lt hc2 ho hc hd ?_ hz)))
  refine wpAny_bind (wpAny_newList ?_ hz)
  obtain ⟨h1, e1⟩ : ∃ h1, h1 = (s.heap.push (seqObj "list" #[] 0)).update s.heap.objs.size (Obj.mapSeq (· ++ vs.toArray)) := ⟨_, rfl⟩
  have hsz : h1.objs.size = s.heap.objs.size + 1 := by rw [e1, Heap.size_update, size_push']
  have k1 : ∀ b u, s.heap.get? b = some u → h1.get? b = some u := fun b u q => by
    rw [e1, Heap.get?_update_ne _ _ _ _ (Nat.ne_of_lt (Heap.lt_size q))]
    exact Heap.get?_push_of_some _ q
  have hoL : (h1.push (seqObj "list" vs.toArray 0)).get? (s.heap.objs.size + 1) = some (seqObj "list" vs.toArray 0) := by
    rw [← hsz]; exact Heap.get?_push_size _ rfl
  have keep : ∀ b u, s.heap.get? b = some u → b ≠ s.heap.objs.size + 1 ∧ (h1.push (seqObj "list" vs.toArray 0)).get? b = some u := fun b u q =>
    ⟨Nat.ne_of_lt (Nat.lt_succ_of_lt (Heap.lt_size q)), Heap.get?_push_of_some _ (k1 b u q)⟩
  rw [← e1]
  show wpAny _ _ _ _ _ { s with heap := h1.push (seqObj "list" vs.toArray 0) }
  rw [hsz]
  refine wpAny_bind (wpAny_holding (wpAny_call_entry slot_list_sort ⟨_, hoL, rfl⟩ entry_list_sort (list_sort_ord O hoL hz (fun h2 => hS h2 _ _ hoL keep) fun out hs hb => ⟨_, rfl, ?_⟩) (args_list_sort _)))
  refine wpAny_pure ⟨_, rfl, ?_⟩
  have q := h out hs hb
  unfold sortedAll at q
  rw [← e1] at q
  exact q
/-! ### pairs that begin with unlike ints -/
/-- v is a tuple (k, y) -/
def KeyV (h : Heap) (v : Value) (k : Int) : Prop := ∃ a o t y n, v = .ref a ∧ h.get? a = some o ∧ o.cls = .type "tuple" ∧ o.data = .seq #[.int k t, y] n
theorem KeyV.keeps {h h' : Heap} {v : Value} {k : Int} (x : KeyV h v k) (kp : ∀ b o, h.get? b = some o → o.cls = .type "tuple" → h'.get? b = some o) : KeyV h' v k := by
  obtain ⟨a, o, t, y, n, e, ho, hc, hd⟩ := x
  exact ⟨a, o, t, y, n, e, kp a o ho hc, hc, hd⟩
theorem KeyV.inj {h : Heap} {v : Value} {k k' : Int} (x : KeyV h v k) (x' : KeyV h v k') : k = k' := by
  obtain ⟨a, o, t, y, n, e, ho, hc, hd⟩ := x
  obtain ⟨a', o', t', y', n', e', ho', hc', hd'⟩ := x'
  rw [e] at e'; cases e'
  rw [ho] at ho'; cases ho'
  rw [hd] at hd'
  injection hd' with h1 _
  simp at h1
  exact h1.1.1
open Classical in
noncomputable def kvOf (h : Heap) (v : Value) : Int := if e : ∃ k, KeyV h v k then e.choose else 0
theorem kvOf_eq {h : Heap} {v : Value} {k : Int} (x : KeyV h v k) : kvOf h v = k := by
  unfold kvOf
  have e : ∃ k, KeyV h v k := ⟨k, x⟩
  rw [dif_pos e]
  exact e.choose_spec.inj x
theorem swo_key (k : Value → Int) : Swo fun v u => decide (k v < k u) := by
  refine ⟨fun x y h => ?_, fun x y z h1 h2 => ?_⟩
  · have a : k x < k y := of_decide_eq_true h
    exact decide_eq_false (by omega)
  · have a : ¬ k y < k x := of_decide_eq_false h1
    have b : ¬ k z < k y := of_decide_eq_false h2
    exact decide_eq_false (by omega)
/-- one < of two of them -/
theorem key_lt {k : Value → Int} {v u : Value} (h1 : KeyV s.heap v (k v)) (h2 : KeyV s.heap u (k u)) (inj : k v = k u → v = u) {Q : Bool → Shared → Prop} (q : Q (decide (k v < k u)) s) :
    wpAny (model prog w) A (keyLt' (tuples' true) v u) Q (fun _ _ => False) s := by
  generalize hx : k v = x at *
  generalize hy : k u = y at *
  obtain ⟨a, o, t, b, n, rfl, ho, hc, hd⟩ := h1
  obtain ⟨a', o', t', b', n', rfl, ho', hc', hd'⟩ := h2
  refine PySem.W.kat_lt ho hd ho' hd' ?_
  show PySem.W.KatLex prog w A true (decide (2 < 2)) Q [(.int x t, .int y t'), (b, b')] 0 s
  refine PySem.W.kat_cons (SeqAt.EqAt.int_int x t y t' prog w _ _ (PySem.W.kat_go (fun e1 => ?_) fun e1 => ?_))
  · have ex : x = y := by simpa using e1
    have ea := inj ex
    injection ea with ea
    subst ea
    rw [ho] at ho'; cases ho'
    rw [hd] at hd'
    injection hd' with h1 _
    have eb : b = b' := by simp at h1; exact h1.2
    subst eb
    refine PySem.W.kat_yes (PySem.W.kat_cons (SeqAt.EqAt.same b prog w _ _ (PySem.W.kat_yes (PySem.W.kat_nil ?_))))
    have e2 : decide (x < y) = decide (2 < 2) := by rw [ex]; simp
    rw [← e2]; exact q
  · exact PySem.W.kat_no (oneLt_int q)
theorem firsts_key {h : Heap} {k : Value → Int} : ∀ {vs : List Value}, (∀ v ∈ vs, KeyV h v (k v)) → ∃ fs : List Value, PySem.W.KatTups h vs fs ∧ fs.length = vs.length ∧ ∀ f ∈ fs, ∃ x t, f = Value.int x t
  | [], _ => ⟨[], .nil, rfl, fun _ hm => by cases hm⟩
  | v :: vs, hp => by
    obtain ⟨fs, h1, h2, h3⟩ := firsts_key (vs := vs) fun u hm => hp u (List.mem_cons_of_mem _ hm)
    obtain ⟨a, o, t, y, n, e, ho, hc, hd⟩ := hp v List.mem_cons_self
    refine ⟨.int (k v) t :: fs, ?_, by simp [h2], fun f hm => ?_⟩
    · generalize k v = x at *
      subst e
      exact .cons ho hc hd rfl h1
    · rcases List.mem_cons.mp hm with e2 | hm
      · exact ⟨_, t, e2⟩
      · exact h3 f hm
theorem keys_sortable {a : Addr} {vs : List Value} {k : Value → Int} (h0 : 0 < vs.length) (hp : ∀ v ∈ vs, KeyV s.heap v (k v)) (inj : ∀ v ∈ vs, ∀ u ∈ vs, k v = k u → v = u) (ha : ∀ o, s.heap.get? a = some o → o.cls ≠ .type "tuple") :
    SortableO prog w A s a vs fun v u => decide (k v < k u) := by
  intro h' keep
  have hp' : ∀ v ∈ vs, KeyV h' v (k v) := fun v hm => (hp v hm).keeps fun b o e c => keep b o (fun z => by subst z; exact ha o e c) e
  obtain ⟨fs, h1, h2, h3⟩ := firsts_key hp'
  refine ⟨tuples' true, fun Q E hq => PySem.W.kat_kind (T := .type "int") h1 (by omega) (fun f hm => ?_) (by rfl) ?_, fun p q hm hm' => ?_⟩
  · obtain ⟨x, t, rfl⟩ := h3 f hm
    exact PySem.W.Looks.now
  · have e : (Value.type "int" != Value.type "tuple") = true := by decide +kernel
    rw [e]; exact hq
  · exact key_lt (s := { s with heap := h' }) (hp' _ hm) (hp' _ hm') (inj _ hm _ hm') ⟨rfl, rfl⟩
end
end AF

set_option maxHeartbeats 2000000
/-! Ops3: sorted, min, max and the other built-in functions by values. -/
namespace AF
open PySem PySem.Spec PyProof.Rows L2
theorem lift_perm {α β : Type} {G : α → β → Prop} {out vs : List β} (p : out.Perm vs) : ∀ {l : List α}, Paired G l vs → ∃ l', l'.Perm l ∧ Paired G l' out := by
  induction p with
  | nil => intro l r; cases r; exact ⟨[], .refl _, .nil⟩
  | cons x _ ih =>
    intro l r
    cases r with
    | cons h t =>
      obtain ⟨l', h1, h2⟩ := ih t
      exact ⟨_ :: l', h1.cons _, .cons h h2⟩
  | swap x y k =>
    intro l r
    cases r with
    | cons h t =>
      cases t with
      | cons h2 t2 => exact ⟨_ :: _ :: _, .swap _ _ _, .cons h2 (.cons h t2)⟩
  | trans _ _ ih1 ih2 =>
    intro l r
    obtain ⟨l1, a1, b1⟩ := ih2 r
    obtain ⟨l2, a2, b2⟩ := ih1 b1
    exact ⟨l2, a2.trans a1, b2⟩
/-! ### the core's own sorting -/
theorem insI_perm (k : Int) : ∀ l : List Int, (insI k l).Perm (k :: l)
  | [] => .refl _
  | j :: r => by
    unfold insI
    split
    · exact .refl _
    · exact (List.Perm.cons j (insI_perm k r)).trans (.swap k j r)
theorem sortI_perm : ∀ l : List Int, (sortI l).Perm l
  | [] => .refl _
  | k :: r => (insI_perm k _).trans ((sortI_perm r).cons k)
theorem insI_sorted (k : Int) : ∀ {l : List Int}, l.Pairwise (· ≤ ·) → (insI k l).Pairwise (· ≤ ·)
  | [], _ => by simp [insI]
  | j :: r, h => by
    unfold insI
    split
    · rename_i hk
      refine List.pairwise_cons.mpr ⟨fun x hx => ?_, h⟩
      rcases List.mem_cons.mp hx with rfl | hx
      · exact hk
      · exact Int.le_trans hk ((List.pairwise_cons.mp h).1 x hx)
    · rename_i hk
      obtain ⟨h1, h2⟩ := List.pairwise_cons.mp h
      refine List.pairwise_cons.mpr ⟨fun x hx => ?_, insI_sorted k h2⟩
      rcases List.mem_cons.mp ((insI_perm k r).mem_iff.mp hx) with rfl | hx
      · omega
      · exact h1 x hx
theorem sortI_sorted : ∀ l : List Int, (sortI l).Pairwise (· ≤ ·)
  | [] => .nil
  | k :: r => insI_sorted k (sortI_sorted r)
theorem sortI_eq {a l : List Int} (p : a.Perm l) (h : a.Pairwise (· ≤ ·)) : a = sortI l :=
  List.Perm.eq_of_pairwise (le := fun x y : Int => x ≤ y) (fun _ _ _ _ h1 h2 => Int.le_antisymm h1 h2) h (sortI_sorted l) (p.trans (sortI_perm l).symm)
theorem insD_perm (k : Int) (d : D) : ∀ l : List (Int × D), (insD k d l).Perm ((k, d) :: l)
  | [] => .refl _
  | (j, e) :: r => by
    unfold insD
    split
    · exact .refl _
    · exact (List.Perm.cons _ (insD_perm k d r)).trans (.swap _ _ r)
theorem sortK_perm : ∀ l : List (Int × D), (sortK l).Perm l
  | [] => .refl _
  | (k, d) :: r => (insD_perm k d _).trans ((sortK_perm r).cons _)
theorem insD_sorted (k : Int) (d : D) : ∀ {l : List (Int × D)}, l.Pairwise (fun x y => x.1 ≤ y.1) → (insD k d l).Pairwise (fun x y => x.1 ≤ y.1)
  | [], _ => by simp [insD]
  | (j, e) :: r, h => by
    unfold insD
    split
    · rename_i hk
      refine List.pairwise_cons.mpr ⟨fun x hx => ?_, h⟩
      rcases List.mem_cons.mp hx with rfl | hx
      · exact hk
      · exact Int.le_trans hk ((List.pairwise_cons.mp h).1 x hx)
    · rename_i hk
      obtain ⟨h1, h2⟩ := List.pairwise_cons.mp h
      refine List.pairwise_cons.mpr ⟨fun x hx => ?_, insD_sorted k d h2⟩
      rcases List.mem_cons.mp ((insD_perm k d r).mem_iff.mp hx) with rfl | hx
      · show j ≤ k; omega
      · exact h1 x hx
theorem sortK_sorted : ∀ l : List (Int × D), (sortK l).Pairwise (fun x y => x.1 ≤ y.1)
  | [] => .nil
  | (k, d) :: r => insD_sorted k d (sortK_sorted r)
theorem nodupI_ok : ∀ {l : List Int}, nodupI l = true → l.Nodup
  | [], _ => .nil
  | a :: r, h => by
    simp only [nodupI, Bool.and_eq_true, Bool.not_eq_true', List.contains_eq_mem, decide_eq_false_iff_not] at h
    exact List.nodup_cons.mpr ⟨h.1, nodupI_ok h.2⟩
abbrev mkP (p : Int × D) : D := .tup [.int p.1, p.2]
theorem pairsOf_eq : ∀ {l : List D} {ps : List (Int × D)}, AF.pairsOf l = some ps → l = ps.map mkP
  | [], ps, e => by simp [AF.pairsOf] at e; subst e; rfl
  | d :: r, ps, e => by
    unfold AF.pairsOf at e
    split at e
    · rename_i q1 q2
      cases q2
    · rename_i q i d' r' e1
      injection e1 with e2 e3
      subst e2 e3
      split at e
      · rename_i s hs
        have e3 : (i, d') :: s = ps := by simpa using e
        subst e3
        rw [List.map_cons, ← pairsOf_eq hs]
      · cases e
    · cases e
theorem key_unique {ps : List (Int × D)} (nd : (ps.map (·.1)).Nodup) {p q : Int × D} (hp : p ∈ ps) (hq : q ∈ ps) (e : p.1 = q.1) : p = q := by
  obtain ⟨i, hi, rfl⟩ := List.mem_iff_getElem.mp hp
  obtain ⟨j, hj, rfl⟩ := List.mem_iff_getElem.mp hq
  have hij : i = j := by
    refine (List.getElem_inj (h₀ := by simpa using hi) (h₁ := by simpa using hj) nd).mp ?_
    simpa using e
  subst hij; rfl
theorem sortK_eq {a ps : List (Int × D)} (p : a.Perm ps) (h : a.Pairwise (fun x y => x.1 ≤ y.1)) (nd : (ps.map (·.1)).Nodup) : a = sortK ps :=
  List.Perm.eq_of_pairwise (le := fun x y : Int × D => x.1 ≤ y.1) (fun x y hx hy h1 h2 => key_unique nd (p.mem_iff.mp hx) ((sortK_perm ps).mem_iff.mp hy) (Int.le_antisymm h1 h2)) h (sortK_sorted ps) (p.trans (sortK_perm ps).symm)
section
variable {T : Tx} {μ : List Addr} {H : Hp} {st : Store} {X : Cx} {pins : List (Addr × Obj)} {σ : L2.St} {s : Shared}
/-- D's item at a value: a pair with its key -/
def GP (T : Tx) (μ : List Addr) (H : Hp) (h : Heap) (d : D) (v : Value) : Prop := ∃ x i y, Rep T μ H d x ∧ RelV x v ∧ d = .tup [.int i, y] ∧ KeyV h v i
theorem gp_of (hK : X.K = T.K) (I : Inv X pins σ H s) : ∀ {ps : List (Int × D)} {xs : List V} {vs : List Value}, Reps T μ H (ps.map mkP) xs → Vals xs vs → Paired (GP T μ H s.heap) (ps.map mkP) vs
  | [], _, _, .nil, .nil => .nil
  | p :: ps, _, _, .cons a r, .cons b t => by
    refine .cons ?_ (gp_of hK I r t)
    have a' := a
    cases a with
    | tup h rs =>
      cases rs with
      | cons r1 rs =>
        cases r1
        cases rs with
        | cons r2 rs =>
          cases rs
          cases b
          obtain ⟨its, rv, ⟨o, ho, hc, n, hd⟩, _⟩ := I.tuple (by rw [hK]; exact h)
          cases rv with
          | cons q1 rv =>
            cases rv with
            | cons q2 rv =>
              cases rv
              obtain ⟨t', rfl⟩ := q1
              exact ⟨_, p.1, p.2, a', rfl, rfl, _, o, t', _, n, rfl, ho, hc, hd⟩
theorem gp_keys {h : Heap} : ∀ {ps : List (Int × D)} {vs : List Value}, Paired (GP T μ H h) (ps.map mkP) vs → ∀ v ∈ vs, ∃ p ∈ ps, KeyV h v p.1
  | [], _, .nil, v, hv => by cases hv
  | p :: ps, _, .cons a r, v, hv => by
    rcases List.mem_cons.mp hv with rfl | hv
    · obtain ⟨x, i, y, _, _, e, k⟩ := a
      have e1 : p.1 = i := by simp at e; exact e.1
      exact ⟨p, List.mem_cons_self, by rw [e1]; exact k⟩
    · obtain ⟨q, hq, k⟩ := gp_keys r v hv
      exact ⟨q, List.mem_cons_of_mem _ hq, k⟩
theorem gp_inj {h : Heap} : ∀ {ps : List (Int × D)} {vs : List Value}, Paired (GP T μ H h) (ps.map mkP) vs → (ps.map (·.1)).Nodup → ∀ v ∈ vs, ∀ u ∈ vs, kvOf h v = kvOf h u → v = u
  | [], _, .nil, _, v, hv, _, _, _ => by cases hv
  | p :: ps, _, .cons (b := v0) a r, nd, v, hv, u, hu, e => by
    obtain ⟨nd1, nd2⟩ := List.nodup_cons.mp (by simpa using nd : ((p.1 :: ps.map (·.1)).Nodup))
    have k0 : KeyV h v0 p.1 := by
      obtain ⟨x, i, y, _, _, e, k⟩ := a
      have e1 : p.1 = i := by simp at e; exact e.1
      rw [e1]; exact k
    have no : ∀ u ∈ _, kvOf h u ≠ p.1 := fun u (hu : u ∈ _) e2 => by
      obtain ⟨q, hq, k⟩ := gp_keys r u hu
      rw [kvOf_eq k] at e2
      exact nd1 (List.mem_map.mpr ⟨q, hq, e2⟩)
    rcases List.mem_cons.mp hv with hv1 | hv1 <;> rcases List.mem_cons.mp hu with hu1 | hu1
    · rw [hv1, hu1]
    · rw [hv1, kvOf_eq k0] at e; exact absurd e.symm (no u hu1)
    · rw [hu1, kvOf_eq k0] at e; exact absurd e (no v hv1)
    · exact gp_inj r nd2 v hv1 u hu1 e
theorem paired_map : ∀ ps : List (Int × D), Paired (fun (p : Int × D) (d : D) => d = mkP p) ps (ps.map mkP)
  | [] => .nil
  | _ :: ps => .cons rfl (paired_map ps)
theorem paired_eq : ∀ {ps : List (Int × D)} {l : List D}, Paired (fun (p : Int × D) (d : D) => d = mkP p) ps l → l = ps.map mkP
  | _, _, .nil => rfl
  | _, _, .cons a r => by rw [a, paired_eq r, List.map_cons]
/-- the sorted values are those of the core's sorted pairs -/
theorem gp_sorted {h : Heap} {ps : List (Int × D)} {vs out : List Value} (g : Paired (GP T μ H h) (ps.map mkP) vs) (nd : (ps.map (·.1)).Nodup) (p : out.Perm vs) (hs : out.Pairwise fun x y => decide (kvOf h y < kvOf h x) = false) :
    ∃ xs', Reps T μ H ((sortK ps).map mkP) xs' ∧ Vals xs' out := by
  obtain ⟨l', hp, g'⟩ := lift_perm p g
  obtain ⟨qs, hq, rfl⟩ : ∃ qs : List (Int × D), qs.Perm ps ∧ l' = qs.map mkP := by
    obtain ⟨qs, h1, h2⟩ := lift_perm (G := fun (p : Int × D) (d : D) => d = mkP p) hp (l := ps) (paired_map ps)
    exact ⟨qs, h1, paired_eq h2⟩
  have sorted : ∀ {qs : List (Int × D)} {out : List Value}, Paired (GP T μ H h) (qs.map mkP) out → out.Pairwise (fun x y => decide (kvOf h y < kvOf h x) = false) → qs.Pairwise fun x y => x.1 ≤ y.1 := by
    intro qs
    induction qs with
    | nil => intro out _ _; exact .nil
    | cons q qs ih =>
      intro out g hs
      cases g with
      | cons a r =>
        obtain ⟨h1, h2⟩ := List.pairwise_cons.mp hs
        refine List.pairwise_cons.mpr ⟨fun q' hq' => ?_, ih r h2⟩
        have find : ∀ {qs : List (Int × D)} {out : List Value}, Paired (GP T μ H h) (qs.map mkP) out → q' ∈ qs → ∃ u ∈ out, KeyV h u q'.1 := by
          intro qs
          induction qs with
          | nil => intro out _ hm; cases hm
          | cons z qs ih2 =>
            intro out g hm
            cases g with
            | cons a r =>
              rcases List.mem_cons.mp hm with rfl | hm
              · obtain ⟨x, i, y, _, _, e, k⟩ := a
                have e1 : q'.1 = i := by simp at e; exact e.1
                exact ⟨_, List.mem_cons_self, by rw [e1]; exact k⟩
              · obtain ⟨u, hu, k⟩ := ih2 r hm
                exact ⟨u, List.mem_cons_of_mem _ hu, k⟩
        obtain ⟨u, hu, k⟩ := find r hq'
        have h3 := h1 u hu
        obtain ⟨x, i, y, _, _, e, k0⟩ := a
        have e1 : q.1 = i := by simp at e; exact e.1
        rw [kvOf_eq k, kvOf_eq k0, decide_eq_false_iff_not] at h3
        omega
  have e := sortK_eq hq (sorted g' hs) nd
  rw [← e]
  have build : ∀ {qs : List D} {out : List Value}, Paired (GP T μ H h) qs out → ∃ xs', Reps T μ H qs xs' ∧ Vals xs' out := by
    intro qs
    induction qs with
    | nil => intro out g; cases g; exact ⟨[], .nil, .nil⟩
    | cons q qs ih =>
      intro out g
      cases g with
      | cons a r =>
        obtain ⟨xs', h1, h2⟩ := ih r
        obtain ⟨x, i, y, ra, rb, _, _⟩ := a
        exact ⟨x :: xs', .cons ra h1, .cons rb h2⟩
  exact build g'
/-- sorted(l): what the core says -/
theorem call_sortedW (hK : X.K = T.K) {m : Bool} {d : D} {x : V} {u : Value} {l so : List D} {Q : VK} (I : Inv X pins σ H s) (R : Rel T μ st H) (ra : Rep T μ H d x) (rx : RelV x u) (e : seqOf st d = some l) (hl : l.length ≤ 60) (es : sortD l = some so)
    (h : AftV T (RepT T) (mkL m so st) μ H Q) : wpAny (model X.prog X.w) X.A (call (.builtin "sorted") [u]) (EP X pins σ Q) X.xe s := by
  obtain ⟨p, xs, rfl, hx, r⟩ := seqOf_at R e ra
  cases rx
  have look : ∃ (its : List Value) (c : String) (o : Obj) (n : Nat), Vals xs its ∧ (c = "list" ∨ c = "tuple") ∧ s.heap.get? p = some o ∧ o.cls = .type c ∧ o.data = .seq its.toArray n ∧ xs.length ≤ sizeLine := by
    rcases hx with hx | hx
    · obtain ⟨its, rv, ⟨o, n, ho, hc, _, hd⟩, hz⟩ := I.list (by rw [hK]; exact hx)
      exact ⟨its, "list", o, n, rv, .inl rfl, ho, hc, hd, hz⟩
    · obtain ⟨its, rv, ⟨o, ho, hc, n, hd⟩, hz⟩ := I.tuple (by rw [hK]; exact hx)
      exact ⟨its, "tuple", o, n, rv, .inr rfl, ho, hc, hd, hz⟩
  obtain ⟨its, c, o, n, rv, hc2, ho, hc, hd, hz⟩ := look
  have hlen := rv.length
  have fin : ∀ (out : List Value) (xs' : List V), Reps T μ H so xs' → Vals xs' out → xs'.length ≤ sizeLine → EP X pins σ Q (.ref (s.heap.objs.size + 1)) { s with heap := PyProof.Rows.sortedAll s.heap its out.toArray } := fun out xs' r' v' hz' => by
    obtain ⟨ep, he'⟩ := PyProof.Rows.sortedAll_at s.heap its out.toArray
    refine ⟨.ref _, upd H (s.heap.objs.size + 1) (.lst xs'), I.laid (t' := s.toks) (fun _ _ => PyProof.Rows.sortedAll_old) (Nat.le_succ _) ⟨hz', out, ep, v', by simpa using he'⟩, rfl, mkL_new h R r' _ (I.hok.fresh (Nat.le_succ _))⟩
  unfold sortD at es
  cases e1 : intsOf l with
  | some ns =>
    rw [e1] at es
    have eso : (sortI ns).map D.int = so := by simpa using es
    subst eso
    have exs := r.ints e1
    subst exs
    have hi : IntsAre its ns := intsAre_of rv
    refine sorted_lt hc2 ho hc hd SrtO.swo_int (by rw [← hlen]; exact hz) (fun h2 h₁ a' _ _ => SrtO.ints_sortable hi h2) fun out h1 h2 => ?_
    obtain ⟨k1, k2, k3⟩ := SrtO.ints_out hi h1 h2
    have e3 := sortI_eq k2 k3
    rw [e3] at k1
    refine fin out ((sortI ns).map V.int) (Reps.of_ints _) (vals_of_ints k1) ?_
    rw [List.length_map, (sortI_perm ns).length_eq, ← List.length_map (f := V.int)]; exact hz
  | none =>
    rw [e1] at es
    dsimp only at es
    cases e2 : AF.pairsOf l with
    | none => rw [e2] at es; cases es
    | some ps =>
      rw [e2] at es
      dsimp only at es
      split at es
      · rename_i hnd
        have eso : (sortK ps).map mkP = so := by simpa using es
        subst eso
        have el := pairsOf_eq e2
        subst el
        have nd := nodupI_ok hnd
        have g := gp_of hK I r rv
        have hkey : ∀ v ∈ its, KeyV s.heap v (kvOf s.heap v) := fun v hv => by
          obtain ⟨q, _, k⟩ := gp_keys g v hv
          rw [kvOf_eq k]; exact k
        refine sorted_lt hc2 ho hc hd (swo_key (kvOf s.heap)) (by rw [← hlen]; exact hz) (fun h2 h₁ a' ha' kp => ?_) fun out h1 h2 => ?_
        · refine keys_sortable (by omega) (fun v hv => (hkey v hv).keeps fun b o e _ => (kp b o e).2) (gp_inj g nd) fun o e => ?_
          rw [show ({ s with heap := h₁ } : Shared).heap = h₁ from rfl, ha'] at e
          cases e
          simp
        · obtain ⟨xs', r', v'⟩ := gp_sorted g nd h2.perm h1
          refine fin out xs' r' v' ?_
          rw [r'.length, List.length_map, (sortK_perm ps).length_eq, ← List.length_map (f := mkP), ← r.length]; exact hz
      · cases es
end
end AF

set_option maxHeartbeats 2000000
/-! Ops4: min, max, the other built-in functions and methods by values. -/
namespace AF
open PySem PySem.Spec PyProof.Rows L2
theorem foldl_min : ∀ (r : List Int) (a : Int), r.foldl (fun m x => if x < m then x else m) a ∈ a :: r ∧ ∀ y ∈ a :: r, r.foldl (fun m x => if x < m then x else m) a ≤ y
  | [], a => ⟨by simp, fun y hy => by have : y = a := by simpa using hy
                                      subst this; exact Int.le_refl _⟩
  | b :: r, a => by
    rw [List.foldl_cons]
    by_cases h : b < a
    · rw [if_pos h]
      obtain ⟨h1, h2⟩ := foldl_min r b
      refine ⟨List.mem_cons_of_mem _ h1, fun y hy => ?_⟩
      rcases List.mem_cons.mp hy with rfl | hy
      · have := h2 b List.mem_cons_self; omega
      · exact h2 y hy
    · rw [if_neg h]
      obtain ⟨h1, h2⟩ := foldl_min r a
      refine ⟨?_, fun y hy => ?_⟩
      · rcases List.mem_cons.mp h1 with e | h1
        · rw [e]; exact List.mem_cons_self
        · exact List.mem_cons_of_mem _ (List.mem_cons_of_mem _ h1)
      · rcases List.mem_cons.mp hy with rfl | hy
        · exact h2 _ List.mem_cons_self
        · rcases List.mem_cons.mp hy with rfl | hy
          · have := h2 a List.mem_cons_self; omega
          · exact h2 y (List.mem_cons_of_mem _ hy)
theorem foldl_max : ∀ (r : List Int) (a : Int), r.foldl (fun m x => if x > m then x else m) a ∈ a :: r ∧ ∀ y ∈ a :: r, y ≤ r.foldl (fun m x => if x > m then x else m) a
  | [], a => ⟨by simp, fun y hy => by have : y = a := by simpa using hy
                                      subst this; exact Int.le_refl _⟩
  | b :: r, a => by
    rw [List.foldl_cons]
    by_cases h : b > a
    · rw [if_pos h]
      obtain ⟨h1, h2⟩ := foldl_max r b
      refine ⟨List.mem_cons_of_mem _ h1, fun y hy => ?_⟩
      rcases List.mem_cons.mp hy with rfl | hy
      · have := h2 b List.mem_cons_self; omega
      · exact h2 y hy
    · rw [if_neg h]
      obtain ⟨h1, h2⟩ := foldl_max r a
      refine ⟨?_, fun y hy => ?_⟩
      · rcases List.mem_cons.mp h1 with e | h1
        · rw [e]; exact List.mem_cons_self
        · exact List.mem_cons_of_mem _ (List.mem_cons_of_mem _ h1)
      · rcases List.mem_cons.mp hy with rfl | hy
        · exact h2 _ List.mem_cons_self
        · rcases List.mem_cons.mp hy with rfl | hy
          · have := h2 a List.mem_cons_self; omega
          · exact h2 y (List.mem_cons_of_mem _ hy)
theorem minI_is {ns : List Int} {k m : Int} (e : minI ns = some k) (h1 : m ∈ ns) (h2 : ∀ y, y ∈ ns → m ≤ y) : m = k := by
  cases ns with
  | nil => cases e
  | cons a r =>
    have e2 : r.foldl (fun m x => if x < m then x else m) a = k := by simpa [minI] using e
    obtain ⟨h3, h4⟩ := foldl_min r a
    rw [e2] at h3 h4
    exact Int.le_antisymm (h2 k h3) (h4 m h1)
theorem maxI_is {ns : List Int} {k m : Int} (e : maxI ns = some k) (h1 : m ∈ ns) (h2 : ∀ y, y ∈ ns → y ≤ m) : m = k := by
  cases ns with
  | nil => cases e
  | cons a r =>
    have e2 : r.foldl (fun m x => if x > m then x else m) a = k := by simpa [maxI] using e
    obtain ⟨h3, h4⟩ := foldl_max r a
    rw [e2] at h3 h4
    exact Int.le_antisymm (h4 m h1) (h2 k h3)
/-- the data of pairs: their first parts compared -/
theorem dataLt_int (i j : Int) : PySem.W.dataLt (.int i) (.int j) = decide (i < j) := by
  unfold PySem.W.dataLt
  simp only [PySem.W.keyToks]
  unfold PyProof.Rows.lexLt PyProof.Rows.lexLt
  show (decide (i < j) || (!decide (j < i) && false)) = decide (i < j)
  simp
theorem dataLt_fst {i j : Int} {p q : PyData} (h : i ≠ j) (a : PySem.W.alike p q = true) : PySem.W.dataLt (.tuple [.int i, p]) (.tuple [.int j, q]) = decide (i < j) := by
  rw [PySem.W.dataLt_pair (by simp [PySem.W.alike]) a, dataLt_int]
  have e : PyData.eqv (.int i) (.int j) = false := by simp [PyData.eqv, h]
  rw [if_neg (by rw [e]; simp)]
section
variable {T : Tx} {μ : List Addr} {H : Hp} {st : Store} {X : Cx} {pins : List (Addr × Obj)} {σ : L2.St} {s : Shared}
/-- the data of pairs, item by item -/
inductive PD (st : Store) : List (Int × D) → List PyData → Prop where
  | nil : PD st [] []
  | cons {p : Int × D} {q : PyData} {ps : List (Int × D)} {qs : List PyData} : PD st ps qs → PD st (p :: ps) (.tuple [.int p.1, q] :: qs)
theorem pd_of : ∀ {ps : List (Int × D)} {qs : List PyData}, optAll (look st) (ps.map mkP) = some qs → PD st ps qs
  | [], qs, e => by simp [optAll] at e; subst e; exact .nil
  | p :: ps, qs, e => by
    simp only [List.map_cons, optAll] at e
    cases e1 : look st (mkP p) with
    | none => rw [e1] at e; cases e
    | some a =>
      rw [e1] at e
      dsimp only at e
      cases e2 : optAll (look st) (ps.map mkP) with
      | none => rw [e2] at e; cases e
      | some b =>
        rw [e2] at e
        have e3 : a :: b = qs := by simpa using e
        subst e3
        obtain ⟨q, rfl⟩ : ∃ q, a = .tuple [.int p.1, q] := by
          have e5 : (match py st 23 p.2 with | some q => some (PyData.tuple [.int p.1, q]) | none => none) = some a := by
            rw [← e1]
            show _ = py st (23 + 1) (.tup [.int p.1, p.2])
            rw [py_tup]
            unfold optAll optAll optAll
            rw [show py st 23 (.int p.1) = some (.int p.1) from py_int st 22 p.1]
            cases py st 23 p.2 <;> rfl
          cases e4 : py st 23 p.2 with
          | none => rw [e4] at e5; cases e5
          | some q => rw [e4] at e5; exact ⟨q, (Option.some.inj e5).symm⟩
        exact .cons (pd_of e2)
theorem PD.mem : ∀ {ps : List (Int × D)} {qs : List PyData}, PD st ps qs → ∀ q ∈ qs, ∃ p ∈ ps, ∃ r, q = .tuple [.int p.1, r]
  | _, _, .nil, q, h => by cases h
  | _, _, .cons (p := p) (q := q0) t, q, h => by
    rcases List.mem_cons.mp h with rfl | h
    · exact ⟨p, List.mem_cons_self, q0, rfl⟩
    · obtain ⟨p', hp, r, e⟩ := PD.mem t q h
      exact ⟨p', List.mem_cons_of_mem _ hp, r, e⟩
/-- the least of pairs, the least of their data -/
theorem PD.min {P : List (Int × D)} {G : List PyData} (nd : (P.map (·.1)).Nodup) (al : ∀ x ∈ G, ∀ y ∈ G, PySem.W.alike x y = true) : ∀ {ps : List (Int × D)} {qs : List PyData}, PD st ps qs → (∀ p ∈ ps, p ∈ P) → (∀ q ∈ qs, q ∈ G) →
    ∀ (p : Int × D) (q : PyData), p ∈ P → .tuple [.int p.1, q] ∈ G → ps.foldl (fun m x => if x.1 < m.1 then x else m) p ∈ P ∧
      ∃ q', PySem.W.minD (.tuple [.int p.1, q]) qs = .tuple [.int (ps.foldl (fun m x => if x.1 < m.1 then x else m) p).1, q']
  | _, _, .nil, _, _, p, q, hp, _ => ⟨hp, q, rfl⟩
  | _, _, .cons (p := a) (q := b) t, h1, h2, p, q, hp, hq => by
    have ha := h1 a List.mem_cons_self
    have hb := h2 _ List.mem_cons_self
    have h1' := fun p hp => h1 p (List.mem_cons_of_mem _ hp)
    have h2' := fun q hq => h2 q (List.mem_cons_of_mem _ hq)
    rw [List.foldl_cons]
    have step : ∀ qs, PySem.W.minD (.tuple [.int p.1, q]) (.tuple [.int a.1, b] :: qs) = PySem.W.minD (if PySem.W.dataLt (.tuple [.int a.1, b]) (.tuple [.int p.1, q]) = true then .tuple [.int a.1, b] else .tuple [.int p.1, q]) qs := fun qs => rfl
    rw [step]
    have halike : PySem.W.alike b q = true := by
      have := al _ hb _ hq
      simp only [PySem.W.alike, PySem.W.alikeAll, Bool.and_eq_true] at this
      exact this.2.1
    by_cases e : a.1 = p.1
    · have eap := key_unique nd ha hp e
      subst eap
      rw [if_neg (Int.lt_irrefl _)]
      by_cases hd : PySem.W.dataLt (.tuple [.int a.1, b]) (.tuple [.int a.1, q]) = true
      · rw [if_pos hd]; exact PD.min nd al t h1' h2' a b ha hb
      · rw [if_neg hd]; exact PD.min nd al t h1' h2' a q ha hq
    · rw [dataLt_fst e halike]
      by_cases hl : a.1 < p.1
      · rw [if_pos hl, if_pos (decide_eq_true hl)]; exact PD.min nd al t h1' h2' a b ha hb
      · rw [if_neg hl, if_neg (by simp [hl])]; exact PD.min nd al t h1' h2' p q hp hq
end
end AF

set_option maxHeartbeats 2000000
/-! Ops5: the built-in functions and methods by values. -/
namespace AF
open PySem PySem.Spec PyProof.Rows L2
theorem reads_int {h : Heap} {v : Value} {d : PyData} {as : List Addr} (r : Reads h v d as) {i j : Int} {t : Tok} (e1 : v = .int i t) (e2 : d = .int j) : i = j := by
  cases r <;> simp_all
section
variable {T : Tx} {μ : List Addr} {H : Hp} {st : Store} {X : Cx} {pins : List (Addr × Obj)} {σ : L2.St} {s : Shared}
theorem call_minW (hK : X.K = T.K) (hc : X.calm = true) (hu : X.A.units + 65 < cLine) {d e : D} {x : V} {u : Value} {l : List D} {Q : VK} (I : Inv X pins σ H s) (R : Rel T μ st H) (ra : Rep T μ H d x) (rx : RelV x u) (el : lstOf st d = some l)
    (em : minD st l = some e) (h : AftV T (RepT T) (.ok e st) μ H Q) : wpAny (model X.prog X.w) X.A (call (.builtin "min") [u]) (EP X pins σ Q) X.xe s := by
  obtain ⟨p, xs, rfl, hx, r⟩ := lstOf_at R el ra
  unfold minD at em
  cases e1 : intsOf l with
  | some ns =>
    rw [e1] at em
    dsimp only at em
    have exs := r.ints e1
    subst exs
    cases e2 : minI ns with
    | none => rw [e2] at em; cases em
    | some k =>
      rw [e2] at em
      have e3 : D.int k = e := by simpa using em
      subst e3
      refine cr_min hc pins s σ H [.ref p] [u] Q I (.cons rx .nil) ⟨p, ns, rfl, SqL.of hx, ?_, fun m h1 h2 => ?_⟩
      · cases ns with
        | nil => cases e2
        | cons _ _ => simp
      · rw [minI_is e2 h1 h2]; exact h.ok R (.int k)
  | none =>
    rw [e1] at em
    dsimp only at em
    cases e2 : AF.pairsOf l with
    | none => rw [e2] at em; cases em
    | some ps =>
      rw [e2] at em
      dsimp only at em
      split at em
      · rename_i hcond
        rw [Bool.and_eq_true] at hcond
        obtain ⟨hnd, hal⟩ := hcond
        have nd := nodupI_ok hnd
        have ell := pairsOf_eq e2
        subst ell
        unfold alikeB at hal
        cases e4 : optAll (look st) (ps.map mkP) with
        | none => rw [e4] at hal; cases hal
        | some qs =>
          rw [e4] at hal
          have al : ∀ x ∈ qs, ∀ y ∈ qs, PySem.W.alike x y = true := fun x hx y hy => List.all_eq_true.mp (List.all_eq_true.mp hal x hx) y hy
          obtain ⟨hd, hlay, hdep⟩ := optAll_dp e4 r fun d v p e r => py_dp R PYN d v p e r
          rw [← hK] at hd
          cases ps with
          | nil => simp [minK] at em
          | cons p0 ps =>
            have ee : mkP (ps.foldl (fun m x => if x.1 < m.1 then x else m) p0) = e := by simpa [minK] using em
            have pd := pd_of e4
            cases pd with
            | cons pd =>
              rename_i q0 qs
              obtain ⟨hb, q', hmin⟩ := PD.min (P := p0 :: ps) nd al pd (fun p hp => List.mem_cons_of_mem _ hp) (fun q hq => List.mem_cons_of_mem _ hq) p0 q0 List.mem_cons_self List.mem_cons_self
              cases rx
              obtain ⟨its, rv, ⟨o, n, ho, hc2, _, hdt⟩, hz⟩ := I.list (SqL.of hx)
              obtain ⟨as, hr⟩ := Dp.readsAll I _ _ its hd rv
              refine PySem.W.min_list_data (I.ok.hd hc) ⟨o, ho, hc2, n, hdt⟩ (by simpa using hr) ⟨al, fun x hx => ?_⟩ ?_ fun i v h' tk bs hv hrd hk => ?_
              · obtain ⟨p', _, r', e'⟩ := (PD.cons pd : PD st (p0 :: ps) (.tuple [.int p0.1, q0] :: qs)).mem x hx
                rw [e']; exact fun z => by cases z
              · have h24 : PYN = 24 := rfl
                omega
              · -- the value found is an item whose data begin with the least key
                have hv' : its[i]? = some v := by simpa using hv
                obtain ⟨x', hx', rx'⟩ : ∃ x', xs[i]? = some x' ∧ RelV x' v := by
                  have hlt : i < xs.length := by rw [rv.length]; exact (List.getElem?_eq_some_iff.mp hv').1
                  obtain ⟨w', h1, h2⟩ := rv.get (List.getElem?_eq_getElem hlt)
                  rw [hv'] at h1; cases h1
                  exact ⟨_, List.getElem?_eq_getElem hlt, h2⟩
                obtain ⟨pi, hpi⟩ : ∃ pi, (p0 :: ps)[i]? = some pi := by
                  have hlt : i < (p0 :: ps).length := by
                    have h1 := (List.getElem?_eq_some_iff.mp hx').1
                    rw [r.length, List.length_map] at h1; exact h1
                  exact ⟨_, List.getElem?_eq_getElem hlt⟩
                obtain ⟨x2, h3, h4⟩ := r.get (d := mkP pi) (i := i) (by rw [List.getElem?_map, hpi]; rfl)
                rw [hx'] at h3; cases h3
                have k1 : KeyV s.heap v pi.1 := by
                  have g := gp_of hK I r rv
                  have go : ∀ {ps : List (Int × D)} {vs : List Value} {i : Nat} {pi : Int × D} {v : Value}, Paired (GP T μ H s.heap) (ps.map mkP) vs → ps[i]? = some pi → vs[i]? = some v → KeyV s.heap v pi.1 := by
                    intro ps
                    induction ps with
                    | nil => intro vs i pi v g e; simp at e
                    | cons a ps ih =>
                      intro vs i pi v g e1 e2
                      cases g with
                      | cons a1 r1 =>
                        cases i with
                        | zero =>
                          simp at e1 e2
                          subst e1 e2
                          obtain ⟨x, i, y, _, _, e, k⟩ := a1
                          have e1 : a.1 = i := by simp at e; exact e.1
                          rw [e1]; exact k
                        | succ i => exact ih r1 (by simpa using e1) (by simpa using e2)
                  exact go g hpi hv'
                have k2 : pi.1 = (ps.foldl (fun m x => if x.1 < m.1 then x else m) p0).1 := by
                  rw [hmin] at hrd
                  have k1' := k1.keeps fun b o e _ => hk b o e
                  obtain ⟨a, o2, t, y, n2, rfl, ho2, hc3, hd2⟩ := k1'
                  cases hrd with
                  | tuple g1 g2 g3 g4 =>
                    rw [ho2] at g1; cases g1
                    rw [hd2] at g3
                    injection g3 with g5 _
                    subst g5
                    cases g4 with
                    | cons g6 g7 => exact reads_int g6 rfl rfl
                have e7 := key_unique nd (List.mem_of_getElem? hpi) hb k2
                subst e7
                rw [ee] at h4
                exact ⟨x', H, I.kept (t' := tk) hk, rx', h.ok R h4⟩
      · cases em
end
end AF

set_option maxHeartbeats 2000000
/-! Ops6: all built-in functions and methods by values. -/
namespace AF
open PySem PySem.Spec PyProof.Rows L2
def bfVal : BF → Value
  | .len => .builtin "len" | .int => .type "int" | .abs => .builtin "abs" | .min => .builtin "min" | .max => .builtin "max" | .sorted => .builtin "sorted"
  | .tuple => .type "tuple" | .list => .type "list" | .all => .builtin "all" | .any => .builtin "any" | .str => .type "str" | .bool => .type "bool"
section
variable {T : Tx} {X : Cx} (hK : X.K = T.K)
include hK
theorem call_bltW (hc : X.calm = true) (hu : X.A.units + 65 < cLine) (f : BF) (m : Bool) : CallR X (bfVal f) (rL T (blt f m)) := by
  intro pins s σ H xs us Q I rv ⟨μ, st, ds, R, r, h⟩
  cases r with
  | nil => cases f <;> exact h.elim
  | @cons d v l ys ra rr =>
    cases rr with
    | nil =>
      obtain ⟨u, rfl, rx⟩ := vals1 rv
      cases f with
      | len =>
        have sq : ∀ {l : List D}, seqOf st d = some l → AftV T (RepT T) (.ok (.int l.length) st) μ H Q → wpAny (model X.prog X.w) X.A (call (bfVal .len) [u]) (EP X pins σ Q) X.xe s := fun {l} e h => by
          obtain ⟨p, xs, rfl, hx, r⟩ := seqOf_at R e ra
          rw [← hK] at hx
          refine call_len_seq pins s σ H _ _ Q I rv ⟨p, xs, rfl, hx, ?_⟩
          rw [r.length]; exact h.ok R (.int _)
        cases ra with
        | scr hf =>
          simp only [blt] at h
          refine call_len_seq pins s σ H _ _ Q I rv ⟨_, _, rfl, .inl (by rw [hK]; exact hf.seq), ?_⟩
          rw [List.length_map]; exact h.ok R (.int _)
        | str x =>
          simp only [blt] at h
          split at h
          · rename_i hl
            refine call_len_str pins s σ H _ _ Q I rv ⟨toStr x, rfl, ?_, ?_⟩
            · simp only [toStr, Str.length, List.size_toArray]; exact Nat.le_trans hl limS
            · have e : (toStr x).length = x.length := by simp [toStr, Str.length]
              rw [e]; exact h.ok R (.int _)
          · exact h.elim
        | tup h1 h2 => simp only [blt, seqOf] at h; exact sq rfl h
        | lst h1 h2 h3 => simp only [blt, seqOf, lstOf] at h; exact sq rfl h
        | ref h1 =>
          simp only [blt] at h
          split at h
          · exact sq (by assumption) h
          · exact h.elim
        | _ => simp only [blt, seqOf, lstOf] at h; exact h.elim
      | int =>
        cases ra <;> simp only [blt] at h <;> first | exact h.elim | skip
        · exact call_int1 pins s σ H _ _ Q I rv (.inr ⟨_, rfl, h.ok R (.int _)⟩)
        · exact call_int1 pins s σ H _ _ Q I rv (.inl ⟨_, rfl, h.ok R (.int _)⟩)
      | abs =>
        cases ra <;> simp only [blt] at h <;> first | exact h.elim | skip
        exact call_abs pins s σ H _ _ Q I rv ⟨_, rfl, h.ok R (.int _)⟩
      | min =>
        have e0 : blt .min m [d] st = (match lstOf st d with | some l => if l.length ≤ LIM then (match minD st l with | some e => .ok e st | none => .bad) else .bad | none => .bad) := by cases ra <;> rfl
        rw [e0] at h
        cases e1 : lstOf st d with
        | none => rw [e1] at h; exact h.elim
        | some l =>
          rw [e1] at h
          dsimp only at h
          split at h
          · cases e2 : minD st l with
            | none => rw [e2] at h; exact h.elim
            | some e => rw [e2] at h; exact call_minW hK hc hu I R ra rx e1 e2 h
          · exact h.elim
      | max =>
        have e0 : blt .max m [d] st = (match lstOf st d with | some l => (match intsOf l with | some ns => (match maxI ns with | some k => .ok (.int k) st | none => .bad) | none => .bad) | none => .bad) := by cases ra <;> rfl
        rw [e0] at h
        cases e1 : lstOf st d with
        | none => rw [e1] at h; exact h.elim
        | some l =>
          rw [e1] at h
          dsimp only at h
          cases e2 : intsOf l with
          | none => rw [e2] at h; exact h.elim
          | some ns =>
            rw [e2] at h
            dsimp only at h
            cases e3 : maxI ns with
            | none => rw [e3] at h; exact h.elim
            | some k =>
              rw [e3] at h
              obtain ⟨p, xs, rfl, hx, r⟩ := lstOf_at R e1 ra
              have exs := r.ints e2
              subst exs
              refine cr_max hc pins s σ H _ _ Q I rv ⟨p, ns, rfl, SqL.of hx, ?_, fun m h1 h2 => ?_⟩
              · cases ns with
                | nil => cases e3
                | cons _ _ => simp
              · rw [maxI_is e3 h1 h2]; exact h.ok R (.int k)
      | sorted =>
        have e0 : blt .sorted m [d] st = (match seqOf st d with | some l => if l.length ≤ 60 then (match sortD l with | some s => mkL m s st | none => .bad) else .bad | none => .bad) := by cases ra <;> rfl
        rw [e0] at h
        cases e1 : seqOf st d with
        | none => rw [e1] at h; exact h.elim
        | some l =>
          rw [e1] at h
          dsimp only at h
          split at h
          · rename_i hl
            cases e2 : sortD l with
            | none => rw [e2] at h; exact h.elim
            | some e => rw [e2] at h; exact call_sortedW hK I R ra rx e1 hl e2 h
          · exact h.elim
      | tuple =>
        have ls : ∀ {l : List D}, lstOf st d = some l → AftV T (RepT T) (.ok (.tup l) st) μ H Q → wpAny (model X.prog X.w) X.A (call (bfVal .tuple) [u]) (EP X pins σ Q) X.xe s := fun {l} e h => by
          obtain ⟨p, xs, rfl, hx, r⟩ := lstOf_at R e ra
          exact call_tuple_of pins s σ H _ _ Q I rv ⟨p, xs, rfl, .inl ⟨SqL.of hx, tup_new h R r⟩⟩
        have ra' := ra
        cases ra with
        | tup h1 h2 =>
          simp only [blt] at h
          exact call_tuple_of pins s σ H _ _ Q I rv ⟨_, _, rfl, .inr ⟨by rw [hK]; exact h1, h.ok R ra'⟩⟩
        | lst h1 h2 h3 => simp only [blt, lstOf] at h; exact ls rfl h
        | ref h1 =>
          simp only [blt] at h
          split at h
          · exact ls (by assumption) h
          · exact h.elim
        | _ => simp only [blt, lstOf] at h; exact h.elim
      | list =>
        have e0 : blt .list m [d] st = (match seqOf st d with | some l => mkL m l st | none => .bad) := by cases ra <;> rfl
        rw [e0] at h
        cases e1 : seqOf st d with
        | none => rw [e1] at h; exact h.elim
        | some l =>
          rw [e1] at h
          obtain ⟨p, xs, rfl, hx, r⟩ := seqOf_at R e1 ra
          rw [← hK] at hx
          exact call_list_of pins s σ H _ _ Q I rv ⟨p, xs, rfl, hx, mkL_new h R r⟩
      | all =>
        have e0 : blt .all m [d] st = (match lstOf st d with | some l => (match bools l with | some bs => .ok (.bl (bs.all id)) st | none => .bad) | none => .bad) := by cases ra <;> rfl
        rw [e0] at h
        cases e1 : lstOf st d with
        | none => rw [e1] at h; exact h.elim
        | some l =>
          rw [e1] at h
          dsimp only at h
          cases e2 : bools l with
          | none => rw [e2] at h; exact h.elim
          | some bs =>
            rw [e2] at h
            obtain ⟨p, xs, rfl, hx, r⟩ := lstOf_at R e1 ra
            have exs := r.bools e2
            subst exs
            exact cr_all hc pins s σ H _ _ Q I rv ⟨p, bs, rfl, SqL.of hx, h.ok R (.bl _)⟩
      | any =>
        have e0 : blt .any m [d] st = (match lstOf st d with | some l => (match bools l with | some bs => .ok (.bl (bs.any id)) st | none => .bad) | none => .bad) := by cases ra <;> rfl
        rw [e0] at h
        cases e1 : lstOf st d with
        | none => rw [e1] at h; exact h.elim
        | some l =>
          rw [e1] at h
          dsimp only at h
          cases e2 : bools l with
          | none => rw [e2] at h; exact h.elim
          | some bs =>
            rw [e2] at h
            obtain ⟨p, xs, rfl, hx, r⟩ := lstOf_at R e1 ra
            have exs := r.bools e2
            subst exs
            exact cr_any hc pins s σ H _ _ Q I rv ⟨p, bs, rfl, SqL.of hx, h.ok R (.bl _)⟩
      | str => exact h.elim
      | bool => exact h.elim
    | @cons d2 v2 l ys ra2 rr =>
      cases rr with
      | nil =>
        cases f <;> first | (simp only [blt] at h; exact h.elim) | skip
        · cases ra <;> cases ra2 <;> simp only [blt] at h <;> first | exact h.elim | skip
          exact call_min2 hc pins s σ H _ _ Q I rv ⟨_, _, rfl, h.ok R (.int _)⟩
        · cases ra <;> cases ra2 <;> simp only [blt] at h <;> first | exact h.elim | skip
          exact call_max2 hc pins s σ H _ _ Q I rv ⟨_, _, rfl, h.ok R (.int _)⟩
      | cons _ _ => cases f <;> cases ra <;> cases ra2 <;> simp only [blt] at h <;> exact h.elim
end
def tyName : TY → String
  | .int => "int" | .bool => "bool" | .str => "str" | .tuple => "tuple" | .list => "list"
section
variable {T : Tx} {X : Cx} (hK : X.K = T.K)
include hK
/-- isinstance by values -/
theorem call_isiW (t : TY) : CallR X (.builtin "isinstance") (fun xs H Q => ∃ x, xs = [x, .ty (tyName t)] ∧ rU T (fun a st => match isiD t a st with | some b => .ok (.bl b) st | none => .bad) x H Q) := by
  intro pins s σ H xs us Q I rv ⟨x, ex, μ, st, a, R, ra, h⟩
  subst ex
  have go : ∀ {n : String} {b : Bool}, TyX X.K H x (.type n) → kitB n (tyName t) = some b → AftV T (RepT T) (.ok (.bl b) st) μ H Q → wpAny (model X.prog X.w) X.A (call (.builtin "isinstance") us) (EP X pins σ Q) X.xe s := fun {n b} ty e h =>
    call_isi pins s σ H _ us Q I rv ⟨x, _, _, _, b, rfl, .ty _, ty, kit_ty e, h.ok R (.bl b)⟩
  cases ra with
  | non => exact go (.base .non) (by cases t <;> decide +kernel) h
  | bl b => cases t <;> exact go (.base (.bl b)) (by decide +kernel) h
  | int i => cases t <;> exact go (.base (.int i)) (by decide +kernel) h
  | str y => cases t <;> exact go (.base (.str _)) (by decide +kernel) h
  | @tup a ys l h1 r =>
    have ty : TyX X.K H (.ref a) (.type "tuple") := by
      rw [hK]
      rcases h1 with (h1 | ⟨o, h1⟩) | ⟨o, its, n, h1, h2, _⟩
      · exact .base (.tup h1)
      · exact .fTuple h1
      · exact .kTuple h1 h2
    cases t <;> exact go ty (by decide +kernel) h
  | lst h1 h2 h3 => cases t <;> exact go (.base (.lst h1)) (by decide +kernel) h
  | scr hf => exact h.elim
  | @ref n a hn =>
    simp only [isiD] at h
    cases e0 : st[n]? with
    | none => rw [e0] at h; exact h.elim
    | some o =>
      rw [e0] at h
      cases o with
      | ins c fs => exact h.elim
      | lst l =>
        obtain ⟨b, xs, hb, hx, rs⟩ := R.lst e0
        rw [hn] at hb; cases hb
        cases t <;> exact go (.base (.lst hx)) (by decide +kernel) h
  | glo n => exact h.elim
end
def bmName : BM → Str
  | .append => "append" | .count => "count" | .index => "index" | .join => "join" | .split => "split"
def bmTy : BM → String
  | .append => "list" | .count => "list" | .index => "list" | .join => "str" | .split => "str"
def bmId : BM → String
  | .append => "list.append" | .count => "list.count" | .index => "list.index" | .join => "str.join" | .split => "str.split"
section
variable {T : Tx} {X : Cx} (hK : X.K = T.K)
include hK
theorem findIdx_spec {α : Type} {p : α → Bool} : ∀ {l : List α} {j : Nat}, l.findIdx? p = some j → ∃ z, l[j]? = some z ∧ p z = true ∧ ∀ (m : Nat) z', m < j → l[m]? = some z' → p z' = false := by
  intro l j e
  obtain ⟨h1, h2, h3⟩ := List.findIdx?_eq_some_iff_getElem.mp e
  refine ⟨l[j], List.getElem?_eq_getElem h1, h2, fun m z' hm hz => ?_⟩
  obtain ⟨h4, h5⟩ := List.getElem?_eq_some_iff.mp hz
  have := h3 m hm
  rw [h5] at this
  simpa using this
/-- the data of a list that is counted or searched -/
theorem look_list {μ : List Addr} {H : Hp} {st : Store} (R : Rel T μ st H) {d : D} {v : V} {qs : List PyData} (e : look st d = some (.list qs)) (r : Rep T μ H d v) : ∃ a xs, v = .ref a ∧ SqL T.K H a xs ∧ DpAll T.K H xs qs ∧ SeqAt.shaped (.list qs) = true := by
  obtain ⟨h1, h2⟩ := look_dp R e r
  cases h1 with
  | lst hs ha => exact ⟨_, _, rfl, hs, ha, h2⟩
theorem mt_W (hu : X.A.units + 65 < cLine) (f : BM) : MtR X (bmId f) (rM T (mth f)) := by
  intro pins s σ H x xs v us Q I rx rxs ⟨μ, st, d, ds, R, ra, rr, h⟩
  cases f with
  | append =>
    cases ra <;> simp only [mth] at h <;> first | exact h.elim | skip
    rename_i n p hn
    cases rr with
    | nil => exact h.elim
    | @cons d1 v1 l1 ys1 r1 rr =>
      cases rr with
      | cons _ _ => exact h.elim
      | nil =>
        dsimp only at h
        cases e0 : st[n]? with
        | none => rw [e0] at h; exact h.elim
        | some o =>
          rw [e0] at h
          cases o with
          | ins c fs => exact h.elim
          | lst l =>
            dsimp only at h
            split at h
            · rename_i hl
              obtain ⟨q, ys, hq, hx, rs⟩ := R.lst e0
              rw [hn] at hq; cases hq
              refine mt_append pins s σ H _ _ v us Q I rx rxs ⟨p, ys, _, rfl, rfl, hx, ?_, ?_⟩
              · rw [rs.length]; exact Nat.lt_of_lt_of_le hl limS
              · have xt : Ext μ H μ (upd H p (.lst (ys ++ [v1]))) := Ext.set R hn trivial
                exact h μ _ .non xt (R.set hn trivial ⟨_, upd_same, (rs.mono xt).append (.cons (r1.mono xt) .nil)⟩) .non
            · exact h.elim
  | count =>
    cases rr with
    | nil => exact h.elim
    | cons r1 rr =>
      cases rr with
      | cons _ _ => exact h.elim
      | nil =>
        simp only [mth] at h
        cases e1 : look st d with
        | none => rw [e1] at h; exact h.elim
        | some q =>
          rw [e1] at h
          cases q <;> first | exact h.elim | skip
          rename_i qs
          cases e2 : look st _ with
          | none => rw [e2] at h; exact h.elim
          | some p =>
            rw [e2] at h
            obtain ⟨a, ys, rfl, hs, hda, sl⟩ := look_list hK R e1 ra
            obtain ⟨hd, sd⟩ := look_dp R e2 r1
            rw [← hK] at hs hda hd
            obtain ⟨u, rfl, ru⟩ := rxs.one
            cases rx
            obtain ⟨as, k1⟩ := Dp.reads I p _ u hd ru
            have hxs : PyData.canLayAll0 qs = true := SeqAt.canLay_of_shaped sl
            have hroom := room_in_shaped (xs := qs) sd hu
            obtain ⟨its, rv, ⟨o, n, ho, hc, hdn, hdt⟩, hlen⟩ := I.list hs
            obtain ⟨cls, dd, data, sls⟩ := o
            simp only at hc hdt
            subst hc hdt
            obtain ⟨bs, k2⟩ := Dp.readsAll I qs _ its hda rv
            have hmap : its.map (SeqAt.readOf s.heap) = qs := SeqAt.readsAll_map qs its bs hxs k2
            refine call_meets PySem.F.slot_list_count ⟨_, ho, rfl⟩ PySem.F.entry_list_count (PySem.F.args_list_count_2 _ _)
              (SeqAt.list_countAt a its.toArray n dd sls u fun y => PyData.eqv (SeqAt.readOf s.heap y) p) ⟨ho, SeqAt.items_eqAt (vs := its.toArray) (by simpa using k2) k1 hxs (SeqAt.canLay_of_shaped sd) hroom, ?_⟩
            refine ⟨.int ((qs.filter fun z => PyData.eqv z p).length : Nat), H, I.tok _, ⟨s.toks, ?_⟩, h.ok R (.int _)⟩
            have ec : its.toArray.toList.countP (fun y => PyData.eqv (SeqAt.readOf s.heap y) p) = (qs.filter fun z => PyData.eqv z p).length := by
              rw [← hmap, ← List.countP_eq_length_filter, List.countP_map]
              rfl
            rw [ec]
  | index =>
    cases rr with
    | nil => exact h.elim
    | cons r1 rr =>
      cases rr with
      | cons _ _ => exact h.elim
      | nil =>
        simp only [mth] at h
        cases e1 : look st d with
        | none => rw [e1] at h; exact h.elim
        | some q =>
          rw [e1] at h
          cases q <;> first | exact h.elim | skip
          rename_i qs
          cases e2 : look st _ with
          | none => rw [e2] at h; exact h.elim
          | some p =>
            rw [e2] at h
            dsimp only at h
            cases e3 : qs.findIdx? (fun z => PyData.eqv z p) with
            | none => rw [e3] at h; exact h.elim
            | some j =>
              rw [e3] at h
              obtain ⟨a, ys, rfl, hs, hda, sl⟩ := look_list hK R e1 ra
              obtain ⟨hd, sd⟩ := look_dp R e2 r1
              obtain ⟨z, h1, h2, h3⟩ := findIdx_spec hK e3
              rw [← hK] at hs hda hd
              exact mt_indexD hu pins s σ H _ _ v us Q I rx rxs ⟨a, _, p, qs, j, z, rfl, rfl, .lst hs hda, hd, sl, sd, h1, h2, h3, h.ok R (.int _)⟩
  | join => exact h.elim
  | split => exact h.elim
end
end AF

/-! Chk: which program text a core text stands for. -/
namespace AF
open PySem PySem.Spec PyProof.Rows L2

/-- what the checker knows: the defs, the exception classes, the constants by name; the slots' names, the scope that runs; the block whose cells are its own -/
structure G where
  fns : List (Str × Nat)
  excs : List Str
  cons : List Str
  N : List Str
  sc : Scope
  blk : Option Scope
def G.fnOk (g : G) (x : Str) : Bool := match g.blk with
  | none => true
  | some s => s.names.lookup x == some .cell
def isVis : Option NameKind → Bool
  | some .local => true
  | some .cell => true
  | some .free => true
  | _ => false
def isGl : Option NameKind → Bool
  | some .globalImplicit => true
  | _ => false
def isLocal : Option NameKind → Bool
  | some .local => true
  | _ => false
def isCell : Option NameKind → Bool
  | some .cell => true
  | _ => false
def nmOk (g : G) (i : Nat) (x : Str) : Bool := decide (g.N[i]? = some x) && isVis (g.sc.names.lookup x) && !(x == ("__debug__" : Str)) && !(x == ("__classdict__" : Str))
def glOk (g : G) (x : Str) : Bool := isGl (g.sc.names.lookup x) && !(x == ("__debug__" : Str))
def tgOk (g : G) (i : Nat) (x : Str) : Bool := decide (g.N[i]? = some x) && (isLocal (g.sc.names.lookup x) || (isCell (g.sc.names.lookup x) && g.fnOk x))
def boM : BO → Operator → Bool
  | .add, .Add => true
  | .sub, .Sub => true
  | .mul, .Mult => true
  | .fdiv, .FloorDiv => true
  | .mod, .Mod => true
  | .pow, .Pow => true
  | _, _ => false
def coM : CO → CmpOp → Bool
  | .eq, .Eq => true
  | .ne, .NotEq => true
  | .lt, .Lt => true
  | .le, .LtE => true
  | .gt, .Gt => true
  | .ge, .GtE => true
  | .isin, .In => true
  | .notin, .NotIn => true
  | .is_, .Is => true
  | .isnot, .IsNot => true
  | _, _ => false
def isIf : Expr → Bool
  | .IfExp .. => true
  | _ => false
def isStar : Expr → Bool
  | .Starred .. => true
  | _ => false
def isSet : Expr → Bool
  | .Set .. => true
  | _ => false
def isSlice : Expr → Bool
  | .Slice .. => true
  | _ => false
def isCallE : Expr → Bool
  | .Call .. => true
  | _ => false
def isBO : Expr → Bool
  | .BoolOp .. => true
  | _ => false
def isComp : Expr → Bool
  | .ListComp .. => true
  | .SetComp .. => true
  | .DictComp .. => true
  | _ => false
def bfStr : BF → Str
  | .len => "len" | .int => "int" | .abs => "abs" | .min => "min" | .max => "max" | .sorted => "sorted" | .tuple => "tuple" | .list => "list" | .all => "all" | .any => "any" | .str => "str" | .bool => "bool"
def tyStr : TY → Str
  | .int => "int" | .bool => "bool" | .str => "str" | .tuple => "tuple" | .list => "list"
def Es.len : Es → Nat
  | .nil => 0
  | .cons _ r => r.len + 1
/-- the block's own names by their slots -/
def ownOf (N : List Str) (own : List Nat) : List (Str × Nat) := own.map fun i => ((N[i]?).getD "", i)
mutual
def chkT (g : G) : Tg → Expr → Bool
  | .name i, .Name x _ => tgOk g i x
  | .tup ts, .Tuple xs _ _ => chkTs g ts xs
  | _, _ => false
def chkTs (g : G) : List Tg → List Expr → Bool
  | [], [] => true
  | t :: ts, x :: xs => chkT g t x && !isStar x && chkTs g ts xs
  | _, _ => false
end

mutual
def tgI : Tg → List Nat
  | .name i => [i]
  | .tup ts => tgIs ts
def tgIs : List Tg → List Nat
  | [] => []
  | t :: ts => tgI t ++ tgIs ts
end
def subB (a b : List Nat) : Bool := a.all fun i => b.contains i
def G.inB (g : G) (scope : Scope) : G := { g with sc := relS scope g.sc, blk := some scope }
def isTupE : Expr → Bool
  | .Tuple .. => true
  | _ => false
def qVar (g : G) (i : Nat) : Expr → Bool
  | .Name x _ => nmOk g i x
  | _ => false
def qNon : Expr → Bool
  | .Constant .none _ _ => true
  | _ => false
def qBl (b : Bool) : Expr → Bool
  | .Constant (.bool c) _ _ => b == c
  | _ => false
def qInt (i : Int) : Expr → Bool
  | .Constant (.int j) _ _ => decide (i = j)
  | _ => false
def qStr (x : List Nat) : Expr → Bool
  | .Constant (.str y) _ _ => decide (toStr x = y)
  | _ => false
def qCon (g : G) (i : Nat) : Expr → Bool
  | .Name x _ => decide (g.cons[i]? = some x) && glOk g x
  | _ => false
def qTup (n : Nat) (es : List Expr → Bool) : Expr → Bool
  | .Tuple xs _ _ => es xs && decide (n ≤ 1000)
  | _ => false
def qLst (n : Nat) (es : List Expr → Bool) : Expr → Bool
  | .List xs _ => es xs && decide (n ≤ 1000)
  | _ => false
def qBin (op : BO) (a b : Expr → Bool) : Expr → Bool
  | .BinOp x o y _ => boM op o && a x && b y
  | _ => false
def qNeg (a : Expr → Bool) : Expr → Bool
  | .UnaryOp .USub x _ => a x
  | _ => false
def qNot (a : Expr → Bool) : Expr → Bool
  | .UnaryOp .Not x _ => a x && !isIf x
  | _ => false
def qBo (o : BoolOp) (a b : Expr → Bool) : Expr → Bool
  | .BoolOp o' (x :: y :: rest) p => decide (o' = o) && a x && !isIf x && (match rest with
    | [] => b y && !isIf y
    | z :: zs => isBO (.BoolOp o (y :: z :: zs) p) && b (.BoolOp o (y :: z :: zs) p))
  | _ => false
def qCmp (op : CO) (a b : Expr → Bool) : Expr → Bool
  | .Compare x [o] [y] _ => coM op o && a x && b y && !isSet y
  | _ => false
def qChn (op op' : CO) (a b c : Expr → Bool) : Expr → Bool
  | .Compare x [o, o'] [y, z] _ => coM op o && coM op' o' && a x && b y && c z && !isSet z
  | _ => false
def qIte (c a b : Expr → Bool) : Expr → Bool
  | .IfExp t x y _ => c t && !isIf t && a x && b y
  | _ => false
def qIdx (a b : Expr → Bool) : Expr → Bool
  | .Subscript x y _ => a x && b y && !isSlice y
  | _ => false
def qSlc (a : Expr → Bool) (lo hi : Option Expr → Bool) : Expr → Bool
  | .Subscript x (.Slice l h none _) _ => a x && lo l && hi h
  | _ => false
def qCall (g : G) (f n : Nat) (es : List Expr → Bool) : Expr → Bool
  | .Call (.Name x _) xs [] _ => decide (g.fns[f]? = some (x, n)) && glOk g x && es xs
  | _ => false
def qBlt (g : G) (f : BF) (es : List Expr → Bool) : Expr → Bool
  | .Call (.Name x _) (y :: ys) [] _ => decide (x = bfStr f) && glOk g x && es (y :: ys)
  | _ => false
def qIsi (g : G) (t : TY) (a : Expr → Bool) : Expr → Bool
  | .Call (.Name f _) [y, .Name x _] [] _ => decide (f = "isinstance") && glOk g f && decide (x = tyStr t) && glOk g x && a y && !isStar y
  | _ => false
def qMth (f : BM) (a : Expr → Bool) (n : Nat) (es : List Expr → Bool) : Expr → Bool
  | .Call (.Attribute o name apos) (y :: ys) [] cpos => decide (name = bmName f) && (apos.endLine == cpos.line) && a o && !isCallE o && es (y :: ys) && decide (n < 20)
  | _ => false
def qLc (g : G) (own : List Nat) (tg : Tg) (it : Expr → Expr → Bool) (c : G → List Expr → Bool) (e : G → Expr → Bool) : Expr → Bool
  | .ListComp elt [⟨t, i, ifs, 0⟩] scope _ => it t i && blkC g.N g.sc scope (ownOf g.N own) && subB (tgI tg) own && chkT (g.inB scope) tg t && c (g.inB scope) ifs && e (g.inB scope) elt && !isSet i
  | _ => false
def qLc2 (g : G) (own own1 : List Nat) (tg : Tg) (it : Expr → Expr → Bool) (tg1 : Tg) (it1 : G → Expr → Expr → Bool) (e : G → Expr → Bool) : Expr → Bool
  | .ListComp elt [⟨t, i, [], 0⟩, ⟨t1, i1, [], 0⟩] scope _ => it t i && blkC g.N g.sc scope (ownOf g.N own) && subB (tgI tg) own && subB own1 own && subB (tgI tg1) own1 && chkT (g.inB scope) tg t && chkT (g.inB scope) tg1 t1 && it1 (g.inB scope) t1 i1 && e (g.inB scope) elt && !isSet i && !isSet i1
  | _ => false
def qRng1 (g : G) (a : Expr → Bool) : Expr → Bool
  | .Call (.Name f _) [x] [] _ => decide (f = "range") && glOk g f && a x && !isStar x
  | _ => false
def qRng2 (g : G) (a b : Expr → Bool) : Expr → Bool
  | .Call (.Name f _) [x, y] [] _ => decide (f = "range") && glOk g f && a x && !isStar x && b y && !isStar y
  | _ => false
def qZip (g : G) (a b : Expr → Bool) : Expr → Bool
  | .Call (.Name f _) [x, y] [] _ => decide (f = "zip") && glOk g f && a x && !isStar x && b y && !isStar y
  | _ => false
def qEnum (g : G) (a : Expr → Bool) : Expr → Bool
  | .Call (.Name f _) [x] [] _ => decide (f = "enumerate") && glOk g f && a x && !isStar x
  | _ => false
mutual
def chkE : E → G → Expr → Bool
  | .var i, g, c => qVar g i c
  | .non, _, c => qNon c
  | .bl b, _, c => qBl b c
  | .int i, _, c => qInt i c
  | .str x, _, c => qStr x c
  | .con i, g, c => qCon g i c
  | .tup es, g, c => qTup es.len (chkEs es g) c
  | .lst _ es, g, c => qLst es.len (chkEs es g) c
  | .bin op _ a b, g, c => qBin op (chkE a g) (chkE b g) c
  | .neg a, g, c => qNeg (chkE a g) c
  | .not a, g, c => qNot (chkE a g) c
  | .and a b, g, c => qBo .And (chkE a g) (chkE b g) c
  | .or a b, g, c => qBo .Or (chkE a g) (chkE b g) c
  | .cmp op a b, g, c => qCmp op (chkE a g) (chkE b g) c
  | .chn op op' a b d, g, c => qChn op op' (chkE a g) (chkE b g) (chkE d g) c
  | .ite t a b, g, c => qIte (chkE t g) (chkE a g) (chkE b g) c
  | .idx a b, g, c => qIdx (chkE a g) (chkE b g) c
  | .slc a lo hi, g, c => qSlc (chkE a g) (chkOe lo g) (chkOe hi g) c
  | .call f es, g, c => qCall g f es.len (chkEs es g) c
  | .blt f _ es, g, c => qBlt g f (chkEs es g) c
  | .isi t a, g, c => qIsi g t (chkE a g) c
  | .mth f a es, g, c => qMth f (chkE a g) es.len (chkEs es g) c
  | .lc _ own tg it d e, g, c => qLc g own tg (chkIt it g) (chkOc d) (chkE e) c
  | .lc2 _ own own1 tg it tg1 it1 e, g, c => qLc2 g own own1 tg (chkIt it g) tg1 (chkIt it1) (chkE e) c
def chkEs : Es → G → List Expr → Bool
  | .nil, _, xs => xs.isEmpty
  | .cons e es, g, xs => match xs with
    | x :: xs => chkE e g x && !isStar x && chkEs es g xs
    | [] => false
def chkOe : Oe → G → Option Expr → Bool
  | .none, _, x => x.isNone
  | .some e, g, x => match x with
    | some x => chkE e g x
    | none => false
/-- a comprehension's tests -/
def chkOc : Oe → G → List Expr → Bool
  | .none, _, x => x.isEmpty
  | .some e, g, x => match x with
    | [x] => chkE e g x && !isIf x
    | _ => false
/-- a source, its target as written -/
def chkIt : It → G → Expr → Expr → Bool
  | .of a, g, _, x => chkE a g x && !isSet x
  | .rng1 a, g, _, x => qRng1 g (chkE a g) x
  | .rng2 a b, g, _, x => qRng2 g (chkE a g) (chkE b g) x
  | .zip a b, g, t, x => isTupE t && qZip g (chkE a g) (chkE b g) x
  | .enum a, g, t, x => isTupE t && qEnum g (chkE a g) x
end
/-- the names that a tuple of names at once stores from the right -/
def swapP (sc : Scope) (ts vs : List Expr) : Option (List Str) :=
  if !(ts.length == 2 || ts.length == 3) || vs.length != ts.length then none
  else if vs.any fun | .Starred .. => true | _ => false then none
  else
    let line := (ts.head?.map (·.pos.line)).getD 0
    let names := ts.filterMap fun
      | .Name id pos => if sc.names.lookup id == some .local && pos.line == line then some id else none
      | _ => none
    if names.length != ts.length || names.eraseDups.length != names.length then none
    else if vs.all (foldedForSure 8) then none
    else some names
def swapBad (vs : List Expr) : Bool := vs.all (constantsAlone 8) && !vs.all (foldedForSure 8)
/-- a comprehension's value goes to a name's slot ahead of the block's end -/
def swLc (sc : Scope) (y : Str) (py : Pos) (scope : Scope) (pos : Pos) : Bool :=
  sc.names.lookup y == some .local && py.line == pos.line && !(scope.names.any fun (n, k) => n == y && (k == .local || k == .cell))
def chkTup2 (g : G) (t : Tg) (x : Expr) : Bool := chkT g t x
/-- names at once: (stored from the right) or not at all so -/
def qAsgT (g : G) (ts : List Tg) (e : Expr → Bool) : Stmt → Bool
  | .Assign [.Tuple xs kt pt] v _ => chkTs g ts xs && e v && !isComp v && (match v with
      | .Tuple vs _ _ => !swapBad vs && (match swapP g.sc xs vs with | none => true | some _ => false)
      | _ => true)
  | _ => false
def qSw (g : G) (ts : List Tg) (n : Nat) (es : List Expr → Bool) : Stmt → Bool
  | .Assign [.Tuple [.Name x px, .Name y py] kt pt] (.Tuple vs k2 pt2) _ => es vs && !swapBad vs && decide (swapP g.sc [.Name x px, .Name y py] vs = some [x, y]) && decide (n = 2) && (match ts with
      | [.name i, .name j] => decide (i ≠ j) && decide (g.N[i]? = some x) && decide (g.N[j]? = some y) && isLocal (g.sc.names.lookup x) && isLocal (g.sc.names.lookup y)
      | _ => false)
  | .Assign [.Tuple [.Name x px, .Name y py, .Name z pz] kt pt] (.Tuple vs k2 pt2) _ => es vs && !swapBad vs && decide (swapP g.sc [.Name x px, .Name y py, .Name z pz] vs = some [x, y, z]) && decide (n = 3) && (match ts with
      | [.name i, .name j, .name k] => decide (i ≠ j) && decide (i ≠ k) && decide (j ≠ k) && decide (g.N[i]? = some x) && decide (g.N[j]? = some y) && decide (g.N[k]? = some z) && isLocal (g.sc.names.lookup x) && isLocal (g.sc.names.lookup y) && isLocal (g.sc.names.lookup z)
      | _ => false)
  | _ => false
def isLc : E → Bool
  | .lc .. => true
  | .lc2 .. => true
  | _ => false
def qAsgN (g : G) (i : Nat) (e : Expr → Bool) : Stmt → Bool
  | .Assign [.Name x p] v _ => tgOk g i x && e v && (match v with
      | .ListComp _ _ scope pos => if swLc g.sc x p scope pos then isLocal (g.sc.names.lookup x) else true
      | .SetComp .. => false
      | .DictComp .. => false
      | _ => true)
  | _ => false
def qSetI (a i e : Expr → Bool) : Stmt → Bool
  | .Assign [.Subscript x y _] v _ => e v && a x && i y && !isSlice y && !isComp v
  | _ => false
def qExpr (e : Expr → Bool) : Stmt → Bool
  | .Expr x _ => e x && !isComp x
  | _ => false
def qRet (e : Expr → Bool) : Stmt → Bool
  | .Return (some x) _ => e x
  | _ => false
def qRetN : Stmt → Bool
  | .Return none _ => true
  | _ => false
def qPass : Stmt → Bool
  | .Pass _ => true
  | _ => false
def qBrk : Stmt → Bool
  | .Break _ => true
  | _ => false
def qCont : Stmt → Bool
  | .Continue _ => true
  | _ => false
def qIf (c : Expr → Bool) (a b : List Stmt → Bool) : Stmt → Bool
  | .If t x y _ => c t && !isIf t && a x && b y
  | _ => false
def qWhl (c : Expr → Bool) (a : List Stmt → Bool) : Stmt → Bool
  | .While t x [] _ => c t && !isIf t && a x
  | _ => false
def qFor (g : G) (tg : Tg) (it : Expr → Expr → Bool) (a : List Stmt → Bool) : Stmt → Bool
  | .For t i x [] _ => it t i && chkT g tg t && a x && !isSet i
  | _ => false
def qRais (g : G) (c n : Nat) : Stmt → Bool
  | .Raise (some (.Call (.Name x _) [.Constant (.str _) _ _] [] _)) none _ => decide (g.excs[c]? = some x) && glOk g x && decide (n = 0)
  | _ => false
def esOf : E → Option Es
  | .tup es => some es
  | _ => none
mutual
def chkS : S → G → Stmt → Bool
  | .asg t e, g, c => (match t with
    | .name i => qAsgN g i (chkE e g) c
    | .tup ts => qAsgT g ts (chkE e g) c || (match e with
      | .tup es => qSw g ts es.len (chkEs es g) c
      | _ => false))
  | .setI a i e, g, c => qSetI (chkE a g) (chkE i g) (chkE e g) c
  | .expr e, g, c => qExpr (chkE e g) c
  | .ret e, g, c => qRet (chkE e g) c
  | .retN, _, c => qRetN c
  | .pass, _, c => qPass c
  | .brk, _, c => qBrk c
  | .cont, _, c => qCont c
  | .ite t a b, g, c => qIf (chkE t g) (chkSs a g) (chkSs b g) c
  | .whl t a, g, c => qWhl (chkE t g) (chkSs a g) c
  | .for_ tg it a, g, c => qFor g tg (chkIt it g) (chkSs a g) c
  | .rais x es, g, c => qRais g x es.len c
def chkSs : Ss → G → List Stmt → Bool
  | .nil, _, c => c.isEmpty
  | .cons s r, g, c => match c with
    | x :: xs => chkS s g x && chkSs r g xs
    | [] => false
end
end AF

/-! Snd1: the expressions, one step each. -/
namespace AF
open PySem PySem.Spec PyProof.Rows L2

theorem mkL_ne {m : Bool} {l : List D} {st : Store} {x : Ex} {s : Store} : mkL m l st ≠ .exc x s := by
  unfold mkL; split <;> simp
theorem bin_ne {op : BO} {m : Bool} {a b : D} {st : Store} (x : Ex) (s : Store) : bin op m a b st ≠ .exc x s := by
  unfold bin
  repeat' split
  all_goals first | exact mkL_ne | simp
theorem cmp_ne {op : CO} {a b : D} {st : Store} (x : Ex) (s : Store) : cmp op a b st ≠ .exc x s := by
  unfold cmp
  repeat' split
  all_goals simp
theorem idx_ne {a b : D} {st : Store} (x : Ex) (s : Store) : idx a b st ≠ .exc x s := by
  unfold idx
  repeat' split
  all_goals simp
theorem slc_ne {a : D} {lo hi : Option Int} {st : Store} (x : Ex) (s : Store) : slc a lo hi st ≠ .exc x s := by
  unfold slc
  repeat' split
  all_goals simp
theorem blt_ne {f : BF} {m : Bool} {xs : List D} {st : Store} (x : Ex) (s : Store) : blt f m xs st ≠ .exc x s := by
  unfold blt
  repeat' split
  all_goals first | exact mkL_ne | simp
theorem mth_ne {f : BM} {a : D} {xs : List D} {st : Store} (x : Ex) (s : Store) : mth f a xs st ≠ .exc x s := by
  unfold mth
  repeat' split
  all_goals simp
theorem setI_ne {a i v : D} {st : Store} (x : Ex) (s : Store) : setI a i v st ≠ .exc x s := by
  unfold setI
  repeat' split
  all_goals simp
theorem srcOf_ne {d : D} {st : Store} (x : Ex) (s : Store) : srcOf d st ≠ .exc x s := by
  unfold srcOf
  repeat' split
  all_goals simp

section
variable {T : Tx} {W : WX} {σ : L2.St} {α β γ δ : Type} {μ μ' : List Addr} {H H' : Hp} {st : Store}
/-- a test leads on -/
theorem Aft.test {RB : List Addr → Hp → γ → δ → Prop} {r : R D} {f g : Store → R γ} {Q : δ → Hp → Prop}
    (h : Aft T W σ RB (r.bind fun x st => match x with | .bl true => f st | .bl false => g st | _ => .bad) μ H Q) :
    Aft T W σ REq (asB r) μ H fun b H1 => ∃ μ1 st1, Ext μ H μ1 H1 ∧ Rel T μ1 st1 H1 ∧ Aft T W σ RB (if b = true then f st1 else g st1) μ1 H1 Q := by
  cases r with
  | ok d s1 =>
    cases d with
    | bl b =>
      cases b with
      | true => exact fun μ2 H2 v e R P => by subst P; exact ⟨μ2, s1, e, R, Aft.shift h e⟩
      | false => exact fun μ2 H2 v e R P => by subst P; exact ⟨μ2, s1, e, R, Aft.shift h e⟩
    | _ => exact h.elim
  | exc y s1 => exact h
  | bad => exact h
/-- .. as a value -/
theorem Aft.testV {RB : List Addr → Hp → γ → δ → Prop} {r : R D} {f g : Store → R γ} {Q : δ → Hp → Prop}
    (h : Aft T W σ RB (r.bind fun x st => match x with | .bl true => f st | .bl false => g st | _ => .bad) μ H Q) :
    Aft T W σ (RepT T) r μ H fun v H1 => ∃ b μ1 st1, v = .bl b ∧ Ext μ H μ1 H1 ∧ Rel T μ1 st1 H1 ∧ Aft T W σ RB (if b = true then f st1 else g st1) μ1 H1 Q := by
  cases r with
  | ok d s1 =>
    cases d with
    | bl b =>
      cases b with
      | true => exact fun μ2 H2 v e R P => by cases P; exact ⟨true, μ2, s1, rfl, e, R, Aft.shift h e⟩
      | false => exact fun μ2 H2 v e R P => by cases P; exact ⟨false, μ2, s1, rfl, e, R, Aft.shift h e⟩
    | _ => exact h.elim
  | exc y s1 => exact h
  | bad => exact h
theorem asB_bind {r : R α} {f : α → Store → R D} : asB (r.bind f) = r.bind fun a st => asB (f a st) := by
  cases r <;> rfl
/-- a value that is a bool, as a test -/
theorem Aft.asB {r : R D} {Q : Bool → Hp → Prop} (h : Aft T W σ REq (asB r) μ H Q) : Aft T W σ (RepT T) r μ H fun v H1 => ∃ b, v = .bl b ∧ Q b H1 := by
  cases r with
  | ok d s1 =>
    cases d with
    | bl b => exact fun μ2 H2 v e R P => by cases P; exact ⟨b, rfl, h μ2 H2 b e R rfl⟩
    | _ => exact h.elim
  | exc y s1 => exact h
  | bad => exact h
end

section
variable {X : Cx} {T : Tx} {W : WX} {kn : Kn} {pos : Pos} {x y z : Expr} {a b c : E}
theorem sE_var {i : Nat} {n : Str} (hN : X.N[i]? = some n) (hv : Vis X.env.scope n) (hd : (n == ("__debug__" : Str)) = false) (hcd : (n == ("__classdict__" : Str)) = false) : PE X (.Name n pos) (rdE T W (evE kn (.var i))) :=
  PE.weak (pe_var hN hv hd hcd) fun σ H Q ⟨μ, ρ, st, R, re, A⟩ => by
    simp only [evE] at A
    cases e : ρ[i]? with
    | none => rw [e] at A; exact A.elim
    | some o =>
      cases o with
      | none => rw [e] at A; exact A.elim
      | some d =>
        rw [e] at A
        obtain ⟨v, h1, h2⟩ := re.get i d e
        exact ⟨v, h1, A.ok R h2⟩
theorem sE_non {j} : PE X (.Constant .none j pos) (rdE T W (evE kn .non)) := PE.weak pe_non fun σ H Q ⟨μ, ρ, st, R, re, A⟩ => by simp only [evE] at A; exact A.ok R .non
theorem sE_bl {j} {b : Bool} : PE X (.Constant (.bool b) j pos) (rdE T W (evE kn (.bl b))) := PE.weak pe_bl fun σ H Q ⟨μ, ρ, st, R, re, A⟩ => by simp only [evE] at A; exact A.ok R (.bl b)
theorem sE_int {j} {i : Int} : PE X (.Constant (.int i) j pos) (rdE T W (evE kn (.int i))) := PE.weak pe_int fun σ H Q ⟨μ, ρ, st, R, re, A⟩ => by simp only [evE] at A; exact A.ok R (.int i)
theorem sE_str {j} {s : List Nat} : PE X (.Constant (.str (toStr s)) j pos) (rdE T W (evE kn (.str s))) := PE.weak pe_str fun σ H Q ⟨μ, ρ, st, R, re, A⟩ => by simp only [evE] at A; exact A.ok R (.str s)
theorem sE_bin {o : Operator} {op : BO} {m : Bool} (ho : OpR X (binaryOp o) (rB T (bin op m))) (ha : PE X x (rdE T W (evE kn a))) (hb : PE X y (rdE T W (evE kn b))) : PE X (.BinOp x o y pos) (rdE T W (evE kn (.bin op m a b))) :=
  PE.weak (pe_op ho ha hb) fun σ H Q ⟨μ, ρ, st, R, re, A⟩ => by
    simp only [evE] at A
    exact ⟨μ, ρ, st, R, re, A.bind.mono fun v H1 ⟨μ1, d, st1, _, x1, R1, P1, A1⟩ => ⟨μ1, ρ, st1, R1, re.mono x1, A1.bind.mono fun w H2 ⟨μ2, d2, st2, _, x2, R2, P2, A2⟩ =>
      ⟨μ2, st2, d, d2, R2, P1.mono x2, P2, A2.v bin_ne⟩⟩⟩
theorem sE_neg (ho : UnR X (unaryOp .USub) (rU T fun a st => match a with | .int i => .ok (.int (-i)) st | _ => .bad)) (ha : PE X x (rdE T W (evE kn a))) : PE X (.UnaryOp .USub x pos) (rdE T W (evE kn (.neg a))) :=
  PE.weak (pe_un ho ha) fun σ H Q ⟨μ, ρ, st, R, re, A⟩ => by
    simp only [evE] at A
    exact ⟨μ, ρ, st, R, re, A.bind.mono fun v H1 ⟨μ1, d, st1, _, x1, R1, P1, A1⟩ => ⟨μ1, st1, d, R1, P1, A1.v fun _ _ => by split <;> simp⟩⟩
theorem sE_idx (ho : IxR X (rB T idx)) (hs : PlainIx y) (ha : PE X x (rdE T W (evE kn a))) (hb : PE X y (rdE T W (evE kn b))) : PE X (.Subscript x y pos) (rdE T W (evE kn (.idx a b))) :=
  PE.weak (pe_ix ho ha hb hs) fun σ H Q ⟨μ, ρ, st, R, re, A⟩ => by
    simp only [evE] at A
    exact ⟨μ, ρ, st, R, re, A.bind.mono fun v H1 ⟨μ1, d, st1, _, x1, R1, P1, A1⟩ => ⟨μ1, ρ, st1, R1, re.mono x1, A1.bind.mono fun w H2 ⟨μ2, d2, st2, _, x2, R2, P2, A2⟩ =>
      ⟨μ2, st2, d, d2, R2, P1.mono x2, P2, A2.v idx_ne⟩⟩⟩
theorem sE_cmp {o : CmpOp} {op : CO} (ho : OpR X (compareOp o) (rB T (cmp op))) (hm : behindInMarks o y = false) (ha : PE X x (rdE T W (evE kn a))) (hb : PE X y (rdE T W (evE kn b))) : PE X (.Compare x [o] [y] pos) (rdE T W (evE kn (.cmp op a b))) :=
  PE.weak (pe_cmpR ho ha hb hm) fun σ H Q ⟨μ, ρ, st, R, re, A⟩ => by
    simp only [evE] at A
    exact ⟨μ, ρ, st, R, re, A.bind.mono fun v H1 ⟨μ1, d, st1, _, x1, R1, P1, A1⟩ => ⟨μ1, ρ, st1, R1, re.mono x1, A1.bind.mono fun w H2 ⟨μ2, d2, st2, _, x2, R2, P2, A2⟩ =>
      ⟨μ2, st2, d, d2, R2, P1.mono x2, P2, A2.v cmp_ne⟩⟩⟩
theorem sT_cmp {o : CmpOp} {op : CO} (ho : OpR X (compareOp o) (rB T (cmp op))) (hm : behindInMarks o y = false) (ha : PE X x (rdE T W (evE kn a))) (hb : PE X y (rdE T W (evE kn b))) : PT X (.Compare x [o] [y] pos) (rdT T W (evE kn (.cmp op a b))) :=
  PT.weak (pt_cmpR ho ha hb hm) fun σ H Q ⟨μ, ρ, st, R, re, A⟩ => by
    have A := A.asB
    simp only [evE] at A
    exact ⟨μ, ρ, st, R, re, A.bind.mono fun v H1 ⟨μ1, d, st1, _, x1, R1, P1, A1⟩ => ⟨μ1, ρ, st1, R1, re.mono x1, A1.bind.mono fun w H2 ⟨μ2, d2, st2, _, x2, R2, P2, A2⟩ =>
      ⟨μ2, st2, d, d2, R2, P1.mono x2, P2, A2.v cmp_ne⟩⟩⟩
/-- a plain expression as a test -/
theorem sT_val {e : E} (h : PE X x (rdE T W (evE kn e))) (he : ∀ whole, isTrue x X.env whole = (do let v ← whole; standAt x.pos; holding [v] (truthy v))) : PT X x (rdT T W (evE kn e)) :=
  PT.weak (pt_val h he) fun σ H Q ⟨μ, ρ, st, R, re, A⟩ => ⟨μ, ρ, st, R, re, A.asB⟩
theorem sE_not (ha : PE X x (rdE T W (evE kn a))) : PE X (.UnaryOp .Not x pos) (rdE T W (evE kn (.not a))) :=
  PE.weak (pe_not ha) fun σ H Q ⟨μ, ρ, st, R, re, A⟩ => by
    simp only [evE] at A
    refine ⟨μ, ρ, st, R, re, A.bind.mono fun v H1 ⟨μ1, d, st1, _, x1, R1, P1, A1⟩ => ?_⟩
    cases P1 with
    | bl b => exact ⟨b, rfl, A1.ok R1 (.bl _)⟩
    | _ => exact A1.elim
theorem sT_not (ha : PT X x (rdT T W (evE kn a))) : PT X (.UnaryOp .Not x pos) (rdT T W (evE kn (.not a))) :=
  PT.weak (pt_not ha) fun σ H Q ⟨μ, ρ, st, R, re, A⟩ => by
    simp only [evE, asB_bind] at A
    refine ⟨μ, ρ, st, R, re, ?_⟩
    cases e : evE kn a ρ st with
    | ok d s1 =>
      rw [e] at A
      cases d with
      | bl b => exact fun μ2 H2 v ex R2 P => by subst P; exact A μ2 H2 _ ex R2 rfl
      | _ => exact A.elim
    | exc y s1 => rw [e] at A; exact A
    | bad => rw [e] at A; exact A
theorem sE_ite (hc : PT X x (rdT T W (evE kn c))) (ha : PE X y (rdE T W (evE kn a))) (hb : PE X z (rdE T W (evE kn b))) : PE X (.IfExp x y z pos) (rdE T W (evE kn (.ite c a b))) :=
  PE.weak (pe_ifExp hc ha hb) fun σ H Q ⟨μ, ρ, st, R, re, A⟩ => by
    simp only [evE] at A
    refine ⟨μ, ρ, st, R, re, (Aft.test (f := fun st => evE kn a ρ st) (g := fun st => evE kn b ρ st) A).mono fun b H1 ⟨μ1, st1, x1, R1, A1⟩ => ?_⟩
    cases b with
    | true => exact ⟨μ1, ρ, st1, R1, re.mono x1, A1⟩
    | false => exact ⟨μ1, ρ, st1, R1, re.mono x1, A1⟩
/-! and, or -/
variable {rest : List Expr}
theorem sE_and1 (ha : PE X x (rdE T W (evE kn a))) (hb : PE X (.BoolOp .And (y :: rest) pos) (rdE T W (evE kn b))) : PE X (.BoolOp .And (x :: y :: rest) pos) (rdE T W (evE kn (.and a b))) :=
  PE.weak (pe_and ha hb) fun σ H Q ⟨μ, ρ, st, R, re, A⟩ => by
    simp only [evE] at A
    refine ⟨μ, ρ, st, R, re, (Aft.testV (f := fun st => evE kn b ρ st) (g := fun st => .ok (.bl false) st) A).mono fun v H1 ⟨b, μ1, st1, e, x1, R1, A1⟩ => ⟨b, e, ?_⟩⟩
    cases b with
    | true => exact ⟨μ1, ρ, st1, R1, re.mono x1, A1⟩
    | false => exact A1.ok R1 (.bl false)
theorem sE_or1 (ha : PE X x (rdE T W (evE kn a))) (hb : PE X (.BoolOp .Or (y :: rest) pos) (rdE T W (evE kn b))) : PE X (.BoolOp .Or (x :: y :: rest) pos) (rdE T W (evE kn (.or a b))) :=
  PE.weak (pe_or ha hb) fun σ H Q ⟨μ, ρ, st, R, re, A⟩ => by
    simp only [evE] at A
    refine ⟨μ, ρ, st, R, re, (Aft.testV (f := fun st => .ok (.bl true) st) (g := fun st => evE kn b ρ st) A).mono fun v H1 ⟨b, μ1, st1, e, x1, R1, A1⟩ => ⟨b, e, ?_⟩⟩
    cases b with
    | true => exact A1.ok R1 (.bl true)
    | false => exact ⟨μ1, ρ, st1, R1, re.mono x1, A1⟩
theorem asB_test {r : R D} {f g : Store → R D} : asB (r.bind fun x st => match x with | .bl true => f st | .bl false => g st | _ => .bad) = r.bind fun x st => match x with | .bl true => asB (f st) | .bl false => asB (g st) | _ => .bad := by
  rw [asB_bind]
  congr 1
  funext d s
  split <;> rfl
theorem sW_and1 (ha : PT X x (rdT T W (evE kn a))) (hb : PW X (.BoolOp .And (y :: rest) pos) (rdT T W (evE kn b))) : PW X (.BoolOp .And (x :: y :: rest) pos) (rdT T W (evE kn (.and a b))) :=
  PW.weak (pw_and ha hb) fun σ H Q ⟨μ, ρ, st, R, re, A⟩ => by
    simp only [evE] at A
    have A := (asB_test (r := evE kn a ρ st) (f := fun st => evE kn b ρ st) (g := fun st => .ok (.bl false) st)) ▸ A
    refine ⟨μ, ρ, st, R, re, (Aft.test (f := fun st => asB (evE kn b ρ st)) (g := fun st => asB (.ok (.bl false) st)) A).mono fun b H1 ⟨μ1, st1, x1, R1, A1⟩ => ?_⟩
    cases b with
    | true => exact ⟨μ1, ρ, st1, R1, re.mono x1, A1⟩
    | false => exact A1 μ1 H1 false (Ext.refl R1) R1 rfl
theorem sW_or1 (ha : PT X x (rdT T W (evE kn a))) (hb : PW X (.BoolOp .Or (y :: rest) pos) (rdT T W (evE kn b))) : PW X (.BoolOp .Or (x :: y :: rest) pos) (rdT T W (evE kn (.or a b))) :=
  PW.weak (pw_or ha hb) fun σ H Q ⟨μ, ρ, st, R, re, A⟩ => by
    simp only [evE] at A
    have A := (asB_test (r := evE kn a ρ st) (f := fun st => .ok (.bl true) st) (g := fun st => evE kn b ρ st)) ▸ A
    refine ⟨μ, ρ, st, R, re, (Aft.test (f := fun st => asB (.ok (.bl true) st)) (g := fun st => asB (evE kn b ρ st)) A).mono fun b H1 ⟨μ1, st1, x1, R1, A1⟩ => ?_⟩
    cases b with
    | true => exact A1 μ1 H1 true (Ext.refl R1) R1 rfl
    | false => exact ⟨μ1, ρ, st1, R1, re.mono x1, A1⟩
end
end AF

/-! Snd2: arguments, displays, calls, methods, slices, chains. -/
namespace AF
open PySem PySem.Spec PyProof.Rows L2

theorem star_cons {e : Expr} {es : List Expr} {env : PySem.Env} (h : isStar e = false) : starEach (e :: es) env = (false, eval e env) :: starEach es env := by
  cases e <;> first | rfl | (simp [isStar] at h)
def noStars : List Expr → Bool
  | [] => true
  | e :: es => !isStar e && noStars es
theorem star_all {env : PySem.Env} {pos : Pos} : ∀ {es : List Expr}, noStars es = true → (backTo pos (starEach es env)).any (·.1) = false
  | [], _ => rfl
  | e :: es, h => by
    simp only [noStars, Bool.and_eq_true, Bool.not_eq_true'] at h
    rw [star_cons h.1]
    show (false || (backTo pos (starEach es env)).any (·.1)) = false
    rw [star_all h.2]; rfl
theorem star_allN {env : PySem.Env} {pos : Pos} : ∀ {es : List Expr}, noStars es = true → (backTo pos (starEach es env)).all (fun x => !x.1) = true
  | [], _ => rfl
  | e :: es, h => by
    simp only [noStars, Bool.and_eq_true, Bool.not_eq_true'] at h
    rw [star_cons h.1]
    show (true && (backTo pos (starEach es env)).all (fun x => !x.1)) = true
    rw [star_allN h.2]; rfl
theorem chkEs_stars {g : G} : ∀ {es : Es} {xs : List Expr}, chkEs es g xs = true → noStars xs = true ∧ xs.length = es.len
  | .nil, [], _ => ⟨rfl, rfl⟩
  | .nil, _ :: _, h => by simp [chkEs] at h
  | .cons _ _, [], h => by simp [chkEs] at h
  | .cons e es, x :: xs, h => by
    simp only [chkEs, Bool.and_eq_true, Bool.not_eq_true'] at h
    obtain ⟨h1, h2⟩ := chkEs_stars h.2
    exact ⟨by simp [noStars, h.1.2, h1], by simp [Es.len, h2]⟩
theorem evEs_len {kn : Kn} {ρ : Env} : ∀ {es : Es} {st st' : Store} {ds : List D}, evEs kn es ρ st = .ok ds st' → ds.length = es.len
  | .nil, st, st', ds, h => by simp only [evEs] at h; cases h; rfl
  | .cons e es, st, st', ds, h => by
    simp only [evEs] at h
    cases h1 : evE kn e ρ st with
    | ok d s1 =>
      rw [h1] at h
      simp only [R.bind_ok] at h
      cases h2 : evEs kn es ρ s1 with
      | ok r s2 =>
        rw [h2] at h
        simp only [R.bind_ok] at h
        cases h
        simp [Es.len, evEs_len h2]
      | exc _ _ => rw [h2] at h; cases h
      | bad => rw [h2] at h; cases h
    | exc _ _ => rw [h1] at h; cases h
    | bad => rw [h1] at h; cases h

/-- a def's promise, by what the core's def does -/
def Tx.with (T : Tx) (gh : List Addr) : Tx := { T with gh := gh }
def spF (T : Tx) (n : Nat) (ev : List D → Store → R D) : Sp := fun vs H Q E => vs.length = n ∧ ∃ gh μ ds st, Rel (T.with gh) μ st H ∧ Reps (T.with gh) μ H ds vs ∧ Aft (T.with gh) (fun c d _ H' => E c d H') [] (RepT (T.with gh)) (ev ds st) μ H Q

section
variable {X : Cx} {T : Tx} {W : WX} {kn : Kn} {pos : Pos} {x y z : Expr} {a b c : E} {xs : List Expr} {es : Es}
theorem sA_nil : PA X [] (rdA T W (evEs kn .nil)) := PA.weak pa_nil fun σ H Q ⟨μ, ρ, st, R, re, A⟩ => by simp only [evEs] at A; exact A.ok R .nil
theorem sA_cons (hs : isStar x = false) (ha : PE X x (rdE T W (evE kn a))) (hr : PA X xs (rdA T W (evEs kn es))) : PA X (x :: xs) (rdA T W (evEs kn (.cons a es))) :=
  PA.weak (pa_cons ha hr (star_cons hs)) fun σ H Q ⟨μ, ρ, st, R, re, A⟩ => by
    simp only [evEs] at A
    exact ⟨μ, ρ, st, R, re, A.bind.mono fun v H1 ⟨μ1, d, st1, _, x1, R1, P1, A1⟩ => ⟨μ1, ρ, st1, R1, re.mono x1, A1.bind.mono fun vs H2 ⟨μ2, ds, st2, _, x2, R2, P2, A2⟩ =>
      A2.ok R2 (.cons (P1.mono x2) P2)⟩⟩
theorem es_line {n : Nat} (h : n ≤ 1000) : n ≤ sizeLine := Nat.le_trans h (by rw [sizeLine_eq]; decide)
theorem sE_tup {k} (hl : es.len ≤ 1000) (h : PA X xs (rdA T W (evEs kn es))) : PE X (.Tuple xs k pos) (rdE T W (evE kn (.tup es))) :=
  PE.weak (pe_tup h) fun σ H Q ⟨μ, ρ, st, R, re, A⟩ => by
    simp only [evE] at A
    exact ⟨μ, ρ, st, R, re, A.bind.mono fun vs H1 ⟨μ1, ds, st1, e, x1, R1, P1, A1⟩ => ⟨by rw [P1.length, evEs_len e]; exact es_line hl, tup_new (A1.v fun _ _ => by simp) R1 P1⟩⟩
theorem sE_lst {m : Bool} (hl : es.len ≤ 1000) (h : PA X xs (rdA T W (evEs kn es))) : PE X (.List xs pos) (rdE T W (evE kn (.lst m es))) :=
  PE.weak (pe_lst h) fun σ H Q ⟨μ, ρ, st, R, re, A⟩ => by
    simp only [evE] at A
    exact ⟨μ, ρ, st, R, re, A.bind.mono fun vs H1 ⟨μ1, ds, st1, e, x1, R1, P1, A1⟩ => ⟨by rw [P1.length, evEs_len e]; exact es_line hl, mkL_new (A1.v fun _ _ => mkL_ne) R1 P1⟩⟩
/-- a call of a def -/
theorem sE_call {k n f : Nat} {nm : Str} {p : Pos} {fd : FuncData} {ps : List Str} (F : FnOk X.prog X.w X.K X.mg X.base (L2.CX X.prog X.w) k (T.fa f) fd ps (spF T n (kn.call f))) (hr : Room k X.A) (hg : Gl X nm) (hm : X.mg nm = some (.ref (T.fa f)))
    (hk : PySem.W.keepIn X.K (.ref (T.fa f)) = true) (hb : Binds X.K fd ps []) (tk : Takes X W) (hn : es.len = n) (hxs : xs.length = es.len) (hst : noStars xs = true) (ha : PA X xs (rdA T W (evEs kn es))) (hdb : (nm == ("__debug__" : Str)) = false) :
    PE X (.Call (.Name nm p) xs [] pos) (rdE T W (evE kn (.call f es))) := by
  have hx : ∀ σ, PassesAt (L2.CX X.prog X.w) X σ (WE W σ) := passAt tk
  have go : PE X (.Call (.Name nm p) xs [] pos) (tCallS (spF T n (kn.call f)) (WE W) (rdA T W (evEs kn es))) := by
    cases xs with
    | nil =>
      refine ⟨fun pins s σ H Q I h => ?_⟩
      refine wpAny_Call_Name_kw (ld_glob I hg hm ?_ hdb)
      refine PySem.W.callWith_K0 I.kIn hk ?_
      have en : es = .nil := by cases es with | nil => rfl | cons _ _ => simp [Es.len] at hxs
      subst en
      obtain ⟨μ, ρ, st, R, re, A⟩ := h
      simp only [evEs] at A
      exact run_fnS (us := []) F hr hb (hx σ) I .nil (A.ok R .nil)
    | cons e0 r0 =>
      simp only [noStars, Bool.and_eq_true, Bool.not_eq_true'] at hst
      exact pe_callS F hr hg hm hk hb hx ha hdb (star_cons hst.1) (star_all hst.2)
  refine PE.weak go fun σ H Q ⟨μ, ρ, st, R, re, A⟩ => ?_
  simp only [evE] at A
  exact ⟨μ, ρ, st, R, re, A.bind.mono fun vs H1 ⟨μ1, ds, st1, e, x1, R1, P1, A1⟩ => ⟨by rw [P1.length, evEs_len e]; exact hn, T.gh, μ1, ds, st1, R1, P1, A1⟩⟩
theorem boot_bf (f : BF) : bootBuiltins (bfStr f) = some (bfVal f) := by cases f <;> decide +kernel
theorem bf_name (f : BF) : bfStr f ≠ "__name__" ∧ (bfStr f == ("__debug__" : Str)) = false := by cases f <;> exact ⟨by decide +kernel, by decide +kernel⟩
theorem sE_blt {f : BF} {m : Bool} {p : Pos} (hc : CallR X (bfVal f) (rL T (blt f m))) (hg : Gl X (bfStr f)) (hm : X.mg (bfStr f) = none) (hs : isStar x = false) (hst : noStars xs = true) (ha : PA X (x :: xs) (rdA T W (evEs kn es))) :
    PE X (.Call (.Name (bfStr f) p) (x :: xs) [] pos) (rdE T W (evE kn (.blt f m es))) := by
  have go : PE X (.Call (.Name (bfStr f) p) (x :: xs) [] pos) (tCB (rL T (blt f m)) (rdA T W (evEs kn es))) := by
    have hv := boot_bf f
    obtain ⟨n1, n2⟩ := bf_name f
    cases f <;> first
      | exact pe_callB hc hg hm hv ha n1 n2 (star_cons hs) (star_all hst)
      | exact pe_callTy hc hg hm hv ha n1 n2 (star_cons hs) (star_all hst)
  refine PE.weak go fun σ H Q ⟨μ, ρ, st, R, re, A⟩ => ?_
  simp only [evE] at A
  exact ⟨μ, ρ, st, R, re, A.bind.mono fun vs H1 ⟨μ1, ds, st1, e, x1, R1, P1, A1⟩ => ⟨μ1, st1, ds, R1, P1, A1.v blt_ne⟩⟩
theorem boot_ty (t : TY) : bootBuiltins (tyStr t) = some (.type (tyName t)) := by cases t <;> decide +kernel
theorem ty_name (t : TY) : tyStr t ≠ "__name__" ∧ (tyStr t == ("__debug__" : Str)) = false := by cases t <;> exact ⟨by decide +kernel, by decide +kernel⟩
theorem sE_isi {t : TY} {p p2 : Pos} (hK : X.K = T.K) (hg : Gl X "isinstance") (hm : X.mg "isinstance" = none) (hg2 : Gl X (tyStr t)) (hm2 : X.mg (tyStr t) = none) (hs : isStar x = false) (ha : PE X x (rdE T W (evE kn a))) :
    PE X (.Call (.Name "isinstance" p) [x, .Name (tyStr t) p2] [] pos) (rdE T W (evE kn (.isi t a))) := by
  obtain ⟨n1, n2⟩ := ty_name t
  have hT : PE X (.Name (tyStr t) p2) (tC (.ty (tyName t))) := pe_bltn hg2 hm2 (boot_ty t) rfl n1 n2
  refine PE.weak (pe_callB (call_isiW hK t) hg hm boot_isinstance (pa_cons ha (pa_cons hT pa_nil) (star_cons hs)) (by decide) (by decide) (star_cons hs) rfl) fun σ H Q ⟨μ, ρ, st, R, re, A⟩ => ?_
  simp only [evE] at A
  exact ⟨μ, ρ, st, R, re, A.bind.mono fun v H1 ⟨μ1, d, st1, _, x1, R1, P1, A1⟩ => ⟨v, rfl, μ1, st1, d, R1, P1, A1.v fun _ _ => by split <;> simp⟩⟩
theorem sE_mth {f : BM} {apos : Pos} (hK : X.K = T.K) (hm : MtR X (bmId f) (rM T (mth f))) (ho : PE X x (rdE T W (evE kn a))) (hc : isCallE x = false) (hs : isStar y = false) (hst : noStars xs = true) (hln : xs.length < 20) (hline : (apos.endLine == pos.line) = true)
    (ha : PA X (y :: xs) (rdA T W (evEs kn es))) : PE X (.Call (.Attribute x (bmName f) apos) (y :: xs) [] pos) (rdE T W (evE kn (.mth f a es))) := by
  have hbase : attributeBase x (bmName f) X.env (eval x X.env) = eval x X.env := by cases x <;> first | rfl | (simp [isCallE] at hc)
  have hfew : ((backTo pos (starEach (y :: xs) X.env)).all (fun x => !x.1) && (backToKw pos (keywordEach [] X.env)).all (fun x => x.1.isSome) && decide ((y :: xs).length + ([] : List Keyword).length + (if ([] : List Keyword).isEmpty then 0 else 1) < 30)) = true := by
    rw [star_allN (by simp [noStars, hs, hst])]
    simp [backToKw, keywordEach]; omega
  have go : PE X (.Call (.Attribute x (bmName f) apos) (y :: xs) [] pos) (tBM X.K (bmTy f) (rM T (mth f)) (rdE T W (evE kn a)) (rdA T W (evEs kn es))) := by
    cases f with
    | append => exact pe_bm F.plainAttrs_list F.slot_list_append F.type_list_append hm ho ha hbase hfew hline (star_cons hs) (star_all hst)
    | count => exact pe_bm F.plainAttrs_list F.slot_list_count F.type_list_count hm ho ha hbase hfew hline (star_cons hs) (star_all hst)
    | index => exact pe_bm F.plainAttrs_list F.slot_list_index F.type_list_index hm ho ha hbase hfew hline (star_cons hs) (star_all hst)
    | join => exact pe_bm F.plainAttrs_str F.slot_str_join F.type_str_join hm ho ha hbase hfew hline (star_cons hs) (star_all hst)
    | split => exact pe_bm F.plainAttrs_str F.slot_str_split F.type_str_split hm ho ha hbase hfew hline (star_cons hs) (star_all hst)
  refine PE.weak go fun σ H Q ⟨μ, ρ, st, R, re, A⟩ => ?_
  simp only [evE] at A
  refine ⟨μ, ρ, st, R, re, A.bind.mono fun v H1 ⟨μ1, d, st1, _, x1, R1, P1, A1⟩ => ?_⟩
  split at A1
  · rename_i hr
    refine ⟨?_, μ1, ρ, st1, R1, re.mono x1, A1.bind.mono fun vs H2 ⟨μ2, ds, st2, _, x2, R2, P2, A2⟩ => ⟨μ2, st2, d, ds, R2, P1.mono x2, P2, A2.v mth_ne⟩⟩
    have ls : (lstOf st1 d).isSome = true → tyV X.K "list" v H1 := fun h => by
      obtain ⟨l, hl⟩ := Option.isSome_iff_exists.mp h
      obtain ⟨p, ys, rfl, h1, _⟩ := lstOf_at R1 hl P1
      exact .inl ⟨rfl, ys, SqL.of h1⟩
    cases f with
    | append => exact ls hr
    | count => exact ls hr
    | index => exact ls hr
    | join =>
      cases P1 <;> first | rfl | (simp [recvOk] at hr)
    | split =>
      cases P1 <;> first | rfl | (simp [recvOk] at hr)
  · exact A1.elim
/-! slices, chains -/
variable {lo hi : Option Expr} {l h : Oe} {p2 : Pos}
def rdO (T : Tx) (W : WX) (ev : Env → Store → R (Option Int)) : TO := fun σ H Q => ∃ μ ρ st, Rel T μ st H ∧ REnv T μ H ρ σ ∧ Aft T W σ REq (ev ρ st) μ H Q
theorem sO_none : PO X none (rdO T W (evOe kn .none)) := PO.weak po_none fun σ H Q ⟨μ, ρ, st, R, re, A⟩ => by simp only [evOe] at A; exact A.ok R rfl
theorem sO_some (ha : PE X x (rdE T W (evE kn a))) : PO X (some x) (rdO T W (evOe kn (.some a))) :=
  PO.weak (po_some ha) fun σ H Q ⟨μ, ρ, st, R, re, A⟩ => by
    simp only [evOe] at A
    refine ⟨μ, ρ, st, R, re, A.bind.mono fun v H1 ⟨μ1, d, st1, _, x1, R1, P1, A1⟩ => ?_⟩
    cases P1 with
    | int i => exact ⟨i, rfl, A1.ok R1 rfl⟩
    | _ => exact A1.elim
theorem sE_slc (hs : SlR X (rSl T)) (ha : PE X x (rdE T W (evE kn a))) (hl : PO X lo (rdO T W (evOe kn l))) (hh : PO X hi (rdO T W (evOe kn h))) : PE X (.Subscript x (.Slice lo hi none p2) pos) (rdE T W (evE kn (.slc a l h))) :=
  PE.weak (pe_slice hs ha hl hh) fun σ H Q ⟨μ, ρ, st, R, re, A⟩ => by
    simp only [evE] at A
    exact ⟨μ, ρ, st, R, re, A.bind.mono fun v H1 ⟨μ1, d, st1, _, x1, R1, P1, A1⟩ => ⟨μ1, ρ, st1, R1, re.mono x1, A1.bind.mono fun o H2 ⟨μ2, o2, st2, _, x2, R2, P2, A2⟩ =>
      ⟨μ2, ρ, st2, R2, (re.mono x1).mono x2, A2.bind.mono fun u H3 ⟨μ3, u3, st3, _, x3, R3, P3, A3⟩ => by subst P2 P3; exact ⟨μ3, st3, d, R3, (P1.mono x2).mono x3, A3.v slc_ne⟩⟩⟩⟩
theorem cmp_bl {op : CO} {a b d : D} {st s : Store} (h : cmp op a b st = .ok d s) : ∃ k, d = .bl k := by
  unfold cmp at h
  repeat' split at h
  all_goals first | (cases h; done) | (cases h; exact ⟨_, rfl⟩)
theorem chn_weak {op op' : CO} {σ : L2.St} {H : Hp} {Q : VK} (h : rdE T W (evE kn (.chn op op' a b c)) σ H Q) : tChain (rB T (cmp op)) (rB T (cmp op')) (rdE T W (evE kn a)) (rdE T W (evE kn b)) (rdE T W (evE kn c)) σ H Q := by
  obtain ⟨μ, ρ, st, R, re, A⟩ := h
  simp only [evE] at A
  refine ⟨μ, ρ, st, R, re, A.bind.mono fun v H1 ⟨μ1, d, st1, _, x1, R1, P1, A1⟩ => ⟨μ1, ρ, st1, R1, re.mono x1, A1.bind.mono fun w H2 ⟨μ2, d2, st2, _, x2, R2, P2, A2⟩ =>
    ⟨μ2, st2, d, d2, R2, P1.mono x2, P2, ?_⟩⟩⟩
  refine ((Aft.testV (f := fun st => (evE kn c ρ st).bind fun z st => cmp op' d2 z st) (g := fun st => .ok (.bl false) st) A2).mono fun v H3 ⟨k, μ3, st3, e, x3, R3, A3⟩ => ⟨k, e, ?_⟩).v cmp_ne
  cases k with
  | true => exact ⟨μ3, ρ, st3, R3, ((re.mono x1).mono x2).mono x3, A3.bind.mono fun u H4 ⟨μ4, d4, st4, _, x4, R4, P4, A4⟩ => ⟨μ4, st4, d2, d4, R4, (P2.mono x3).mono x4, P4, A4.v cmp_ne⟩⟩
  | false => exact A3.ok R3 (.bl false)
theorem sE_chn {o o' : CmpOp} {op op' : CO} (ho : OpR X (compareOp o) (rB T (cmp op))) (ho' : OpR X (compareOp o') (rB T (cmp op'))) (hm : lastMarks [o, o'] [y, z] = false) (ha : PE X x (rdE T W (evE kn a))) (hb : PE X y (rdE T W (evE kn b))) (hc : PE X z (rdE T W (evE kn c))) :
    PE X (.Compare x [o, o'] [y, z] pos) (rdE T W (evE kn (.chn op op' a b c))) := PE.weak (pe_chain ho ho' ha hb hc hm) fun σ H Q => chn_weak
theorem sT_chn {o o' : CmpOp} {op op' : CO} (ho : OpR X (compareOp o) (rB T (cmp op))) (ho' : OpR X (compareOp o') (rB T (cmp op'))) (hm : lastMarks [o, o'] [y, z] = false) (ha : PE X x (rdE T W (evE kn a))) (hb : PE X y (rdE T W (evE kn b))) (hc : PE X z (rdE T W (evE kn c))) :
    PT X (.Compare x [o, o'] [y, z] pos) (rdT T W (evE kn (.chn op op' a b c))) := PT.weak (pt_chain ho ho' ha hb hc hm) fun σ H Q ⟨μ, ρ, st, R, re, A⟩ => chn_weak ⟨μ, ρ, st, R, re, A.asB⟩
end
end AF

/-! Snd3: what loops walk over. -/
namespace AF
open PySem PySem.Spec PyProof.Rows L2

section
variable {T : Tx} {μ μ0 : List Addr} {H H0 : Hp} {gh : List Addr}
/-- lists that are being made later are no value so far -/
def GhOk (T : Tx) (H0 : Hp) (gh : List Addr) : Prop := ∀ a ∈ gh, a ∈ T.gh ∨ H0 a = none
mutual
theorem Rep.toGh (h : GhOk T H gh) : ∀ {d : D} {v : V}, Rep T μ H d v → Rep (T.with gh) μ H d v
  | _, _, .non => .non
  | _, _, .bl b => .bl b
  | _, _, .int i => .int i
  | _, _, .str s => .str s
  | _, _, .tup q r => .tup q (Reps.toGh h r)
  | _, _, .lst q n r => .lst q ⟨n.1, fun hm => (h _ hm).elim n.2 fun z => by rw [q] at z; cases z⟩ (Reps.toGh h r)
  | _, _, .scr q => .scr q
  | _, _, .ref q => .ref q
  | _, _, .glo n => .glo (T := T.with gh) n
theorem Reps.toGh (h : GhOk T H gh) : ∀ {l : List D} {xs : List V}, Reps T μ H l xs → Reps (T.with gh) μ H l xs
  | _, _, .nil => .nil
  | _, _, .cons a r => .cons (Rep.toGh h a) (Reps.toGh h r)
end
mutual
theorem Rep.unGh (h : ∀ a ∈ gh, a ∈ T.gh) : ∀ {d : D} {v : V}, Rep T μ H d v → Rep (T.with gh) μ H d v
  | _, _, .non => .non
  | _, _, .bl b => .bl b
  | _, _, .int i => .int i
  | _, _, .str s => .str s
  | _, _, .tup q r => .tup q (Reps.unGh h r)
  | _, _, .lst q n r => .lst q ⟨n.1, fun hm => n.2 (h _ hm)⟩ (Reps.unGh h r)
  | _, _, .scr q => .scr q
  | _, _, .ref q => .ref q
  | _, _, .glo n => .glo (T := T.with gh) n
theorem Reps.unGh (h : ∀ a ∈ gh, a ∈ T.gh) : ∀ {l : List D} {xs : List V}, Reps T μ H l xs → Reps (T.with gh) μ H l xs
  | _, _, .nil => .nil
  | _, _, .cons a r => .cons (Rep.unGh h a) (Reps.unGh h r)
end
/-- the heap without the lists that are being made -/
def hide (G : List Addr) (H : Hp) : Hp := fun a => if a ∈ G then none else H a
theorem hide_some {G : List Addr} {H : Hp} {a : Addr} {o : HO} : hide G H a = some o ↔ a ∉ G ∧ H a = some o := by
  unfold hide; split <;> simp_all
mutual
theorem Rep.hid (h : ∀ a ∈ T.gh, ∃ xs, H a = some (.lst xs)) : ∀ {d : D} {v : V}, Rep T μ H d v → Rep T μ (hide T.gh H) d v
  | _, _, .non => .non
  | _, _, .bl b => .bl b
  | _, _, .int i => .int i
  | _, _, .str s => .str s
  | _, _, .tup (a := a) q r => .tup (by
      rcases q with (q | ⟨o, q⟩) | q
      · exact .inl (.inl (hide_some.mpr ⟨fun hm => (by obtain ⟨xs, e⟩ := h a hm; rw [e] at q; cases q), q⟩))
      · exact .inl (.inr ⟨o, hide_some.mpr ⟨fun hm => (by obtain ⟨xs, e⟩ := h a hm; rw [e] at q; cases q), q⟩⟩)
      · exact .inr q) (Reps.hid h r)
  | _, _, .lst q n r => .lst (hide_some.mpr ⟨n.2, q⟩) n (Reps.hid h r)
  | _, _, .scr (a := a) q => .scr (by
      rcases q with ⟨o, q⟩ | q
      · exact .inl ⟨o, hide_some.mpr ⟨fun hm => (by obtain ⟨xs, e⟩ := h a hm; rw [e] at q; cases q), q⟩⟩
      · exact .inr q)
  | _, _, .ref q => .ref q
  | _, _, .glo n => .glo n
theorem Reps.hid (h : ∀ a ∈ T.gh, ∃ xs, H a = some (.lst xs)) : ∀ {l : List D} {xs : List V}, Reps T μ H l xs → Reps T μ (hide T.gh H) l xs
  | _, _, .nil => .nil
  | _, _, .cons a r => .cons (Rep.hid h a) (Reps.hid h r)
end
theorem Rel.ghl {st : Store} (R : Rel T μ st H) : ∀ a ∈ T.gh, ∃ xs, H a = some (.lst xs) := fun a ha => (R.gh a ha).2
theorem hide_tup {K : PySem.W.Frag} {a : Addr} {xs : List V} (h : ∀ a ∈ T.gh, ∃ xs, H a = some (.lst xs)) (q : SqT K H a xs) : SqT K (hide T.gh H) a xs := by
  rcases q with (q | ⟨o, q⟩) | q
  · exact .inl (.inl (hide_some.mpr ⟨fun hm => (by obtain ⟨xs, e⟩ := h a hm; rw [e] at q; cases q), q⟩))
  · exact .inl (.inr ⟨o, hide_some.mpr ⟨fun hm => (by obtain ⟨xs, e⟩ := h a hm; rw [e] at q; cases q), q⟩⟩)
  · exact .inr q
theorem GhOk.hid (h : GhOk T H gh) : GhOk T (hide T.gh H) gh := fun a ha => (h a ha).elim .inl fun z => by
  by_cases hm : a ∈ T.gh
  · exact .inl hm
  · exact .inr (by unfold hide; rw [if_neg hm]; exact z)
/-- a list's items at any later time -/
def LsRel (T : Tx) (μ0 : List Addr) (H0 : Hp) (s : Src) (a : Addr) : Prop :=
  ∀ gh μ st H, GhOk T H0 gh → Ext μ0 (hide T.gh H0) μ H → Rel (T.with gh) μ st H → guard s.gs st = true → ∃ xs, H a = some (.lst xs) ∧ Reps (T.with gh) μ H s.its xs
theorem srcOf_ls {d : D} {v : V} {st st' : Store} {s : Src} (R : Rel T μ st H) (r : Rep T μ H d v) (e : srcOf d st = .ok s st') (nt : ∀ l, d ≠ .tup l) : st' = st ∧ ∃ a, v = .ref a ∧ (∃ xs, H a = some (.lst xs)) ∧ LsRel T μ H s a := by
  cases r with
  | tup _ _ => exact absurd rfl (nt _)
  | @lst a xs l h n rs =>
    simp only [srcOf] at e; cases e
    exact ⟨rfl, a, rfl, ⟨xs, h⟩, fun gh μ2 st2 H2 hg x _ _ => ⟨xs, x.keep _ _ (hide_some.mpr ⟨n.2, h⟩) n.1, ((rs.hid R.ghl).toGh hg.hid).mono x⟩⟩
  | @ref n a hn =>
    simp only [srcOf] at e
    cases e0 : st[n]? with
    | none => rw [e0] at e; cases e
    | some o =>
      rw [e0] at e
      cases o with
      | ins c fs => cases e
      | lst l =>
        cases e
        obtain ⟨b, xs, hb, hx, _⟩ := R.lst e0
        rw [hn] at hb; cases hb
        refine ⟨rfl, a, rfl, ⟨xs, hx⟩, fun gh μ2 st2 H2 hg x R2 hgd => ?_⟩
        have g1 : gOne st2 (n, l) = true := by simpa [guard] using hgd
        unfold gOne at g1
        split at g1
        · rename_i k hk
          have := D.beqs_eq g1
          subst this
          obtain ⟨b, ys, hb, hy, rs⟩ := R2.lst hk
          rw [x.get hn] at hb; cases hb
          exact ⟨ys, hy, rs⟩
        · cases g1
  | _ => simp only [srcOf] at e; cases e
/-- a source's items at any later time, by how the loop turns -/
def SrcRel (T : Tx) (μ0 : List Addr) (H0 : Hp) (s : Src) (J : L2.It) : Prop :=
  ∀ gh μ st H, GhOk T H0 gh → Ext μ0 (hide T.gh H0) μ H → Rel (T.with gh) μ st H → guard s.gs st = true → ∀ i,
    (i < s.its.length → J.go i H ∧ ∀ x H', J.yld i H x H' → ∃ d, s.its[i]? = some d ∧ Ext μ H μ H' ∧ Rel (T.with gh) μ st H' ∧ Rep (T.with gh) μ H' d x ∧ ∀ a o, H a = some o → H' a = some o) ∧ (s.its.length ≤ i → J.stop i H)
theorem LsRel.src {s : Src} {a : Addr} (h : LsRel T μ0 H0 s a) {K : PySem.W.Frag} (hK : K = T.K) : SrcRel T μ0 H0 s (Itl K a) := by
  subst hK
  intro gh μ st H hg x R gd i
  obtain ⟨xs, hx, rs⟩ := h gh μ st H hg x R gd
  have hl := rs.length
  refine ⟨fun hi => ?_, fun hi => ⟨xs, SqL.of hx, by omega⟩⟩
  obtain ⟨v, h1, h2⟩ := rs.get (List.getElem?_eq_getElem hi)
  exact ⟨⟨xs, v, SqL.of hx, h1⟩, fun y H' ⟨e, q⟩ => by
    have := q xs (SqL.of hx)
    rw [h1] at this; cases this; subst e
    exact ⟨_, List.getElem?_eq_getElem hi, Ext.refl R, R, h2, fun _ _ e => e⟩⟩
theorem src_tup {st0 : Store} {l : List D} {a : Addr} {xs : List V} {K : PySem.W.Frag} (R0 : Rel T μ0 st0 H0) (hK : K = T.K) (hs : SqT T.K H0 a xs) (rs : Reps T μ0 H0 l xs) : SrcRel T μ0 H0 ⟨l, []⟩ (Itt K a) := by
  subst hK
  intro gh μ st H hg x R gd i
  have hs2 : SqT T.K H a xs := x.tup (hide_tup R0.ghl hs)
  have rs2 := ((rs.hid R0.ghl).toGh hg.hid).mono x
  have hl := rs2.length
  refine ⟨fun hi => ?_, fun hi => ⟨xs, hs2, by simp at hi; omega⟩⟩
  obtain ⟨v, h1, h2⟩ := rs2.get (List.getElem?_eq_getElem hi)
  exact ⟨⟨xs, v, hs2, h1⟩, fun y H' ⟨e, q⟩ => by
    have := q xs hs2
    rw [h1] at this; cases this; subst e
    exact ⟨_, List.getElem?_eq_getElem hi, Ext.refl R, R, h2, fun _ _ e => e⟩⟩
theorem rngD_get : ∀ (n : Nat) (lo : Int) (i : Nat), i < n → (rngD lo n)[i]? = some (.int (lo + i))
  | n + 1, lo, 0, _ => by simp [rngD]
  | n + 1, lo, i + 1, h => by
    simp only [rngD, List.getElem?_cons_succ]
    rw [rngD_get n (lo + 1) i (by omega)]
    congr 2; omega
theorem rngD_len : ∀ (n : Nat) (lo : Int), (rngD lo n).length = n
  | 0, _ => rfl
  | n + 1, lo => by simp [rngD, rngD_len n]
theorem src_rng (lo : Int) (n : Nat) : SrcRel T μ0 H0 ⟨rngD lo n, []⟩ (Itr lo n) := by
  intro gh μ st H hg x R gd i
  simp only [rngD_len]
  refine ⟨fun hi => ⟨hi, fun y H' ⟨e, q⟩ => ?_⟩, fun hi => hi⟩
  subst e q
  exact ⟨_, rngD_get n lo i hi, Ext.refl R, R, .int _, fun _ _ e => e⟩
theorem zipD_get : ∀ {l k : List D} {i : Nat} {a b : D}, l[i]? = some a → k[i]? = some b → (zipD l k)[i]? = some (.tup [a, b])
  | [], _, _, _, _, h, _ => by simp at h
  | _ :: _, [], _, _, _, _, h => by simp at h
  | a :: l, b :: k, 0, _, _, h1, h2 => by simp at h1 h2; subst h1 h2; simp [zipD]
  | a :: l, b :: k, i + 1, _, _, h1, h2 => by
    simp only [zipD, List.getElem?_cons_succ] at h1 h2 ⊢
    exact zipD_get h1 h2
theorem zipD_len : ∀ l k : List D, (zipD l k).length = min l.length k.length
  | [], _ => by simp [zipD]
  | _ :: _, [] => by simp [zipD]
  | _ :: l, _ :: k => by simp [zipD, zipD_len l k]
theorem enumD_get : ∀ {l : List D} {n i : Nat} {a : D}, l[i]? = some a → (enumD n l)[i]? = some (.tup [.int ((n + i : Nat) : Int), a])
  | [], _, _, _, h => by simp at h
  | a :: l, n, 0, _, h => by simp at h; subst h; simp [enumD]
  | a :: l, n, i + 1, _, h => by
    simp only [enumD, List.getElem?_cons_succ] at h ⊢
    rw [enumD_get h]
    congr 5; omega
theorem enumD_len : ∀ (n : Nat) (l : List D), (enumD n l).length = l.length
  | _, [] => rfl
  | n, _ :: l => by simp [enumD, enumD_len (n + 1) l]
/-- a new pair -/
theorem new_pair {st : Store} {p : Addr} {vs : List V} {ds : List D} (R : Rel T μ st H) (hp : H p = none) (rs : Reps T μ H ds vs) : Ext μ H μ (upd H p (.tup vs)) ∧ Rel T μ st (upd H p (.tup vs)) ∧ Rep T μ (upd H p (.tup vs)) (.tup ds) (.ref p) ∧ ∀ a o, H a = some o → upd H p (.tup vs) a = some o :=
  ⟨Ext.new R hp, R.new hp, .tup (SqT.of upd_same) (rs.mono (Ext.new R hp)), fun a o e => by rw [upd_ne (fun z => by rw [z, hp] at e; cases e)]; exact e⟩
theorem guard_app {g g' : List (Nat × List D)} {st : Store} : guard (g ++ g') st = true ↔ guard g st = true ∧ guard g' st = true := by simp [guard]
theorem src_zipL {s t : Src} {a b : Addr} {K : PySem.W.Frag} (hK : K = T.K) (h1 : LsRel T μ0 H0 s a) (h2 : LsRel T μ0 H0 t b) : SrcRel T μ0 H0 ⟨zipD s.its t.its, s.gs ++ t.gs⟩ (Itz K a b) := by
  subst hK
  intro gh μ st H hg x R gd i
  obtain ⟨g1, g2⟩ := guard_app.mp gd
  obtain ⟨xs, hx, rx⟩ := h1 gh μ st H hg x R g1
  obtain ⟨ys, hy, ry⟩ := h2 gh μ st H hg x R g2
  have l1 := rx.length
  have l2 := ry.length
  simp only [zipD_len]
  refine ⟨fun hi => ?_, fun hi => ⟨xs, ys, SqL.of hx, SqL.of hy, by omega⟩⟩
  obtain ⟨v, e1, r1⟩ := rx.get (List.getElem?_eq_getElem (show i < s.its.length by omega))
  obtain ⟨w, e2, r2⟩ := ry.get (List.getElem?_eq_getElem (show i < t.its.length by omega))
  refine ⟨⟨xs, ys, v, w, SqL.of hx, SqL.of hy, e1, e2⟩, ?_⟩
  rintro _ _ ⟨p, x', y', rfl, hp, rfl, q1, q2⟩
  have z1 := q1 xs (SqL.of hx)
  have z2 := q2 ys (SqL.of hy)
  rw [e1] at z1; rw [e2] at z2; cases z1; cases z2
  obtain ⟨n1, n2, n3, n4⟩ := new_pair R hp (.cons r1 (.cons r2 .nil))
  exact ⟨_, zipD_get (List.getElem?_eq_getElem (show i < s.its.length by omega)) (List.getElem?_eq_getElem (show i < t.its.length by omega)), n1, n2, n3, n4⟩
theorem src_zipT {st0 : Store} {l k : List D} {a b : Addr} {xs ys : List V} {K : PySem.W.Frag} (R0 : Rel T μ0 st0 H0) (hK : K = T.K) (hx : SqT T.K H0 a xs) (hy : SqT T.K H0 b ys) (r1 : Reps T μ0 H0 l xs) (r2 : Reps T μ0 H0 k ys) : SrcRel T μ0 H0 ⟨zipD l k, []⟩ (RZ.ItzT K a b) := by
  subst hK
  intro gh μ st H hg x R gd i
  have hx := x.tup (hide_tup R0.ghl hx)
  have hy := x.tup (hide_tup R0.ghl hy)
  have rx := ((r1.hid R0.ghl).toGh hg.hid).mono x
  have ry := ((r2.hid R0.ghl).toGh hg.hid).mono x
  have l1 := rx.length
  have l2 := ry.length
  simp only [zipD_len]
  refine ⟨fun hi => ?_, fun hi => ⟨xs, ys, hx, hy, by omega⟩⟩
  obtain ⟨v, e1, r1⟩ := rx.get (List.getElem?_eq_getElem (show i < l.length by omega))
  obtain ⟨w, e2, r2⟩ := ry.get (List.getElem?_eq_getElem (show i < k.length by omega))
  refine ⟨⟨xs, ys, v, w, hx, hy, e1, e2⟩, ?_⟩
  rintro _ _ ⟨p, x', y', rfl, hp, rfl, q1, q2⟩
  have z1 := q1 xs hx
  have z2 := q2 ys hy
  rw [e1] at z1; rw [e2] at z2; cases z1; cases z2
  obtain ⟨n1, n2, n3, n4⟩ := new_pair R hp (.cons r1 (.cons r2 .nil))
  exact ⟨_, zipD_get (List.getElem?_eq_getElem (show i < l.length by omega)) (List.getElem?_eq_getElem (show i < k.length by omega)), n1, n2, n3, n4⟩
theorem src_enumL {s : Src} {a : Addr} {K : PySem.W.Frag} (hK : K = T.K) (h1 : LsRel T μ0 H0 s a) : SrcRel T μ0 H0 ⟨enumD 0 s.its, s.gs⟩ (Ite K a) := by
  subst hK
  intro gh μ st H hg x R gd i
  obtain ⟨xs, hx, rx⟩ := h1 gh μ st H hg x R gd
  have l1 := rx.length
  simp only [enumD_len]
  refine ⟨fun hi => ?_, fun hi => ⟨xs, SqL.of hx, by omega⟩⟩
  obtain ⟨v, e1, r1⟩ := rx.get (List.getElem?_eq_getElem hi)
  refine ⟨⟨xs, v, SqL.of hx, e1⟩, ?_⟩
  rintro _ _ ⟨p, x', rfl, hp, rfl, q1⟩
  have z1 := q1 xs (SqL.of hx)
  rw [e1] at z1; cases z1
  have hd := enumD_get (n := 0) (List.getElem?_eq_getElem hi)
  rw [Nat.zero_add] at hd
  obtain ⟨n1, n2, n3, n4⟩ := new_pair R hp (.cons (.int (i : Nat)) (.cons r1 .nil))
  exact ⟨_, hd, n1, n2, n3, n4⟩
end

def rdI (T : Tx) (W : WX) (ev : Env → Store → R Src) : TI := fun σ H R' => ∃ μ ρ st, Rel T μ st H ∧ REnv T μ H ρ σ ∧ Aft T W σ (SrcRel T) (ev ρ st) μ H R'
section
variable {X : Cx} {T : Tx} {W : WX} {kn : Kn} {pos : Pos} {tg x y z : Expr} {a b c : E}
def iSeq (K : PySem.W.Frag) (tl : TE) : TI := fun σ H R => tl σ H fun x H1 => ∃ a, x = .ref a ∧ (((∃ xs, SqL K H1 a xs) ∧ R (Itl K a) H1) ∨ ((∃ xs, SqT K H1 a xs) ∧ R (Itt K a) H1))
/-- over a list or a tuple -/
theorem pi_seq {l : Expr} {tl : TE} (hl : PE X l tl) : PI X tg l (iSeq X.K tl) := by
  refine ⟨fun pins s σ H R I h => ?_⟩
  refine thn (hl.run pins s σ H _ I h) fun v s1 ⟨x, H1, I1, r1, q1⟩ => ?_
  obtain ⟨a, e, ⟨⟨xs, hq⟩, q⟩ | ⟨⟨xs, hq⟩, q⟩⟩ := q1
  · subst e
    cases r1
    obtain ⟨its, rv, p, hz⟩ := I1.list hq
    refine wpAny_pyIter_list p.isList ?_
    refine ⟨s1.heap.objs.size, [s1.heap.objs.size], _, _, H1, rfl, I1.kept (t' := s1.toks) fun b o e => Heap.get?_push_of_some _ e, turn_list a _, ⟨_, Heap.get?_push_size _ rfl, rfl, rfl⟩, fun b hb => ?_, q⟩
    have e : b = s1.heap.objs.size := by simpa using hb
    subst e
    exact I1.fpOk (Nat.le_refl _) (I1.hok.fresh (Nat.le_refl _))
  · subst e
    cases r1
    obtain ⟨its, rv, p, hz⟩ := I1.tuple hq
    refine wpAny_pyIter_tuple (show s1.heap.IsTuple a its.toArray from p) ?_
    refine ⟨s1.heap.objs.size, [s1.heap.objs.size], _, _, H1, rfl, I1.kept (t' := s1.toks) fun b o e => Heap.get?_push_of_some _ e, turn_tuple a _, ⟨_, Heap.get?_push_size _ rfl, rfl, rfl⟩, fun b hb => ?_, q⟩
    have e : b = s1.heap.objs.size := by simpa using hb
    subst e
    exact I1.fpOk (Nat.le_refl _) (I1.hok.fresh (Nat.le_refl _))
variable (hK : X.K = T.K)
include hK
theorem sI_of (ha : PE X x (rdE T W (evE kn a))) : PI X tg x (rdI T W (evIt kn (.of a))) :=
  PI.weak (pi_seq ha) fun σ H Q ⟨μ, ρ, st, R, re, A⟩ => by
    simp only [evIt] at A
    refine ⟨μ, ρ, st, R, re, A.bind.mono fun v H1 ⟨μ1, d, st1, _, x1, R1, P1, A1⟩ => ?_⟩
    by_cases ht : ∃ l, d = .tup l
    · obtain ⟨l, rfl⟩ := ht
      cases P1 with
      | @tup a xs _ h rs =>
        simp only [srcOf] at A1
        exact ⟨a, rfl, .inr ⟨⟨xs, by rw [hK]; exact h⟩, A1 μ1 H1 _ (Ext.refl R1) R1 (src_tup R1 hK h rs)⟩⟩
    · cases e : srcOf d st1 with
      | ok s s1 =>
        obtain ⟨e1, a, ev, ⟨xs, hx⟩, ls⟩ := srcOf_ls R1 P1 e fun l z => ht ⟨l, z⟩
        subst e1
        rw [e] at A1
        exact ⟨a, ev, .inl ⟨⟨xs, SqL.of hx⟩, A1 μ1 H1 _ (Ext.refl R1) R1 (ls.src hK)⟩⟩
      | exc y s1 => exact absurd e (srcOf_ne y s1)
      | bad => rw [e] at A1; exact A1.elim
omit hK in
theorem okR_ok {i : Int} (h : okR i = true) : -(2 ^ 62) ≤ i ∧ i < 2 ^ 62 := by
  simp [okR] at h; omega
omit hK in
theorem sI_rng1 {p : Pos} (hg : Gl X "range") (hm : X.mg "range" = none) (hs : isStar x = false) (ha : PE X x (rdE T W (evE kn a))) : PI X tg (.Call (.Name "range" p) [x] [] pos) (rdI T W (evIt kn (.rng1 a))) :=
  PI.weak (pi_range1 hg hm (pa_cons ha pa_nil (star_cons hs)) (star_cons hs)) fun σ H Q ⟨μ, ρ, st, R, re, A⟩ => by
    simp only [evIt] at A
    refine ⟨μ, ρ, st, R, re, A.bind.mono fun v H1 ⟨μ1, d, st1, _, x1, R1, P1, A1⟩ => ?_⟩
    cases P1 with
    | int i =>
      simp only at A1
      split at A1
      · rename_i h
        obtain ⟨h1, h2⟩ := okR_ok h
        exact ⟨i, rfl, h1, h2, A1 μ1 H1 _ (Ext.refl R1) R1 (src_rng 0 _)⟩
      · exact A1.elim
    | _ => exact A1.elim
omit hK in
theorem sI_rng2 {p : Pos} (hg : Gl X "range") (hm : X.mg "range" = none) (hs : isStar x = false) (hs2 : isStar y = false) (ha : PE X x (rdE T W (evE kn a))) (hb : PE X y (rdE T W (evE kn b))) : PI X tg (.Call (.Name "range" p) [x, y] [] pos) (rdI T W (evIt kn (.rng2 a b))) :=
  PI.weak (pi_range2 hg hm (pa_cons ha (pa_cons hb pa_nil (star_cons hs2)) (star_cons hs)) (by rw [star_cons hs, star_cons hs2]; rfl) (by rw [star_cons hs2]; rfl)) fun σ H Q ⟨μ, ρ, st, R, re, A⟩ => by
    simp only [evIt] at A
    refine ⟨μ, ρ, st, R, re, A.bind.mono fun v H1 ⟨μ1, d, st1, _, x1, R1, P1, A1⟩ => ⟨μ1, ρ, st1, R1, re.mono x1, A1.bind.mono fun w H2 ⟨μ2, d2, st2, _, x2, R2, P2, A2⟩ => ?_⟩⟩
    cases P1 with
    | int i =>
      cases P2 with
      | int j =>
        simp only at A2
        split at A2
        · rename_i h
          simp only [Bool.and_eq_true] at h
          obtain ⟨h1, h2⟩ := okR_ok h.1
          obtain ⟨h3, h4⟩ := okR_ok h.2
          exact ⟨i, j, rfl, ⟨h1, h2, h3, h4⟩, A2 μ2 H2 _ (Ext.refl R2) R2 (src_rng i _)⟩
        · exact A2.elim
      | _ => exact A2.elim
    | _ => exact A2.elim
theorem sI_zip {p tpos : Pos} {elts : List Expr} {kk : Nat} (hg : Gl X "zip") (hm : X.mg "zip" = none) (hs : isStar x = false) (hs2 : isStar y = false) (ha : PE X x (rdE T W (evE kn a))) (hb : PE X y (rdE T W (evE kn b))) : PI X (.Tuple elts kk tpos) (.Call (.Name "zip" p) [x, y] [] pos) (rdI T W (evIt kn (.zip a b))) :=
  PI.weak (RZ.pi_zipA hg hm (pa_cons ha (pa_cons hb pa_nil (star_cons hs2)) (star_cons hs)) (star_cons hs) (by rw [star_cons hs2]; rfl)) fun σ H Q ⟨μ, ρ, st, R, re, A⟩ => by
    simp only [evIt] at A
    refine ⟨μ, ρ, st, R, re, A.bind.mono fun v H1 ⟨μ1, d, st1, _, x1, R1, P1, A1⟩ => ⟨μ1, ρ, st1, R1, re.mono x1, A1.bind.mono fun w H2 ⟨μ2, d2, st2, _, x2, R2, P2, A2⟩ => ?_⟩⟩
    have P1 := P1.mono x2
    by_cases h1 : ∃ l, d = .tup l
    · obtain ⟨l, rfl⟩ := h1
      by_cases h2 : ∃ l, d2 = .tup l
      · obtain ⟨k, rfl⟩ := h2
        cases P1 with
        | @tup pa xs _ q1 r1 =>
          cases P2 with
          | @tup pb ys _ q2 r2 => exact ⟨pa, pb, xs, ys, rfl, .inr ⟨by rw [hK]; exact q1, by rw [hK]; exact q2, A2 μ2 H2 _ (Ext.refl R2) R2 (src_zipT R2 hK q1 q2 r1 r2)⟩⟩
      · exfalso
        cases d2 <;> first | exact h2 ⟨_, rfl⟩ | exact A2
    · by_cases h2 : ∃ l, d2 = .tup l
      · exfalso
        obtain ⟨k, rfl⟩ := h2
        cases d <;> first | exact h1 ⟨_, rfl⟩ | exact A2
      · have A2' : Aft T W σ (SrcRel T) ((srcOf d st2).bind fun s st => (srcOf d2 st).bind fun t st => .ok ⟨zipD s.its t.its, s.gs ++ t.gs⟩ st) μ2 H2 Q := by
          cases d <;> first | (exfalso; exact h1 ⟨_, rfl⟩) | (cases d2 <;> first | (exfalso; exact h2 ⟨_, rfl⟩) | exact A2)
        cases e : srcOf d st2 with
        | ok s s1 =>
          obtain ⟨e1, pa, ev, ⟨xs, hx⟩, ls⟩ := srcOf_ls R2 P1 e fun l z => h1 ⟨l, z⟩
          subst e1
          rw [e] at A2'
          simp only [AF.R.bind_ok] at A2'
          cases e' : srcOf d2 s1 with
          | ok t s2 =>
            obtain ⟨e2, pb, ev2, ⟨ys, hy⟩, lt⟩ := srcOf_ls R2 P2 e' fun l z => h2 ⟨l, z⟩
            subst e2
            rw [e'] at A2'
            simp only [AF.R.bind_ok] at A2'
            subst ev ev2
            exact ⟨pa, pb, xs, ys, rfl, .inl ⟨SqL.of hx, SqL.of hy, A2' μ2 H2 _ (Ext.refl R2) R2 (src_zipL hK ls lt)⟩⟩
          | exc y s1 => exact absurd e' (srcOf_ne y s1)
          | bad => rw [e'] at A2'; exact A2'.elim
        | exc y s1 => exact absurd e (srcOf_ne y s1)
        | bad => rw [e] at A2'; exact A2'.elim
theorem sI_enum {p tpos : Pos} {elts : List Expr} {kk : Nat} (hg : Gl X "enumerate") (hm : X.mg "enumerate" = none) (hs : isStar x = false) (ha : PE X x (rdE T W (evE kn a))) : PI X (.Tuple elts kk tpos) (.Call (.Name "enumerate" p) [x] [] pos) (rdI T W (evIt kn (.enum a))) :=
  PI.weak (pi_enum hg hm (pa_cons ha pa_nil (star_cons hs)) (star_cons hs)) fun σ H Q ⟨μ, ρ, st, R, re, A⟩ => by
    simp only [evIt] at A
    refine ⟨μ, ρ, st, R, re, A.bind.mono fun v H1 ⟨μ1, d, st1, _, x1, R1, P1, A1⟩ => ?_⟩
    by_cases h1 : ∃ l, d = .tup l
    · obtain ⟨l, rfl⟩ := h1
      exact A1.elim
    · have A2 : Aft T W σ (SrcRel T) ((srcOf d st1).bind fun s st => .ok ⟨enumD 0 s.its, s.gs⟩ st) μ1 H1 Q := by
        cases d <;> first | (exfalso; exact h1 ⟨_, rfl⟩) | exact A1
      cases e : srcOf d st1 with
      | ok s s1 =>
        obtain ⟨e1, pa, ev, ⟨xs, hx⟩, ls⟩ := srcOf_ls R1 P1 e fun l z => h1 ⟨l, z⟩
        subst e1
        rw [e] at A2
        simp only [AF.R.bind_ok] at A2
        subst ev
        exact ⟨pa, xs, rfl, SqL.of hx, A2 μ1 H1 _ (Ext.refl R1) R1 (src_enumL hK ls)⟩
      | exc y s1 => exact absurd e (srcOf_ne y s1)
      | bad => rw [e] at A2; exact A2.elim
end
end AF

/-! Snd4: targets, comprehensions. -/
namespace AF
open PySem PySem.Spec PyProof.Rows L2

/-! ### targets -/
def Agree (is : List Nat) (σ σ' : L2.St) : Prop := σ'.length = σ.length ∧ ∀ i, i ∉ is → σ'[i]? = σ[i]?
theorem Agree.refl {is : List Nat} {σ : L2.St} : Agree is σ σ := ⟨rfl, fun _ _ => rfl⟩
theorem Agree.wipe {vs : List Nat} {σ σ' : L2.St} (h : Agree vs σ σ') : wipe σ' vs = wipe σ vs := by
  have go : ∀ (ws : List Nat) (i : Nat), (L2.wipe σ' ws)[i]? = if i ∈ ws ∧ i < σ'.length then some none else σ'[i]? := by
    intro ws
    induction ws with
    | nil => intro i; simp [L2.wipe]
    | cons w ws ih =>
      intro i
      unfold L2.wipe
      by_cases hw : i = w
      · subst hw
        by_cases hl : i < σ'.length
        · rw [List.getElem?_set_self (by rw [wipe_length]; exact hl)]
          simp [hl]
        · rw [List.getElem?_eq_none (by rw [List.length_set, wipe_length]; omega)]
          simp [hl]
      · rw [List.getElem?_set_ne (Ne.symm hw), ih i]
        simp [hw]
  have go2 : ∀ (ws : List Nat) (i : Nat), (L2.wipe σ ws)[i]? = if i ∈ ws ∧ i < σ.length then some none else σ[i]? := by
    intro ws
    induction ws with
    | nil => intro i; simp [L2.wipe]
    | cons w ws ih =>
      intro i
      unfold L2.wipe
      by_cases hw : i = w
      · subst hw
        by_cases hl : i < σ.length
        · rw [List.getElem?_set_self (by rw [wipe_length]; exact hl)]
          simp [hl]
        · rw [List.getElem?_eq_none (by rw [List.length_set, wipe_length]; omega)]
          simp [hl]
      · rw [List.getElem?_set_ne (Ne.symm hw), ih i]
        simp [hw]
  apply List.ext_getElem?
  intro i
  rw [go, go2, h.1]
  by_cases hi : i ∈ vs
  · by_cases hl : i < σ.length
    · simp [hi, hl]
    · simp only [hl, and_false, if_false]
      have h1 := h.1
      rw [List.getElem?_eq_none (by omega), List.getElem?_eq_none (by omega)]
  · simp [hi, h.2 i hi]
def rdG (T : Tx) (tg : Tg) : TG := fun v σ H Q => ∃ μ st ρ d ρ', Rel T μ st H ∧ Rep T μ H d v ∧ REnv T μ H ρ σ ∧ asg tg d ρ = some ρ' ∧ ∀ σ', REnv T μ H ρ' σ' → Agree (tgI tg) σ σ' → Q σ' H
def rdGs (T : Tx) (ts : List Tg) : TGs := fun vs σ H Q => ∃ μ st ρ ds ρ', Rel T μ st H ∧ Reps T μ H ds vs ∧ REnv T μ H ρ σ ∧ asgs ts ds ρ = some ρ' ∧ ∀ σ', REnv T μ H ρ' σ' → Agree (tgIs ts) σ σ' → Q σ' H
theorem asgs_len : ∀ {ts : List Tg} {ds : List D} {ρ ρ' : Env}, asgs ts ds ρ = some ρ' → ds.length = ts.length
  | [], [], _, _, _ => rfl
  | [], _ :: _, _, _, h => by simp [asgs] at h
  | _ :: _, [], _, _, h => by simp [asgs] at h
  | t :: ts, d :: ds, ρ, ρ', h => by
    simp only [asgs] at h
    split at h
    · simp [asgs_len h]
    · cases h
theorem PGs.weak {X : Cx} {e : List Expr} {t t' : TGs} (h : PGs X e t) (k : ∀ v σ H Q, t' v σ H Q → t v σ H Q) : PGs X e t' := ⟨fun pins s σ H v u Q I r q => h.run pins s σ H v u Q I r (k v σ H Q q)⟩
theorem PTs.weak {X : Cx} {e : List Expr} {t t' : TT} (h : PTs X e t) (k : ∀ σ H Q, t' σ H Q → t σ H Q) : PTs X e t' := ⟨fun pins s σ H Q I q => h.run pins s σ H Q I (k σ H Q q)⟩
theorem asn_star {es : List Expr} {env : PySem.Env} (h : noStars es = true) : (assignEach es env).findIdx? (·.1) = none ∧ (assignEach es env).length = es.length := by
  induction es with
  | nil => exact ⟨rfl, rfl⟩
  | cons e es ih =>
    simp only [noStars, Bool.and_eq_true, Bool.not_eq_true'] at h
    obtain ⟨h1, h2⟩ := ih h.2
    have e1 : assignEach (e :: es) env = (false, assign e env) :: assignEach es env := by
      cases e <;> first | rfl | (simp [isStar] at h)
    rw [e1]
    refine ⟨?_, by simp [h2]⟩
    rw [List.findIdx?_cons]
    simp [h1]
theorem asn_cons {e : Expr} {es : List Expr} {env : PySem.Env} (h : isStar e = false) : (assignEach (e :: es) env).map (·.2) = assign e env :: (assignEach es env).map (·.2) := by
  cases e <;> first | rfl | (simp [isStar] at h)
theorem chkTs_stars {g : G} : ∀ {ts : List Tg} {xs : List Expr}, chkTs g ts xs = true → noStars xs = true ∧ xs.length = ts.length
  | [], [], _ => ⟨rfl, rfl⟩
  | [], _ :: _, h => by simp [chkTs] at h
  | _ :: _, [], h => by simp [chkTs] at h
  | t :: ts, x :: xs, h => by
    simp only [chkTs, Bool.and_eq_true, Bool.not_eq_true'] at h
    obtain ⟨h1, h2⟩ := chkTs_stars h.2
    exact ⟨by simp [noStars, h.1.2, h1], by simp [h2]⟩
theorem isLocal_ok {k : Option NameKind} (h : isLocal k = true) : k = some .local := by
  unfold isLocal at h; split at h <;> simp_all
theorem isCell_ok {k : Option NameKind} (h : isCell k = true) : k = some .cell := by
  unfold isCell at h; split at h <;> simp_all
theorem isGl_ok {k : Option NameKind} (h : isGl k = true) : k = some .globalImplicit := by
  unfold isGl at h; split at h <;> simp_all
theorem isVis_ok {k : Option NameKind} (h : isVis k = true) : k = some .local ∨ k = some .cell ∨ k = some .free := by
  unfold isVis at h; split at h <;> simp_all
theorem tgOk_ok {g : G} {i : Nat} {x : Str} (h : tgOk g i x = true) : g.N[i]? = some x ∧ Loc g.sc x ∧ (g.fnOk x = true ∨ g.sc.names.lookup x = some .local) := by
  simp only [tgOk, Bool.and_eq_true, Bool.or_eq_true, decide_eq_true_eq] at h
  obtain ⟨h1, h2 | ⟨h2, h3⟩⟩ := h
  · exact ⟨h1, .inl (isLocal_ok h2), .inr (isLocal_ok h2)⟩
  · exact ⟨h1, .inr (isCell_ok h2), .inl h3⟩
section
variable {X : Cx} {T : Tx} {g : G}
theorem sG_name {i : Nat} {x : Str} {pos : Pos} (hN : X.N.Nodup) (hi : X.N[i]? = some x) (hx : Loc X.env.scope x) (hf : X.fn x = true ∨ X.env.scope.names.lookup x = some .local) : PG X (.Name x pos) (rdG T (.name i)) :=
  PG.weak (pg_name hN hi hx hf) fun v σ H Q ⟨μ, st, ρ, d, ρ', R, rp, re, ea, k⟩ => by
    simp only [asg] at ea
    split at ea
    · rename_i hl
      cases ea
      exact k _ (re.set rp hl) ⟨by simp, fun j hj => by rw [List.getElem?_set_ne]; simp [tgI] at hj; omega⟩
    · cases ea
variable (hN : X.N = g.N) (nd : X.N.Nodup) (hsc : X.env.scope = g.sc) (hfn : ∀ x, g.fnOk x = true → X.fn x = true) (hc : X.calm = true) (hK : X.K = T.K)
include hN nd hsc hfn hc hK
mutual
theorem sG : ∀ {t : Tg} {x : Expr}, chkT g t x = true → PG X x (rdG T t)
  | .name i, x, h => by
    cases x <;> simp only [chkT] at h <;> first | (cases h; done) | skip
    obtain ⟨h1, h2, h3⟩ := tgOk_ok h
    exact sG_name nd (by rw [hN]; exact h1) (by rw [hsc]; exact h2) (h3.elim (fun z => .inl (hfn _ z)) fun z => .inr (by rw [hsc]; exact z))
  | .tup ts, x, h => by
    cases x <;> simp only [chkT] at h <;> first | (cases h; done) | skip
    obtain ⟨s1, s2⟩ := chkTs_stars h
    obtain ⟨a1, a2⟩ := asn_star (env := X.env) s1
    refine PG.weak (pg_tup hc (sGs h) (a2.trans s2) a1) fun v σ H Q ⟨μ, st, ρ, d, ρ', R, rp, re, ea, k⟩ => ?_
    cases rp with
    | @tup a xs l q rs =>
      simp only [asg] at ea
      exact ⟨a, xs, rfl, by rw [hK]; exact q, by rw [rs.length]; exact asgs_len ea, μ, st, ρ, l, ρ', R, rs, re, ea, k⟩
    | _ => simp only [asg] at ea; cases ea
theorem sGs : ∀ {ts : List Tg} {xs : List Expr}, chkTs g ts xs = true → PGs X xs (rdGs T ts)
  | [], [], _ => PGs.weak pgs_nil fun vs σ H Q ⟨μ, st, ρ, ds, ρ', R, rs, re, ea, k⟩ => by
    cases rs with
    | nil => simp only [asgs] at ea; cases ea; exact ⟨rfl, k σ re Agree.refl⟩
    | cons _ _ => simp [asgs] at ea
  | [], _ :: _, h => by simp [chkTs] at h
  | _ :: _, [], h => by simp [chkTs] at h
  | t :: ts, x :: xs, h => by
    simp only [chkTs, Bool.and_eq_true, Bool.not_eq_true'] at h
    refine PGs.weak (pgs_cons (sG h.1.1) (sGs h.2) (asn_cons h.1.2)) fun vs σ H Q ⟨μ, st, ρ, ds, ρ', R, rs, re, ea, k⟩ => ?_
    cases rs with
    | nil => simp [asgs] at ea
    | cons r rr =>
      simp only [asgs] at ea
      split at ea
      · rename_i ρ1 e1
        refine ⟨_, _, rfl, μ, st, ρ, _, ρ1, R, r, re, e1, fun σ1 re1 ag1 => ⟨μ, st, ρ1, _, ρ', R, rr, re1, ea, fun σ2 re2 ag2 => k σ2 re2 ⟨ag2.1.trans ag1.1, fun i hi => ?_⟩⟩⟩
        simp only [tgIs, List.mem_append, not_or] at hi
        rw [ag2.2 i hi.2, ag1.2 i hi.1]
      · cases ea
end
end

/-! ### the list that is being made -/
section
variable {T : Tx} {μ μ' : List Addr} {H H' : Hp} {st : Store} {A : Addr}
theorem hide1 {o : HO} (h : H A = none) : hide [A] (upd H A o) = H := by
  funext a
  unfold hide
  by_cases e : a = A
  · subst e; simp [h]
  · rw [if_neg (by simpa using e), upd_ne e]
mutual
theorem Rep.updG (hg : A ∈ T.gh) {xs ys : List V} (hA : H A = some (.lst xs)) : ∀ {d : D} {v : V}, Rep T μ H d v → Rep T μ (upd H A (.lst ys)) d v
  | _, _, .non => .non
  | _, _, .bl b => .bl b
  | _, _, .int i => .int i
  | _, _, .str s => .str s
  | _, _, .tup (a := a) q r => .tup (by
      rcases q with (q | ⟨o, q⟩) | q
      · exact .inl (.inl (by rw [upd_ne (fun z => by rw [z, hA] at q; cases q)]; exact q))
      · exact .inl (.inr ⟨o, by rw [upd_ne (fun z => by rw [z, hA] at q; cases q)]; exact q⟩)
      · exact .inr q) (Reps.updG hg hA r)
  | _, _, .lst (a := a) q n r => .lst (by rw [upd_ne (fun z => n.2 (by rw [z]; exact hg))]; exact q) n (Reps.updG hg hA r)
  | _, _, .scr (a := a) q => .scr (by
      rcases q with ⟨o, q⟩ | q
      · exact .inl ⟨o, by rw [upd_ne (fun z => by rw [z, hA] at q; cases q)]; exact q⟩
      · exact .inr q)
  | _, _, .ref q => .ref q
  | _, _, .glo n => .glo n
theorem Reps.updG (hg : A ∈ T.gh) {xs ys : List V} (hA : H A = some (.lst xs)) : ∀ {l : List D} {vs : List V}, Reps T μ H l vs → Reps T μ (upd H A (.lst ys)) l vs
  | _, _, .nil => .nil
  | _, _, .cons a r => .cons (Rep.updG hg hA a) (Reps.updG hg hA r)
end
theorem Rel.updG (R : Rel T μ st H) (hg : A ∈ T.gh) {xs ys : List V} (hA : H A = some (.lst xs)) : Rel T μ st (upd H A (.lst ys)) := by
  have nm : A ∉ μ := (R.gh A hg).1
  refine ⟨R.len, R.inj, fun n o e => ?_, fun a ha => ⟨(R.gh a ha).1, ?_⟩⟩
  · obtain ⟨a, h1, h2⟩ := R.obj n o e
    refine ⟨a, h1, ?_⟩
    have ne : a ≠ A := fun z => nm (by rw [← z]; exact List.mem_of_getElem? h1)
    cases o with
    | lst l => obtain ⟨zs, q, r⟩ := h2; exact ⟨zs, by rw [upd_ne ne]; exact q, r.updG hg hA⟩
    | ins c fs => exact h2.elim
  · by_cases z : a = A
    · subst z; exact ⟨ys, upd_same⟩
    · rw [upd_ne z]; exact (R.gh a ha).2
/-- a step that leaves the store's own map alone: to what is hidden -/
theorem Ext.updG {μ0 : List Addr} {H0 : Hp} (x : Ext μ0 (hide [A] H0) μ H) (nm : A ∉ μ) {o : HO} : Ext μ0 (hide [A] H0) μ (upd H A o) :=
  ⟨x.pre, fun a o e h => by
    have ne : a ≠ A := fun z => by rw [z] at e; simp [hide] at e
    rw [upd_ne ne]; exact x.keep a o e h, x.mut0, fun a ha => by
    have ne : a ≠ A := fun z => nm (by rw [← z]; exact ha)
    rw [upd_ne ne]; exact x.mut1 a ha⟩
theorem Ext.toHide {μ0 : List Addr} {H0 : Hp} (x : Ext μ0 H0 μ H) {G : List Addr} (nm : ∀ a ∈ G, a ∉ μ0) : Ext μ0 (hide G H0) μ H := by
  obtain ⟨⟨t, e, ht⟩, k, m0, m1⟩ := x
  exact ⟨⟨t, e, fun a ha => by unfold hide; split <;> first | rfl | exact ht a ha⟩, fun a o q h => k a o (hide_some.mp q).2 h, fun a ha => by unfold hide; rw [if_neg (fun z => nm a z ha)]; exact m0 a ha, m1⟩
theorem Ext.more {μ0 : List Addr} {H0 : Hp} {B G : List Addr} (x : Ext μ0 (hide B H0) μ H) (hb : ∀ a ∈ B, a ∈ G) (nm : ∀ a ∈ G, a ∉ μ0) : Ext μ0 (hide G H0) μ H := by
  obtain ⟨⟨t, e, ht⟩, k, m0, m1⟩ := x
  refine ⟨⟨t, e, fun a ha => ?_⟩, fun a o q h => ?_, fun a ha => ?_, m1⟩
  · have := ht a ha
    unfold hide at this ⊢
    split
    · rfl
    · rename_i hn
      rw [if_neg (fun z => hn (hb a z))] at this; exact this
  · obtain ⟨h1, h2⟩ := hide_some.mp q
    exact k a o (hide_some.mpr ⟨fun z => h1 (hb a z), h2⟩) h
  · have := m0 a ha
    unfold hide at this ⊢
    rw [if_neg (fun z => nm a z ha)]
    rw [if_neg (fun z => nm a (hb a z) ha)] at this
    exact this
/-- on from a later time -/
theorem Ext.then {μ0 μ1 : List Addr} {H0 H1 : Hp} (x : Ext μ0 (hide [A] H0) μ1 H1) (nm : A ∉ μ1) (y : Ext μ1 H1 μ H) : Ext μ0 (hide [A] H0) μ H := by
  have x' : Ext μ0 (hide [A] H0) μ1 (hide [A] H1) := ⟨x.pre, fun a o e h => hide_some.mpr ⟨(hide_some.mp e).1, x.keep a o e h⟩, x.mut0, fun a ha => by
    unfold hide; rw [if_neg (by simp; intro z; exact nm (by rw [← z]; exact ha))]; exact x.mut1 a ha⟩
  exact x'.trans (y.toHide (by simpa using nm))
theorem REnv.updG {ρ : Env} {σ : L2.St} (re : REnv T μ H ρ σ) (hg : A ∈ T.gh) {xs ys : List V} (hA : H A = some (.lst xs)) : REnv T μ (upd H A (.lst ys)) ρ σ :=
  ⟨re.len, fun i d h => let ⟨v, h1, h2⟩ := re.get i d h; ⟨v, h1, h2.updG hg hA⟩⟩
theorem REnv.toGh {gh : List Addr} {ρ : Env} {σ : L2.St} (h : GhOk T H gh) (re : REnv T μ H ρ σ) : REnv (T.with gh) μ H ρ σ :=
  ⟨re.len, fun i d q => let ⟨v, h1, h2⟩ := re.get i d q; ⟨v, h1, h2.toGh h⟩⟩
/-- a new list that is being made -/
theorem Rel.ghost (R : Rel T μ st H) (hA : H A = none) : Rel (T.with (A :: T.gh)) μ st (upd H A (.lst [])) := by
  have R1 := R.new (o := .lst []) hA
  have nm : A ∉ μ := fun hm => by obtain ⟨u, hu⟩ := (R.mut A hm).some; rw [hA] at hu; cases hu
  have gk : GhOk T H (A :: T.gh) := fun a ha => by
    rcases List.mem_cons.mp ha with e | e
    · right; rw [e]; exact hA
    · exact .inl e
  refine ⟨R.len, R.inj, fun n o e => ?_, fun a ha => ?_⟩
  · obtain ⟨a, h1, h2⟩ := R.obj n o e
    obtain ⟨u, hu⟩ := h2.mut.some
    have ne : a ≠ A := fun z => by rw [z, hA] at hu; cases hu
    refine ⟨a, h1, ?_⟩
    cases o with
    | lst l => obtain ⟨zs, q, r⟩ := h2; exact ⟨zs, by rw [upd_ne ne]; exact q, (r.toGh gk).mono (Ext.new R hA)⟩
    | ins c fs => exact h2.elim
  · rcases List.mem_cons.mp ha with e | e
    · rw [e]; exact ⟨nm, [], upd_same⟩
    · exact R1.gh a e
theorem Rel.unGh {gh : List Addr} (R : Rel T μ st H) (h : ∀ a ∈ gh, a ∈ T.gh) : Rel (T.with gh) μ st H := by
  refine ⟨R.len, R.inj, fun n o e => ?_, fun a ha => R.gh a (h a ha)⟩
  obtain ⟨a, h1, h2⟩ := R.obj n o e
  refine ⟨a, h1, ?_⟩
  cases o with
  | lst l => obtain ⟨zs, q, r⟩ := h2; exact ⟨zs, q, r.unGh h⟩
  | ins c fs => exact h2.elim
end
end AF

/-! Snd5: list comprehensions. -/
namespace AF
open PySem PySem.Spec PyProof.Rows L2

abbrev WF : WX := fun _ _ _ _ => False
theorem evLc_ne {gs : List (Nat × List D)} {tg : Tg} {c e : Env → Store → R D} {ρ : Env} : ∀ {its acc : List D} {st : Store} (x : Ex) (s : Store), evLc gs tg c e ρ its acc st ≠ .exc x s
  | [], acc, st, x, s => by unfold evLc; split <;> simp
  | d :: its, acc, st, x, s => by
    unfold evLc
    repeat' split
    all_goals first | exact evLc_ne x s | simp
theorem evLc2_ne {gs : List (Nat × List D)} {tg tg1 : Tg} {src : Env → Store → R Src} {own1 : List Nat} {e : Env → Store → R D} {ρ : Env} : ∀ {its acc : List D} {st : Store} (x : Ex) (s : Store), evLc2 gs tg src own1 tg1 e ρ its acc st ≠ .exc x s
  | [], acc, st, x, s => by unfold evLc2; split <;> simp
  | d :: its, acc, st, x, s => by
    unfold evLc2
    repeat' split
    all_goals first | exact evLc2_ne x s | simp
/-- one turn of a comprehension that does not go bad -/
theorem evLc_cons {gs : List (Nat × List D)} {tg : Tg} {c e : Env → Store → R D} {ρ : Env} {d : D} {its acc l : List D} {st s' : Store} (h : evLc gs tg c e ρ (d :: its) acc st = .ok l s') :
    guard gs st = true ∧ ∃ ρ1, asg tg d ρ = some ρ1 ∧ ∃ b st1, c ρ1 st = .ok (.bl b) st1 ∧
      if b = true then ∃ y st2, e ρ1 st1 = .ok y st2 ∧ acc.length < LIM ∧ evLc gs tg c e ρ its (acc ++ [y]) st2 = .ok l s' else evLc gs tg c e ρ its acc st1 = .ok l s' := by
  unfold evLc at h
  split at h
  · rename_i g
    refine ⟨g, ?_⟩
    split at h
    · cases h
    · rename_i ρ1 e1
      refine ⟨ρ1, e1, ?_⟩
      split at h
      · rename_i st1 e2
        refine ⟨true, st1, e2, ?_⟩
        split at h
        · rename_i y st2 e3
          split at h
          · rename_i hl
            exact ⟨y, st2, e3, hl, h⟩
          · cases h
        · cases h
      · rename_i st1 e2
        exact ⟨false, st1, e2, h⟩
      · cases h
  · cases h
theorem evLc_nil {gs : List (Nat × List D)} {tg : Tg} {c e : Env → Store → R D} {ρ : Env} {acc l : List D} {st s' : Store} (h : evLc gs tg c e ρ [] acc st = .ok l s') : guard gs st = true ∧ l = acc ∧ s' = st := by
  unfold evLc at h
  split at h
  · rename_i g
    cases h; exact ⟨g, rfl, rfl⟩
  · cases h
theorem evLc2_cons {gs : List (Nat × List D)} {tg tg1 : Tg} {src : Env → Store → R Src} {own1 : List Nat} {e : Env → Store → R D} {ρ : Env} {d : D} {its acc l : List D} {st s' : Store} (h : evLc2 gs tg src own1 tg1 e ρ (d :: its) acc st = .ok l s') :
    guard gs st = true ∧ ∃ ρ1, asg tg d ρ = some ρ1 ∧ ∃ s st1, src ρ1 st = .ok s st1 ∧ ∃ acc1 st2, evLc s.gs tg1 (fun _ st => .ok (.bl true) st) e (wipeE ρ1 own1) s.its acc st1 = .ok acc1 st2 ∧ evLc2 gs tg src own1 tg1 e ρ its acc1 st2 = .ok l s' := by
  unfold evLc2 at h
  split at h
  · rename_i g
    refine ⟨g, ?_⟩
    split at h
    · cases h
    · rename_i ρ1 e1
      refine ⟨ρ1, e1, ?_⟩
      split at h
      · rename_i s st1 e2
        refine ⟨s, st1, e2, ?_⟩
        split at h
        · rename_i acc1 st2 e3
          exact ⟨acc1, st2, e3, h⟩
        · cases h
      · cases h
  · cases h
theorem evLc2_nil {gs : List (Nat × List D)} {tg tg1 : Tg} {src : Env → Store → R Src} {own1 : List Nat} {e : Env → Store → R D} {ρ : Env} {acc l : List D} {st s' : Store} (h : evLc2 gs tg src own1 tg1 e ρ [] acc st = .ok l s') : guard gs st = true ∧ l = acc ∧ s' = st := by
  unfold evLc2 at h
  split at h
  · rename_i g
    cases h; exact ⟨g, rfl, rfl⟩
  · cases h
theorem Reps.snoc {T : Tx} {μ : List Addr} {H : Hp} {l : List D} {xs : List V} {d : D} {v : V} (r : Reps T μ H l xs) (h : Rep T μ H d v) : Reps T μ H (l ++ [d]) (xs ++ [v]) := r.append (.cons h .nil)

theorem Agree.trans {is : List Nat} {σ σ1 σ2 : L2.St} (a : Agree is σ σ1) (b : Agree is σ1 σ2) : Agree is σ σ2 := ⟨b.1.trans a.1, fun i h => (b.2 i h).trans (a.2 i h)⟩
theorem Agree.sub {is js : List Nat} {σ σ1 : L2.St} (a : Agree is σ σ1) (h : ∀ i ∈ is, i ∈ js) : Agree js σ σ1 := ⟨a.1, fun i hi => a.2 i fun z => hi (h i z)⟩
theorem agree_wipe {vs : List Nat} {σ : L2.St} : Agree vs σ (wipe σ vs) := by
  refine ⟨wipe_length σ vs, ?_⟩
  induction vs with
  | nil => intro i _; rfl
  | cons v vs ih =>
    intro i hi
    simp only [List.mem_cons, not_or] at hi
    unfold L2.wipe
    rw [List.getElem?_set_ne (Ne.symm hi.1)]
    exact ih i hi.2
section
variable {T : Tx} {G : List Addr} {A : Addr}
/-- what the rest of a comprehension comes to, and how its last state is reached -/
theorem lc_loop (hA : A ∈ G) {μs : List Addr} {Hs : Hp} {s : Src} {J : L2.It} (src : SrcRel T μs Hs s J) (gok : GhOk T Hs G)
    {μ0 : List Addr} {H0 : Hp} (hh : ∀ μ H, Ext μ0 (hide [A] H0) μ H → Ext μs (hide T.gh Hs) μ H)
    {tg : Tg} {c e : Env → Store → R D} {ρw : Env} {σ : L2.St} {vs : List Nat} {acc0 : List D} {st0 : Store} {accV0 : List V} (R0 : Rel (T.with G) μ0 st0 H0) (hA0 : H0 A = some (.lst accV0)) (ra0 : Reps (T.with G) μ0 H0 acc0 accV0)
    (re0 : REnv (T.with G) μ0 H0 ρw (wipe σ vs)) (sub : ∀ i ∈ tgI tg, i ∈ vs) (End : Hp → Prop) {l : List D} {stE : Store} (hr : evLc s.gs tg c e ρw s.its acc0 st0 = .ok l stE)
    (hEnd : ∀ μ H accV, Rel (T.with G) μ stE H → Ext μ0 (hide [A] H0) μ H → H A = some (.lst accV) → Reps (T.with G) μ H l accV → End H) :
    ∃ Wp : Nat → Nat → Hp → Prop, (∃ m, Wp 0 m H0) ∧ ∀ i m H, Wp i m H → (J.stop i H ∧ End H) ∨ (J.go i H ∧ ∃ Nx : Hp → Prop, (∀ H', Nx H' → ∃ m', m' < m ∧ Wp (i + 1) m' H') ∧ ∀ x H', J.yld i H x H' →
      (∃ gh, rdG (T.with gh) tg x (wipe σ vs) H' fun σ2 H2 => wipe σ2 vs = wipe σ vs ∧ ∃ gh, rdT (T.with gh) WF c σ2 H2 fun b H3 =>
        if b = true then ∃ gh, rdE (T.with gh) WF e σ2 H3 fun y H4 => ∃ acc, H4 A = some (.lst acc) ∧ acc.length < sizeLine ∧ Nx (upd H4 A (.lst (acc ++ [y]))) else Nx H3)) := by
  have hAG : A ∈ (T.with G).gh := hA
  refine ⟨fun i m H => m = s.its.length - i ∧ i ≤ s.its.length ∧ ∃ μ st acc accV, Rel (T.with G) μ st H ∧ Ext μ0 (hide [A] H0) μ H ∧ H A = some (.lst accV) ∧ Reps (T.with G) μ H acc accV ∧ REnv (T.with G) μ H ρw (wipe σ vs) ∧
    evLc s.gs tg c e ρw (s.its.drop i) acc st = .ok l stE, ⟨_, rfl, Nat.zero_le _, μ0, st0, acc0, accV0, R0, (Ext.refl R0).toHide (fun a ha => by
      have : a = A := by simpa using ha
      subst this; exact (R0.gh a hAG).1), hA0, ra0, re0, hr⟩, ?_⟩
  rintro i m H ⟨rfl, hi, μ, st, acc, accV, R, x0, hAx, ra, re, he⟩
  have nmA : A ∉ μ := (R.gh A hAG).1
  by_cases hlt : i < s.its.length
  · rw [List.drop_eq_getElem_cons hlt] at he
    obtain ⟨gd, ρ1, ea, b, st1, ec, rest⟩ := evLc_cons he
    obtain ⟨go, yl⟩ := (src G μ st H gok (hh μ H x0) R gd i).1 hlt
    refine .inr ⟨go, _, fun H' h => ⟨_, by omega, rfl, hlt, h⟩, fun x H' y => ?_⟩
    obtain ⟨d, hd, x1, R1, rx, kp⟩ := yl x H' y
    rw [List.getElem?_eq_getElem hlt] at hd
    have hd := Option.some.inj hd
    subst hd
    have x01 := x0.then nmA x1
    have re1 := re.mono x1
    have ra1 := ra.mono x1
    have hA1 := kp _ _ hAx
    refine ⟨G, μ, st, ρw, _, ρ1, R1, rx, re1, ea, fun σ2 re2 ag => ⟨(agree_wipe.trans (ag.sub sub)).wipe, G, μ, ρ1, st, R1, re2, ?_⟩⟩
    rw [ec]
    show ∀ μ' H' v, Ext μ _ μ' H' → Rel (T.with G) μ' st1 H' → b = v → _
    intro μ3 H3 v x3 R3 ev
    subst ev
    have x03 := x01.then nmA x3
    have hA3 := x3.keep _ _ hA1 nmA
    have nm3 : A ∉ μ3 := (R3.gh A hAG).1
    have re3 := re1.mono x3
    have ra3 := ra1.mono x3
    cases b with
    | true =>
      simp only [if_true] at rest ⊢
      obtain ⟨y, st2, ee, hl, he2⟩ := rest
      refine ⟨G, μ3, ρ1, st1, R3, re2.mono x3, ?_⟩
      rw [ee]
      show ∀ μ' H' v, Ext μ3 _ μ' H' → Rel (T.with G) μ' st2 H' → Rep (T.with G) μ' H' y v → _
      intro μ4 H4 v x4 R4 rv
      have hA4 := x4.keep _ _ hA3 nm3
      have nm4 : A ∉ μ4 := (R4.gh A hAG).1
      have ra4 := ra3.mono x4
      refine ⟨accV, hA4, by rw [ra4.length]; exact Nat.lt_of_lt_of_le hl limS, μ4, st2, acc ++ [y], accV ++ [v], R4.updG hAG hA4, (x03.then nm3 x4).updG nm4, upd_same, (ra4.snoc rv).updG hAG hA4, (re3.mono x4).updG hAG hA4, he2⟩
    | false =>
      exact ⟨μ3, st1, acc, accV, R3, x03, hA3, ra3, re3, rest⟩
  · have e : i = s.its.length := by omega
    subst e
    rw [List.drop_length] at he
    obtain ⟨gd, e1, e2⟩ := evLc_nil he
    subst e1 e2
    exact .inl ⟨(src G μ stE H gok (hh μ H x0) R gd _).2 (Nat.le_refl _), hEnd μ H accV R x0 hAx ra⟩
end
section
variable {T : Tx} {A : Addr} {μ : List Addr} {H : Hp}
mutual
/-- the list that was made joins the store -/
theorem Rep.adopt : ∀ {d : D} {v : V}, Rep (T.with (A :: T.gh)) μ H d v → Rep T (μ ++ [A]) H d v
  | _, _, .non => .non
  | _, _, .bl b => .bl b
  | _, _, .int i => .int i
  | _, _, .str s => .str s
  | _, _, .tup q r => .tup q (Reps.adopt r)
  | _, _, .lst q n r => .lst q ⟨by
      have h2 := n.2
      intro hm
      rcases List.mem_append.mp hm with hm | hm
      · exact n.1 hm
      · exact h2 (List.mem_cons.mpr (.inl (by simpa using hm))), fun hm => n.2 (List.mem_cons_of_mem _ hm)⟩ (Reps.adopt r)
  | _, _, .scr q => .scr q
  | _, _, .ref q => .ref (by rw [List.getElem?_append_left (List.getElem?_eq_some_iff.mp q).1]; exact q)
  | _, _, .glo n => .glo (T := T) n
theorem Reps.adopt : ∀ {l : List D} {xs : List V}, Reps (T.with (A :: T.gh)) μ H l xs → Reps T (μ ++ [A]) H l xs
  | _, _, .nil => .nil
  | _, _, .cons a r => .cons (Rep.adopt a) (Reps.adopt r)
end
theorem Rel.adopt {st : Store} {l : List D} {xs : List V} (R : Rel (T.with (A :: T.gh)) μ st H) (hA : H A = some (.lst xs)) (r : Reps (T.with (A :: T.gh)) μ H l xs) (hg : A ∉ T.gh) : Rel T (μ ++ [A]) (st ++ [.lst l]) H := by
  have nm : A ∉ μ := (R.gh A (List.mem_cons_self)).1
  refine ⟨by simp [R.len], fun i j a hi hj => ?_, fun n ob' e => ?_, fun a ha => ?_⟩
  · by_cases h1 : i < μ.length <;> by_cases h2 : j < μ.length
    · rw [List.getElem?_append_left h1] at hi; rw [List.getElem?_append_left h2] at hj
      exact R.inj i j a hi hj
    · rw [List.getElem?_append_left h1] at hi; rw [List.getElem?_append_right (by omega)] at hj
      have : a = A := by
        have := List.mem_of_getElem? hj
        simpa using this
      subst this; exact absurd (List.mem_of_getElem? hi) nm
    · rw [List.getElem?_append_right (by omega)] at hi; rw [List.getElem?_append_left h2] at hj
      have : a = A := by
        have := List.mem_of_getElem? hi
        simpa using this
      subst this; exact absurd (List.mem_of_getElem? hj) nm
    · rw [List.getElem?_append_right (by omega)] at hi hj
      have e1 := (List.getElem?_eq_some_iff.mp hi).1
      have e2 := (List.getElem?_eq_some_iff.mp hj).1
      simp only [List.length_singleton] at e1 e2
      omega
  · by_cases h1 : n < st.length
    · rw [List.getElem?_append_left h1] at e
      obtain ⟨a, ha, q⟩ := R.obj n ob' e
      refine ⟨a, by rw [List.getElem?_append_left (by rw [R.len]; exact h1)]; exact ha, ?_⟩
      cases ob' with
      | lst k => obtain ⟨zs, q1, q2⟩ := q; exact ⟨zs, q1, q2.adopt⟩
      | ins c fs => exact q.elim
    · rw [List.getElem?_append_right (by omega)] at e
      have e1 := (List.getElem?_eq_some_iff.mp e).1
      simp only [List.length_singleton] at e1
      have hn : n = st.length := by omega
      subst hn
      simp at e; subst e
      refine ⟨A, ?_, xs, hA, r.adopt⟩
      rw [← R.len]; simp
  · obtain ⟨g1, g2⟩ := R.gh a (List.mem_cons_of_mem _ ha)
    refine ⟨fun hm => ?_, g2⟩
    rcases List.mem_append.mp hm with hm | hm
    · exact g1 hm
    · have : a = A := by simpa using hm
      subst this; exact hg ha
/-- a comprehension's end -/
theorem lc_end {W : WX} {σ : L2.St} {m : Bool} {l : List D} {xs : List V} {st st1 : Store} {μ1 : List Addr} {H1 : Hp} {Q : VK} (h : Aft T W σ (RepT T) (mkL m l st) μ1 H1 Q) (R1 : Rel T μ1 st1 H1) (hA1 : H1 A = none) (x : Ext μ1 H1 μ H)
    (R : Rel (T.with (A :: T.gh)) μ st H) (hA : H A = some (.lst xs)) (r : Reps (T.with (A :: T.gh)) μ H l xs) : Q (.ref A) H := by
  have hg : A ∉ T.gh := fun hm => by obtain ⟨ys, e⟩ := R1.ghl A hm; rw [hA1] at e; cases e
  have nm : A ∉ μ := (R.gh A (List.mem_cons_self)).1
  have sub : ∀ a ∈ T.gh, a ∈ (T.with (A :: T.gh)).gh := fun a ha => List.mem_cons_of_mem _ ha
  cases m with
  | false =>
    exact h μ H (.ref A) x (R.unGh (T := T.with (A :: T.gh)) (gh := T.gh) sub) (.lst hA ⟨nm, hg⟩ (Reps.unGh (T := T.with (A :: T.gh)) (gh := T.gh) sub r))
  | true =>
    refine h (μ ++ [A]) H (.ref A) ?_ (R.adopt hA r hg) (.ref ?_)
    · obtain ⟨⟨t, e, ht⟩, k, m0, m1⟩ := x
      refine ⟨⟨t ++ [A], by rw [e, List.append_assoc], fun a ha => ?_⟩, k, m0, fun a ha => ?_⟩
      · rcases List.mem_append.mp ha with ha | ha
        · exact ht a ha
        · have : a = A := by simpa using ha
          subst this; exact hA1
      · rcases List.mem_append.mp ha with ha | ha
        · exact m1 a ha
        · have : a = A := by simpa using ha
          subst this; rw [hA]; trivial
    · rw [← R.len]; simp
end

section
variable {X : Cx} {T : Tx} {W : WX} {kn : Kn} {pos : Pos} {tgE iter elt tgE1 iter1 : Expr} {e : E} {tg tg1 : Tg} {it it1 : It} {c : Oe} {ifs : List Expr} {scope : Scope} {own : List (Str × Nat)} {own1 : List Nat}
theorem PG.ex {x : Expr} {t : List Addr → TG} (h : ∀ gh, PG X x (t gh)) : PG X x (fun v σ H Q => ∃ gh, t gh v σ H Q) := ⟨fun pins s σ H v u Q I r ⟨gh, q⟩ => (h gh).run pins s σ H v u Q I r q⟩
theorem PE.ex {x : Expr} {t : List Addr → TE} (h : ∀ gh, PE X x (t gh)) : PE X x (fun σ H Q => ∃ gh, t gh σ H Q) := ⟨fun pins s σ H Q I ⟨gh, q⟩ => (h gh).run pins s σ H Q I q⟩
theorem PTs.ex {x : List Expr} {t : List Addr → TT} (h : ∀ gh, PTs X x (t gh)) : PTs X x (fun σ H Q => ∃ gh, t gh σ H Q) := ⟨fun pins s σ H Q I ⟨gh, q⟩ => (h gh).run pins s σ H Q I q⟩
theorem PI.ex {y x : Expr} {t : List Addr → TI} (h : ∀ gh, PI X y x (t gh)) : PI X y x (fun σ H Q => ∃ gh, t gh σ H Q) := ⟨fun pins s σ H Q I ⟨gh, q⟩ => (h gh).run pins s σ H Q I q⟩
/-- a block of X -/
abbrev Blk (X : Cx) (scope : Scope) (P : Cx → Prop) : Prop := ∀ (s : Shared) (H : Hp) (C : Addr) (cl : List (Str × Addr)) (fp : List Addr), P (X.blk s H scope (compEnvC scope cl C X.env) fp)
abbrev lcG (T : Tx) (tg : Tg) : TG := fun v σ H Q => ∃ gh, rdG (T.with gh) tg v σ H Q
abbrev lcT (T : Tx) (kn : Kn) (c : Oe) : TT := fun σ H Q => ∃ gh, rdT (T.with gh) WF (evOc kn c) σ H Q
abbrev lcE (T : Tx) (kn : Kn) (e : E) : TE := fun σ H Q => ∃ gh, rdE (T.with gh) WF (evE kn e) σ H Q
abbrev lcI (T : Tx) (kn : Kn) (it : It) : TI := fun σ H Q => ∃ gh, rdI (T.with gh) WF (evIt kn it) σ H Q
theorem gok_new {μ : List Addr} {H : Hp} {A : Addr} (hA : H A = none) : GhOk T H (A :: T.gh) := fun a ha => by
  rcases List.mem_cons.mp ha with e | e
  · right; rw [e]; exact hA
  · exact .inl e
theorem lc_weak {m : Bool} (sub : ∀ i ∈ tgI tg, i ∈ own.map (·.2)) {σ : L2.St} {H : Hp} {Q : VK} (h : rdE T W (evE kn (.lc m (own.map (·.2)) tg it c e)) σ H Q) :
    tLc (rdI T W (evIt kn it)) (lcG T tg) (lcT T kn c) (lcE T kn e) (own.map (·.2)) σ H Q := by
  obtain ⟨μ, ρ, st, R, re, A⟩ := h
  simp only [evE] at A
  refine ⟨μ, ρ, st, R, re, A.bind.mono fun J H1 ⟨μ1, s, st1, _, x1, R1, src, A1⟩ D hD => ?_⟩
  have nm : D ∉ μ1 := fun hm => by obtain ⟨u, hu⟩ := (R1.mut D hm).some; rw [hD] at hu; cases hu
  have gok : GhOk T H1 (D :: T.gh) := gok_new (μ := μ1) hD
  cases hr : evLc s.gs tg (evOc kn c) (evE kn e) (wipeE ρ (own.map (·.2))) s.its [] st1 with
  | bad => rw [hr] at A1; exact A1.elim
  | exc y s1 => exact absurd hr (evLc_ne y s1)
  | ok l stE =>
    rw [hr] at A1
    simp only [AF.R.bind_ok] at A1
    have re1 := (((re.mono x1).toGh gok).mono (Ext.new (o := .lst []) R1 hD)).wipe (own.map (·.2))
    exact lc_loop (T := T) (G := D :: T.gh) (A := D) List.mem_cons_self src gok (fun μ H x => by rw [hide1 hD] at x; exact x.toHide fun a ha => (R1.gh a ha).1) (R1.ghost hD) upd_same .nil re1 sub (fun H => Q (.ref D) H) hr
      fun μ H accV R2 x hA r => lc_end A1 R1 hD (by rw [hide1 hD] at x; exact x) R2 hA r
theorem sE_lc {m : Bool} (hc : X.calm = true) (hN : X.N.Nodup) (hi : PI X tgE iter (rdI T W (evIt kn it))) (ok : BlkOk X.N X.env.scope scope own) (sub : ∀ i ∈ tgI tg, i ∈ own.map (·.2))
    (hg : ∀ gh, Blk X scope fun Y => PG Y tgE (rdG (T.with gh) tg)) (ht : ∀ gh, Blk X scope fun Y => PTs Y ifs (rdT (T.with gh) WF (evOc kn c))) (he : ∀ gh, Blk X scope fun Y => PE Y elt (rdE (T.with gh) WF (evE kn e)))
    (hs : ∀ x, foldedSetIterable iter X.env x = pure x) : PE X (.ListComp elt [⟨tgE, iter, ifs, 0⟩] scope pos) (rdE T W (evE kn (.lc m (own.map (·.2)) tg it c e))) :=
  PE.weak (pe_lc hc hN hi ok (fun s H C cl fp => PG.ex fun gh => hg gh s H C cl fp) (fun s H C cl fp => PTs.ex fun gh => ht gh s H C cl fp) (fun s H C cl fp => PE.ex fun gh => he gh s H C cl fp) hs) fun σ H Q h => lc_weak sub h
end
end AF

/-! Snd6: list comprehensions of two clauses. -/
namespace AF
open PySem PySem.Spec PyProof.Rows L2
theorem REnv.hid {T : Tx} {μ : List Addr} {H : Hp} {ρ : Env} {σ : L2.St} (h : ∀ a ∈ T.gh, ∃ xs, H a = some (.lst xs)) (re : REnv T μ H ρ σ) : REnv T μ (hide T.gh H) ρ σ :=
  ⟨re.len, fun i d q => let ⟨v, h1, h2⟩ := re.get i d q; ⟨v, h1, h2.hid h⟩⟩
theorem Ext.thenH {A : Addr} {μ0 μ1 μ : List Addr} {H0 H1 H : Hp} (x : Ext μ0 (hide [A] H0) μ1 H1) (nm : A ∉ μ1) (y : Ext μ1 (hide [A] H1) μ H) : Ext μ0 (hide [A] H0) μ H := by
  have x' : Ext μ0 (hide [A] H0) μ1 (hide [A] H1) := ⟨x.pre, fun a o e h => hide_some.mpr ⟨(hide_some.mp e).1, x.keep a o e h⟩, x.mut0, fun a ha => by
    unfold hide; rw [if_neg (by simp; intro z; exact nm (by rw [← z]; exact ha))]; exact x.mut1 a ha⟩
  exact x'.trans y
section
variable {X : Cx} {T : Tx} {W : WX} {kn : Kn} {pos : Pos} {tgE iter elt tgE1 iter1 : Expr} {e : E} {tg tg1 : Tg} {it it1 : It} {scope : Scope} {own : List (Str × Nat)} {own1 : List Nat}
theorem evOc_none : evOc kn .none = fun _ st => .ok (.bl true) st := by funext ρ st; simp [evOc]
theorem pts_none {Y : Cx} {gh : List Addr} : PTs Y [] (rdT (T.with gh) WF (evOc kn .none)) := PTs.weak pts_nil fun σ H Q ⟨μ, ρ, st, R, re, A⟩ => by
  rw [evOc_none] at A
  exact A μ H true (Ext.refl R) R rfl
theorem tYes_on {σ : L2.St} {H : Hp} {P Q : Hp → Prop} (h : P H) : tYes σ H (fun b H3 => if b = true then P H3 else Q H3) := by
  show if true = true then P H else Q H
  rw [if_pos rfl]; exact h
theorem lc2_weak {m : Bool} (sub : ∀ i ∈ tgI tg, i ∈ own.map (·.2)) (sub1 : ∀ i ∈ tgI tg1, i ∈ own1) {σ : L2.St} {H : Hp} {Q : VK} (h : rdE T W (evE kn (.lc2 m (own.map (·.2)) own1 tg it tg1 it1 e)) σ H Q) :
    tLc2 (rdI T W (evIt kn it)) (lcG T tg) tYes (lcI T kn it1) (lcG T tg1) (lcT T kn .none) (lcE T kn e) (own.map (·.2)) own1 σ H Q := by
  obtain ⟨μ, ρ, st, R, re, A⟩ := h
  simp only [evE] at A
  refine ⟨μ, ρ, st, R, re, A.bind.mono fun J H1 ⟨μ1, s, st1, _, x1, R1, src, A1⟩ D hD => ?_⟩
  have gok : GhOk T H1 (D :: T.gh) := gok_new (μ := μ1) hD
  have hDG : D ∈ (T.with (D :: T.gh)).gh := List.mem_cons_self
  cases hr : evLc2 s.gs tg (evIt kn it1) own1 tg1 (evE kn e) (wipeE ρ (own.map (·.2))) s.its [] st1 with
  | bad => rw [hr] at A1; exact A1.elim
  | exc y s1 => exact absurd hr (evLc2_ne y s1)
  | ok l stE =>
    rw [hr] at A1
    simp only [AF.R.bind_ok] at A1
    have re1 := (((re.mono x1).toGh gok).mono (Ext.new (o := .lst []) R1 hD)).wipe (own.map (·.2))
    have R0 := R1.ghost hD
    refine ⟨fun i m H => m = s.its.length - i ∧ i ≤ s.its.length ∧ ∃ μ st acc accV, Rel (T.with (D :: T.gh)) μ st H ∧ Ext μ1 (hide [D] (upd H1 D (.lst []))) μ H ∧ H D = some (.lst accV) ∧ Reps (T.with (D :: T.gh)) μ H acc accV ∧
      REnv (T.with (D :: T.gh)) μ H (wipeE ρ (own.map (·.2))) (wipe σ (own.map (·.2))) ∧ evLc2 s.gs tg (evIt kn it1) own1 tg1 (evE kn e) (wipeE ρ (own.map (·.2))) (s.its.drop i) acc st = .ok l stE,
      ⟨_, rfl, Nat.zero_le _, μ1, st1, [], [], R0, (Ext.refl R0).toHide (fun a ha => by
        have : a = D := by simpa using ha
        subst this; exact (R0.gh a hDG).1), upd_same, .nil, re1, hr⟩, ?_⟩
    rintro i m H ⟨rfl, hi, μ, st, acc, accV, R, x0, hAx, ra, re, he⟩
    have nmA : D ∉ μ := (R.gh D hDG).1
    have hh : ∀ μ H, Ext μ1 (hide [D] (upd H1 D (.lst []))) μ H → Ext μ1 (hide T.gh H1) μ H := fun μ H x => by rw [hide1 hD] at x; exact x.toHide fun a ha => (R1.gh a ha).1
    by_cases hlt : i < s.its.length
    · rw [List.drop_eq_getElem_cons hlt] at he
      obtain ⟨gd, ρ1, ea, s1, st2, es, acc1, st3, el, he2⟩ := evLc2_cons he
      obtain ⟨go, yl⟩ := (src (D :: T.gh) μ st H gok (hh μ H x0) R gd i).1 hlt
      refine .inr ⟨go, fun H' => ∃ μ st acc accV, Rel (T.with (D :: T.gh)) μ st H' ∧ Ext μ1 (hide [D] (upd H1 D (.lst []))) μ H' ∧ H' D = some (.lst accV) ∧ Reps (T.with (D :: T.gh)) μ H' acc accV ∧
        REnv (T.with (D :: T.gh)) μ H' (wipeE ρ (own.map (·.2))) (wipe σ (own.map (·.2))) ∧ evLc2 s.gs tg (evIt kn it1) own1 tg1 (evE kn e) (wipeE ρ (own.map (·.2))) (s.its.drop (i + 1)) acc st = .ok l stE, fun H' h => ⟨_, by omega, rfl, hlt, h⟩, fun x H' y => ?_⟩
      obtain ⟨d, hd, xa, Ra, rx, kp⟩ := yl x H' y
      rw [List.getElem?_eq_getElem hlt] at hd
      have hd := Option.some.inj hd
      subst hd
      have x01 := x0.then nmA xa
      have rea := re.mono xa
      have raa := ra.mono xa
      have hA1 := kp _ _ hAx
      refine ⟨D :: T.gh, μ, st, _, _, ρ1, Ra, rx, rea, ea, fun σ2 re2 ag => ⟨(agree_wipe.trans (ag.sub sub)).wipe, ?_⟩⟩
      refine tYes_on ?_
      refine ⟨D :: T.gh, μ, ρ1, st, Ra, re2, ?_⟩
      rw [es]
      show ∀ μ' H'' v, Ext μ H' μ' H'' → Rel (T.with (D :: T.gh)) μ' st2 H'' → SrcRel (T.with (D :: T.gh)) μ' H'' s1 v → _
      intro μ3 H3 J1 x3 R3 src1
      have x03 := x01.then nmA x3
      have hA3 := x3.keep _ _ hA1 nmA
      have nm3 : D ∉ μ3 := (R3.gh D hDG).1
      have re3 := rea.mono x3
      have ra3 := raa.mono x3
      have el : evLc s1.gs tg1 (evOc kn .none) (evE kn e) (wipeE ρ1 own1) s1.its acc st2 = .ok acc1 st3 := by rw [evOc_none]; exact el
      refine lc_loop (T := T.with (D :: T.gh)) (G := D :: T.gh) (A := D) List.mem_cons_self src1 (fun a ha => .inl ha) (fun μ H x => x.more (fun a ha => by
          have : a = D := by simpa using ha
          subst this; exact hDG) fun a ha => (R3.gh a ha).1) R3 hA3 ra3 ((re2.mono x3).wipe own1) sub1 _ el ?_
      intro μ4 H4 accV4 R4 x4 hA4 ra4
      have xG : Ext μ3 (hide (T.with (D :: T.gh)).gh H3) μ4 H4 := x4.more (fun a ha => by
          have : a = D := by simpa using ha
          subst this; exact hDG) fun a ha => (R3.gh a ha).1
      exact ⟨μ4, st3, acc1, accV4, R4, x03.thenH nm3 x4, hA4, ra4, (re3.hid R3.ghl).mono xG, he2⟩
    · have e : i = s.its.length := by omega
      subst e
      rw [List.drop_length] at he
      obtain ⟨gd, e1, e2⟩ := evLc2_nil he
      subst e1 e2
      exact .inl ⟨(src (D :: T.gh) μ stE H gok (hh μ H x0) R gd _).2 (Nat.le_refl _), lc_end A1 R1 hD (by rw [hide1 hD] at x0; exact x0) R hAx ra⟩
theorem sE_lc2 {m : Bool} (hc : X.calm = true) (hN : X.N.Nodup) (hi : PI X tgE iter (rdI T W (evIt kn it))) (ok : BlkOk X.N X.env.scope scope own) (sub : ∀ i ∈ tgI tg, i ∈ own.map (·.2)) (sub1 : ∀ i ∈ tgI tg1, i ∈ own1) (hv : ∀ i ∈ own1, i ∈ own.map (·.2))
    (hg : ∀ gh, Blk X scope fun Y => PG Y tgE (rdG (T.with gh) tg)) (hi1 : ∀ gh, Blk X scope fun Y => PI Y tgE1 iter1 (rdI (T.with gh) WF (evIt kn it1))) (hg1 : ∀ gh, Blk X scope fun Y => PG Y tgE1 (rdG (T.with gh) tg1)) (he : ∀ gh, Blk X scope fun Y => PE Y elt (rdE (T.with gh) WF (evE kn e)))
    (hs : ∀ x, foldedSetIterable iter X.env x = pure x) (hs1 : ∀ env x, foldedSetIterable iter1 env x = pure x) : PE X (.ListComp elt [⟨tgE, iter, [], 0⟩, ⟨tgE1, iter1, [], 0⟩] scope pos) (rdE T W (evE kn (.lc2 m (own.map (·.2)) own1 tg it tg1 it1 e))) :=
  PE.weak (pe_lc2 hc hN hi ok hv (fun s H C cl fp => PG.ex fun gh => hg gh s H C cl fp) (fun s H C cl fp => pts_nil) (fun s H C cl fp => PI.ex fun gh => hi1 gh s H C cl fp) (fun s H C cl fp => PG.ex fun gh => hg1 gh s H C cl fp) (fun s H C cl fp => PTs.ex fun gh => pts_none) (fun s H C cl fp => PE.ex fun gh => he gh s H C cl fp) hs hs1) fun σ H Q h => lc2_weak sub sub1 h
end
end AF

/-! Sound: the checked text does what the core's text does. -/
namespace AF
open PySem PySem.Spec PyProof.Rows L2

def bNames : List Str := ["len", "int", "abs", "min", "max", "sorted", "tuple", "list", "all", "any", "str", "bool", "isinstance", "range", "zip", "enumerate"]
structure Cxt (g : G) (T : Tx) (W : WX) (kn : Kn) (X : Cx) : Prop where
  hN : X.N = g.N
  nd : X.N.Nodup
  sc : X.env.scope = g.sc
  kind : g.sc.kind = .function
  fn : ∀ x, g.fnOk x = true → X.fn x = true
  calm : X.calm = true
  K : X.K = T.K
  tk : Takes X W
  un : X.A.units + 65 < cLine
  bn : ∀ x ∈ bNames, X.mg x = none
  con : ∀ (i : Nat) (x : Str) (d : D), g.cons[i]? = some x → kn.cons[i]? = some d → ∃ v u, X.mg x = some u ∧ RelV v u ∧ ∀ gh μ H, Rep (T.with gh) μ H d v
  fns : ∀ (f : Nat) (x : Str) (n : Nat), g.fns[f]? = some (x, n) → ∃ k fd ps, X.mg x = some (.ref (T.fa f)) ∧ PySem.W.keepIn X.K (.ref (T.fa f)) = true ∧ Binds X.K fd ps [] ∧ Room k X.A ∧ FnOk X.prog X.w X.K X.mg X.base (L2.CX X.prog X.w) k (T.fa f) fd ps (spF T n (kn.call f))
section
variable {g : G} {T : Tx} {W : WX} {kn : Kn} {X : Cx}
theorem Cxt.with (C : Cxt g T W kn X) (gh : List Addr) : Cxt g (T.with gh) W kn X := ⟨C.hN, C.nd, C.sc, C.kind, C.fn, C.calm, C.K, C.tk, C.un, C.bn, C.con, C.fns⟩
theorem takes0 {Y : Cx} : Takes Y WF := fun u s' ⟨a, B, sI, pins, σ, H, cls, d, e, I, nb, up, sky, na, os, ag, w⟩ => w.elim
theorem Cxt.blk (C : Cxt g T W kn X) {scope : Scope} {own : List (Str × Nat)} (ok : BlkOk X.N X.env.scope scope own) (gh : List Addr) : Blk X scope fun Y => Cxt (g.inB scope) (T.with gh) WF kn Y := fun s H A cl fp =>
  ⟨C.hN, C.nd, by show relS scope X.env.scope = relS scope g.sc; rw [C.sc], ok.kind, fun x h => h, C.calm, C.K, takes0, C.un, C.bn, C.con, C.fns⟩
theorem glOk_ok (C : Cxt g T W kn X) {x : Str} (h : glOk g x = true) : Gl X x ∧ (x == ("__debug__" : Str)) = false := by
  simp only [glOk, Bool.and_eq_true, Bool.not_eq_true'] at h
  exact ⟨by show X.env.scope.names.lookup x = _; rw [C.sc]; exact isGl_ok h.1, h.2⟩
theorem op_boM (hK : X.K = T.K) {op : BO} {m : Bool} {o : Operator} (h : boM op o = true) : OpR X (binaryOp o) (rB T (bin op m)) := by
  cases op <;> cases o <;> simp only [boM] at h <;> first | (cases h; done) | skip
  · exact op_addW hK
  · exact op_subW hK
  · exact op_mulW' hK
  · exact op_fdivW' hK
  · exact op_modW' hK
  · exact op_powW' hK
theorem op_coM (C : Cxt g T W kn X) {op : CO} {o : CmpOp} (h : coM op o = true) : OpR X (compareOp o) (rB T (cmp op)) := by
  have hu := C.un
  cases op <;> cases o <;> simp only [coM] at h <;> first | (cases h; done) | skip
  · exact op_eqW C.K (by omega)
  · exact op_neW C.K (by omega)
  · exact op_ltW C.K
  · exact op_leW C.K
  · exact op_gtW C.K
  · exact op_geW C.K
  · exact op_inW C.K hu
  · exact op_ninW C.K hu
  · exact op_isW C.K
  · exact op_isntW C.K
theorem noMark {o : CmpOp} {y : Expr} (h : isSet y = false) : behindInMarks o y = false := by
  cases y <;> first | rfl | (simp [isSet] at h)
theorem plainIx {y : Expr} (h : isSlice y = false) : PlainIx y := by
  intro o i
  cases y <;> first | rfl | (simp [isSlice] at h)
theorem noFold {x : Expr} {env : PySem.Env} (h : isSet x = false) : ∀ v, foldedSetIterable x env v = pure v := by
  intro v
  cases x <;> first | rfl | (simp [isSet] at h)
theorem isTup_ok {t : Expr} (h : isTupE t = true) : ∃ xs k p, t = .Tuple xs k p := by
  cases t <;> first | exact ⟨_, _, _, rfl⟩ | (simp [isTupE] at h)
theorem subB_ok {a b : List Nat} (h : subB a b = true) : ∀ i ∈ a, i ∈ b := fun i hi => by
  have := List.all_eq_true.mp h i hi
  simpa using this
theorem ownOf_snd {N : List Str} {own : List Nat} : (ownOf N own).map (·.2) = own := by
  simp [ownOf, List.map_map, Function.comp_def]
end
/-- an expression's soundness -/
def OE (g : G) (e : E) (c : Expr) : Prop := ∀ (T : Tx) (W : WX) (kn : Kn) (X : Cx), Cxt g T W kn X → PE X c (rdE T W (evE kn e)) ∧ (isIf c = false → PT X c (rdT T W (evE kn e))) ∧ (isBO c = true → PW X c (rdT T W (evE kn e)))
def OEs (g : G) (es : Es) (cs : List Expr) : Prop := ∀ (T : Tx) (W : WX) (kn : Kn) (X : Cx), Cxt g T W kn X → PA X cs (rdA T W (evEs kn es))
def OOe (g : G) (e : Oe) (c : Option Expr) : Prop := ∀ (T : Tx) (W : WX) (kn : Kn) (X : Cx), Cxt g T W kn X → PO X c (rdO T W (evOe kn e))
def OOc (g : G) (e : Oe) (cs : List Expr) : Prop := ∀ (T : Tx) (W : WX) (kn : Kn) (X : Cx), Cxt g T W kn X → PTs X cs (rdT T W (evOc kn e))
def OIt (g : G) (it : It) (t c : Expr) : Prop := ∀ (T : Tx) (W : WX) (kn : Kn) (X : Cx), Cxt g T W kn X → PI X t c (rdI T W (evIt kn it))
theorem OE.val {g : G} {e : E} {c : Expr} (h : ∀ (T : Tx) (W : WX) (kn : Kn) (X : Cx), Cxt g T W kn X → PE X c (rdE T W (evE kn e))) (he : ∀ env whole, isTrue c env whole = (do let v ← whole; standAt c.pos; holding [v] (truthy v))) (hb : isBO c = false) : OE g e c :=
  fun T W kn X C => ⟨h T W kn X C, fun _ => sT_val (h T W kn X C) (he _), fun z => by rw [hb] at z; cases z⟩
mutual
theorem soundE : ∀ (e : E) (g : G) (c : Expr), chkE e g c = true → OE g e c
  | .var i, g, c, h => by
    simp only [chkE] at h
    unfold qVar at h; split at h
    · rename_i x p
      simp only [nmOk, Bool.and_eq_true, decide_eq_true_eq, Bool.not_eq_true'] at h
      obtain ⟨⟨⟨h1, h2⟩, h3⟩, h4⟩ := h
      exact .val (fun T W kn X C => sE_var (by rw [C.hN]; exact h1) (by rw [C.sc]; exact isVis_ok h2) h3 h4) (fun _ _ => rfl) rfl
    · cases h
  | .non, g, c, h => by
    simp only [chkE] at h
    unfold qNon at h; split at h
    · exact .val (fun T W kn X C => sE_non) (fun _ _ => rfl) rfl
    · cases h
  | .bl b, g, c, h => by
    simp only [chkE] at h
    unfold qBl at h; split at h
    · have := beq_iff_eq.mp h
      subst this
      exact .val (fun T W kn X C => sE_bl) (fun _ _ => rfl) rfl
    · cases h
  | .int i, g, c, h => by
    simp only [chkE] at h
    unfold qInt at h; split at h
    · have := of_decide_eq_true h
      subst this
      exact .val (fun T W kn X C => sE_int) (fun _ _ => rfl) rfl
    · cases h
  | .str s, g, c, h => by
    simp only [chkE] at h
    unfold qStr at h; split at h
    · have := of_decide_eq_true h
      subst this
      exact .val (fun T W kn X C => sE_str) (fun _ _ => rfl) rfl
    · cases h
  | .con i, g, c, h => by
    simp only [chkE] at h
    unfold qCon at h; split at h
    · rename_i x p
      simp only [Bool.and_eq_true, decide_eq_true_eq] at h
      refine .val (fun T W kn X C => ?_) (fun _ _ => rfl) rfl
      obtain ⟨g1, g2⟩ := glOk_ok C h.2
      refine ⟨fun pins s σ H Q I ⟨μ, ρ, st, R, re, A⟩ => ?_⟩
      simp only [evE] at A
      cases e : kn.cons[i]? with
      | none => rw [e] at A; exact A.elim
      | some d =>
        rw [e] at A
        obtain ⟨v, u, hm, rv, rp⟩ := C.con i x d h.1 e
        exact (pe_glob g1 hm rv g2).run pins s σ H Q I (A.ok R (rp T.gh μ H))
    · cases h
  | .tup es, g, c, h => by
    simp only [chkE] at h
    unfold qTup at h; split at h
    · simp only [Bool.and_eq_true, decide_eq_true_eq] at h
      exact .val (fun T W kn X C => sE_tup h.2 (soundEs es g _ h.1 T W kn X C)) (fun _ _ => rfl) rfl
    · cases h
  | .lst m es, g, c, h => by
    simp only [chkE] at h
    unfold qLst at h; split at h
    · simp only [Bool.and_eq_true, decide_eq_true_eq] at h
      exact .val (fun T W kn X C => sE_lst h.2 (soundEs es g _ h.1 T W kn X C)) (fun _ _ => rfl) rfl
    · cases h
  | .bin op m a b, g, c, h => by
    simp only [chkE] at h
    unfold qBin at h; split at h
    · simp only [Bool.and_eq_true] at h
      exact .val (fun T W kn X C => sE_bin (op_boM C.K h.1.1) (soundE a g _ h.1.2 T W kn X C).1 (soundE b g _ h.2 T W kn X C).1) (fun _ _ => rfl) rfl
    · cases h
  | .neg a, g, c, h => by
    simp only [chkE] at h
    unfold qNeg at h; split at h
    · exact .val (fun T W kn X C => sE_neg (un_negW C.K) (soundE a g _ h T W kn X C).1) (fun _ _ => rfl) rfl
    · cases h
  | .not a, g, c, h => by
    simp only [chkE] at h
    unfold qNot at h; split at h
    · simp only [Bool.and_eq_true, Bool.not_eq_true'] at h
      exact fun T W kn X C => ⟨sE_not (soundE a g _ h.1 T W kn X C).1, fun _ => sT_not ((soundE a g _ h.1 T W kn X C).2.1 h.2), fun z => by cases z⟩
    · cases h
  | .and a b, g, c, h => by
    simp only [chkE] at h
    unfold qBo at h; split at h
    · rename_i o x y rest p
      simp only [Bool.and_eq_true, Bool.not_eq_true', decide_eq_true_eq] at h
      obtain ⟨⟨⟨h0, h1⟩, h2⟩, h3⟩ := h
      subst h0
      intro T W kn X C
      obtain ⟨a1, a2, _⟩ := soundE a g _ h1 T W kn X C
      have key : PE X (.BoolOp .And (y :: rest) p) (rdE T W (evE kn b)) ∧ PW X (.BoolOp .And (y :: rest) p) (rdT T W (evE kn b)) := by
        cases rest with
        | nil =>
          simp only [Bool.and_eq_true, Bool.not_eq_true'] at h3
          obtain ⟨b1, b2, _⟩ := soundE b g _ h3.1 T W kn X C
          exact ⟨pe_one b1, pw_and1 (b2 h3.2)⟩
        | cons z zs =>
          simp only [Bool.and_eq_true] at h3
          obtain ⟨b1, _, b3⟩ := soundE b g _ h3.2 T W kn X C
          exact ⟨b1, b3 rfl⟩
      exact ⟨sE_and1 a1 key.1, fun _ => (sW_and1 (a2 h2) key.2).pt, fun _ => sW_and1 (a2 h2) key.2⟩
    · cases h
  | .or a b, g, c, h => by
    simp only [chkE] at h
    unfold qBo at h; split at h
    · rename_i o x y rest p
      simp only [Bool.and_eq_true, Bool.not_eq_true', decide_eq_true_eq] at h
      obtain ⟨⟨⟨h0, h1⟩, h2⟩, h3⟩ := h
      subst h0
      intro T W kn X C
      obtain ⟨a1, a2, _⟩ := soundE a g _ h1 T W kn X C
      have key : PE X (.BoolOp .Or (y :: rest) p) (rdE T W (evE kn b)) ∧ PW X (.BoolOp .Or (y :: rest) p) (rdT T W (evE kn b)) := by
        cases rest with
        | nil =>
          simp only [Bool.and_eq_true, Bool.not_eq_true'] at h3
          obtain ⟨b1, b2, _⟩ := soundE b g _ h3.1 T W kn X C
          exact ⟨pe_one b1, pw_or1 (b2 h3.2)⟩
        | cons z zs =>
          simp only [Bool.and_eq_true] at h3
          obtain ⟨b1, _, b3⟩ := soundE b g _ h3.2 T W kn X C
          exact ⟨b1, b3 rfl⟩
      exact ⟨sE_or1 a1 key.1, fun _ => (sW_or1 (a2 h2) key.2).pt, fun _ => sW_or1 (a2 h2) key.2⟩
    · cases h
  | .cmp op a b, g, c, h => by
    simp only [chkE] at h
    unfold qCmp at h; split at h
    · simp only [Bool.and_eq_true, Bool.not_eq_true'] at h
      obtain ⟨⟨⟨h1, h2⟩, h3⟩, h4⟩ := h
      exact fun T W kn X C => ⟨sE_cmp (op_coM C h1) (noMark h4) (soundE a g _ h2 T W kn X C).1 (soundE b g _ h3 T W kn X C).1, fun _ => sT_cmp (op_coM C h1) (noMark h4) (soundE a g _ h2 T W kn X C).1 (soundE b g _ h3 T W kn X C).1, fun z => by cases z⟩
    · cases h
  | .chn op op' a b d, g, c, h => by
    simp only [chkE] at h
    unfold qChn at h; split at h
    · simp only [Bool.and_eq_true, Bool.not_eq_true'] at h
      obtain ⟨⟨⟨⟨⟨h1, h2⟩, h3⟩, h4⟩, h5⟩, h6⟩ := h
      exact fun T W kn X C => ⟨sE_chn (op_coM C h1) (op_coM C h2) (noMark h6) (soundE a g _ h3 T W kn X C).1 (soundE b g _ h4 T W kn X C).1 (soundE d g _ h5 T W kn X C).1,
        fun _ => sT_chn (op_coM C h1) (op_coM C h2) (noMark h6) (soundE a g _ h3 T W kn X C).1 (soundE b g _ h4 T W kn X C).1 (soundE d g _ h5 T W kn X C).1, fun z => by cases z⟩
    · cases h
  | .ite t a b, g, c, h => by
    simp only [chkE] at h
    unfold qIte at h; split at h
    · simp only [Bool.and_eq_true, Bool.not_eq_true'] at h
      obtain ⟨⟨⟨h1, h2⟩, h3⟩, h4⟩ := h
      exact fun T W kn X C => ⟨sE_ite ((soundE t g _ h1 T W kn X C).2.1 h2) (soundE a g _ h3 T W kn X C).1 (soundE b g _ h4 T W kn X C).1, fun z => (by cases z), fun z => (by cases z)⟩
    · cases h
  | .idx a b, g, c, h => by
    simp only [chkE] at h
    unfold qIdx at h; split at h
    · simp only [Bool.and_eq_true, Bool.not_eq_true'] at h
      exact .val (fun T W kn X C => sE_idx (ix_W C.K) (plainIx h.2) (soundE a g _ h.1.1 T W kn X C).1 (soundE b g _ h.1.2 T W kn X C).1) (fun _ _ => rfl) rfl
    · cases h
  | .slc a lo hi, g, c, h => by
    simp only [chkE] at h
    unfold qSlc at h; split at h
    · simp only [Bool.and_eq_true] at h
      exact .val (fun T W kn X C => sE_slc (sl_W C.K) (soundE a g _ h.1.1 T W kn X C).1 (soundOe lo g _ h.1.2 T W kn X C) (soundOe hi g _ h.2 T W kn X C)) (fun _ _ => rfl) rfl
    · cases h
  | .call f es, g, c, h => by
    simp only [chkE] at h
    unfold qCall at h; split at h
    · simp only [Bool.and_eq_true, decide_eq_true_eq] at h
      obtain ⟨⟨h1, h2⟩, h3⟩ := h
      refine .val (fun T W kn X C => ?_) (fun _ _ => rfl) rfl
      obtain ⟨g1, g2⟩ := glOk_ok C h2
      obtain ⟨k, fd, ps, hm, hk, hb, hr, F⟩ := C.fns _ _ _ h1
      obtain ⟨s1, s2⟩ := chkEs_stars h3
      exact sE_call F hr g1 hm hk hb C.tk rfl s2 s1 (soundEs es g _ h3 T W kn X C) g2
    · cases h
  | .blt f m es, g, c, h => by
    simp only [chkE] at h
    unfold qBlt at h; split at h
    · simp only [Bool.and_eq_true, decide_eq_true_eq] at h
      obtain ⟨⟨h1, h2⟩, h3⟩ := h
      subst h1
      refine .val (fun T W kn X C => ?_) (fun _ _ => rfl) rfl
      obtain ⟨g1, g2⟩ := glOk_ok C h2
      obtain ⟨s1, s2⟩ := chkEs_stars h3
      simp only [noStars, Bool.and_eq_true, Bool.not_eq_true'] at s1
      exact sE_blt (call_bltW C.K C.calm C.un f m) g1 (C.bn _ (by cases f <;> decide +kernel)) s1.1 s1.2 (soundEs es g _ h3 T W kn X C)
    · cases h
  | .isi t a, g, c, h => by
    simp only [chkE] at h
    unfold qIsi at h; split at h
    · simp only [Bool.and_eq_true, decide_eq_true_eq, Bool.not_eq_true'] at h
      obtain ⟨⟨⟨⟨⟨h1, h2⟩, h3⟩, h4⟩, h5⟩, h6⟩ := h
      subst h1 h3
      refine .val (fun T W kn X C => ?_) (fun _ _ => rfl) rfl
      exact sE_isi C.K (glOk_ok C h2).1 (C.bn _ (by decide +kernel)) (glOk_ok C h4).1 (C.bn _ (by cases t <;> decide +kernel)) h6 (soundE a g _ h5 T W kn X C).1
    · cases h
  | .mth f a es, g, c, h => by
    simp only [chkE] at h
    unfold qMth at h; split at h
    · simp only [Bool.and_eq_true, decide_eq_true_eq, Bool.not_eq_true'] at h
      obtain ⟨⟨⟨⟨⟨h1, h2⟩, h3⟩, h4⟩, h5⟩, h6⟩ := h
      subst h1
      refine .val (fun T W kn X C => ?_) (fun _ _ => rfl) rfl
      obtain ⟨s1, s2⟩ := chkEs_stars h5
      simp only [noStars, Bool.and_eq_true, Bool.not_eq_true'] at s1
      exact sE_mth C.K (mt_W C.K C.un f) (soundE a g _ h3 T W kn X C).1 h4 s1.1 s1.2 (by simp at s2; omega) h2 (soundEs es g _ h5 T W kn X C)
    · cases h
  | .lc m own tg it d e, g, c, h => by
    simp only [chkE] at h
    unfold qLc at h; split at h
    · simp only [Bool.and_eq_true, Bool.not_eq_true'] at h
      obtain ⟨⟨⟨⟨⟨⟨h1, h2⟩, h3⟩, h4⟩, h5⟩, h6⟩, h7⟩ := h
      refine .val (fun T W kn X C => ?_) (fun _ _ => rfl) rfl
      have ok : BlkOk X.N X.env.scope _ (ownOf g.N own) := blkOk_by (by rw [C.hN, C.sc]; exact h2)
      have cb := fun gh s H A cl fp => C.blk ok gh s H A cl fp
      have go := sE_lc (T := T) (W := W) (kn := kn) (pos := ‹Pos›) (m := m) (e := e) (tg := tg) (it := it) (c := d) C.calm C.nd (soundIt it g _ _ h1 T W kn X C) ok (by rw [ownOf_snd]; exact subB_ok h3)
        (fun gh s H A cl fp => have Y := cb gh s H A cl fp; sG Y.hN Y.nd Y.sc Y.fn Y.calm Y.K h4) (fun gh s H A cl fp => soundOc d _ _ h5 _ _ kn _ (cb gh s H A cl fp)) (fun gh s H A cl fp => (soundE e _ _ h6 _ _ kn _ (cb gh s H A cl fp)).1) (noFold h7)
      rw [ownOf_snd] at go
      exact go
    · cases h
  | .lc2 m own own1 tg it tg1 it1 e, g, c, h => by
    simp only [chkE] at h
    unfold qLc2 at h; split at h
    · simp only [Bool.and_eq_true, Bool.not_eq_true'] at h
      obtain ⟨⟨⟨⟨⟨⟨⟨⟨⟨⟨h1, h2⟩, h3⟩, h4⟩, h5⟩, h6⟩, h7⟩, h8⟩, h9⟩, hA⟩, hB⟩ := h
      refine .val (fun T W kn X C => ?_) (fun _ _ => rfl) rfl
      have ok : BlkOk X.N X.env.scope _ (ownOf g.N own) := blkOk_by (by rw [C.hN, C.sc]; exact h2)
      have cb := fun gh s H A cl fp => C.blk ok gh s H A cl fp
      have go := sE_lc2 (T := T) (W := W) (kn := kn) (pos := ‹Pos›) (m := m) (e := e) (tg := tg) (it := it) (tg1 := tg1) (it1 := it1) (own1 := own1) C.calm C.nd (soundIt it g _ _ h1 T W kn X C) ok (by rw [ownOf_snd]; exact subB_ok h3) (subB_ok h5) (by rw [ownOf_snd]; exact subB_ok h4)
        (fun gh s H A cl fp => have Y := cb gh s H A cl fp; sG Y.hN Y.nd Y.sc Y.fn Y.calm Y.K h6) (fun gh s H A cl fp => soundIt it1 _ _ _ h8 _ _ kn _ (cb gh s H A cl fp)) (fun gh s H A cl fp => have Y := cb gh s H A cl fp; sG Y.hN Y.nd Y.sc Y.fn Y.calm Y.K h7)
        (fun gh s H A cl fp => (soundE e _ _ h9 _ _ kn _ (cb gh s H A cl fp)).1) (noFold hA) (fun env => noFold hB)
      rw [ownOf_snd] at go
      exact go
    · cases h
theorem soundEs : ∀ (es : Es) (g : G) (cs : List Expr), chkEs es g cs = true → OEs g es cs
  | .nil, g, [], h => fun T W kn X C => sA_nil
  | .nil, g, _ :: _, h => by simp [chkEs] at h
  | .cons e es, g, [], h => by simp [chkEs] at h
  | .cons e es, g, x :: xs, h => by
    simp only [chkEs, Bool.and_eq_true, Bool.not_eq_true'] at h
    exact fun T W kn X C => sA_cons h.1.2 (soundE e g x h.1.1 T W kn X C).1 (soundEs es g xs h.2 T W kn X C)
theorem soundOe : ∀ (e : Oe) (g : G) (c : Option Expr), chkOe e g c = true → OOe g e c
  | .none, g, none, h => fun T W kn X C => sO_none
  | .none, g, some _, h => by simp [chkOe] at h
  | .some e, g, none, h => by simp [chkOe] at h
  | .some e, g, some x, h => by
    simp only [chkOe] at h
    exact fun T W kn X C => sO_some (soundE e g x h T W kn X C).1
theorem soundOc : ∀ (e : Oe) (g : G) (c : List Expr), chkOc e g c = true → OOc g e c
  | .none, g, [], h => fun T W kn X C => PTs.weak pts_nil fun σ H Q ⟨μ, ρ, st, R, re, A⟩ => by
    rw [evOc_none] at A
    exact A μ H true (Ext.refl R) R rfl
  | .none, g, _ :: _, h => by simp [chkOc] at h
  | .some e, g, [], h => by simp [chkOc] at h
  | .some e, g, [x], h => by
    simp only [chkOc, Bool.and_eq_true, Bool.not_eq_true'] at h
    intro T W kn X C
    have := pts_one ((soundE e g x h.1 T W kn X C).2.1 h.2)
    refine PTs.weak this fun σ H Q ⟨μ, ρ, st, R, re, A⟩ => ⟨μ, ρ, st, R, re, ?_⟩
    simp only [evOc] at A; exact A
  | .some e, g, _ :: _ :: _, h => by simp [chkOc] at h
theorem soundIt : ∀ (it : It) (g : G) (t c : Expr), chkIt it g t c = true → OIt g it t c
  | .of a, g, t, c, h => by
    simp only [chkIt, Bool.and_eq_true] at h
    exact fun T W kn X C => sI_of C.K (soundE a g c h.1 T W kn X C).1
  | .rng1 a, g, t, c, h => by
    simp only [chkIt] at h
    unfold qRng1 at h; split at h
    · simp only [Bool.and_eq_true, decide_eq_true_eq, Bool.not_eq_true'] at h
      obtain ⟨⟨⟨h1, h2⟩, h3⟩, h4⟩ := h
      subst h1
      exact fun T W kn X C => sI_rng1 (glOk_ok C h2).1 (C.bn _ (by decide +kernel)) h4 (soundE a g _ h3 T W kn X C).1
    · cases h
  | .rng2 a b, g, t, c, h => by
    simp only [chkIt] at h
    unfold qRng2 at h; split at h
    · simp only [Bool.and_eq_true, decide_eq_true_eq, Bool.not_eq_true'] at h
      obtain ⟨⟨⟨⟨⟨h1, h2⟩, h3⟩, h4⟩, h5⟩, h6⟩ := h
      subst h1
      exact fun T W kn X C => sI_rng2 (glOk_ok C h2).1 (C.bn _ (by decide +kernel)) h4 h6 (soundE a g _ h3 T W kn X C).1 (soundE b g _ h5 T W kn X C).1
    · cases h
  | .zip a b, g, t, c, h => by
    simp only [chkIt, Bool.and_eq_true] at h
    obtain ⟨xs, k, p, rfl⟩ := isTup_ok h.1
    have h := h.2
    unfold qZip at h; split at h
    · simp only [Bool.and_eq_true, decide_eq_true_eq, Bool.not_eq_true'] at h
      obtain ⟨⟨⟨⟨⟨h1, h2⟩, h3⟩, h4⟩, h5⟩, h6⟩ := h
      subst h1
      exact fun T W kn X C => sI_zip C.K (glOk_ok C h2).1 (C.bn _ (by decide +kernel)) h4 h6 (soundE a g _ h3 T W kn X C).1 (soundE b g _ h5 T W kn X C).1
    · cases h
  | .enum a, g, t, c, h => by
    simp only [chkIt, Bool.and_eq_true] at h
    obtain ⟨xs, k, p, rfl⟩ := isTup_ok h.1
    have h := h.2
    unfold qEnum at h; split at h
    · simp only [Bool.and_eq_true, decide_eq_true_eq, Bool.not_eq_true'] at h
      obtain ⟨⟨⟨h1, h2⟩, h3⟩, h4⟩ := h
      subst h1
      exact fun T W kn X C => sI_enum C.K (glOk_ok C h2).1 (C.bn _ (by decide +kernel)) h4 (soundE a g _ h3 T W kn X C).1
    · cases h
end
end AF

/-! Stm: statements. -/
namespace AF
open PySem PySem.Spec PyProof.Rows L2

def AftF (T : Tx) (En : Ends) (fl : Fl) (μ' : List Addr) (H' : Hp) (σ' : L2.St) : Prop := match fl with
  | .next => En.nx σ' H'
  | .brk => En.bk σ' H'
  | .cont => En.ct σ' H'
  | .ret d => ∀ v, Rep T μ' H' d v → En.rt v H'
def AftS (T : Tx) (W : WX) (En : Ends) (r : SR) (μ : List Addr) (H : Hp) : Prop := match r with
  | .ok fl ρ' st' => ∀ μ' H' σ', Ext μ H μ' H' → Rel T μ' st' H' → REnv T μ' H' ρ' σ' → AftF T En fl μ' H' σ'
  | .exc x ρ' st' => ∀ μ' H' σ' cls dx, Ext μ H μ' H' → Rel T μ' st' H' → REnv T μ' H' ρ' σ' → ExRel T μ' H' x cls dx → W cls dx σ' H'
  | .bad => False
def rdS (T : Tx) (W : WX) (ev : Env → Store → SR) : TS := fun En σ H => ∃ μ ρ st, Rel T μ st H ∧ REnv T μ H ρ σ ∧ AftS T W En (ev ρ st) μ H
section
variable {T : Tx} {W : WX} {En : Ends} {σ : L2.St} {μ μ' : List Addr} {H H' : Hp} {st : Store} {ρ : Env}
theorem AftS.shift {r : SR} (h : AftS T W En r μ H) (x : Ext μ H μ' H') : AftS T W En r μ' H' := by
  cases r with
  | ok fl ρ' st' => exact fun μ2 H2 σ2 e R P => h μ2 H2 σ2 (x.trans e) R P
  | exc y ρ' st' => exact fun μ2 H2 σ2 c d e R P => h μ2 H2 σ2 c d (x.trans e) R P
  | bad => exact h
theorem AftS.lift {r : R D} {k : D → Store → SR} (h : AftS T W En (lift r ρ k) μ H) (re : REnv T μ H ρ σ) :
    Aft T W σ (RepT T) r μ H fun v H1 => ∃ μ1 d st1, r = .ok d st1 ∧ Ext μ H μ1 H1 ∧ Rel T μ1 st1 H1 ∧ Rep T μ1 H1 d v ∧ AftS T W En (k d st1) μ1 H1 := by
  cases r with
  | ok d s1 => exact fun μ2 H2 v e R P => ⟨μ2, d, s1, rfl, e, R, P, AftS.shift h e⟩
  | exc y s1 => exact fun μ2 H2 c d e R P => h μ2 H2 σ c d e R (re.mono e) P
  | bad => exact h
theorem AftS.test {r : R D} {f g : Store → SR} (h : AftS T W En (AF.lift r ρ fun x st => match x with | .bl true => f st | .bl false => g st | _ => .bad) μ H) (re : REnv T μ H ρ σ) :
    Aft T W σ REq (asB r) μ H fun b H1 => ∃ μ1 st1, Ext μ H μ1 H1 ∧ Rel T μ1 st1 H1 ∧ AftS T W En (if b = true then f st1 else g st1) μ1 H1 := by
  cases r with
  | ok d s1 =>
    cases d with
    | bl b =>
      cases b with
      | true => exact fun μ2 H2 v e R P => by subst P; exact ⟨μ2, s1, e, R, AftS.shift h e⟩
      | false => exact fun μ2 H2 v e R P => by subst P; exact ⟨μ2, s1, e, R, AftS.shift h e⟩
    | _ => exact h.elim
  | exc y s1 => exact fun μ2 H2 c d e R P => h μ2 H2 σ c d e R (re.mono e) P
  | bad => exact h
theorem AftS.ok {fl : Fl} (h : AftS T W En (.ok fl ρ st) μ H) (R : Rel T μ st H) (re : REnv T μ H ρ σ) : AftF T En fl μ H σ := h μ H σ (Ext.refl R) R re
end

/-- what statements ask besides: own exception classes, loops pass what leaves -/
structure SCx (g : G) (T : Tx) (X : Cx) : Prop where
  po : PassesOwn (model X.prog X.w) X.A X.env X.xe
  exc : ∀ (c : Nat) (x : Str), g.excs[c]? = some x → ∃ B newId initId bmB, ExcBaseFacts B newId initId bmB ∧ PySem.W.excIn X.K (T.ca c) bmB newId = true ∧ X.mg x = some (.ref (T.ca c)) ∧ PySem.W.keepIn X.K (.ref (T.ca c)) = true ∧ Raises X (.ref (T.ca c))
theorem swapsLc {elt : Expr} {gs : List Comprehension} {scope : Scope} {pos tp : Pos} {t : Str} {l : Nat} {env : PySem.Env} (hk : env.scope.kind = .function) :
    swapsWith (.ListComp elt gs scope pos) (some (.Name t tp)) l env = pure (swLc env.scope t tp scope pos) := by
  have hb : env.blockKind = .function := by unfold PySem.Env.blockKind; rw [hk]; rfl
  unfold swapsWith swLc PySem.Env.kindOf
  simp only [hb]
  rfl
theorem noComp_sw {v : Expr} {t : Option Expr} {l : Nat} {env : PySem.Env} (h : isComp v = false) : swapsWith v t l env = pure false := by
  cases v <;> first | rfl | (simp [isComp] at h)
theorem swapped_tup {ts vs : List Expr} {k k2 : Nat} {p p2 : Pos} {env : PySem.Env} (hk : env.scope.kind = .function) (hb : swapBad vs = false) :
    swappedStores [.Tuple ts k p] (.Tuple vs k2 p2) env = pure (swapP env.scope ts vs) := by
  have hb' : env.blockKind = .function := by unfold PySem.Env.blockKind; rw [hk]; rfl
  unfold swappedStores swapP PySem.Env.kindOf
  simp only [hb']
  unfold swapBad at hb
  by_cases h1 : (!(ts.length == 2 || ts.length == 3) || vs.length != ts.length) = true
  · have h1' : (!(ts.length == 2 || ts.length == 3) || vs.length != ts.length || ScopeKind.function != ScopeKind.function) = true := by rw [h1]; rfl
    rw [if_pos h1, if_pos h1']
  have h1' : ¬ (!(ts.length == 2 || ts.length == 3) || vs.length != ts.length || ScopeKind.function != ScopeKind.function) = true := by
    simp only [Bool.not_eq_true] at h1; rw [h1]; decide
  rw [if_neg h1, if_neg h1']
  split
  · rename_i h2; exact congrArg pure (if_pos h2).symm
  · rename_i h2; refine Eq.trans ?_ (congrArg pure (if_neg h2).symm)
    split
    · rename_i h3; exact congrArg pure (if_pos h3).symm
    · rename_i h3; refine Eq.trans ?_ (congrArg pure (if_neg h3).symm)
      split
      · rfl
      · rename_i h4
        split
        · rename_i h5
          rw [h5] at hb
          simp only [Bool.true_and, Bool.not_eq_false'] at hb
          exact absurd hb h4
        · rfl
section
variable {X : Cx} {T : Tx} {W : WX} {kn : Kn} {En : Ends} {σ : L2.St} {H : Hp} {pos : Pos} {x y z v : Expr} {a b c e : E} {i j k : Nat}
/-- a value goes to a name's slot -/
theorem asgN_weak {te : TE} (hk : ∀ σ H Q, rdE T W (evE kn e) σ H Q → te σ H Q) (h : rdS T W (evS kn (.asg (.name i) e)) En σ H) : tAsg te (gName i) En σ H := by
  obtain ⟨μ, ρ, st, R, re, A⟩ := h
  simp only [evS] at A
  refine hk σ H _ ⟨μ, ρ, st, R, re, (A.lift re).mono fun v H1 ⟨μ1, d, st1, _, x1, R1, P1, A1⟩ => ?_⟩
  simp only [asg] at A1
  split at A1
  · rename_i ρ' e1
    split at e1
    · rename_i hl
      cases e1
      exact A1.ok R1 ((re.mono x1).set P1 hl)
    · cases e1
  · exact A1.elim
theorem asgT_weak {ts : List Tg} (h : rdS T W (evS kn (.asg (.tup ts) e)) En σ H) : tAsg (rdE T W (evE kn e)) (rdG T (.tup ts)) En σ H := by
  obtain ⟨μ, ρ, st, R, re, A⟩ := h
  simp only [evS] at A
  refine ⟨μ, ρ, st, R, re, (A.lift re).mono fun v H1 ⟨μ1, d, st1, _, x1, R1, P1, A1⟩ => ?_⟩
  split at A1
  · rename_i ρ' e1
    exact ⟨μ1, st1, ρ, d, ρ', R1, P1, re.mono x1, e1, fun σ' re' _ => A1.ok R1 re'⟩
  · exact A1.elim
theorem AftS.liftA {es : Es} {μ : List Addr} {ρ : Env} {st : Store} {k : AF.D → Store → SR} (h : AftS T W En (AF.lift (evE kn (.tup es) ρ st) ρ k) μ H) (re : REnv T μ H ρ σ) :
    Aft T W σ (RepsT T) (evEs kn es ρ st) μ H fun vs H1 => ∃ μ1 ds st1, evEs kn es ρ st = .ok ds st1 ∧ Ext μ H μ1 H1 ∧ Rel T μ1 st1 H1 ∧ Reps T μ1 H1 ds vs ∧ AftS T W En (k (.tup ds) st1) μ1 H1 := by
  simp only [evE] at h
  cases e : evEs kn es ρ st with
  | ok ds s1 => rw [e] at h; exact fun μ2 H2 v x R P => ⟨μ2, ds, s1, rfl, x, R, P, AftS.shift h x⟩
  | exc y s1 => rw [e] at h; exact fun μ2 H2 c d x R P => h μ2 H2 σ c d x R (re.mono x) P
  | bad => rw [e] at h; exact h
theorem REnv.set2 {μ : List Addr} {ρ ρ' : Env} {ts : List Tg} {ds : List AF.D} {u w : V} (re : REnv T μ H ρ σ) (r : Reps T μ H ds [u, w]) (e : asg (.tup [.name i, .name j]) (.tup ds) ρ = some ρ') : REnv T μ H ρ' ((σ.set i (some u)).set j (some w)) := by
  cases r with
  | cons r1 r =>
    cases r with
    | cons r2 r =>
      cases r
      simp only [asg, asgs] at e
      split at e
      · rename_i ρ1 e1
        split at e1
        · rename_i h1
          cases e1
          split at e
          · rename_i ρ2 e2
            split at e2
            · rename_i h2
              cases e2; cases e
              exact (re.set r1 h1).set r2 h2
            · cases e2
          · cases e
        · cases e1
      · cases e
theorem REnv.set3 {μ : List Addr} {ρ ρ' : Env} {ds : List AF.D} {u w q : V} (re : REnv T μ H ρ σ) (r : Reps T μ H ds [u, w, q]) (e : asg (.tup [.name i, .name j, .name k]) (.tup ds) ρ = some ρ') : REnv T μ H ρ' (((σ.set i (some u)).set j (some w)).set k (some q)) := by
  cases r with
  | cons r1 r =>
    cases r with
    | cons r2 r =>
      cases r with
      | cons r3 r =>
        cases r
        simp only [asg, asgs] at e
        split at e
        · rename_i ρ1 e1
          split at e1
          · rename_i h1
            cases e1
            split at e
            · rename_i ρ2 e2
              split at e2
              · rename_i h2
                cases e2
                split at e
                · rename_i ρ3 e3
                  split at e3
                  · rename_i h3
                    cases e3; cases e
                    exact ((re.set r1 h1).set r2 h2).set r3 h3
                  · cases e3
                · cases e
              · cases e2
            · cases e
          · cases e1
        · cases e
theorem par2_weak {es : Es} (hn : es.len = 2) (h : rdS T W (evS kn (.asg (.tup [.name i, .name j]) (.tup es))) En σ H) : tPar i j (rdA T W (evEs kn es)) En σ H := by
  obtain ⟨μ, ρ, st, R, re, A⟩ := h
  simp only [evS] at A
  refine ⟨μ, ρ, st, R, re, (A.liftA re).mono fun vs H1 ⟨μ1, ds, st1, e, x1, R1, P1, A1⟩ => ?_⟩
  have hl := P1.length
  rw [evEs_len e, hn] at hl
  obtain ⟨u, w, rfl⟩ : ∃ u w, vs = [u, w] := by
    match vs, hl with
    | [u, w], _ => exact ⟨u, w, rfl⟩
  refine ⟨u, w, rfl, ?_⟩
  split at A1
  · rename_i ρ' e1
    exact A1.ok R1 ((re.mono x1).set2 (ts := []) P1 e1)
  · exact A1.elim
/-- three names at once, stored from the right -/
def tPar3 (i j k : Nat) (ta : TA) : TS := fun D σ H => ta σ H fun vs H1 => ∃ v w q, vs = [v, w, q] ∧ D.nx (((σ.set i (some v)).set j (some w)).set k (some q)) H1
theorem par3_weak {es : Es} (hn : es.len = 3) (h : rdS T W (evS kn (.asg (.tup [.name i, .name j, .name k]) (.tup es))) En σ H) : tPar3 i j k (rdA T W (evEs kn es)) En σ H := by
  obtain ⟨μ, ρ, st, R, re, A⟩ := h
  simp only [evS] at A
  refine ⟨μ, ρ, st, R, re, (A.liftA re).mono fun vs H1 ⟨μ1, ds, st1, e, x1, R1, P1, A1⟩ => ?_⟩
  have hl := P1.length
  rw [evEs_len e, hn] at hl
  obtain ⟨u, w, q, rfl⟩ : ∃ u w q, vs = [u, w, q] := by
    match vs, hl with
    | [u, w, q], _ => exact ⟨u, w, q, rfl⟩
  refine ⟨u, w, q, rfl, ?_⟩
  split at A1
  · rename_i ρ' e1
    exact A1.ok R1 ((re.mono x1).set3 P1 e1)
  · exact A1.elim
theorem ps_par3 {nx ny nz : Str} {es : List Expr} {ta : TA} {px py pz pt : Pos} {kt k2 pt2} (hc : X.calm = true) (hN : X.N.Nodup) (hi : X.N[i]? = some nx) (hj : X.N[j]? = some ny) (hk : X.N[k]? = some nz) (hij : i ≠ j) (hik : i ≠ k) (hjk : j ≠ k)
    (hx : X.env.scope.names.lookup nx = some .local) (hy : X.env.scope.names.lookup ny = some .local) (hz : X.env.scope.names.lookup nz = some .local) (ha : PA X es ta)
    (hw : swappedStores [.Tuple [.Name nx px, .Name ny py, .Name nz pz] kt pt] (.Tuple es k2 pt2) X.env = pure (some [nx, ny, nz]))
    (hs : swapsWithSole [.Tuple [.Name nx px, .Name ny py, .Name nz pz] kt pt] (.Tuple es k2 pt2) pos.line X.env = pure false := by rfl) :
    PS X (.Assign [.Tuple [.Name nx px, .Name ny py, .Name nz pz] kt pt] (.Tuple es k2 pt2) pos) (tPar3 i j k ta) := by
  refine ⟨fun pins s σ H D I h => ?_⟩
  rw [exec_Assign_arm]
  refine wpAny_bind (wpAny_standAt ?_)
  rw [hs]
  refine wpAny_bind (wpAny_pure ?_)
  rw [if_neg (by decide)]
  refine wpAny_bind (Tuple_ (thn (ha.run _ pins s σ H _ I h) fun us s1 ⟨vs, H1, I1, r1, q1⟩ => ?_))
  obtain ⟨v, w, q, e1, q1⟩ := q1
  subst e1
  obtain ⟨u1, u2, u3, rfl, rv, rw', rq⟩ : ∃ u1 u2 u3, us = [u1, u2, u3] ∧ RelV v u1 ∧ RelV w u2 ∧ RelV q u3 := by
    cases r1 with
    | cons p q =>
      cases q with
      | cons p' q' =>
        cases q' with
        | cons p'' q'' =>
          cases q''
          exact ⟨_, _, _, rfl, p, p', p''⟩
  refine wpAny_newObj_type ?_ (by show 3 ≤ sizeLine; decide)
  have I2 : Inv X pins σ H1 { s1 with heap := s1.heap.push { cls := .type "tuple", data := .seq [u1, u2, u3].toArray } } := I1.kept (t' := s1.toks) fun b o e => Heap.get?_push_of_some _ e
  rw [hw]
  refine wpAny_bind (wpAny_pure ?_)
  show wpAny (model X.prog X.w) X.A (do rule "assign.swapped-stores"; let items ← unpackItems (.ref s1.heap.objs.size) 3 none; assignInOrder [fun v => bindName X.env nz v, fun v => bindName X.env ny v, fun v => bindName X.env nx v] items.reverse; pure Flow.next) _ _ _
  refine wpAny_bind (wpAny_rule (wpAny_bind (unpackItems_tuple (items := #[u1, u2, u3]) (I.ok.hd hc) (IsTup.new s1.heap _) fun h' hx' => ?_)))
  have I3 := I2.kept (h' := h') (t' := s1.toks) fun b o e => hx' b o (Nat.ne_of_lt (Heap.lt_size e)) e
  show wpAny _ _ (assignInOrder [fun v => bindName X.env nz v, fun v => bindName X.env ny v, fun v => bindName X.env nx v] [u3, u2, u1] >>= fun _ => pure Flow.next) _ _ _
  refine wpAny_bind (assignInOrder_cons (wpAny_bindName (store_ok I3 hN hk (.inl hz) rq (fun s2 I4 => ?_) (.inr hz))))
  refine assignInOrder_cons (wpAny_bindName (store_ok I4 hN hj (.inl hy) rw' (fun s3 I5 => ?_) (.inr hy)))
  refine assignInOrder_cons (wpAny_bindName (store_ok I5 hN hi (.inl hx) rv (fun s4 I6 => assignInOrder_nil (wpAny_pure ?_)) (.inr hx)))
  have e : ((σ.set k (some q)).set j (some w)).set i (some v) = ((σ.set i (some v)).set j (some w)).set k (some q) := by
    rw [List.set_comm _ _ (Ne.symm hjk), List.set_comm _ _ (Ne.symm hik), List.set_comm _ _ (Ne.symm hij)]
  rw [e] at I6
  exact ⟨_, H1, I6, q1⟩
theorem setI_weak {s : Unit} (h : rdS T W (evS kn (.setI a b e)) En σ H) :
    tAsg (rdE T W (evE kn e)) (gSub (rdE T W (evE kn a)) (rdE T W (evE kn b)) (fun o i v H Q => ∃ μ st a b c, Rel T μ st H ∧ Rep T μ H a o ∧ Rep T μ H b i ∧ Rep T μ H c v ∧ AftV T (fun _ _ (_ : Unit) (_ : Unit) => True) (setI a b c st) μ H fun _ H' => Q H')) En σ H := by
  obtain ⟨μ, ρ, st, R, re, A⟩ := h
  simp only [evS] at A
  refine ⟨μ, ρ, st, R, re, (A.lift re).mono fun v H1 ⟨μ1, d, st1, _, x1, R1, P1, A1⟩ => ?_⟩
  have re1 := re.mono x1
  refine ⟨μ1, ρ, st1, R1, re1, (A1.lift re1).mono fun o H2 ⟨μ2, d2, st2, _, x2, R2, P2, A2⟩ => ?_⟩
  have re2 := re1.mono x2
  refine ⟨μ2, ρ, st2, R2, re2, (A2.lift re2).mono fun q H3 ⟨μ3, d3, st3, _, x3, R3, P3, A3⟩ => ?_⟩
  have re3 := re2.mono x3
  refine ⟨μ3, st3, d2, d3, d, R3, P2.mono x3, P3, (P1.mono x2).mono x3, ?_⟩
  cases e1 : setI d2 d3 d st3 with
  | ok u s4 => rw [e1] at A3; exact fun μ4 H4 _ x4 R4 _ => A3 μ4 H4 σ x4 R4 (re3.mono x4)
  | exc y s4 => exact absurd e1 (setI_ne y s4)
  | bad => rw [e1] at A3; exact A3.elim
theorem expr_weak (h : rdS T W (evS kn (.expr e)) En σ H) : tDrop (rdE T W (evE kn e)) En σ H := by
  obtain ⟨μ, ρ, st, R, re, A⟩ := h
  simp only [evS] at A
  exact ⟨μ, ρ, st, R, re, (A.lift re).mono fun v H1 ⟨μ1, d, st1, _, x1, R1, P1, A1⟩ => A1.ok R1 (re.mono x1)⟩
theorem ret_weak (h : rdS T W (evS kn (.ret e)) En σ H) : tRet (rdE T W (evE kn e)) En σ H := by
  obtain ⟨μ, ρ, st, R, re, A⟩ := h
  simp only [evS] at A
  exact ⟨μ, ρ, st, R, re, (A.lift re).mono fun v H1 ⟨μ1, d, st1, _, x1, R1, P1, A1⟩ => A1.ok R1 (re.mono x1) v P1⟩
theorem ite_weak {p q : Ss} (h : rdS T W (evS kn (.ite c p q)) En σ H) : tIfS (rdT T W (evE kn c)) (rdS T W (evSs kn p)) (rdS T W (evSs kn q)) En σ H := by
  obtain ⟨μ, ρ, st, R, re, A⟩ := h
  simp only [evS] at A
  refine ⟨μ, ρ, st, R, re, (AftS.test (f := fun st => evSs kn p ρ st) (g := fun st => evSs kn q ρ st) A re).mono fun b H1 ⟨μ1, st1, x1, R1, A1⟩ => ?_⟩
  cases b with
  | true => exact ⟨μ1, ρ, st1, R1, re.mono x1, A1⟩
  | false => exact ⟨μ1, ρ, st1, R1, re.mono x1, A1⟩
/-- what a loop's body is to reach -/
theorem body_weak {μ : List Addr} {r : SR} {f : Env → Store → SR} {N : L2.St → Hp → Prop}
    (h : AftS T W En (match r with
      | .ok .next ρ2 st2 => f ρ2 st2
      | .ok .cont ρ2 st2 => f ρ2 st2
      | .ok .brk ρ2 st2 => .ok .next ρ2 st2
      | .ok (.ret d) ρ2 st2 => .ok (.ret d) ρ2 st2
      | .exc x ρ2 st2 => .exc x ρ2 st2
      | .bad => .bad) μ H) (hN : ∀ μ2 H2 σ2 ρ2 st2, Ext μ H μ2 H2 → Rel T μ2 st2 H2 → REnv T μ2 H2 ρ2 σ2 → AftS T W En (f ρ2 st2) μ2 H2 → N σ2 H2) : AftS T W { En with nx := N, ct := N, bk := En.nx } r μ H := by
  cases r with
  | ok fl ρ2 st2 =>
    cases fl with
    | next => exact fun μ' H' σ' x R re => hN μ' H' σ' ρ2 st2 x R re (AftS.shift h x)
    | cont => exact fun μ' H' σ' x R re => hN μ' H' σ' ρ2 st2 x R re (AftS.shift h x)
    | brk => exact fun μ' H' σ' x R re => h μ' H' σ' x R re
    | ret d => exact fun μ' H' σ' x R re => h μ' H' σ' x R re
  | exc y ρ2 st2 => exact h
  | bad => exact h
theorem whl_weak {p : Ss} (h : rdS T W (evS kn (.whl c p)) En σ H) : tWhile (rdT T W (evE kn c)) (rdS T W (evSs kn p)) En σ H := by
  obtain ⟨μ, ρ, st, R, re, A⟩ := h
  simp only [evS] at A
  refine ⟨fun m σ H => ∃ μ ρ st, Rel T μ st H ∧ REnv T μ H ρ σ ∧ AftS T W En (evWhile (evE kn c) (evSs kn p) m ρ st) μ H, ⟨kn.fuel, μ, ρ, st, R, re, A⟩, ?_⟩
  rintro m σ H ⟨μ, ρ, st, R, re, A⟩
  cases m with
  | zero => exact A.elim
  | succ m =>
    refine ⟨μ, ρ, st, R, re, ?_⟩
    unfold evWhile at A
    cases e : evE kn c ρ st with
    | ok d s1 =>
      rw [e] at A
      cases d with
      | bl b =>
        intro μ2 H2 b2 x2 R2 eb
        subst eb
        cases b with
        | true =>
          simp only [if_true] at A ⊢
          refine ⟨fun σ' H' => ∃ μ ρ st, Rel T μ st H' ∧ REnv T μ H' ρ σ' ∧ AftS T W En (evWhile (evE kn c) (evSs kn p) m ρ st) μ H', fun σ' H' h => ⟨m, Nat.lt_succ_self m, h⟩, μ2, ρ, s1, R2, re.mono x2, ?_⟩
          exact body_weak (f := evWhile (evE kn c) (evSs kn p) m) (A.shift x2) fun μ3 H3 σ3 ρ3 st3 x3 R3 re3 A3 => ⟨μ3, ρ3, st3, R3, re3, A3⟩
        | false => exact A μ2 H2 σ x2 R2 (re.mono x2)
      | _ => exact A.elim
    | exc y s1 => rw [e] at A; exact fun μ2 H2 cl dx x2 R2 P => A μ2 H2 σ cl dx x2 R2 (re.mono x2) P
    | bad => rw [e] at A; exact A.elim
theorem for_weak {tg : Tg} {it : It} {p : Ss} (h : rdS T W (evS kn (.for_ tg it p)) En σ H) : tFor (rdI T W (evIt kn it)) (rdG T tg) (rdS T W (evSs kn p)) En σ H := by
  obtain ⟨μ, ρ, st, R, re, A⟩ := h
  simp only [evS] at A
  refine ⟨μ, ρ, st, R, re, ?_⟩
  cases e : evIt kn it ρ st with
  | ok s s1 =>
    rw [e] at A
    intro μ1 H1 J x1 R1 src
    have A := AftS.shift A x1
    have re1 := re.mono x1
    refine ⟨fun i m σ H => m = s.its.length - i ∧ i ≤ s.its.length ∧ ∃ μ ρ st, Rel T μ st H ∧ REnv T μ H ρ σ ∧ Ext μ1 H1 μ H ∧ AftS T W En (evFor s.gs tg (evSs kn p) (s.its.drop i) ρ st) μ H,
      ⟨_, rfl, Nat.zero_le _, μ1, ρ, s1, R1, re1, Ext.refl R1, A⟩, ?_⟩
    rintro i m σ H ⟨rfl, hi, μ, ρ, st, R, re, x, A⟩
    have x' : Ext μ1 (hide T.gh H1) μ H := x.toHide fun a ha => (R1.gh a ha).1
    by_cases hlt : i < s.its.length
    · rw [List.drop_eq_getElem_cons hlt] at A
      unfold evFor at A
      split at A
      · rename_i gd
        obtain ⟨go, yl⟩ := (src T.gh μ st H (fun a ha => .inl ha) x' R gd i).1 hlt
        split at A
        · exact A.elim
        · rename_i ρ1 ea
          refine .inr ⟨go, fun σ' H' => ∃ μ ρ st, Rel T μ st H' ∧ REnv T μ H' ρ σ' ∧ Ext μ1 H1 μ H' ∧ AftS T W En (evFor s.gs tg (evSs kn p) (s.its.drop (i + 1)) ρ st) μ H', fun σ' H' h => ⟨_, by omega, rfl, hlt, h⟩, fun v H' yy => ?_⟩
          obtain ⟨d, hd, xa, Ra, rx, _⟩ := yl v H' yy
          rw [List.getElem?_eq_getElem hlt] at hd
          have hd := Option.some.inj hd
          subst hd
          have Ra : Rel T μ st H' := Ra
          have rx : Rep T μ H' _ v := rx
          refine ⟨μ, st, ρ, _, ρ1, Ra, rx, re.mono xa, ea, fun σ2 re2 ag => ⟨μ, ρ1, st, Ra, re2, ?_⟩⟩
          exact body_weak (f := evFor s.gs tg (evSs kn p) (s.its.drop (i + 1))) (A.shift xa) fun μ3 H3 σ3 ρ3 st3 x3 R3 re3 A3 => ⟨μ3, ρ3, st3, R3, re3, (x.trans xa).trans x3, A3⟩
      · exact A.elim
    · have e : i = s.its.length := by omega
      subst e
      rw [List.drop_length] at A
      unfold evFor at A
      split at A
      · rename_i gd
        exact .inl ⟨(src T.gh μ st H (fun a ha => .inl ha) x' R gd _).2 (Nat.le_refl _), A.ok R re⟩
      · exact A.elim
  | exc y s1 => rw [e] at A; exact fun μ2 H2 cl dx x2 R2 P => A μ2 H2 σ cl dx x2 R2 (re.mono x2) P
  | bad => rw [e] at A; exact A.elim
end
end AF

/-! Fun: statements sound; defs. -/
namespace AF
open PySem PySem.Spec PyProof.Rows L2

def OS (g : G) (s : S) (c : Stmt) : Prop := ∀ (T : Tx) (W : WX) (kn : Kn) (X : Cx), Cxt g T W kn X → SCx g T X → PS X c (rdS T W (evS kn s))
def OSs (g : G) (s : Ss) (c : List Stmt) : Prop := ∀ (T : Tx) (W : WX) (kn : Kn) (X : Cx), Cxt g T W kn X → SCx g T X → PSs X c (rdS T W (evSs kn s))
theorem chk_isLc {e : E} {g : G} {elt : Expr} {gs : List Comprehension} {scope : Scope} {pos : Pos} (h : chkE e g (.ListComp elt gs scope pos) = true) : isLc e = true := by
  cases e <;> simp_all [chkE, qVar, qNon, qBl, qInt, qStr, qCon, qTup, qLst, qBin, qNeg, qNot, qBo, qCmp, qChn, qIte, qIdx, qSlc, qCall, qBlt, qIsi, qMth, isLc]
section
variable {g : G} {T : Tx} {W : WX} {kn : Kn} {X : Cx}
theorem sS_setLc (C : Cxt g T W kn X) {e : E} {i : Nat} {x : Str} {p pos spos : Pos} {elt : Expr} {gs : List Comprehension} {scope : Scope} (h : chkE e g (.ListComp elt gs scope pos) = true) (hi : g.N[i]? = some x) (hl : g.sc.names.lookup x = some .local)
    (hsw : swLc g.sc x p scope pos = true) : PS X (.Assign [.Name x p] (.ListComp elt gs scope pos) spos) (rdS T W (evS kn (.asg (.name i) e))) := by
  have hlc := chk_isLc h
  have hw : ∀ l, swapsWith (.ListComp elt gs scope pos) (some (.Name x p)) l X.env = pure true := fun l => by rw [swapsLc (by rw [C.sc]; exact C.kind), C.sc, hsw]
  cases e <;> simp only [isLc] at hlc <;> first | (cases hlc; done) | skip
  · rename_i m own tg it d e
    simp only [chkE] at h
    unfold qLc at h; split at h
    · rename_i heq
      cases heq
      simp only [Bool.and_eq_true, Bool.not_eq_true'] at h
      obtain ⟨⟨⟨⟨⟨⟨h1, h2⟩, h3⟩, h4⟩, h5⟩, h6⟩, h7⟩ := h
      have ok : BlkOk X.N X.env.scope scope (ownOf g.N own) := blkOk_by (by rw [C.hN, C.sc]; exact h2)
      have cb := fun gh s H A cl fp => C.blk ok gh s H A cl fp
      have go := ps_setLc (py := p) (spos := spos) C.calm C.nd (by rw [C.hN]; exact hi) (by rw [C.sc]; exact hl) (hw _) (soundIt it g _ _ h1 T W kn X C) ok
        (fun s H A cl fp => PG.ex (t := fun gh => rdG (T.with gh) tg) fun gh => have Y := cb gh s H A cl fp; sG Y.hN Y.nd Y.sc Y.fn Y.calm Y.K h4)
        (fun s H A cl fp => PTs.ex (t := fun gh => rdT (T.with gh) WF (evOc kn d)) fun gh => soundOc d _ _ h5 _ _ kn _ (cb gh s H A cl fp))
        (fun s H A cl fp => PE.ex (t := fun gh => rdE (T.with gh) WF (evE kn e)) fun gh => (soundE e _ _ h6 _ _ kn _ (cb gh s H A cl fp)).1) (noFold h7)
      exact PS.weak go fun En σ H h => asgN_weak (fun σ H Q q => lc_weak (by rw [ownOf_snd]; exact subB_ok h3) (by rw [ownOf_snd]; exact q)) h
    · cases h
  · rename_i m own own1 tg it tg1 it1 e
    simp only [chkE] at h
    unfold qLc2 at h; split at h
    · rename_i heq
      cases heq
      simp only [Bool.and_eq_true, Bool.not_eq_true'] at h
      obtain ⟨⟨⟨⟨⟨⟨⟨⟨⟨⟨h1, h2⟩, h3⟩, h4⟩, h5⟩, h6⟩, h7⟩, h8⟩, h9⟩, hA⟩, hB⟩ := h
      have ok : BlkOk X.N X.env.scope scope (ownOf g.N own) := blkOk_by (by rw [C.hN, C.sc]; exact h2)
      have cb := fun gh s H A cl fp => C.blk ok gh s H A cl fp
      have go := ps_setLc2 (py := p) (spos := spos) (vs1 := own1) (tt := tYes) (tt1 := lcT T kn .none) C.calm C.nd (by rw [C.hN]; exact hi) (by rw [C.sc]; exact hl) (hw _) (soundIt it g _ _ h1 T W kn X C) ok (by rw [ownOf_snd]; exact subB_ok h4)
        (fun s H A cl fp => PG.ex (t := fun gh => rdG (T.with gh) tg) fun gh => have Y := cb gh s H A cl fp; sG Y.hN Y.nd Y.sc Y.fn Y.calm Y.K h6)
        (fun s H A cl fp => pts_nil)
        (fun s H A cl fp => PI.ex (t := fun gh => rdI (T.with gh) WF (evIt kn it1)) fun gh => soundIt it1 _ _ _ h8 _ _ kn _ (cb gh s H A cl fp))
        (fun s H A cl fp => PG.ex (t := fun gh => rdG (T.with gh) tg1) fun gh => have Y := cb gh s H A cl fp; sG Y.hN Y.nd Y.sc Y.fn Y.calm Y.K h7)
        (fun s H A cl fp => PTs.ex fun gh => pts_none)
        (fun s H A cl fp => PE.ex (t := fun gh => rdE (T.with gh) WF (evE kn e)) fun gh => (soundE e _ _ h9 _ _ kn _ (cb gh s H A cl fp)).1) (noFold hA) (fun env => noFold hB)
      exact PS.weak go fun En σ H h => asgN_weak (fun σ H Q q => lc2_weak (by rw [ownOf_snd]; exact subB_ok h3) (subB_ok h5) (by rw [ownOf_snd]; exact q)) h
    · cases h
theorem asgT_ps (C : Cxt g T W kn X) {e : E} {ts : List Tg} {xs : List Expr} {v : Expr} {k : Nat} {p pos : Pos} (h1 : chkTs g ts xs = true) (h2 : chkE e g v = true) (hs : isComp v = false) (hw : swappedStores [.Tuple xs k p] v X.env = pure none) :
    PS X (.Assign [.Tuple xs k p] v pos) (rdS T W (evS kn (.asg (.tup ts) e))) :=
  PS.weak (ps_asg (soundE e g v h2 T W kn X C).1 (sG C.hN C.nd C.sc C.fn C.calm C.K (t := .tup ts) (x := .Tuple xs k p) (by simpa [chkT] using h1)) (by
    show swapsWith v (some (.Tuple xs k p)) pos.line X.env = pure false
    exact noComp_sw hs) hw) fun En σ H => asgT_weak
end
mutual
theorem soundS : ∀ (s : S) (g : G) (c : Stmt), chkS s g c = true → OS g s c
  | .asg (.name i) e, g, c, h => by
    simp only [chkS] at h
    unfold qAsgN at h; split at h
    · rename_i x p v pos
      simp only [Bool.and_eq_true] at h
      obtain ⟨⟨h1, h2⟩, h3⟩ := h
      obtain ⟨t1, t2, t3⟩ := tgOk_ok h1
      intro T W kn X C S'
      have plain : (∀ l, swapsWith v (some (.Name x p)) l X.env = pure false) → PS X (.Assign [.Name x p] v pos) (rdS T W (evS kn (.asg (.name i) e))) := fun hs =>
        PS.weak (ps_set C.nd (by rw [C.hN]; exact t1) (by rw [C.sc]; exact t2) (soundE e g v h2 T W kn X C).1 (hs _) (t3.elim (fun z => .inl (C.fn _ z)) fun z => .inr (by rw [C.sc]; exact z))) fun En σ H => asgN_weak fun σ H Q q => q
      split at h3
      · rename_i elt gs scope lpos
        split at h3
        · rename_i hsw
          exact sS_setLc C h2 t1 (isLocal_ok h3) hsw
        · rename_i hsw
          exact plain fun l => by rw [swapsLc (by rw [C.sc]; exact C.kind), C.sc]; simp only [Bool.not_eq_true] at hsw; rw [hsw]
      · cases h3
      · cases h3
      · rename_i n1 n2 n3
        exact plain fun l => noComp_sw (by cases v <;> first | rfl | (exfalso; first | exact n1 _ _ _ _ rfl | exact n2 _ _ _ _ rfl | exact n3 _ _ _ _ _ rfl))
    · cases h
  | .asg (.tup ts) e, g, c, h => by
    simp only [chkS, Bool.or_eq_true] at h
    rcases h with h | h
    · unfold qAsgT at h; split at h
      · rename_i xs kt pt v pos
        simp only [Bool.and_eq_true, Bool.not_eq_true'] at h
        obtain ⟨⟨⟨h1, h2⟩, h3⟩, h4⟩ := h
        intro T W kn X C S'
        refine asgT_ps C h1 h2 h3 ?_
        split at h4
        · rename_i vs _ _
          simp only [Bool.and_eq_true, Bool.not_eq_true'] at h4
          rw [swapped_tup (by rw [C.sc]; exact C.kind) h4.1, C.sc]
          cases e1 : swapP g.sc xs vs with
          | none => rfl
          | some ns => rw [e1] at h4; exact absurd h4.2 (by simp)
        · rename_i n1
          cases v <;> first | rfl | (exfalso; exact n1 _ _ _ rfl)
      · cases h
    · cases e <;> simp only at h <;> first | (cases h; done) | skip
      rename_i es
      unfold qSw at h; split at h
      · simp only [Bool.and_eq_true, Bool.not_eq_true', decide_eq_true_eq] at h
        obtain ⟨⟨⟨⟨h1, h2⟩, h3⟩, h4⟩, h5⟩ := h
        split at h5
        · simp only [Bool.and_eq_true, decide_eq_true_eq] at h5
          obtain ⟨⟨⟨⟨k1, k2⟩, k3⟩, k4⟩, k5⟩ := h5
          intro T W kn X C S'
          have hl := (chkEs_stars h1).2
          rename_i vs _ _ _ _ _ _
          obtain ⟨a, b, rfl⟩ : ∃ a b, vs = [a, b] := by
            rw [h4] at hl
            match vs, hl with
            | [a, b], _ => exact ⟨a, b, rfl⟩
          exact PS.weak (ps_par C.calm C.nd (by rw [C.hN]; exact k2) (by rw [C.hN]; exact k3) k1 (by rw [C.sc]; exact isLocal_ok k4) (by rw [C.sc]; exact isLocal_ok k5) (soundEs es g _ h1 T W kn X C) (by rw [swapped_tup (by rw [C.sc]; exact C.kind) h2, C.sc, h3])) fun En σ H => par2_weak h4
        · cases h5
      · simp only [Bool.and_eq_true, Bool.not_eq_true', decide_eq_true_eq] at h
        obtain ⟨⟨⟨⟨h1, h2⟩, h3⟩, h4⟩, h5⟩ := h
        split at h5
        · simp only [Bool.and_eq_true, decide_eq_true_eq] at h5
          obtain ⟨⟨⟨⟨⟨⟨⟨⟨k1, k2⟩, k3⟩, k4⟩, k5⟩, k6⟩, k7⟩, k8⟩, k9⟩ := h5
          intro T W kn X C S'
          exact PS.weak (ps_par3 C.calm C.nd (by rw [C.hN]; exact k4) (by rw [C.hN]; exact k5) (by rw [C.hN]; exact k6) k1 k2 k3 (by rw [C.sc]; exact isLocal_ok k7) (by rw [C.sc]; exact isLocal_ok k8) (by rw [C.sc]; exact isLocal_ok k9) (soundEs es g _ h1 T W kn X C) (by rw [swapped_tup (by rw [C.sc]; exact C.kind) h2, C.sc, h3])) fun En σ H => par3_weak h4
        · cases h5
      · cases h
  | .setI a i e, g, c, h => by
    simp only [chkS] at h
    unfold qSetI at h; split at h
    · rename_i x y p v pos
      simp only [Bool.and_eq_true, Bool.not_eq_true'] at h
      obtain ⟨⟨⟨⟨h1, h2⟩, h3⟩, h4⟩, h5⟩ := h
      intro T W kn X C S'
      refine PS.weak (ps_asg (soundE e g v h1 T W kn X C).1 (pg_sub (soundE a g x h2 T W kn X C).1 (soundE i g y h3 T W kn X C).1 (set_W C.K) (by intro v; cases y <;> first | rfl | (simp [isSlice] at h4))) ?_ ?_) fun En σ H h => setI_weak (s := ()) h
      · show swapsWith v (some (.Subscript x y p)) pos.line X.env = pure false
        exact noComp_sw h5
      · cases v <;> rfl
    · cases h
  | .expr e, g, c, h => by
    simp only [chkS] at h
    unfold qExpr at h; split at h
    · simp only [Bool.and_eq_true, Bool.not_eq_true'] at h
      exact fun T W kn X C S' => PS.weak (ps_expr (soundE e g _ h.1 T W kn X C).1 (noComp_sw h.2)) fun En σ H => expr_weak
    · cases h
  | .ret e, g, c, h => by
    simp only [chkS] at h
    unfold qRet at h; split at h
    · exact fun T W kn X C S' => PS.weak (ps_ret (soundE e g _ h T W kn X C).1) fun En σ H => ret_weak
    · cases h
  | .retN, g, c, h => by
    simp only [chkS] at h
    unfold qRetN at h; split at h
    · exact fun T W kn X C S' => PS.weak ps_retN fun En σ H ⟨μ, ρ, st, R, re, A⟩ => by simp only [evS] at A; exact A.ok R re _ .non
    · cases h
  | .pass, g, c, h => by
    simp only [chkS] at h
    unfold qPass at h; split at h
    · exact fun T W kn X C S' => PS.weak ps_pass fun En σ H ⟨μ, ρ, st, R, re, A⟩ => by simp only [evS] at A; exact A.ok R re
    · cases h
  | .brk, g, c, h => by
    simp only [chkS] at h
    unfold qBrk at h; split at h
    · exact fun T W kn X C S' => PS.weak ps_break fun En σ H ⟨μ, ρ, st, R, re, A⟩ => by simp only [evS] at A; exact A.ok R re
    · cases h
  | .cont, g, c, h => by
    simp only [chkS] at h
    unfold qCont at h; split at h
    · exact fun T W kn X C S' => PS.weak ps_continue fun En σ H ⟨μ, ρ, st, R, re, A⟩ => by simp only [evS] at A; exact A.ok R re
    · cases h
  | .ite t a b, g, c, h => by
    simp only [chkS] at h
    unfold qIf at h; split at h
    · simp only [Bool.and_eq_true, Bool.not_eq_true'] at h
      obtain ⟨⟨⟨h1, h2⟩, h3⟩, h4⟩ := h
      exact fun T W kn X C S' => PS.weak (ps_if ((soundE t g _ h1 T W kn X C).2.1 h2) (soundSs a g _ h3 T W kn X C S') (soundSs b g _ h4 T W kn X C S')) fun En σ H => ite_weak
    · cases h
  | .whl t a, g, c, h => by
    simp only [chkS] at h
    unfold qWhl at h; split at h
    · simp only [Bool.and_eq_true, Bool.not_eq_true'] at h
      obtain ⟨⟨h1, h2⟩, h3⟩ := h
      exact fun T W kn X C S' => PS.weak (ps_while S'.po ((soundE t g _ h1 T W kn X C).2.1 h2) (soundSs a g _ h3 T W kn X C S')) fun En σ H => whl_weak
    · cases h
  | .for_ tg it a, g, c, h => by
    simp only [chkS] at h
    unfold qFor at h; split at h
    · simp only [Bool.and_eq_true, Bool.not_eq_true'] at h
      obtain ⟨⟨⟨h1, h2⟩, h3⟩, h4⟩ := h
      exact fun T W kn X C S' => PS.weak (ps_for S'.po C.calm (soundIt it g _ _ h1 T W kn X C) (sG C.hN C.nd C.sc C.fn C.calm C.K h2) (soundSs a g _ h3 T W kn X C S') (noFold h4)) fun En σ H => for_weak
    · cases h
  | .rais x es, g, c, h => by
    simp only [chkS] at h
    unfold qRais at h; split at h
    · simp only [Bool.and_eq_true, decide_eq_true_eq] at h
      obtain ⟨⟨h1, h2⟩, h3⟩ := h
      have en : es = .nil := by cases es with | nil => rfl | cons _ _ => simp [Es.len] at h3
      subst en
      intro T W kn X C S'
      obtain ⟨B, newId, initId, bmB, F, q1, q2, q3, q4⟩ := S'.exc _ _ h1
      obtain ⟨g1, g2⟩ := glOk_ok C h2
      refine PS.weak (ps_raise C.calm C.tk (pmk_own F q1 q2 q3 q4 g1 g2)) fun En σ H ⟨μ, ρ, st, R, re, A⟩ => ?_
      simp only [evS, evEs] at A
      exact A μ H σ _ _ (Ext.refl R) R re ⟨rfl, rfl, rfl⟩
    · cases h
theorem soundSs : ∀ (s : Ss) (g : G) (c : List Stmt), chkSs s g c = true → OSs g s c
  | .nil, g, [], h => fun T W kn X C S' => PSs.weak pss_nil fun En σ H ⟨μ, ρ, st, R, re, A⟩ => by simp only [evSs] at A; exact A.ok R re
  | .nil, g, _ :: _, h => by simp [chkSs] at h
  | .cons s r, g, [], h => by simp [chkSs] at h
  | .cons s r, g, x :: xs, h => by
    simp only [chkSs, Bool.and_eq_true] at h
    intro T W kn X C S'
    refine PSs.weak (pss_cons (soundS s g x h.1 T W kn X C S') (soundSs r g xs h.2 T W kn X C S')) fun En σ H ⟨μ, ρ, st, R, re, A⟩ => ?_
    simp only [evSs] at A
    refine ⟨μ, ρ, st, R, re, ?_⟩
    cases e : evS kn s ρ st with
    | ok fl ρ1 st1 =>
      rw [e] at A
      cases fl with
      | next => exact fun μ' H' σ' x R' re' => ⟨μ', ρ1, st1, R', re', AftS.shift A x⟩
      | brk => exact A
      | cont => exact A
      | ret d => exact A
    | exc y ρ1 st1 => rw [e] at A; exact A
    | bad => rw [e] at A; exact A
end
end AF

/-! Head: all defs of a text at once, over the head's facts. -/
namespace AF
open PySem PySem.Spec PyProof.Rows L2
def plainArgs (args : List Arg) : Arguments := { posonlyargs := [], args := args, vararg := none, kwonlyargs := [], kw_defaults := [], kwarg := none, defaults := [] }
theorem lookup_zip : ∀ {ns : List Str} {us : List Value}, ns.Nodup → us.length = ns.length → ∀ {i : Nat} (h : i < ns.length), (ns.zip us).lookup ns[i] = us[i]?
  | [], _, _, _, i, h => by simp at h
  | n :: ns, [], _, hl, _, _ => by simp at hl
  | n :: ns, u :: us, nd, hl, 0, h => by simp [List.lookup]
  | n :: ns, u :: us, nd, hl, i + 1, h => by
    have hi : i < ns.length := by simpa using h
    have h1 := lookup_zip (List.nodup_cons.mp nd).2 (by simpa using hl) hi
    have ne : (ns[i] == n) = false := by
      apply beq_eq_false_iff_ne.mpr
      intro e
      exact (List.nodup_cons.mp nd).1 (by rw [← e]; exact List.getElem_mem hi)
    simp only [List.zip_cons_cons, List.getElem_cons_succ, List.lookup, ne, h1, List.getElem?_cons_succ]
theorem filterMap_some {α β : Type} {f : α → Option β} {g : α → β} : ∀ {l : List α}, (∀ a ∈ l, f a = some (g a)) → l.filterMap f = l.map g
  | [], _ => rfl
  | a :: l, h => by
    rw [List.filterMap_cons, h a List.mem_cons_self, List.map_cons, filterMap_some fun b hb => h b (List.mem_cons_of_mem _ hb)]
theorem filterMap_zip {ns : List Str} {us : List Value} (nd : ns.Nodup) (hl : us.length = ns.length) : (ns.filterMap fun n => ((ns.zip us).lookup n).map (n, ·)) = ns.zip us := by
  have h : ∀ n ∈ ns, ∃ u, (ns.zip us).lookup n = some u := fun n hn => by
    obtain ⟨i, hi, e⟩ := List.mem_iff_getElem.mp hn
    exact ⟨us[i]'(by omega), by rw [← e, lookup_zip nd hl hi, List.getElem?_eq_getElem]⟩
  apply List.ext_getElem?
  intro i
  have e1 : (ns.filterMap fun n => ((ns.zip us).lookup n).map (n, ·)) = ns.map fun n => (n, ((ns.zip us).lookup n).getD .none) := by
    refine filterMap_some fun n hn => ?_
    obtain ⟨u, hu⟩ := h n hn
    simp [hu]
  rw [e1, List.getElem?_map]
  by_cases hi : i < ns.length
  · rw [List.getElem?_eq_getElem hi, List.getElem?_eq_getElem (by simp; omega)]
    have := lookup_zip nd hl hi
    rw [List.getElem?_eq_getElem (by omega)] at this
    simp [this]
  · rw [List.getElem?_eq_none (by omega), List.getElem?_eq_none (by simp; omega)]
    rfl
theorem missing_zip {ns : List Str} {us : List Value} (nd : ns.Nodup) (hl : us.length = ns.length) : (ns.filter fun n => ((ns.zip us).lookup n).isNone) = [] := by
  rw [List.filter_eq_nil_iff]
  intro n hn
  obtain ⟨i, hi, e⟩ := List.mem_iff_getElem.mp hn
  rw [← e, lookup_zip nd hl hi, List.getElem?_eq_getElem (by omega)]
  simp
theorem bind_plain {x qual : Str} {body : List Stmt} {scope : Scope} {kV doc pm : Value} {an : Option Addr} {cdv ct : Value} (args : List Arg) (us : List Value) (hl : us.length = (args.map (·.arg)).length) (nd : (args.map (·.arg)).Nodup) :
    bindArgs (PySem.W.fnOf x qual (plainArgs args) body scope .none kV doc pm an cdv ct) ⟨us, []⟩ = pure ((args.map (·.arg)).zip us) := by
  have h0 : seqItems? (PySem.W.fnOf x qual (plainArgs args) body scope .none kV doc pm an cdv ct).defaults = pure none := rfl
  have hm := missing_zip nd hl
  have hf := filterMap_zip nd hl
  unfold bindArgs
  rw [h0]
  simp only [plainArgs, PySem.W.fnOf, List.map_nil, List.nil_append, List.append_nil, pure_bind, List.forIn_nil, Option.getD_none, List.drop_nil, List.length_nil, Nat.sub_zero, List.zip_nil_right]
  rw [if_neg (by simp [hl]), List.take_length, hm, hf]
  rfl
/-- a def: its name, its slots' names, its text, its core -/
structure FnE where
  name : Str
  N : List Str
  st : Stmt
  fn : Fn
/-- a constant of the module -/
inductive CV where
  | int (i : Int)
  | tup (xs : List (List Nat))
def CV.d : CV → D
  | .int i => .int i
  | .tup xs => .tup (xs.map .str)
structure Txt where
  fns : List FnE
  excs : List Str
  cons : List (Str × CV)
  fuel : Nat
def Txt.prog (p : Txt) : Prog := ⟨p.cons.map (·.2.d), p.fns.map (·.fn), p.fuel⟩
def Txt.g (p : Txt) (e : FnE) : G := { fns := p.fns.map fun e => (e.name, e.fn.ps), excs := p.excs, cons := p.cons.map (·.1), N := e.N, sc := defScope e.st, blk := none }
def scopeOk (N ps : List Str) (sc : Scope) : Bool :=
  (match sc.kind with | .function => true | _ => false) && !sc.isCoroutine && !sc.isGenerator && decide N.Nodup && decide (N.take ps.length = ps) && (ps.all fun x => isLocal (sc.names.lookup x) || isCell (sc.names.lookup x)) && (sc.names.all fun y => match y.2 with | .free => false | _ => true)
def argsOf (a : Arguments) : Option (List Arg) := match a with
  | ⟨[], args, none, [], [], none, []⟩ => some args
  | _ => none
def chkFn (p : Txt) (e : FnE) : Bool := match argsOf (defArgs e.st) with
  | some args => decide ((args.map (·.arg)).Nodup) && decide (args.length = e.fn.ps) && decide (e.fn.n = e.N.length) && scopeOk e.N (args.map (·.arg)) (defScope e.st) && chkSs e.fn.body (p.g e) (defBody e.st)
  | none => false
def FnE.dd (e : FnE) : He.DefD := ⟨(e.name, none), e.name, e.name, defArgs e.st, defBody e.st, defScope e.st, [], []⟩
def CV.ok (K : PySem.W.Frag) (x : Str) : CV → Bool
  | .int i => (He.Fa.int x i).ok K
  | .tup xs => (He.Fa.glo x).ok K && He.tupB K x (xs.map fun s => He.Dv.str (toStr s))
def Txt.fa (p : Txt) : List He.Fa := p.fns.map (fun e => He.Fa.glo e.name) ++ (p.excs.map He.Fa.glo ++ (p.excs.map He.Fa.exc ++ bNames.map He.Fa.free))
def Txt.conB (p : Txt) (K : PySem.W.Frag) : Bool := p.cons.all fun c => c.2.ok K c.1
abbrev AlA : Type := He.AlD × Bool
def Txt.obs (p : Txt) (n : Nat) (g : Addr → Option Obj) : AlA := (He.obsD p.fa (p.fns.map FnE.dd) (He.frG g (He.asD g n)), p.conB (He.frG g (He.asD g n)))
structure Says (p : Txt) (K : PySem.W.Frag) : Prop where
  d : He.SaysD p.fa (p.fns.map FnE.dd) K
  c : p.conB K = true
def Txt.hook (p : Txt) (n : Nat) : PySem.W.Hook where
  α := AlA
  obs := fun s => p.obs n s.heap.get?
  val := fun _ => (He.valD (p.fns.map FnE.dd), true)
  says := fun _ h => ∃ K : PySem.W.Frag, K.In h ∧ Says p K
  of := fun _ _ e => ⟨_, He.frG_in, congrArg (fun z : AlA => z.1) e, congrArg (fun z : AlA => z.2) e⟩
  keeps := fun _ _ _ ⟨K, hK, c⟩ k => ⟨K, PySem.W.Frag.In.keeps hK k, c⟩
theorem obs_eq {p : Txt} {n : Nat} (s : PySem.W.SharedT) : p.obs n (HandSHeadRun.getT s) = (p.hook n).obs s.abs := by
  have e : HandSHeadRun.getT s = s.abs.heap.get? := funext (HandSHeadRun.getT_eq s)
  rw [e] <;> rfl

def Txt.tx (p : Txt) (K : PySem.W.Frag) : Tx where
  K := K
  fa := fun i => match p.fns[i]? with
    | some e => He.ga K e.name
    | none => 0
  ca := fun i => match p.excs[i]? with
    | some x => He.ga K x
    | none => 0
  gh := []
theorem facts_mem {fa : List He.Fa} {fn : List He.DefD} {K : PySem.W.Frag} (c : He.SaysD fa fn K) {f : He.Fa} (h : f ∈ fa) : f.ok K = true := by
  obtain ⟨i, hi, e⟩ := List.mem_iff_getElem.mp h
  exact c.fact i (f := f) (by rw [List.getElem?_eq_getElem hi, e])
theorem defs_mem {fa : List He.Fa} {fn : List He.DefD} {K : PySem.W.Frag} (c : He.SaysD fa fn K) {d : He.DefD} (h : d ∈ fn) : ∃ fd, FunD K d.name d.qual d.params d.body d.scope (d.dvs K) (d.kws K) (He.fAd K d.at_) fd := by
  obtain ⟨i, hi, e⟩ := List.mem_iff_getElem.mp h
  exact c.def_ i (d := d) (by rw [List.getElem?_eq_getElem hi, e])
section
variable {p : Txt} {P : Program} {w : World} {K : PySem.W.Frag} {mg : Str → Option Value} {base : Heap}
theorem reps_strs {T : Tx} {μ : List Addr} {H : Hp} : ∀ xs : List (List Nat), Reps T μ H (xs.map .str) ((xs.map fun s => He.Dv.str (toStr s)).map (He.Dv.v K))
  | [] => .nil
  | s :: r => .cons (.str s) (reps_strs r)
theorem con_fact (X : K.In base) (Gn : base.Ns mainGlobals mg) {x : Str} {c : CV} (h : c.ok K x = true) : ∃ v u, mg x = some u ∧ RelV v u ∧ ∀ T μ H, T.K = K → Rep T μ H c.d v := by
  cases c with
  | int i =>
    obtain ⟨t, e⟩ := He.int_ok X Gn h
    exact ⟨.int i, _, e, ⟨t, rfl⟩, fun T μ H _ => .int i⟩
  | tup xs =>
    obtain ⟨h1, h2⟩ := He.ba h
    have e := He.glo_ok X Gn h1
    refine ⟨.ref (He.ga K x), _, e, rfl, fun T μ H hK => ?_⟩
    exact .tup (by rw [hK]; exact He.tupB_ok h2 H) (reps_strs xs)
def FnsOk (p : Txt) (P : Program) (w : World) (K : PySem.W.Frag) (mg : Str → Option Value) (base : Heap) (k : Nat) : Prop :=
  ∀ (f : Nat) (e : FnE), p.fns[f]? = some e → ∃ fd ps, ((∃ oc od osl, K.lookup (He.ga K e.name) = some ⟨oc, od, .func fd, osl⟩) ∧ ∃ args, argsOf (defArgs e.st) = some args ∧ ps = args.map (·.arg)) ∧ mg e.name = some (.ref (He.ga K e.name)) ∧ PySem.W.keepIn K (.ref (He.ga K e.name)) = true ∧ Binds K fd ps [] ∧ ps.length = e.fn.ps ∧
    (∀ (s : Shared) (us : List Value), us.length = ps.length → BindsTo s fd ⟨us, []⟩ (ps.zip us)) ∧ FnOk P w K mg base (L2.CX P w) k (He.ga K e.name) fd ps (spF (p.tx K) e.fn.ps (evCall p.prog k f))
theorem argsOf_ok {a : Arguments} {args : List Arg} (h : argsOf a = some args) : a = plainArgs args := by
  unfold argsOf at h; split at h
  · cases h; rfl
  · cases h
theorem ev0_bad {ds : List D} {st : Store} {f : Nat} : evCall p.prog 0 f ds st = .bad := by unfold evCall; rfl
/-- what a def binds -/
theorem fn_binds {e : FnE} {args : List Arg} {fd : FuncData} (ha : argsOf (defArgs e.st) = some args) (h7 : (args.map (·.arg)).Nodup) (F : FunD K e.dd.name e.dd.qual e.dd.params e.dd.body e.dd.scope (e.dd.dvs K) (e.dd.kws K) (He.fAd K e.dd.at_) fd) :
    ∀ (s : Shared) (us : List Value), us.length = (args.map (·.arg)).length → BindsTo s fd ⟨us, []⟩ ((args.map (·.arg)).zip us) := by
  have hb : ∀ (kV doc pm : Value) (an : Option Addr) (cdv ct : Value) (us : List Value), us.length = (args.map (·.arg)).length → bindArgs (PySem.W.fnOf e.dd.name e.dd.qual e.dd.params e.dd.body e.dd.scope .none kV doc pm an cdv ct) ⟨us, []⟩ = pure ((args.map (·.arg)).zip us) := fun kV doc pm an cdv ct us hl => by
    have e1 : e.dd.params = plainArgs args := argsOf_ok ha
    rw [e1]
    exact bind_plain args us hl h7
  exact FunD.bindsA F hb
theorem callBody_aft {T : Tx} {E : XK} {kn : Kn} {fn : Fn} {ds : List D} {st : Store} {μ : List Addr} {H : Hp} {Q : VK} (h : Aft T (fun c d _ H' => E c d H') [] (RepT T) (callBody kn fn ds st) μ H Q) :
    ds.length = fn.ps ∧ AftS T (fun c d _ H' => E c d H') { nx := fun _ H' => Q .non H', rt := Q } (evSs kn fn.body (AF.envOf fn.n ds) st) μ H := by
  unfold callBody at h
  split at h
  · rename_i hl
    refine ⟨hl, ?_⟩
    cases e : evSs kn fn.body (AF.envOf fn.n ds) st with
    | ok fl ρ st' =>
      rw [e] at h
      cases fl with
      | next => exact fun μ' H' σ' x R re => h μ' H' .non x R .non
      | ret d => exact fun μ' H' σ' x R re v rv => h μ' H' v x R rv
      | brk => exact h.elim
      | cont => exact h.elim
    | exc y ρ st' => rw [e] at h; exact fun μ' H' σ' cls dx x R re P => h μ' H' cls dx x R P
    | bad => rw [e] at h; exact h.elim
  · exact h.elim
theorem scopeOk_ok {N ps : List Str} {sc : Scope} (h : scopeOk N ps sc = true) : FnScope N ps sc := by
  unfold scopeOk at h
  simp only [Bool.and_eq_true, Bool.not_eq_true', decide_eq_true_eq, List.all_eq_true, Bool.or_eq_true] at h
  obtain ⟨⟨⟨⟨⟨⟨h1, h2⟩, h3⟩, h4⟩, h5⟩, h6⟩, h7⟩ := h
  refine ⟨?_, h2, h3, h4, h5, fun x hx => ?_, fun y hy e => ?_⟩
  · split at h1
    · assumption
    · cases h1
  · rcases h6 x hx with z | z
    · exact .inl (isLocal_ok z)
    · exact .inr (isCell_ok z)
  · have := h7 y hy
    rw [e] at this; cases this
theorem FunD.lk {x qual : Str} {params : Arguments} {body : List Stmt} {scope : Scope} {dvs : List V} {kws : List (Str × V)} {f : Addr} {fd : FuncData} (F : FunD K x qual params body scope dvs kws f fd) : ∃ oc od osl, K.lookup f = some ⟨oc, od, .func fd, osl⟩ := by
  obtain ⟨oc, od, dV, kV, doc, pm, an, cdv, ct, osl, _, lk, _⟩ := F.ex
  exact ⟨oc, od, osl, lk⟩
theorem fns_ok (X : K.In base) (Gn : base.Ns mainGlobals mg) (c : Says p K) (hc : p.fns.all (chkFn p) = true) : ∀ k, FnsOk p P w K mg base k := by
  intro k
  induction k with
  | zero =>
    intro f e he
    have hm := List.mem_of_getElem? he
    have ck := List.all_eq_true.mp hc e hm
    obtain ⟨fd, F⟩ := defs_mem c.d (d := e.dd) (List.mem_map_of_mem hm)
    unfold chkFn at ck
    split at ck
    · rename_i args ha
      simp only [Bool.and_eq_true, decide_eq_true_eq] at ck
      obtain ⟨⟨⟨⟨k1, k2⟩, k3⟩, k4⟩, k5⟩ := ck
      have b := fn_binds (K := K) (fd := fd) ha k1 F
      refine ⟨fd, args.map (·.arg), ⟨FunD.lk F, args, ha, rfl⟩, He.glo_ok X Gn (facts_mem c.d (List.mem_append_left _ (List.mem_map_of_mem (f := fun e : FnE => He.Fa.glo e.name) hm))), F.kp, fun s us _ hl => ?_, by simpa using k2, b, ⟨fun vs H Q E q => ?_, fun A outer s H ar us vs Q E _ _ _ _ q => ?_⟩⟩
      · rw [List.append_nil] at hl ⊢; exact b s us hl
      · rw [q.1]; simpa using k2.symm
      · obtain ⟨_, gh, μ, ds, st, _, _, A⟩ := q
        rw [ev0_bad] at A
        exact A.elim
    · cases ck
  | succ k ih =>
    intro f e he
    have hm := List.mem_of_getElem? he
    have ck := List.all_eq_true.mp hc e hm
    obtain ⟨fd, F⟩ := defs_mem c.d (d := e.dd) (List.mem_map_of_mem hm)
    unfold chkFn at ck
    split at ck
    · rename_i args ha
      simp only [Bool.and_eq_true, decide_eq_true_eq] at ck
      obtain ⟨⟨⟨⟨k1, k2⟩, k3⟩, k4⟩, k5⟩ := ck
      have b := fn_binds (K := K) (fd := fd) ha k1 F
      have S := scopeOk_ok k4
      refine ⟨fd, args.map (·.arg), ⟨FunD.lk F, args, ha, rfl⟩, He.glo_ok X Gn (facts_mem c.d (List.mem_append_left _ (List.mem_map_of_mem (f := fun e : FnE => He.Fa.glo e.name) hm))), F.kp, fun s us _ hl => ?_, by simpa using k2, b,
        F.ok S (fun vs H Q E q => by rw [q.1]; simpa using k2.symm) fun cdv A outer s H vs Q E hr q => ?_⟩
      · rw [List.append_nil] at hl ⊢; exact b s us hl
      obtain ⟨_, gh, μ, ds, st, R, rs, Af⟩ := q
      have ef : evCall p.prog (k + 1) f ds st = callBody ⟨p.prog.cons, p.prog.fuel, evCall p.prog k⟩ e.fn ds st := by
        have h1 : p.prog.fns[f]? = some e.fn := by
          show (p.fns.map (·.fn))[f]? = _
          rw [List.getElem?_map, he]; rfl
        rw [evCall, h1]
      rw [ef] at Af
      obtain ⟨hl, AS⟩ := callBody_aft Af
      refine ⟨rdS ((p.tx K).with gh) (fun c d _ H' => E c d H') (evSs ⟨p.prog.cons, p.prog.fuel, evCall p.prog k⟩ e.fn.body), ?_, μ, AF.envOf e.fn.n ds, st, R, REnv.envOf rs k3, AS⟩
      refine soundSs e.fn.body (p.g e) (defBody e.st) k5 _ _ _ _ ⟨rfl, S.nd, rfl, S.kind, fun x _ => rfl, rfl, rfl, takes_of (E := E) rfl rfl rfl rfl, ?_, ?_, ?_, ?_⟩ ⟨passes_of rfl, ?_⟩
      · have := hr.un
        show (A.deeper _).units + 65 < cLine
        omega
      · intro x hx
        exact He.free_ok X Gn (facts_mem c.d (List.mem_append_right _ (List.mem_append_right _ (List.mem_append_right _ (List.mem_map_of_mem hx)))))
      · intro i x d h1 h2
        have h1 : (p.cons.map (·.1))[i]? = some x := h1
        have h2 : (p.cons.map (·.2.d))[i]? = some d := h2
        rw [List.getElem?_map] at h1 h2
        cases e1 : p.cons[i]? with
        | none => rw [e1] at h1; cases h1
        | some q =>
          rw [e1] at h1 h2
          cases h1; cases h2
          obtain ⟨v, u, m1, m2, m3⟩ := con_fact X Gn (List.all_eq_true.mp c.c q (List.mem_of_getElem? e1))
          exact ⟨v, u, m1, m2, fun gh' μ H => m3 _ μ H rfl⟩
      · intro f' x n h1
        have h1 : (p.fns.map fun e => (e.name, e.fn.ps))[f']? = some (x, n) := h1
        rw [List.getElem?_map] at h1
        cases e1 : p.fns[f']? with
        | none => rw [e1] at h1; cases h1
        | some e' =>
          rw [e1] at h1
          cases h1
          obtain ⟨fd', ps', _, m1, m2, m3, m4, _, m5⟩ := ih f' e' e1
          have efa : ((p.tx K).with gh).fa f' = He.ga K e'.name := by show (match p.fns[f']? with | some e => He.ga K e.name | none => 0) = _; rw [e1]
          exact ⟨k, fd', ps', by rw [efa]; exact m1, by rw [efa]; exact m2, m3, hr, by rw [efa]; exact m5⟩
      · intro i x h1
        have h1 : p.excs[i]? = some x := h1
        have hx := List.mem_of_getElem? h1
        have eca : ((p.tx K).with gh).ca i = He.ga K x := by show (match p.excs[i]? with | some x => He.ga K x | none => 0) = _; rw [h1]
        obtain ⟨q1, q2, q3, q4⟩ := He.exc_ok (facts_mem c.d (List.mem_append_right _ (List.mem_append_right _ (List.mem_append_left _ (List.mem_map_of_mem (f := He.Fa.exc) hx)))))
        have q5 := He.glo_ok X Gn (facts_mem c.d (List.mem_append_right _ (List.mem_append_left _ (List.mem_map_of_mem (f := He.Fa.glo) hx))))
        exact ⟨_, _, _, _, PySem.F.excBase_ValueError, by rw [eca]; exact q1, by rw [eca]; exact q5, by rw [eca]; exact q2, by rw [eca]; exact raises_own q3 q4⟩
    · cases ck
/-- the script -/
theorem scr_rep {T : Tx} {μ : List Addr} {H : Hp} {a : Addr} {ns : List Int} (hO : Only H) (hS : SqL T.K H a (ns.map V.int)) : Rep T μ H (.scr ns) (.ref a) := by
  refine .scr ?_
  rcases hS with (h | ⟨o, h⟩) | h
  · rcases hO a with z | ⟨o, xs, z⟩
    · rw [z] at h; cases h
    · rw [z] at h; cases h
  · exact .inl ⟨o, h⟩
  · exact .inr h
/-- a law's def keeps its promise, where the core's law is right -/
theorem law_facts {k li : Nat} {le : FnE} {fa : Addr} {h : Heap} (X : K.In h) (Gn : h.Ns mainGlobals mg) (c : Says p K) (hc : p.fns.all (chkFn p) = true) (hli : p.fns[li]? = some le) (h1 : le.fn.ps = 1) (hfa : mg le.name = some (.ref fa)) :
    ∃ fd x, (∀ (s : Shared) (u : Value), BindsTo s fd ⟨[u], []⟩ [(x, u)]) ∧ ∀ base : Heap, K.In base → base.Ns mainGlobals mg → FnOk P w K mg base (L2.CX P w) k fa fd [x] (spF (p.tx K) 1 (evCall p.prog k li)) := by
  obtain ⟨fd, ps, ⟨⟨oc, od, osl, lk⟩, args, ha, ep⟩, m1, m2, m3, m4, m5, m6⟩ := fns_ok (P := P) (w := w) X Gn c hc k li le hli
  rw [h1] at m4
  obtain ⟨x, hx⟩ : ∃ x, ps = [x] := by
    match ps, m4 with
    | [x], _ => exact ⟨x, rfl⟩
  have e := hfa.symm.trans m1
  cases e
  refine ⟨fd, x, fun s u => by have := m5 s [u] (by rw [hx]; rfl); rw [hx] at this; exact this, fun base KB GB => ?_⟩
  obtain ⟨fd', ps', ⟨⟨oc', od', osl', lk'⟩, args', ha', ep'⟩, n1, n2, n3, n4, n5, n6⟩ := fns_ok (P := P) (w := w) KB GB c hc k li le hli
  rw [lk] at lk'
  rw [ha] at ha'
  cases lk'; cases ha'
  rw [ep', ← ep, hx, h1] at n6
  exact n6
end
/-- a law's end, over a head of these facts -/
theorem walk_A {p : Txt} {l : PySem.W.OpenLaw} {n k N li : Nat} {le : FnE} {q : Program} {loose : List Str} {XP : (Str → Option Value) → Heap → Prop} {d : DefRec}
    (hn : l.most = some n) (hn2 : n ≤ sizeLine) (hdf : d.params.defaults = []) (hr : Room k callerA) (hname : d.name = le.name) (hc : p.fns.all (chkFn p) = true) (hli : p.fns[li]? = some le) (h1 : le.fn.ps = 1)
    (pure_ : ∀ ns : List Int, ns.length ≤ n → ∃ st, evCall p.prog k li [.scr ns] [] = .ok (.bl true) st) :
    PySem.W.WalkO q loose XP (p.hook N).says l.row.toRowW d [] (fun f vs => PySem.call f vs) := by
  refine Att.attach_call hn hdf fun w s₀ s₁ mg mb fa o pm cd doc a vs ns Gn Y ho hd hcd hmg hobj hints hlen hg => ?_
  obtain ⟨K, KX, c⟩ := Y
  rw [hname] at hmg
  obtain ⟨fd, x, hb, hF⟩ := law_facts (P := l.prog) (w := w) (k := k) KX Gn.T.g c hc hli h1 hmg
  refine law_call (CX := L2.CX l.prog w) KX Gn.T.g Gn.T.b Gn.T.builtins Gn.T.nolimit hg hobj hints (Nat.le_trans hlen hn2) hr hF hb (fun H hO hS => ?_) fun H e s' h => ?_
  · obtain ⟨st, e⟩ := pure_ ns hlen
    refine ⟨rfl, [], [], [.scr ns], [], ⟨rfl, fun i j a h => by simp at h, fun n o h => by simp at h, fun a ha => by cases ha⟩, .cons (scr_rep hO hS) .nil, ?_⟩
    rw [e]
    intro μ' H' v _ _ r
    cases r; rfl
  · obtain ⟨_, _, _, _, _, _, _, _, _, _, _, _, h⟩ := h
    exact h
end AF

/-! Enc: plain data compared; loops and comprehensions of the core by plain lists. -/
namespace AF
open PySem
/-- ints, texts, tuples, frozen lists, None -/
def plD : Nat → D → Bool
  | 0, _ => false
  | k + 1, d => match d with
    | .non => true
    | .int _ => true
    | .str x => cpsOk x
    | .tup l => l.all (plD k)
    | .lst l => l.all (plD k)
    | _ => false
theorem optAll_some {α β : Type} {f : α → Option β} : ∀ {l : List α}, (∀ a ∈ l, ∃ b, f a = some b) → ∃ r, optAll f l = some r
  | [], _ => ⟨[], rfl⟩
  | a :: l, h => by
    obtain ⟨b, hb⟩ := h a List.mem_cons_self
    obtain ⟨r, hr⟩ := optAll_some (l := l) fun c hc => h c (List.mem_cons_of_mem _ hc)
    exact ⟨b :: r, by simp [optAll, hb, hr]⟩
theorem py_pl (st : Store) : ∀ (k : Nat) (d : D), plD k d = true → ∃ p, py st k d = some p
  | 0, _, h => by simp [plD] at h
  | k + 1, d, h => by
    cases d <;> simp only [plD] at h <;> first | (cases h; done) | skip
    · exact ⟨_, py_non st k⟩
    · exact ⟨_, py_int st k _⟩
    · exact ⟨_, by rw [py_str, if_pos h]⟩
    · rename_i l
      obtain ⟨r, hr⟩ := optAll_some (f := py st k) (l := l) fun a ha => py_pl st k a (List.all_eq_true.mp h a ha)
      exact ⟨_, by rw [py_tup, hr]; rfl⟩
    · rename_i l
      obtain ⟨r, hr⟩ := optAll_some (f := py st k) (l := l) fun a ha => py_pl st k a (List.all_eq_true.mp h a ha)
      exact ⟨_, by rw [py_lst, hr]; rfl⟩
theorem toStr_beq (x y : List Nat) : (toStr x == toStr y) = (x == y) := by
  by_cases h : x = y
  · subst h; simp
  · have h2 : toStr x ≠ toStr y := fun e => h (by unfold toStr at e; simpa using e)
    rw [beq_eq_false_iff_ne.mpr h, beq_eq_false_iff_ne.mpr h2]
theorem eqv_pl (st : Store) : ∀ (k : Nat) (a b : D) (p q : PyData), plD k a = true → plD k b = true → py st k a = some p → py st k b = some q → PyData.eqv p q = D.beq a b
  | 0, _, _, _, _, h, _, _, _ => by simp [plD] at h
  | k + 1, a, b, p, q, h1, h2, e1, e2 => by
    have ihl : ∀ (l m : List D) (ps qs : List PyData), l.all (plD k) = true → m.all (plD k) = true → optAll (py st k) l = some ps → optAll (py st k) m = some qs → PyData.eqvAll ps qs = D.beqs l m := by
      intro l
      induction l with
      | nil =>
        intro m ps qs _ hm f1 f2
        cases f1
        cases m with
        | nil => cases f2; simp [PyData.eqvAll, D.beqs]
        | cons b m =>
          simp only [optAll] at f2
          split at f2
          · split at f2
            · cases f2; simp [PyData.eqvAll, D.beqs]
            · cases f2
          · cases f2
      | cons a l il =>
        intro m ps qs hl hm f1 f2
        simp only [List.all_cons, Bool.and_eq_true] at hl
        simp only [optAll] at f1
        split at f1
        · rename_i p e1
          split at f1
          · rename_i r e2
            cases f1
            cases m with
            | nil => cases f2; simp [PyData.eqvAll, D.beqs]
            | cons b m =>
              simp only [List.all_cons, Bool.and_eq_true] at hm
              simp only [optAll] at f2
              split at f2
              · rename_i q e3
                split at f2
                · rename_i s e4
                  cases f2
                  simp only [PyData.eqvAll, D.beqs]
                  rw [eqv_pl st k a b p q hl.1 hm.1 e1 e3, il m r s hl.2 hm.2 e2 e4]
                · cases f2
              · cases f2
          · cases f1
        · cases f1
    cases a <;> simp only [plD] at h1 <;> first | (cases h1; done) | skip
    all_goals (cases b <;> simp only [plD] at h2 <;> first | (cases h2; done) | skip)
    all_goals simp only [py_non, py_int, py_str, py_tup, py_lst, h1, h2, if_true] at e1 e2
    all_goals first
      | (cases e1; cases e2; simp [PyData.eqv, D.beq, toStr_beq]; done)
      | (obtain ⟨r1, f1, g1⟩ := Option.map_eq_some_iff.mp e1; obtain ⟨r2, f2, g2⟩ := Option.map_eq_some_iff.mp e2; subst g1 g2; simp only [PyData.eqv, D.beq]; exact ihl _ _ _ _ h1 h2 f1 f2)
      | (obtain ⟨r1, f1, g1⟩ := Option.map_eq_some_iff.mp e1; obtain ⟨r2, f2, g2⟩ := Option.map_eq_some_iff.mp e2; subst g1 g2; simp [PyData.eqv, D.beq]; done)
      | (cases e1; obtain ⟨r2, f2, g2⟩ := Option.map_eq_some_iff.mp e2; subst g2; simp [PyData.eqv, D.beq]; done)
      | (cases e2; obtain ⟨r1, f1, g1⟩ := Option.map_eq_some_iff.mp e1; subst g1; simp [PyData.eqv, D.beq]; done)
theorem eqD_pl {a b : D} (st : Store) (ha : plD 24 a = true) (hb : plD 24 b = true) : eqD st a b = some (D.beq a b) := by
  obtain ⟨p, hp⟩ := py_pl st 24 a ha
  obtain ⟨q, hq⟩ := py_pl st 24 b hb
  unfold eqD look PYN
  rw [hp, hq]
  simp only
  rw [eqv_pl st 24 a b p q ha hb hp hq]
theorem optAll_any {f : D → Option PyData} {g : PyData → Bool} {h : D → Bool} : ∀ {l : List D} {r : List PyData}, (∀ a ∈ l, ∀ p, f a = some p → g p = h a) → optAll f l = some r → r.any g = l.any h
  | [], r, _, e => by cases e; rfl
  | a :: l, r, hh, e => by
    simp only [optAll] at e
    split at e
    · rename_i p e1
      split at e
      · rename_i s e2
        cases e
        rw [List.any_cons, List.any_cons, hh a List.mem_cons_self p e1, optAll_any (fun b hb => hh b (List.mem_cons_of_mem _ hb)) e2]
      · cases e
    · cases e
theorem plD_up (st : Store) : ∀ (k : Nat) (d : D), plD k d = true → ∀ p, py st k d = some p → plD (k + 1) d = true ∧ py st (k + 1) d = some p := by
  intro k
  induction k with
  | zero => intro d h; simp [plD] at h
  | succ k ih =>
    intro d h p hp
    have lst : ∀ (l : List D) (r : List PyData), l.all (plD k) = true → optAll (py st k) l = some r → l.all (plD (k + 1)) = true ∧ optAll (py st (k + 1)) l = some r := by
      intro l
      induction l with
      | nil => intro r _ e; exact ⟨rfl, e⟩
      | cons a l il =>
        intro r hl e
        simp only [List.all_cons, Bool.and_eq_true] at hl
        simp only [optAll] at e
        split at e
        · rename_i p e1
          split at e
          · rename_i s e2
            cases e
            obtain ⟨u1, u2⟩ := ih a hl.1 p e1
            obtain ⟨v1, v2⟩ := il s hl.2 e2
            exact ⟨by rw [List.all_cons, u1, v1]; rfl, by simp only [optAll, u2, v2]⟩
          · cases e
        · cases e
    cases d <;> simp only [plD] at h <;> first | (cases h; done) | skip
    · rw [py_non] at hp; exact ⟨rfl, by rw [py_non]; exact hp⟩
    · rw [py_int] at hp; exact ⟨rfl, by rw [py_int]; exact hp⟩
    · rw [py_str] at hp; exact ⟨h, by rw [py_str]; exact hp⟩
    · rename_i l
      rw [py_tup] at hp
      obtain ⟨r, f1, g1⟩ := Option.map_eq_some_iff.mp hp
      obtain ⟨v1, v2⟩ := lst l r h f1
      exact ⟨v1, by rw [py_tup, v2, ← g1]; rfl⟩
    · rename_i l
      rw [py_lst] at hp
      obtain ⟨r, f1, g1⟩ := Option.map_eq_some_iff.mp hp
      obtain ⟨v1, v2⟩ := lst l r h f1
      exact ⟨v1, by rw [py_lst, v2, ← g1]; rfl⟩
theorem plD_up' {k : Nat} {d : D} (h : plD k d = true) : plD (k + 1) d = true := by
  obtain ⟨p, hp⟩ := py_pl [] k d h
  exact (plD_up [] k d h p hp).1
theorem any_pl (st : Store) {a : D} {l : List D} {p : PyData} {r : List PyData} (ha : plD 23 a = true) (hp : py st 24 a = some p) (hl : l.all (plD 23) = true) (hr : optAll (py st 23) l = some r) : (r.any fun z => PyData.eqv z p) = l.any fun z => D.beq z a := by
  refine optAll_any (fun z hz y hy => ?_) hr
  obtain ⟨u1, u2⟩ := plD_up st 23 z (List.all_eq_true.mp hl z hz) y hy
  exact eqv_pl st 24 z a y p u1 (plD_up' ha) u2 hp
theorem inD_plT {a : D} {l : List D} (st : Store) (ha : plD 23 a = true) (hl : l.all (plD 23) = true) : inD st a (.tup l) = some (l.any fun z => D.beq z a) := by
  obtain ⟨p, hp⟩ := py_pl st 24 a (plD_up' ha)
  obtain ⟨q, hq⟩ := optAll_some (f := py st 23) (l := l) fun a ha => py_pl st 23 a (List.all_eq_true.mp hl a ha)
  have hq' : py st 24 (.tup l) = some (.tuple q) := by rw [show (24 : Nat) = 23 + 1 from rfl, py_tup, hq]; rfl
  unfold inD look PYN
  rw [hp, hq']
  simp only
  rw [any_pl st ha hp hl hq]
theorem inD_plL {a : D} {l : List D} (st : Store) (ha : plD 23 a = true) (hl : l.all (plD 23) = true) : inD st a (.lst l) = some (l.any fun z => D.beq z a) := by
  obtain ⟨p, hp⟩ := py_pl st 24 a (plD_up' ha)
  obtain ⟨q, hq⟩ := optAll_some (f := py st 23) (l := l) fun a ha => py_pl st 23 a (List.all_eq_true.mp hl a ha)
  have hq' : py st 24 (.lst l) = some (.list q) := by rw [show (24 : Nat) = 23 + 1 from rfl, py_lst, hq]; rfl
  unfold inD look PYN
  rw [hp, hq']
  simp only
  rw [any_pl st ha hp hl hq]
theorem look_ref {l : List D} {n : Nat} (st : Store) (hn : st[n]? = some (.lst l)) (hl : l.all (plD 23) = true) : ∃ q, optAll (py st 23) l = some q ∧ py st 24 (.ref n) = some (.list q) := by
  obtain ⟨q, hq⟩ := optAll_some (f := py st 23) (l := l) fun a ha => py_pl st 23 a (List.all_eq_true.mp hl a ha)
  refine ⟨q, hq, ?_⟩
  rw [show (24 : Nat) = 23 + 1 from rfl, py]
  simp only [hn, hq]; rfl
theorem inD_plR {a : D} {l : List D} {n : Nat} (st : Store) (hn : st[n]? = some (.lst l)) (ha : plD 23 a = true) (hl : l.all (plD 23) = true) : inD st a (.ref n) = some (l.any fun z => D.beq z a) := by
  obtain ⟨p, hp⟩ := py_pl st 24 a (plD_up' ha)
  obtain ⟨q, hq, hq'⟩ := look_ref st hn hl
  unfold inD look PYN
  rw [hp, hq']
  simp only
  rw [any_pl st ha hp hl hq]
theorem count_plR {a : D} {l : List D} {n : Nat} (st : Store) (hn : st[n]? = some (.lst l)) (ha : plD 23 a = true) (hl : l.all (plD 23) = true) : mth .count (.ref n) [a] st = .ok (.int ((l.filter fun z => D.beq z a).length : Nat)) st := by
  obtain ⟨p, hp⟩ := py_pl st 24 a (plD_up' ha)
  obtain ⟨q, hq, hq'⟩ := look_ref st hn hl
  have key : ∀ (l : List D) (r : List PyData), l.all (plD 23) = true → optAll (py st 23) l = some r → (r.filter fun z => PyData.eqv z p).length = (l.filter fun z => D.beq z a).length := by
    intro l
    induction l with
    | nil => intro r _ e; cases e; rfl
    | cons b l il =>
      intro r hl e
      simp only [List.all_cons, Bool.and_eq_true] at hl
      simp only [optAll] at e
      split at e
      · rename_i y e1
        split at e
        · rename_i s e2
          cases e
          obtain ⟨u1, u2⟩ := plD_up st 23 b hl.1 y e1
          have := eqv_pl st 24 b a y p u1 (plD_up' ha) u2 hp
          rw [List.filter_cons, List.filter_cons, this]
          split
          · simp [il s hl.2 e2]
          · exact il s hl.2 e2
        · cases e
      · cases e
  unfold mth look PYN
  simp only [hp, hq']
  rw [key l q hl hq]

/-! ### loops and comprehensions that change no store -/
theorem evLc_map {α : Type} {gs : List (Nat × List D)} {tg : Tg} {c e : Env → Store → R D} {ρ : Env} {st : Store} (enc : α → D) (p : α → Bool) (g : α → D) (hg : guard gs st = true) :
    ∀ (xs : List α) (acc : List D), acc.length + xs.length ≤ LIM → (∀ x ∈ xs, ∃ ρ1, asg tg (enc x) ρ = some ρ1 ∧ c ρ1 st = .ok (.bl (p x)) st ∧ (p x = true → e ρ1 st = .ok (g x) st)) →
      evLc gs tg c e ρ (xs.map enc) acc st = .ok (acc ++ (xs.filter p).map g) st
  | [], acc, _, _ => by simp [evLc, hg]
  | x :: xs, acc, hl, h => by
    obtain ⟨ρ1, h1, h2, h3⟩ := h x List.mem_cons_self
    simp only [List.length_cons] at hl
    rw [List.map_cons, evLc, if_pos hg, h1]
    simp only [h2]
    cases hp : p x with
    | true =>
      simp only [h3 hp]
      rw [if_pos (by omega), evLc_map enc p g hg xs _ (by simp; omega) fun y hy => h y (List.mem_cons_of_mem _ hy)]
      simp [List.filter_cons, hp]
    | false =>
      simp only
      rw [evLc_map enc p g hg xs acc (by omega) fun y hy => h y (List.mem_cons_of_mem _ hy)]
      simp [List.filter_cons, hp]
/-- a for loop by an invariant of the state s: what the body makes of it is F -/
theorem evFor_fold {α β : Type} {gs : List (Nat × List D)} {tg : Tg} {body : Env → Store → SR} {st : Store} (enc : α → D) (Inv : β → Env → Prop) (F : β → α → β) (hg : guard gs st = true) :
    ∀ (xs : List α) (s : β) (ρ : Env), Inv s ρ → (∀ x ∈ xs, ∀ s ρ, Inv s ρ → ∃ ρ1 ρ2, asg tg (enc x) ρ = some ρ1 ∧ body ρ1 st = .ok .next ρ2 st ∧ Inv (F s x) ρ2) →
      ∃ ρ', evFor gs tg body (xs.map enc) ρ st = .ok .next ρ' st ∧ Inv (xs.foldl F s) ρ'
  | [], s, ρ, h, _ => ⟨ρ, by simp [evFor, hg], h⟩
  | x :: xs, s, ρ, h, hs => by
    obtain ⟨ρ1, ρ2, h1, h2, h3⟩ := hs x List.mem_cons_self s ρ h
    obtain ⟨ρ', h4, h5⟩ := evFor_fold enc Inv F hg xs (F s x) ρ2 h3 fun y hy => hs y (List.mem_cons_of_mem _ hy)
    exact ⟨ρ', by rw [List.map_cons, evFor, if_pos hg, h1]; simp only [h2]; exact h4, h5⟩
/-- .. whose body changes the store -/
theorem evFor_st {α β : Type} {tg : Tg} {body : Env → Store → SR} (enc : α → D) (Inv : β → Env → Store → Prop) (F : β → α → β) :
    ∀ (xs : List α) (s : β) (ρ : Env) (st : Store), Inv s ρ st → (∀ x ∈ xs, ∀ s ρ st, Inv s ρ st → ∃ ρ1 ρ2 st2, asg tg (enc x) ρ = some ρ1 ∧ body ρ1 st = .ok .next ρ2 st2 ∧ Inv (F s x) ρ2 st2) →
      ∃ ρ' st', evFor [] tg body (xs.map enc) ρ st = .ok .next ρ' st' ∧ Inv (xs.foldl F s) ρ' st'
  | [], s, ρ, st, h, _ => ⟨ρ, st, by simp [evFor, guard], h⟩
  | x :: xs, s, ρ, st, h, hs => by
    obtain ⟨ρ1, ρ2, st2, h1, h2, h3⟩ := hs x List.mem_cons_self s ρ st h
    obtain ⟨ρ', st', h4, h5⟩ := evFor_st enc Inv F xs (F s x) ρ2 st2 h3 fun y hy => hs y (List.mem_cons_of_mem _ hy)
    exact ⟨ρ', st', by rw [List.map_cons, evFor, if_pos (by rfl), h1]; simp only [h2]; exact h4, h5⟩
/-- a for loop by an invariant of what it has walked -/
theorem evFor_pre {α : Type} {gs : List (Nat × List D)} {tg : Tg} {body : Env → Store → SR} {st : Store} (enc : α → D) (Inv : List α → Env → Prop) (hg : guard gs st = true) :
    ∀ (xs pre : List α) (ρ : Env), Inv pre ρ → (∀ (p : List α) (x : α) (q : List α) (ρ : Env), pre ++ xs = p ++ x :: q → Inv p ρ → ∃ ρ1 ρ2, asg tg (enc x) ρ = some ρ1 ∧ body ρ1 st = .ok .next ρ2 st ∧ Inv (p ++ [x]) ρ2) →
      ∃ ρ', evFor gs tg body (xs.map enc) ρ st = .ok .next ρ' st ∧ Inv (pre ++ xs) ρ'
  | [], pre, ρ, h, _ => ⟨ρ, by simp [evFor, hg], by simpa using h⟩
  | x :: xs, pre, ρ, h, hs => by
    obtain ⟨ρ1, ρ2, h1, h2, h3⟩ := hs pre x xs ρ rfl h
    obtain ⟨ρ', h4, h5⟩ := evFor_pre enc Inv hg xs (pre ++ [x]) ρ2 h3 fun p y q ρ e => hs p y q ρ (by rw [← e]; simp)
    exact ⟨ρ', by rw [List.map_cons, evFor, if_pos hg, h1]; simp only [h2]; exact h4, by simpa using h5⟩
/-- .. whose body changes the store -/
theorem evFor_preS {α : Type} {tg : Tg} {body : Env → Store → SR} (enc : α → D) (Inv : List α → Env → Store → Prop) :
    ∀ (xs pre : List α) (ρ : Env) (st : Store), Inv pre ρ st → (∀ (p : List α) (x : α) (q : List α) (ρ : Env) (st : Store), pre ++ xs = p ++ x :: q → Inv p ρ st → ∃ ρ1 ρ2 st2, asg tg (enc x) ρ = some ρ1 ∧ body ρ1 st = .ok .next ρ2 st2 ∧ Inv (p ++ [x]) ρ2 st2) →
      ∃ ρ' st', evFor [] tg body (xs.map enc) ρ st = .ok .next ρ' st' ∧ Inv (pre ++ xs) ρ' st'
  | [], pre, ρ, st, h, _ => ⟨ρ, st, by simp [evFor, guard], by simpa using h⟩
  | x :: xs, pre, ρ, st, h, hs => by
    obtain ⟨ρ1, ρ2, st2, h1, h2, h3⟩ := hs pre x xs ρ st rfl h
    obtain ⟨ρ', st', h4, h5⟩ := evFor_preS enc Inv xs (pre ++ [x]) ρ2 st2 h3 fun p y q ρ st e => hs p y q ρ st (by rw [← e]; simp)
    exact ⟨ρ', st', by rw [List.map_cons, evFor, if_pos (by rfl), h1]; simp only [h2]; exact h4, by simpa using h5⟩
theorem cut_none {α : Type} (l : List α) {k : Nat} (h : k ≤ l.length) : cut l none (some (k : Int)) = l.take k := by
  have e : HT.sIx l.length l.length (some (k : Int)) = k := by
    unfold HT.sIx
    simp only
    split <;> omega
  simp only [cut, e]
  simp [HT.sIx]
theorem cut_from {α : Type} (l : List α) {k : Nat} (h : k ≤ l.length) : cut l (some (k : Int)) none = l.drop k := by
  have e : HT.sIx l.length 0 (some (k : Int)) = k := by
    unfold HT.sIx
    simp only
    split <;> omega
  simp only [cut, e]
  simp only [HT.sIx]
  exact List.take_of_length_le (by simp)
theorem cut_take {α : Type} (l : List α) {i : Int} (h : 0 ≤ i) : cut l none (some i) = l.take i.toNat := by
  have e : HT.sIx l.length l.length (some i) = min i.toNat l.length := by
    unfold HT.sIx
    simp only
    split <;> omega
  simp only [cut, e]
  simp only [HT.sIx, List.drop_zero, Nat.sub_zero]
  by_cases hl : i.toNat ≤ l.length
  · rw [Nat.min_eq_left hl]
  · rw [Nat.min_eq_right (by omega), List.take_of_length_le (Nat.le_refl _), List.take_of_length_le (by omega)]
theorem body_ret {kn : Kn} {fn : Fn} {ds : List D} {st st' : Store} {d : D} {ρ' : Env} (hl : ds.length = fn.ps) (h : evSs kn fn.body (envOf fn.n ds) st = .ok (.ret d) ρ' st') : callBody kn fn ds st = .ok d st' := by
  unfold callBody; rw [if_pos hl, h]
theorem body_next {kn : Kn} {fn : Fn} {ds : List D} {st st' : Store} {ρ' : Env} (hl : ds.length = fn.ps) (h : evSs kn fn.body (envOf fn.n ds) st = .ok .next ρ' st') : callBody kn fn ds st = .ok .non st' := by
  unfold callBody; rw [if_pos hl, h]
/-- a row of statements, one by one -/
theorem ss_next {kn : Kn} {s : S} {r : Ss} {ρ ρ' : Env} {st st' : Store} (h : evS kn s ρ st = .ok .next ρ' st') : evSs kn (.cons s r) ρ st = evSs kn r ρ' st' := by
  simp only [evSs, h]
theorem ss_ret {kn : Kn} {s : S} {r : Ss} {ρ ρ' : Env} {st st' : Store} {d : D} (h : evS kn s ρ st = .ok (.ret d) ρ' st') : evSs kn (.cons s r) ρ st = .ok (.ret d) ρ' st' := by
  simp only [evSs, h]
/-- a for loop whose body changes the store, over lists that stay -/
theorem evFor_preG {α : Type} {gs : List (Nat × List D)} {tg : Tg} {body : Env → Store → SR} (enc : α → D) (Inv : List α → Env → Store → Prop) (hg : ∀ p ρ st, Inv p ρ st → guard gs st = true) :
    ∀ (xs pre : List α) (ρ : Env) (st : Store), Inv pre ρ st → (∀ (p : List α) (x : α) (q : List α) (ρ : Env) (st : Store), pre ++ xs = p ++ x :: q → Inv p ρ st → ∃ ρ1 ρ2 st2, asg tg (enc x) ρ = some ρ1 ∧ body ρ1 st = .ok .next ρ2 st2 ∧ Inv (p ++ [x]) ρ2 st2) →
      ∃ ρ' st', evFor gs tg body (xs.map enc) ρ st = .ok .next ρ' st' ∧ Inv (pre ++ xs) ρ' st'
  | [], pre, ρ, st, h, _ => ⟨ρ, st, by simp [evFor, hg _ _ _ h], by simpa using h⟩
  | x :: xs, pre, ρ, st, h, hs => by
    obtain ⟨ρ1, ρ2, st2, h1, h2, h3⟩ := hs pre x xs ρ st rfl h
    obtain ⟨ρ', st', h4, h5⟩ := evFor_preG enc Inv hg xs (pre ++ [x]) ρ2 st2 h3 fun p y q ρ st e => hs p y q ρ st (by rw [← e]; simp)
    exact ⟨ρ', st', by rw [List.map_cons, evFor, if_pos (hg _ _ _ h), h1]; simp only [h2]; exact h4, by simpa using h5⟩
theorem guard1 {n : Nat} {l : List D} {st : Store} (h : st[n]? = some (.lst l)) : guard [(n, l)] st = true := by
  simp [guard, gOne, h, D.beqs_refl]
end AF

/-! Sim: lifts, calls, forms; the story as plain Lean. -/
namespace LF
open AF
abbrev Form := Int × Int
structure Flr where
  top : Bool
  k : Int
deriving DecidableEq
structure Cl where
  t : Int
  a : Flr
  b : Flr
deriving DecidableEq
inductive Rule where
  | first | near | scan
deriving DecidableEq
structure Lf where
  rule : Rule
  room : Int
  halt : Int
  pace : Int
  fl : Flr
  up : Bool
deriving DecidableEq
def Flr.ok (f : Flr) : Prop := 0 ≤ f.k ∧ f.k ≤ 3
def Cl.ok (c : Cl) : Prop := 0 ≤ c.t ∧ c.t ≤ 1000 ∧ c.a.ok ∧ c.b.ok ∧ c.a ≠ c.b
def Lf.ok (l : Lf) : Prop := 1 ≤ l.room ∧ l.room ≤ 4 ∧ 1 ≤ l.halt ∧ l.halt ≤ 20 ∧ 1 ≤ l.pace ∧ l.pace ≤ 5 ∧ l.fl.ok
def CsOk (cs : List Cl) : Prop := cs.length ≤ 4 ∧ (∀ c ∈ cs, c.ok) ∧ cs.Pairwise fun x y => x.t ≤ y.t
/-! ### as values of the core -/
def wFl (t : Bool) : List Nat := if t then [116] else [98]
def wUp (u : Bool) : List Nat := if u then [117, 112] else [100, 111, 119, 110]
def wRule : Rule → List Nat
  | .first => [102, 105, 114, 115, 116]
  | .near => [110, 101, 97, 114]
  | .scan => [115, 99, 97, 110]
abbrev eF (f : Form) : D := .tup [.int f.1, .int f.2]
abbrev eFl (f : Flr) : D := .tup [.str (wFl f.top), .int f.k]
abbrev eCl (c : Cl) : D := .tup [.int c.t, eFl c.a, eFl c.b]
abbrev eCs (cs : List Cl) : D := .tup (cs.map eCl)
abbrev eLf (l : Lf) : D := .tup [.str (wRule l.rule), .int l.room, .int l.halt, .int l.pace, eFl l.fl, .str (wUp l.up)]
abbrev eN (n : Nat) : D := .int (n : Int)
abbrev eNs (ps : List Nat) : List D := ps.map eN
theorem pl_fl (k : Nat) (f : Flr) : plD (k + 2) (eFl f) = true := by
  simp only [plD, List.all_cons, List.all_nil, Bool.and_true]
  cases f.top <;> decide
theorem beq_fl (f g : Flr) : D.beq (eFl f) (eFl g) = decide (f = g) := by
  obtain ⟨t, k⟩ := f
  obtain ⟨u, j⟩ := g
  cases t <;> cases u <;> simp [D.beq, D.beqs, wFl]
  all_goals (by_cases h : k = j <;> simp [h])
theorem eq_fl (st : Store) (f g : Flr) : eqD st (eFl f) (eFl g) = some (decide (f = g)) := by
  rw [eqD_pl st (pl_fl 22 f) (pl_fl 22 g), beq_fl]
theorem eq_str (st : Store) {x y : List Nat} (hx : cpsOk x = true) (hy : cpsOk y = true) : eqD st (.str x) (.str y) = some (x == y) := by
  rw [eqD_pl st (by simpa [plD] using hx) (by simpa [plD] using hy)]
  simp [D.beq]
theorem eq_int (st : Store) (i j : Int) : eqD st (.int i) (.int j) = some (i == j) := by
  rw [eqD_pl st (by simp [plD]) (by simp [plD])]
  simp [D.beq]
/-! ### forms -/
def worth (f : Form) (n : Int) : Int := f.1 * n + f.2
def fadd (f g : Form) : Form := (f.1 + g.1, f.2 + g.2)
def fsub (f g : Form) : Form := (f.1 - g.1, f.2 - g.2)
def fmul (f : Form) (k : Int) : Form := (f.1 * k, f.2 * k)
def sgn (i : Int) : Int := if i > 0 then 1 else if i < 0 then -1 else 0
def Flr.at (f : Flr) (n : Int) : Int := if f.top then n - 1 - f.k else f.k
def Flr.form (f : Flr) : Form := if f.top then (1, -1 - f.k) else (0, f.k)
theorem worth_form (f : Flr) (n : Int) : worth f.form n = f.at n := by
  unfold worth Flr.form Flr.at
  cases f.top <;> simp <;> omega
theorem worth_sub (f g : Form) (n : Int) : worth (fsub f g) n = worth f n - worth g n := by
  simp only [worth, fsub, Int.sub_mul]; omega
theorem worth_add (f g : Form) (n : Int) : worth (fadd f g) n = worth f n + worth g n := by
  simp only [worth, fadd, Int.add_mul]; omega
theorem worth_mul (f : Form) (k n : Int) : worth (fmul f k) n = worth f n * k := by
  simp only [worth, fmul, Int.add_mul]
  rw [Int.mul_assoc, Int.mul_comm k n, ← Int.mul_assoc]
def far (f g : Flr) : Form := fsub g.form f.form
def way (f g : Flr) (n : Int) : Form := if worth (far f g) n < 0 then fmul (far f g) (-1) else far f g
def ahead (f g : Flr) (up : Bool) (n : Int) : Bool := if up then decide (0 ≤ worth (far f g) n) else decide (worth (far f g) n ≤ 0)
theorem worth_far (f g : Flr) (n : Int) : worth (far f g) n = g.at n - f.at n := by
  unfold far; rw [worth_sub, worth_form, worth_form]
/-- small coefficients -/
def Small (b : Int) (f : Form) : Prop := -b ≤ f.1 ∧ f.1 ≤ b ∧ -b ≤ f.2 ∧ f.2 ≤ b
theorem form_small {f : Flr} (h : f.ok) : Small 4 f.form := by
  obtain ⟨h1, h2⟩ := h
  unfold Flr.form Small
  cases f.top <;> simp <;> omega
theorem far_small {f g : Flr} (hf : f.ok) (hg : g.ok) : Small 8 (far f g) := by
  have h1 := form_small hf
  have h2 := form_small hg
  unfold Small far fsub at *
  simp only
  omega
theorem way_small {f g : Flr} (hf : f.ok) (hg : g.ok) (n : Int) : Small 8 (way f g n) := by
  have h := far_small hf hg
  unfold way
  split
  · unfold Small fmul at *
    simp only
    omega
  · exact h
end LF
namespace LF
open AF
structure Sst where
  m : Form
  fl : Flr
  up : Bool
  r : List Nat
  th : List Nat
  asked : List Form
abbrev eSt (s : Sst) : D := .tup [eF s.m, eFl s.fl, .str (wUp s.up), .tup (eNs s.r), .tup (eNs s.th), .tup (s.asked.map eF)]
def waiting (cs : List Cl) (s : Sst) : List Nat := (List.range cs.length).filter fun p => !s.r.contains p && !s.th.contains p
def cAt (cs : List Cl) (p : Nat) : Cl := (cs[p]?).getD ⟨0, ⟨false, 0⟩, ⟨false, 0⟩⟩
/-- a person's call as told at a minute -/
def thenF (cs : List Cl) (m : Form) (p : Nat) : Form := fsub m (0, (cAt cs p).t)
def heard (cs : List Cl) (s : Sst) (n : Int) : List Nat := (waiting cs s).filter fun p => decide (0 ≤ worth (thenF cs s.m p) n)
theorem beq_N (p q : Nat) : D.beq (eN p) (eN q) = (p == q) := by
  simp only [D.beq]
  by_cases h : p = q
  · subst h; simp
  · have : (p : Int) ≠ q := by omega
    rw [beq_eq_false_iff_ne.mpr h, beq_eq_false_iff_ne.mpr this]
theorem any_Ns (r : List Nat) (p : Nat) : (eNs r).any (fun z => D.beq z (eN p)) = r.contains p := by
  induction r with
  | nil => rfl
  | cons a r ih =>
    show ((eN a :: eNs r).any _) = _
    rw [List.any_cons, ih, beq_N, List.contains_cons, show (a == p) = (p == a) from BEq.comm]
theorem all_Ns (k : Nat) (r : List Nat) : (eNs r).all (plD (k + 1)) = true := by
  rw [List.all_eq_true]
  intro d hd
  obtain ⟨a, _, rfl⟩ := List.mem_map.mp hd
  rfl
theorem in_Ns (st : Store) (p : Nat) (r : List Nat) : inD st (eN p) (.tup (eNs r)) = some (r.contains p) := by
  rw [inD_plT st rfl (all_Ns 22 r), any_Ns]
theorem in_NsL (st : Store) (p : Nat) (r : List Nat) : inD st (eN p) (.lst (eNs r)) = some (r.contains p) := by
  rw [inD_plL st rfl (all_Ns 22 r), any_Ns]
theorem rngD_range (n : Nat) : rngD 0 n = (List.range n).map eN := by
  have go : ∀ (n : Nat) (lo : Nat), rngD (lo : Int) n = (List.range' lo n).map eN := by
    intro n
    induction n with
    | zero => intro lo; rfl
    | succ n ih =>
      intro lo
      rw [rngD, List.range'_succ, List.map_cons]
      have := ih (lo + 1)
      rw [show ((lo + 1 : Nat) : Int) = (lo : Int) + 1 by omega] at this
      rw [this]
  have := go n 0
  rw [show ((0 : Nat) : Int) = 0 from rfl] at this
  rw [this, List.range_eq_range']
theorem zipD_map {α : Type} (f g : α → D) : ∀ l : List α, zipD (l.map f) (l.map g) = l.map fun a => .tup [f a, g a]
  | [] => rfl
  | a :: l => by simp [zipD, zipD_map f g l]
theorem itemAt_nat {α : Type} {l : List α} {p : Nat} (h : p < l.length) : itemAt l (p : Int) = l[p]? := by
  have h1 : (0 : Int) ≤ p := by omega
  have h2 : (p : Int) < (l.length : Int) := by omega
  simp only [itemAt, ixI, h1, h2, if_true, Int.toNat_natCast]
theorem item_call {cs : List Cl} {p : Nat} (h : p < cs.length) (st : Store) : idx (eCs cs) (eN p) st = .ok (eCl (cAt cs p)) st := by
  have e : itemAt (cs.map eCl) (p : Int) = some (eCl (cAt cs p)) := by
    rw [itemAt_nat (by rw [List.length_map]; exact h), List.getElem?_map, cAt, List.getElem?_eq_getElem h]; rfl
  simp only [idx, seqOf, e]
end LF
namespace LF
open AF
/-! ### sorted -/
def insN (a : Nat) : List Nat → List Nat
  | [] => [a]
  | b :: r => if a ≤ b then a :: b :: r else b :: insN a r
def sortN : List Nat → List Nat
  | [] => []
  | a :: r => insN a (sortN r)
theorem insI_N (a : Nat) : ∀ l : List Nat, insI (a : Int) (l.map fun (n : Nat) => (n : Int)) = (insN a l).map fun (n : Nat) => (n : Int)
  | [] => rfl
  | b :: r => by
    simp only [List.map_cons, insI, insN]
    by_cases h : a ≤ b
    · rw [if_pos (by omega), if_pos h]; rfl
    · rw [if_neg (by omega), if_neg h, insI_N a r]; rfl
theorem sortI_N : ∀ l : List Nat, sortI (l.map fun (n : Nat) => (n : Int)) = (sortN l).map fun (n : Nat) => (n : Int)
  | [] => rfl
  | a :: r => by rw [List.map_cons, sortI, sortI_N r, insI_N]; rfl
theorem intsOf_N : ∀ l : List Nat, intsOf (eNs l) = some (l.map fun (n : Nat) => (n : Int))
  | [] => rfl
  | a :: r => by
    show intsOf (.int (a : Int) :: eNs r) = _
    rw [intsOf, intsOf_N r]; rfl
theorem sortD_N (l : List Nat) : sortD (eNs l) = some (eNs (sortN l)) := by
  simp only [sortD, intsOf_N, sortI_N, List.map_map]
  rfl
abbrev eW (w : Nat × Flr) : D := .tup [eN w.1, eFl w.2]
def insW (a : Nat × Flr) : List (Nat × Flr) → List (Nat × Flr)
  | [] => [a]
  | b :: r => if a.1 ≤ b.1 then a :: b :: r else b :: insW a r
def sortW : List (Nat × Flr) → List (Nat × Flr)
  | [] => []
  | a :: r => insW a (sortW r)
theorem pairsOf_W : ∀ l : List (Nat × Flr), pairsOf (l.map eW) = some (l.map fun w => ((w.1 : Int), eFl w.2))
  | [] => rfl
  | a :: r => by
    simp only [List.map_cons, pairsOf, pairsOf_W r]
theorem insD_W (a : Nat × Flr) : ∀ l : List (Nat × Flr), insD (a.1 : Int) (eFl a.2) (l.map fun w => ((w.1 : Int), eFl w.2)) = (insW a l).map fun w => ((w.1 : Int), eFl w.2)
  | [] => rfl
  | b :: r => by
    simp only [List.map_cons, insD, insW]
    by_cases h : a.1 ≤ b.1
    · rw [if_pos (by omega), if_pos h]; rfl
    · rw [if_neg (by omega), if_neg h, insD_W a r]; rfl
theorem sortK_W : ∀ l : List (Nat × Flr), sortK (l.map fun w => ((w.1 : Int), eFl w.2)) = (sortW l).map fun w => ((w.1 : Int), eFl w.2)
  | [] => rfl
  | a :: r => by rw [List.map_cons, sortK, sortK_W r, insD_W]; rfl
theorem nodupI_N : ∀ {l : List Nat}, l.Nodup → nodupI (l.map fun (n : Nat) => (n : Int)) = true
  | [], _ => rfl
  | a :: r, h => by
    obtain ⟨h1, h2⟩ := List.nodup_cons.mp h
    simp only [List.map_cons, nodupI, nodupI_N h2, Bool.and_true, Bool.not_eq_true']
    rw [Bool.eq_false_iff]
    intro e
    have := List.contains_iff_mem.mp e
    obtain ⟨b, hb, e2⟩ := List.mem_map.mp this
    have : b = a := by omega
    subst this; exact h1 hb
theorem sortD_W (l : List (Nat × Flr)) (h : (l.map (·.1)).Nodup) : sortD (l.map eW) = some ((sortW l).map eW) := by
  cases l with
  | nil => rfl
  | cons a r =>
    have e1 : intsOf ((a :: r).map eW) = none := rfl
    have e2 := nodupI_N h
    rw [List.map_map] at e2
    have e3 : ((a :: r).map fun w => ((w.1 : Int), eFl w.2)).map (·.1) = (a :: r).map ((fun (n : Nat) => (n : Int)) ∘ fun w => w.1) := by
      rw [List.map_map]; rfl
    simp only [sortD, e1, pairsOf_W]
    rw [e3, e2, sortK_W, List.map_map]
    rfl
end LF
namespace LF
open AF
def wantedRaw (l : Lf) (cs : List Cl) (s : Sst) (hd : List Nat) : List (Nat × Flr) :=
  if (s.r.length : Int) < l.room then s.r.map (fun p => (p, (cAt cs p).b)) ++ hd.map (fun p => (p, (cAt cs p).a)) else s.r.map fun p => (p, (cAt cs p).b)
def wanted (l : Lf) (cs : List Cl) (s : Sst) (hd : List Nat) : List (Nat × Flr) := sortW (wantedRaw l cs s hd)
def nearStep (fl : Flr) (up : Bool) (n : Int) (q : Flr × List Form) (g : Flr) : Flr × List Form :=
  let f := fsub (way fl g n) (way fl q.1 n)
  (if worth f n < 0 ∨ (worth f n = 0 ∧ ahead fl q.1 up n = false) then g else q.1, q.2 ++ [f])
def nearest (fl : Flr) (up : Bool) (n : Int) : List Flr → Flr × List Form
  | [] => (fl, [])
  | g :: gs => gs.foldl (nearStep fl up n) (g, [])
def goalOf (rl : Rule) (s : Sst) (w : List (Nat × Flr)) (n : Int) : Flr × List Form :=
  let fs := w.map (·.2)
  match rl with
  | .first => (fs.headD s.fl, [])
  | .near => nearest s.fl s.up n fs
  | .scan => nearest s.fl s.up n (let a := fs.filter fun f => ahead s.fl f s.up n
    if a = [] then fs else a)
structure Stop where
  fl : Flr
  m : Form
  off : List Nat
  on : List Nat
deriving DecidableEq
abbrev eStop (s : Stop) : D := .tup [eFl s.fl, eF s.m, .tup (eNs s.off), .tup (eNs s.on)]
/-- the ride to a goal, the stop there -/
def stopAt (l : Lf) (cs : List Cl) (s : Sst) (g : Flr) (n : Int) : Sst × Stop × Form :=
  let far' := way s.fl g n
  let m := fadd s.m (fmul far' l.pace)
  let up := if g ≠ s.fl then decide (0 < worth (far s.fl g) n) else s.up
  let off := s.r.filter fun p => decide ((cAt cs p).b = g)
  let rest := s.r.filter fun p => !off.contains p
  let people := (waiting cs s).filter fun p => decide ((cAt cs p).a = g)
  let forms := people.map (thenF cs m)
  let come := people.filter fun p => decide (0 ≤ worth (thenF cs m p) n)
  let on := come.take (l.room - rest.length).toNat
  (⟨fadd m (0, l.halt), g, up, sortN (rest ++ on), s.th ++ off, s.asked ++ forms⟩, ⟨g, m, off, on⟩, far')
end LF
namespace LF
open AF
def late (cs : List Cl) (s : Sst) (hd : List Nat) : List Nat := (waiting cs s).filter fun p => !hd.contains p
def nextMin (cs : List Cl) (s : Sst) (hd : List Nat) : Option Int := minI ((late cs s hd).map fun p => (cAt cs p).t)
/-- what is asked at a look around -/
def askH (cs : List Cl) (s : Sst) : Sst := { s with asked := s.asked ++ (waiting cs s).map (thenF cs s.m) }
def askG (s : Sst) (fs : List Form) : Sst := { s with asked := s.asked ++ fs }
def first0 (l : Lf) : Sst := ⟨(0, 0), l.fl, l.up, [], [], []⟩
/-- one turn: on, with a stop or not; or the end -/
def turn (l : Lf) (cs : List Cl) (n : Int) (s : Sst) (stops : List Stop) (e : Form) : (Sst × List Stop × Form) ⊕ (List Stop × Form × List Form) :=
  let hd := heard cs s n
  let s1 := askH cs s
  match wanted l cs s1 hd with
  | a :: w =>
    let gf := goalOf l.rule s1 (a :: w) n
    let r := stopAt l cs (askG s1 gf.2) gf.1 n
    .inl (r.1, stops ++ [r.2.1], if s.r = [] then fadd e r.2.2 else e)
  | [] => match nextMin cs s1 hd with
    | none => .inr (stops, e, s1.asked)
    | some t => .inl ({ s1 with m := (0, t) }, stops, e)
def run (l : Lf) (cs : List Cl) (n : Int) : Nat → Sst → List Stop → Form → Option (List Stop × Form × List Form)
  | 0, _, _, _ => none
  | k + 1, s, stops, e => match turn l cs n s stops e with
    | .inl (s', st', e') => run l cs n k s' st' e'
    | .inr r => some r
end LF
namespace LF
open AF
inductive Wd where
  | waits | rides | there
deriving DecidableEq
def wWd : Wd → List Nat
  | .waits => [119, 97, 105, 116, 115]
  | .rides => [114, 105, 100, 101, 115]
  | .there => [116, 104, 101, 114, 101]
abbrev eWd (w : Wd) : D := .str (wWd w)
def enumP {α : Type} : Nat → List α → List (Nat × α)
  | _, [] => []
  | i, a :: r => (i, a) :: enumP (i + 1) r
theorem enumD_P {α : Type} (enc : α → D) : ∀ (i : Nat) (l : List α), enumD i (l.map enc) = (enumP i l).map fun q => .tup [eN q.1, enc q.2]
  | _, [] => rfl
  | i, a :: r => by simp only [List.map_cons, enumD, enumP, enumD_P enc (i + 1) r]
def idxs (told : List Wd) (w : Wd) : List Nat := ((enumP 0 told).filter fun q => decide (q.2 = w)).map (·.1)
theorem mem_enumP {α : Type} {p : Nat} {a : α} : ∀ {i : Nat} {l : List α}, (p, a) ∈ enumP i l ↔ i ≤ p ∧ l[p - i]? = some a
  | i, [] => by simp [enumP]
  | i, b :: r => by
    simp only [enumP, List.mem_cons, mem_enumP (i := i + 1) (l := r), Prod.mk.injEq]
    constructor
    · rintro (⟨rfl, rfl⟩ | ⟨h1, h2⟩)
      · simp
      · refine ⟨by omega, ?_⟩
        rw [show p - i = (p - (i + 1)) + 1 by omega]; simpa using h2
    · rintro ⟨h1, h2⟩
      by_cases h : p = i
      · subst h; simp at h2; exact .inl ⟨rfl, h2.symm⟩
      · right
        refine ⟨by omega, ?_⟩
        rw [show p - i = (p - (i + 1)) + 1 by omega] at h2; simpa using h2
theorem mem_idxs {told : List Wd} {w : Wd} {p : Nat} : p ∈ idxs told w ↔ told[p]? = some w := by
  unfold idxs
  simp only [List.mem_map, List.mem_filter, decide_eq_true_eq]
  constructor
  · rintro ⟨⟨q, a⟩, ⟨h1, h2⟩, rfl⟩
    simp only at h2
    subst h2
    have := (mem_enumP.mp h1).2
    simpa using this
  · intro h
    exact ⟨(p, w), ⟨mem_enumP.mpr ⟨Nat.zero_le _, by simpa using h⟩, rfl⟩, rfl⟩
theorem enumP_sorted {α : Type} : ∀ (i : Nat) (l : List α), (enumP i l).Pairwise (fun x y => x.1 < y.1) ∧ ∀ x ∈ enumP i l, i ≤ x.1
  | _, [] => ⟨.nil, fun x h => by cases h⟩
  | i, a :: r => by
    obtain ⟨h1, h2⟩ := enumP_sorted (i + 1) r
    refine ⟨List.pairwise_cons.mpr ⟨fun x hx => by have := h2 x hx; simp only; omega, h1⟩, fun x hx => ?_⟩
    rcases List.mem_cons.mp hx with e | e
    · subst e; exact Nat.le_refl _
    · have := h2 x e; omega
theorem idxs_sorted (told : List Wd) (w : Wd) : (idxs told w).Pairwise (· < ·) := by
  unfold idxs
  rw [List.pairwise_map]
  exact (enumP_sorted 0 told).1.filter _
theorem sorted_eq {a b : List Nat} (ha : a.Pairwise (· < ·)) (hb : b.Pairwise (· < ·)) (h : ∀ x, x ∈ a ↔ x ∈ b) : a = b := by
  induction a generalizing b with
  | nil =>
    cases b with
    | nil => rfl
    | cons y b => exact absurd ((h y).mpr List.mem_cons_self) (by simp)
  | cons x a ih =>
    cases b with
    | nil => exact absurd ((h x).mp List.mem_cons_self) (by simp)
    | cons y b =>
      obtain ⟨a1, a2⟩ := List.pairwise_cons.mp ha
      obtain ⟨b1, b2⟩ := List.pairwise_cons.mp hb
      have e : x = y := by
        rcases List.mem_cons.mp ((h x).mp List.mem_cons_self) with q | q
        · exact q
        · rcases List.mem_cons.mp ((h y).mpr List.mem_cons_self) with r | r
          · exact r.symm
          · have := a1 y r; have := b1 x q; omega
      subst e
      congr 1
      refine ih a2 b2 fun z => ⟨fun hz => ?_, fun hz => ?_⟩
      · rcases List.mem_cons.mp ((h z).mp (List.mem_cons_of_mem _ hz)) with q | q
        · subst q; have := a1 z hz; omega
        · exact q
      · rcases List.mem_cons.mp ((h z).mpr (List.mem_cons_of_mem _ hz)) with q | q
        · subst q; have := b1 z hz; omega
        · exact q
/-- what is told of each person -/
def wdOf (s : Sst) (p : Nat) : Wd := if p ∈ s.r then .rides else if p ∈ s.th then .there else .waits
def toldOf (cs : List Cl) (s : Sst) : List Wd := (List.range cs.length).map (wdOf s)
theorem told_get {cs : List Cl} {s : Sst} {p : Nat} {w : Wd} : (toldOf cs s)[p]? = some w ↔ p < cs.length ∧ wdOf s p = w := by
  unfold toldOf
  rw [List.getElem?_map]
  by_cases h : p < cs.length
  · rw [List.getElem?_eq_getElem (by simpa using h)]
    simp [h]
  · rw [List.getElem?_eq_none (by simpa using h)]
    simp [h]
theorem waiting_sorted {cs : List Cl} {s : Sst} : (waiting cs s).Pairwise (· < ·) := List.pairwise_lt_range.filter _
theorem told_waits (cs : List Cl) (s : Sst) : idxs (toldOf cs s) .waits = waiting cs s := by
  refine sorted_eq (idxs_sorted _ _) waiting_sorted fun p => ?_
  rw [mem_idxs, told_get]
  simp only [waiting, List.mem_filter, List.mem_range, Bool.and_eq_true, Bool.not_eq_true', wdOf]
  by_cases h1 : p ∈ s.r <;> by_cases h2 : p ∈ s.th <;> simp [h1, h2]
theorem told_rides (cs : List Cl) (s : Sst) (hs : s.r.Pairwise (· < ·)) (hl : ∀ p ∈ s.r, p < cs.length) : idxs (toldOf cs s) .rides = s.r := by
  refine sorted_eq (idxs_sorted _ _) hs fun p => ?_
  rw [mem_idxs, told_get]
  unfold wdOf
  constructor
  · rintro ⟨h1, h2⟩
    by_cases h : p ∈ s.r
    · exact h
    · simp only [h, if_false] at h2
      split at h2 <;> cases h2
  · intro h
    exact ⟨hl p h, by simp [h]⟩
end LF
namespace LF
open AF
def tl (m : Nat) (f : Nat → Wd) : List Wd := (List.range m).map f
def updf (f : Nat → Wd) (p : Nat) (w : Wd) : Nat → Wd := fun q => if q = p then w else f q
theorem tl_set (m : Nat) (f : Nat → Wd) (p : Nat) (w : Wd) : ((tl m f).map eWd).set p (eWd w) = (tl m (updf f p w)).map eWd := by
  unfold tl
  apply List.ext_getElem?
  intro i
  by_cases h : i = p
  · subst h
    by_cases hi : i < m
    · rw [List.getElem?_set_self (by simpa using hi)]
      simp [List.getElem?_map, List.getElem?_range hi, updf]
    · rw [List.getElem?_eq_none (by simpa using hi), List.getElem?_eq_none (by simpa using hi)]
  · rw [List.getElem?_set_ne (Ne.symm h)]
    simp only [List.getElem?_map]
    by_cases hi : i < m
    · simp [List.getElem?_range hi, updf, h]
    · rw [List.getElem?_eq_none (by simpa using hi)]; rfl
theorem tl_len (m : Nat) (f : Nat → Wd) : (tl m f).length = m := by simp [tl]
theorem tl_congr {m : Nat} {f g : Nat → Wd} (h : ∀ q, q < m → f q = g q) : tl m f = tl m g := List.map_congr_left fun q hq => h q (List.mem_range.mp hq)
theorem count_tl (m : Nat) (f : Nat → Wd) (w : Wd) : (((tl m f).map eWd).filter fun z => D.beq z (eWd w)).length = ((List.range m).filter fun q => decide (f q = w)).length := by
  unfold tl
  rw [List.map_map, List.filter_map, List.length_map]
  congr 1
  apply List.filter_congr
  intro q _
  simp only [Function.comp, D.beq]
  cases f q <;> cases w <;> decide
theorem count_mem {m : Nat} {l : List Nat} (nd : l.Nodup) (hl : ∀ q ∈ l, q < m) {f : Nat → Bool} (hf : ∀ q, q < m → (f q = true ↔ q ∈ l)) : ((List.range m).filter f).length = l.length := by
  have hp : ((List.range m).filter f).Perm l := by
    rw [List.perm_ext_iff_of_nodup (List.nodup_range.filter _) nd]
    intro q
    rw [List.mem_filter, List.mem_range]
    exact ⟨fun ⟨h1, h2⟩ => (hf q h1).mp h2, fun h => ⟨hl q h, (hf q (hl q h)).mpr h⟩⟩
  exact hp.length_eq
theorem take_snoc {α : Type} (L : List α) (x : α) (K : Nat) : (L ++ [x]).take K = if (L.take K).length < K then L.take K ++ [x] else L.take K := by
  rw [List.length_take]
  by_cases h : L.length < K
  · rw [if_pos (by omega), List.take_of_length_le (by simp; omega), List.take_of_length_le (by omega)]
  · rw [if_neg (by omega), List.take_append_of_le_length (by omega)]
end LF

/-! Sim2: the story ends. -/
namespace LF
open AF
theorem filter_len {α : Type} (p : α → Bool) : ∀ l : List α, l.length = (l.filter p).length + (l.filter fun x => !p x).length
  | [] => rfl
  | a :: l => by
    have := filter_len p l
    rw [List.filter_cons, List.filter_cons]
    cases p a <;> simp <;> omega
theorem nodup_le : ∀ (n : Nat) (l : List Nat), l.Nodup → (∀ x ∈ l, x < n) → l.length ≤ n
  | 0, l, _, h => by
    cases l with
    | nil => simp
    | cons a r => exact absurd (h a List.mem_cons_self) (by omega)
  | n + 1, l, nd, h => by
    have e := filter_len (fun x => decide (x = n)) l
    have h1 : (l.filter fun x => decide (x = n)).length ≤ 1 := by
      have : (l.filter fun x => decide (x = n)).length = l.count n := by
        rw [List.count_eq_length_filter]
        congr 1
      rw [this]
      exact List.nodup_iff_count.mp nd n
    have h2 := nodup_le n (l.filter fun x => !decide (x = n)) (nd.filter _) fun x hx => by
      obtain ⟨m1, m2⟩ := List.mem_filter.mp hx
      have := h x m1
      simp at m2
      omega
    omega
structure Good (l : Lf) (cs : List Cl) (i : Nat) (s : Sst) : Prop where
  nd : (s.r ++ s.th).Nodup
  lt : ∀ p ∈ s.r ++ s.th, p < cs.length
  rm : (s.r.length : Int) ≤ l.room
  m : Small (1000 + 60 * (i : Int)) s.m
  ask : s.asked.length ≤ 20 * i
  fl : s.fl.ok
  so : s.r.Pairwise (· < ·)
section
variable {l : Lf} {cs : List Cl} {i : Nat} {s : Sst} {n : Int}
theorem Good.len (g : Good l cs i s) (hc : CsOk cs) : s.r.length + s.th.length ≤ 4 := by
  have := nodup_le cs.length _ g.nd g.lt
  rw [List.length_append] at this
  exact Nat.le_trans this hc.1
theorem mem_waiting {p : Nat} : p ∈ waiting cs s ↔ p < cs.length ∧ p ∉ s.r ∧ p ∉ s.th := by
  simp [waiting, List.mem_filter, List.mem_range]
theorem waiting_nodup : (waiting cs s).Nodup := List.nodup_range.filter _
theorem mem_heard {p : Nat} : p ∈ heard cs s n ↔ p ∈ waiting cs s ∧ 0 ≤ worth (thenF cs s.m p) n := by
  simp [heard, List.mem_filter]
theorem heard_nodup : (heard cs s n).Nodup := waiting_nodup.filter _
theorem nd_heard (g : Good l cs i s) : (s.r ++ heard cs s n).Nodup := by
  rw [List.nodup_append]
  refine ⟨(List.nodup_append.mp g.nd).1, heard_nodup, fun a ha b hb e => ?_⟩
  subst e
  exact (mem_waiting.mp (mem_heard.mp hb).1).2.1 ha
theorem insN_perm (a : Nat) : ∀ l : List Nat, (insN a l).Perm (a :: l)
  | [] => .refl _
  | b :: r => by
    unfold insN
    split
    · exact .refl _
    · exact ((insN_perm a r).cons b).trans (.swap a b r)
theorem sortN_perm : ∀ l : List Nat, (sortN l).Perm l
  | [] => .refl _
  | a :: r => (insN_perm a (sortN r)).trans ((sortN_perm r).cons a)
theorem insN_sorted (a : Nat) : ∀ {l : List Nat}, a ∉ l → l.Pairwise (· < ·) → (insN a l).Pairwise (· < ·)
  | [], _, _ => by simp [insN]
  | b :: r, ha, h => by
    unfold insN
    obtain ⟨h1, h2⟩ := List.pairwise_cons.mp h
    simp only [List.mem_cons, not_or] at ha
    split
    · rename_i hab
      refine List.pairwise_cons.mpr ⟨fun x hx => ?_, h⟩
      rcases List.mem_cons.mp hx with e | e
      · subst e; omega
      · have := h1 x e; omega
    · refine List.pairwise_cons.mpr ⟨fun x hx => ?_, insN_sorted a ha.2 h2⟩
      rcases List.mem_cons.mp ((insN_perm a r).mem_iff.mp hx) with e | e
      · subst e; omega
      · exact h1 x e
theorem sortN_sorted : ∀ {l : List Nat}, l.Nodup → (sortN l).Pairwise (· < ·)
  | [], _ => .nil
  | a :: r, h => by
    obtain ⟨h1, h2⟩ := List.nodup_cons.mp h
    exact insN_sorted a (fun hm => h1 ((sortN_perm r).mem_iff.mp hm)) (sortN_sorted h2)
theorem insW_perm (a : Nat × Flr) : ∀ l : List (Nat × Flr), (insW a l).Perm (a :: l)
  | [] => .refl _
  | b :: r => by
    unfold insW
    split
    · exact .refl _
    · exact ((insW_perm a r).cons b).trans (.swap a b r)
theorem sortW_perm : ∀ l : List (Nat × Flr), (sortW l).Perm l
  | [] => .refl _
  | a :: r => (insW_perm a (sortW r)).trans ((sortW_perm r).cons a)
theorem mem_wanted {hd : List Nat} {x : Nat × Flr} : x ∈ wanted l cs s hd ↔ x ∈ wantedRaw l cs s hd := (sortW_perm _).mem_iff
theorem raw_ok (hc : CsOk cs) (hr : ∀ p ∈ s.r, p < cs.length) {hd : List Nat} (hh : ∀ p ∈ hd, p < cs.length) {x : Nat × Flr} (hx : x ∈ wantedRaw l cs s hd) : x.2.ok ∧ ((x.1 ∈ s.r ∧ x.2 = (cAt cs x.1).b) ∨ ((s.r.length : Int) < l.room ∧ x.1 ∈ hd ∧ x.2 = (cAt cs x.1).a)) := by
  have hok : ∀ p, p < cs.length → (cAt cs p).ok := fun p hp => by
    have e : cAt cs p ∈ cs := by unfold cAt; rw [List.getElem?_eq_getElem hp]; exact List.getElem_mem hp
    exact hc.2.1 _ e
  have left : x ∈ s.r.map (fun p => (p, (cAt cs p).b)) → x.2.ok ∧ x.1 ∈ s.r ∧ x.2 = (cAt cs x.1).b := fun h => by
    obtain ⟨p, hp, rfl⟩ := List.mem_map.mp h
    exact ⟨(hok p (hr p hp)).2.2.2.1, hp, rfl⟩
  unfold wantedRaw at hx
  split at hx
  · rename_i hlt
    rcases List.mem_append.mp hx with h | h
    · obtain ⟨a, b, c⟩ := left h; exact ⟨a, .inl ⟨b, c⟩⟩
    · obtain ⟨p, hp, rfl⟩ := List.mem_map.mp h
      exact ⟨(hok p (hh p hp)).2.2.1, .inr ⟨hlt, hp, rfl⟩⟩
  · obtain ⟨a, b, c⟩ := left hx; exact ⟨a, .inl ⟨b, c⟩⟩
theorem near_foldl {fl : Flr} {up : Bool} (P : Flr → Prop) : ∀ (gs : List Flr) (q : Flr × List Form), P q.1 → (∀ g ∈ gs, P g) → P (gs.foldl (nearStep fl up n) q).1
  | [], _, h, _ => h
  | g :: gs, q, h, hg => near_foldl P gs _ (by unfold nearStep; simp only; split <;> first | exact hg g List.mem_cons_self | exact h) fun x hx => hg x (List.mem_cons_of_mem _ hx)
theorem goal_mem (rl : Rule) (a : Nat × Flr) (w : List (Nat × Flr)) : (goalOf rl s (a :: w) n).1 ∈ (a :: w).map (·.2) := by
  have near : ∀ g gs, (nearest s.fl s.up n (g :: gs)).1 ∈ g :: gs := fun g gs => near_foldl (· ∈ g :: gs) gs (g, []) List.mem_cons_self fun x hx => List.mem_cons_of_mem _ hx
  unfold goalOf
  cases rl with
  | first => exact List.mem_cons_self
  | near => exact near _ _
  | scan =>
    simp only
    split
    · exact near _ _
    · rename_i h
      cases e : ((a :: w).map (·.2)).filter fun f => ahead s.fl f s.up n with
      | nil => exact absurd e h
      | cons b F =>
        have := near b F
        rw [← e] at this ⊢
        exact (List.mem_filter.mp this).1
theorem near_len2 {fl : Flr} {up : Bool} : ∀ (gs : List Flr) (q : Flr × List Form), (gs.foldl (nearStep fl up n) q).2.length = q.2.length + gs.length
  | [], _ => rfl
  | g :: gs, q => by rw [List.foldl_cons, near_len2 gs]; simp [nearStep]; omega
theorem goal_len (rl : Rule) (w : List (Nat × Flr)) : (goalOf rl s w n).2.length ≤ w.length := by
  have near : ∀ gs, (nearest s.fl s.up n gs).2.length ≤ gs.length := fun gs => by
    cases gs with
    | nil => simp [nearest]
    | cons g gs => simp [nearest, near_len2]
  unfold goalOf
  cases rl with
  | first => simp
  | near => exact Nat.le_trans (near _) (by simp)
  | scan =>
    simp only
    split
    · exact Nat.le_trans (near _) (by simp)
    · exact Nat.le_trans (near _) (Nat.le_trans (List.length_filter_le _ _) (by simp))
theorem way_nn (f g : Flr) : 0 ≤ worth (way f g n) n := by
  unfold way
  split
  · rw [worth_mul]; omega
  · omega
def phi (s : Sst) : Nat := s.r.length + 2 * s.th.length
theorem waiting_len (hc : CsOk cs) : (waiting cs s).length ≤ 4 := Nat.le_trans (List.length_filter_le _ _) (by rw [List.length_range]; exact hc.1)
theorem thenF_worth (m : Form) (p : Nat) : worth (thenF cs m p) n = worth m n - (cAt cs p).t := by
  unfold thenF
  rw [worth_sub]
  simp [worth]
theorem mv_small {m : Form} {b : Int} {f g : Flr} (hm : Small b m) (hl : l.ok) (hf : f.ok) (hg : g.ok) : Small (b + 40) (fadd m (fmul (way f g n) l.pace)) := by
  have h := way_small hf hg n
  obtain ⟨_, _, _, _, h1, h2, _⟩ := hl
  unfold Small fadd fmul at *
  simp only
  obtain ⟨a1, a2, a3, a4⟩ := h
  have p1 : (way f g n).1 * l.pace ≤ 8 * 5 := Int.le_trans (Int.mul_le_mul_of_nonneg_right a2 (by omega)) (by omega)
  have p2 : -(8 * 5) ≤ (way f g n).1 * l.pace := by
    have := Int.mul_le_mul_of_nonneg_right a1 (show 0 ≤ l.pace by omega); omega
  have p3 : (way f g n).2 * l.pace ≤ 8 * 5 := Int.le_trans (Int.mul_le_mul_of_nonneg_right a4 (by omega)) (by omega)
  have p4 : -(8 * 5) ≤ (way f g n).2 * l.pace := by
    have := Int.mul_le_mul_of_nonneg_right a3 (show 0 ≤ l.pace by omega); omega
  omega
/-- behind a stop -/
theorem stop_good (hl : l.ok) (hc : CsOk cs) (g0 : Good l cs i s) {s1 : Sst} (e1 : s1.r = s.r) (e2 : s1.th = s.th) (e3 : s1.m = s.m) (e4 : s1.fl = s.fl) (ha : s1.asked.length ≤ 20 * i + 12) {g : Flr} (hg : g.ok) :
    Good l cs (i + 1) (stopAt l cs s1 g n).1 ∧ phi (stopAt l cs s1 g n).1 = phi s + (stopAt l cs s1 g n).2.1.off.length + (stopAt l cs s1 g n).2.1.on.length := by
  have hw4 : (waiting cs s1).length ≤ 4 := waiting_len hc
  simp only [stopAt]
  generalize hm1 : fadd s1.m (fmul (way s1.fl g n) l.pace) = m1
  generalize hoff : (s1.r.filter fun p => decide ((cAt cs p).b = g)) = off
  generalize hrest : (s1.r.filter fun p => !off.contains p) = rest
  generalize hpeo : ((waiting cs s1).filter fun p => decide ((cAt cs p).a = g)) = peo
  generalize hcome : (peo.filter fun p => decide (0 ≤ worth (thenF cs m1 p) n)) = come
  generalize hon : come.take (l.room - rest.length).toNat = on
  have ndr : s1.r.Nodup := by rw [e1]; exact (List.nodup_append.mp g0.nd).1
  have ndt : s1.th.Nodup := by rw [e2]; exact (List.nodup_append.mp g0.nd).2.1
  have djt : ∀ a ∈ s1.r, ∀ b ∈ s1.th, a ≠ b := by rw [e1, e2]; exact (List.nodup_append.mp g0.nd).2.2
  have m_off : ∀ p, p ∈ off ↔ p ∈ s1.r ∧ (cAt cs p).b = g := fun p => by rw [← hoff]; simp [List.mem_filter]
  have m_rest : ∀ p, p ∈ rest ↔ p ∈ s1.r ∧ p ∉ off := fun p => by rw [← hrest]; simp [List.mem_filter]
  have m_on : ∀ p ∈ on, p ∈ waiting cs s1 := fun p hp => by
    rw [← hon] at hp
    have h1 := List.mem_of_mem_take hp
    rw [← hcome] at h1
    have h2 := (List.mem_filter.mp h1).1
    rw [← hpeo] at h2
    exact (List.mem_filter.mp h2).1
  have nd_off : off.Nodup := by rw [← hoff]; exact ndr.filter _
  have nd_rest : rest.Nodup := by rw [← hrest]; exact ndr.filter _
  have nd_on : on.Nodup := by
    rw [← hon]
    refine List.Nodup.sublist (List.take_sublist _ _) ?_
    rw [← hcome, ← hpeo]
    exact (waiting_nodup.filter _).filter _
  have len_r : s1.r.length = off.length + rest.length := by
    have h1 := filter_len (fun p => off.contains p) s1.r
    have h2 : (s1.r.filter fun p => off.contains p) = off := by
      rw [← hoff]
      apply List.filter_congr
      intro p hp
      rw [Bool.eq_iff_iff]
      simp [List.mem_filter, hp]
    rw [h2, hrest] at h1; exact h1
  have nd_ro : (rest ++ on).Nodup := by
    rw [List.nodup_append]
    refine ⟨nd_rest, nd_on, fun a ha b hb e => ?_⟩
    subst e
    exact (mem_waiting.mp (m_on a hb)).2.1 ((m_rest a).mp ha).1
  have on_le : (on.length : Int) ≤ l.room - rest.length ∨ on.length = 0 := by
    rw [← hon, List.length_take]
    by_cases h : 0 ≤ l.room - rest.length
    · left; omega
    · right
      have : (l.room - rest.length).toNat = 0 := by omega
      rw [this]; simp
  have r_le : (rest.length : Int) ≤ l.room := by
    have := g0.rm; rw [← e1] at this; omega
  constructor
  · refine ⟨?_, ?_, ?_, ?_, ?_, hg, sortN_sorted nd_ro⟩
    · rw [List.nodup_append]
      refine ⟨(sortN_perm _).nodup_iff.mpr nd_ro, ?_, fun a ha b hb e => ?_⟩
      · rw [List.nodup_append]
        exact ⟨ndt, nd_off, fun a ha b hb e => djt b ((m_off b).mp hb).1 a ha e.symm⟩
      · subst e
        have ha := (sortN_perm _).mem_iff.mp ha
        rcases List.mem_append.mp ha with ha | ha <;> rcases List.mem_append.mp hb with hb | hb
        · exact djt a ((m_rest a).mp ha).1 a hb rfl
        · exact ((m_rest a).mp ha).2 hb
        · exact (mem_waiting.mp (m_on a ha)).2.2 hb
        · exact (mem_waiting.mp (m_on a ha)).2.1 ((m_off a).mp hb).1
    · intro p hp
      rcases List.mem_append.mp hp with hp | hp
      · rcases List.mem_append.mp ((sortN_perm _).mem_iff.mp hp) with hp | hp
        · exact g0.lt p (List.mem_append_left _ (by rw [← e1]; exact ((m_rest p).mp hp).1))
        · exact (mem_waiting.mp (m_on p hp)).1
      · rcases List.mem_append.mp hp with hp | hp
        · exact g0.lt p (List.mem_append_right _ (by rw [← e2]; exact hp))
        · exact g0.lt p (List.mem_append_left _ (by rw [← e1]; exact ((m_off p).mp hp).1))
    · show ((sortN (rest ++ on)).length : Int) ≤ l.room
      rw [(sortN_perm _).length_eq, List.length_append]
      omega
    · have h := mv_small (n := n) (g := g) (by rw [e3]; exact g0.m) hl (by rw [e4]; exact g0.fl) hg (l := l) (m := s1.m) (f := s1.fl)
      rw [hm1] at h
      have hh1 := hl.2.2.1
      have hh2 := hl.2.2.2.1
      unfold Small fadd at *
      simp only at *
      omega
    · show (s1.asked ++ peo.map (thenF cs m1)).length ≤ 20 * (i + 1)
      have : peo.length ≤ 4 := by rw [← hpeo]; exact Nat.le_trans (List.length_filter_le _ _) hw4
      rw [List.length_append, List.length_map]
      omega
  · show (sortN (rest ++ on)).length + 2 * (s1.th ++ off).length = phi s + off.length + on.length
    rw [(sortN_perm _).length_eq, List.length_append, List.length_append]
    unfold phi
    rw [← e1, ← e2, len_r]
    omega
theorem stop_more (hl : l.ok) (hc : CsOk cs) (g0 : Good l cs i s) {s1 : Sst} (e1 : s1.r = s.r) (e2 : s1.th = s.th) (e3 : s1.m = s.m) {x : Nat × Flr} (hx : x ∈ wantedRaw l cs s1 (heard cs s n)) : 1 ≤ (stopAt l cs s1 x.2 n).2.1.off.length + (stopAt l cs s1 x.2 n).2.1.on.length := by
  have hr : ∀ p ∈ s1.r, p < cs.length := fun p hp => g0.lt p (List.mem_append_left _ (by rw [← e1]; exact hp))
  have hh : ∀ p ∈ heard cs s n, p < cs.length := fun p hp => (mem_waiting.mp (mem_heard.mp hp).1).1
  obtain ⟨_, h⟩ := raw_ok hc hr hh hx
  simp only [stopAt]
  rcases h with ⟨h1, h2⟩ | ⟨h1, h2, h3⟩
  · have : x.1 ∈ s1.r.filter fun p => decide ((cAt cs p).b = x.2) := by simp [List.mem_filter, h1, h2]
    have := List.length_pos_of_mem this
    omega
  · have hb := mem_heard.mp h2
    have hwt : x.1 ∈ waiting cs s1 := mem_waiting.mpr (by rw [e1, e2]; exact mem_waiting.mp hb.1)
    have hp : x.1 ∈ (waiting cs s1).filter fun p => decide ((cAt cs p).a = x.2) := by simp [List.mem_filter, hwt, h3]
    have hn : 0 ≤ worth (thenF cs (fadd s1.m (fmul (way s1.fl x.2 n) l.pace)) x.1) n := by
      rw [thenF_worth, worth_add, worth_mul]
      have q1 := hb.2
      rw [thenF_worth, ← e3] at q1
      have q2 := Int.mul_nonneg (way_nn (n := n) s1.fl x.2) (show 0 ≤ l.pace by have := hl.2.2.2.2.1; omega)
      omega
    have hcm : x.1 ∈ ((waiting cs s1).filter fun p => decide ((cAt cs p).a = x.2)).filter fun p => decide (0 ≤ worth (thenF cs (fadd s1.m (fmul (way s1.fl x.2 n) l.pace)) p) n) := by
      rw [List.mem_filter]; exact ⟨hp, by simpa using hn⟩
    have hlen := List.length_pos_of_mem hcm
    have hrest : (s1.r.filter fun p => !(s1.r.filter fun p => decide ((cAt cs p).b = x.2)).contains p).length ≤ s1.r.length := List.length_filter_le _ _
    have : 1 ≤ ((((waiting cs s1).filter fun p => decide ((cAt cs p).a = x.2)).filter fun p => decide (0 ≤ worth (thenF cs (fadd s1.m (fmul (way s1.fl x.2 n) l.pace)) p) n)).take (l.room - (s1.r.filter fun p => !(s1.r.filter fun p => decide ((cAt cs p).b = x.2)).contains p).length).toNat).length := by
      rw [List.length_take]
      omega
    omega
theorem minI_mem : ∀ {L : List Int} {t : Int}, minI L = some t → t ∈ L
  | [], t, h => by simp [minI] at h
  | a :: r, t, h => by
    simp only [minI, Option.some.injEq] at h
    subst h
    have go : ∀ (r : List Int) (a : Int), r.foldl (fun m x => if x < m then x else m) a ∈ a :: r := by
      intro r
      induction r with
      | nil => intro a; simp
      | cons b r ih =>
        intro a
        rw [List.foldl_cons]
        split
        · exact List.mem_cons_of_mem _ (ih b)
        · rcases List.mem_cons.mp (ih a) with e | e
          · rw [e]; exact List.mem_cons_self
          · exact List.mem_cons_of_mem _ (List.mem_cons_of_mem _ e)
    exact go r a
theorem ask_good (hc : CsOk cs) (g0 : Good l cs i s) : (askH cs s).asked.length ≤ 20 * i + 4 := by
  have h := waiting_len (s := s) hc
  have h2 := g0.ask
  simp only [askH, List.length_append, List.length_map]
  omega
/-- behind a wait -/
theorem wait_good (hc : CsOk cs) (g0 : Good l cs i s) {t : Int} (ht : nextMin cs (askH cs s) (heard cs s n) = some t) : Good l cs (i + 1) { askH cs s with m := (0, t) } ∧ 0 ≤ t ∧ t ≤ 1000 ∧ heard cs { askH cs s with m := (0, t) } n ≠ [] := by
  have hm := minI_mem ht
  obtain ⟨p, hp, rfl⟩ := List.mem_map.mp hm
  have hw := mem_waiting.mp (List.mem_filter.mp hp).1
  have hok : (cAt cs p).ok := by
    have e : cAt cs p ∈ cs := by unfold cAt; rw [List.getElem?_eq_getElem hw.1]; exact List.getElem_mem hw.1
    exact hc.2.1 _ e
  obtain ⟨t0, t1, _⟩ := hok
  have ha := ask_good hc g0
  refine ⟨⟨g0.nd, g0.lt, g0.rm, ?_, by show (askH cs s).asked.length ≤ _; omega, g0.fl, g0.so⟩, t0, t1, fun e => ?_⟩
  · unfold Small; simp only; omega
  · have : p ∈ heard cs { askH cs s with m := (0, (cAt cs p).t) } n := by
      rw [mem_heard]
      refine ⟨mem_waiting.mpr hw, ?_⟩
      rw [thenF_worth]
      simp [worth]
    rw [e] at this; cases this
def busy (l : Lf) (cs : List Cl) (s : Sst) (n : Int) : Nat := if wanted l cs s (heard cs s n) = [] then 1 else 0
theorem raw_nil {hd : List Nat} : wanted l cs s hd = [] ↔ wantedRaw l cs s hd = [] := by
  unfold wanted
  constructor
  · intro h
    have := (sortW_perm (wantedRaw l cs s hd)).length_eq
    rw [h] at this
    exact List.length_eq_zero_iff.mp this.symm
  · intro h; rw [h]; rfl
theorem wanted_ask (hd : List Nat) : wanted l cs (askH cs s) hd = wanted l cs s hd := rfl
/-- the story ends -/
theorem run_ends (hl : l.ok) (hc : CsOk cs) : ∀ (N i : Nat) (s : Sst) (stops : List Stop) (e : Form), Good l cs i s → 2 * (8 - phi s) + busy l cs s n + 1 ≤ N → ∃ res, run l cs n N s stops e = some res
  | 0, _, _, _, _, _, h => by omega
  | N + 1, i, s, stops, e, g0, h => by
    have hr : ∀ p ∈ s.r, p < cs.length := fun p hp => g0.lt p (List.mem_append_left _ hp)
    have hh : ∀ p ∈ heard cs s n, p < cs.length := fun p hp => (mem_waiting.mp (mem_heard.mp hp).1).1
    unfold run turn
    simp only [wanted_ask]
    cases hw : wanted l cs s (heard cs s n) with
    | cons a w =>
      simp only
      have hmem := goal_mem (s := askH cs s) (n := n) l.rule a w
      obtain ⟨x, hx, ex⟩ := List.mem_map.mp hmem
      have hx' : x ∈ wantedRaw l cs s (heard cs s n) := mem_wanted.mp (by rw [hw]; exact hx)
      have hok := (raw_ok hc hr hh hx').1
      rw [← ex]
      have hlen : (wantedRaw l cs s (heard cs s n)).length ≤ 8 := by
        have h1 := g0.len hc
        have h2 : (heard cs s n).length ≤ 4 := Nat.le_trans (List.length_filter_le _ _) (waiting_len hc)
        unfold wantedRaw
        split <;> simp <;> omega
      have hlw : (a :: w).length ≤ 8 := by
        rw [← hw]; unfold wanted; rw [(sortW_perm _).length_eq]; exact hlen
      have hgl := goal_len (s := askH cs s) (n := n) l.rule (a :: w)
      have ha := ask_good hc g0
      obtain ⟨g1, p1⟩ := stop_good (n := n) hl hc g0 (s1 := askG (askH cs s) (goalOf l.rule (askH cs s) (a :: w) n).2) rfl rfl rfl rfl (by simp only [askG, List.length_append]; omega) hok
      have more := stop_more (n := n) hl hc g0 (s1 := askG (askH cs s) (goalOf l.rule (askH cs s) (a :: w) n).2) rfl rfl rfl hx'
      have hphi : phi (stopAt l cs (askG (askH cs s) (goalOf l.rule (askH cs s) (a :: w) n).2) x.2 n).1 ≤ 8 := by
        have := g1.len hc
        unfold phi; omega
      refine run_ends hl hc N (i + 1) _ _ _ g1 ?_
      have hb : busy l cs (stopAt l cs (askG (askH cs s) (goalOf l.rule (askH cs s) (a :: w) n).2) x.2 n).1 n ≤ 1 := by unfold busy; split <;> omega
      omega
    | nil =>
      simp only
      cases ht : nextMin cs (askH cs s) (heard cs s n) with
      | none => exact ⟨_, rfl⟩
      | some t =>
        simp only
        obtain ⟨g1, _, _, hne⟩ := wait_good hc g0 ht
        refine run_ends hl hc N (i + 1) _ _ _ g1 ?_
        have hb0 : busy l cs s n = 1 := by unfold busy; rw [if_pos hw]
        have hraw := raw_nil.mp hw
        have hr0 : s.r = [] := by
          unfold wantedRaw at hraw
          split at hraw
          · simp at hraw; exact hraw.1
          · simpa using hraw
        have hb1 : busy l cs { askH cs s with m := (0, t) } n = 0 := by
          unfold busy
          rw [if_neg]
          intro e
          have hraw := raw_nil.mp e
          unfold wantedRaw at hraw
          rw [if_pos (by show ((askH cs s).r.length : Int) < l.room; rw [show (askH cs s).r = [] from hr0]; have := hl.1; simp; omega)] at hraw
          simp only [List.append_eq_nil_iff, List.map_eq_nil_iff] at hraw
          exact hne hraw.2
        have hp : phi { askH cs s with m := (0, t) } = phi s := rfl
        show 2 * (8 - phi { askH cs s with m := (0, t) }) + busy l cs { askH cs s with m := (0, t) } n + 1 ≤ N
        rw [hb1, hp]
        omega
theorem first_good (hl : l.ok) : Good l cs 0 (first0 l) := by
  refine ⟨by simp [first0], by simp [first0], ?_, by simp [first0, Small], by simp [first0], hl.2.2.2.2.2.2, by simp [first0]⟩
  have := hl.1
  simp [first0]; omega
theorem run_all (hl : l.ok) (hc : CsOk cs) (n : Int) : ∃ res, run l cs n 18 (first0 l) [] (0, 0) = some res := by
  refine run_ends hl hc 18 0 (first0 l) [] (0, 0) (first_good hl) ?_
  have h : busy l cs (first0 l) n ≤ 1 := by unfold busy; split <;> omega
  have h2 : phi (first0 l) = 0 := rfl
  rw [h2]; omega
end
end LF

namespace LF
open AF
structure InvR (stops : List Stop) (s : Sst) : Prop where
  on : ∀ p ∈ s.r ++ s.th, ∃ x ∈ stops, p ∈ x.on
  off : ∀ p ∈ s.th, ∃ x ∈ stops, p ∈ x.off
theorem run_rides {l : Lf} {cs : List Cl} {n : Int} (hl : l.ok) : ∀ (N : Nat) (s : Sst) (stops : List Stop) (e : Form) (res : List Stop × Form × List Form), InvR stops s → LF.run l cs n N s stops e = some res →
    res.1.length ≤ stops.length + N ∧ ∀ p < cs.length, (∃ x ∈ res.1, p ∈ x.on) ∧ ∃ x ∈ res.1, p ∈ x.off
  | 0, _, _, _, _, _, h => by simp [LF.run] at h
  | N + 1, s, stops, e, res, g, h => by
    unfold LF.run turn at h
    simp only [wanted_ask] at h
    cases hw : wanted l cs s (heard cs s n) with
    | cons a w =>
      rw [hw] at h
      simp only at h
      generalize hq : stopAt l cs (askG (askH cs s) (goalOf l.rule (askH cs s) (a :: w) n).2) (goalOf l.rule (askH cs s) (a :: w) n).1 n = q at h
      obtain ⟨s', stp, f⟩ := q
      have e1 : s'.r = sortN ((s.r.filter fun p => !stp.off.contains p) ++ stp.on) := by
        have := congrArg (fun x => (x.1.r, x.2.1)) hq
        simp only [Prod.mk.injEq] at this
        rw [← this.1, ← this.2]; rfl
      have e2 : s'.th = s.th ++ stp.off := by
        have := congrArg (fun x => (x.1.th, x.2.1)) hq
        simp only [Prod.mk.injEq] at this
        rw [← this.1, ← this.2]; rfl
      have e3 : ∀ p ∈ stp.off, p ∈ s.r := by
        have := congrArg (fun x => x.2.1.off) hq
        simp only at this
        intro p hp
        rw [← this] at hp
        exact (List.mem_filter.mp hp).1
      have := run_rides hl N s' (stops ++ [stp]) _ res ⟨fun p hp => ?_, fun p hp => ?_⟩ h
      · refine ⟨?_, this.2⟩
        have h1 := this.1
        simp only [List.length_append, List.length_cons, List.length_nil] at h1
        omega
      · have old : p ∈ s.r ++ s.th → ∃ x ∈ stops ++ [stp], p ∈ x.on := fun hp => by
          obtain ⟨x, hx, hx2⟩ := g.on p hp
          exact ⟨x, List.mem_append_left _ hx, hx2⟩
        rcases List.mem_append.mp hp with q | q
        · rw [e1, (sortN_perm _).mem_iff] at q
          rcases List.mem_append.mp q with q | q
          · exact old (List.mem_append_left _ (List.mem_filter.mp q).1)
          · exact ⟨stp, by simp, q⟩
        · rw [e2] at q
          rcases List.mem_append.mp q with q | q
          · exact old (List.mem_append_right _ q)
          · exact old (List.mem_append_left _ (e3 p q))
      · rw [e2] at hp
        rcases List.mem_append.mp hp with q | q
        · obtain ⟨x, hx, hx2⟩ := g.off p q
          exact ⟨x, List.mem_append_left _ hx, hx2⟩
        · exact ⟨stp, by simp, q⟩
    | nil =>
      rw [hw] at h
      simp only at h
      cases ht : nextMin cs (askH cs s) (heard cs s n) with
      | some t =>
        rw [ht] at h
        simp only at h
        have := run_rides hl N { askH cs s with m := (0, t) } stops e res ⟨g.on, g.off⟩ h
        exact ⟨by omega, this.2⟩
      | none =>
        rw [ht] at h
        cases h
        refine ⟨by simp, fun p hp => ?_⟩
        have hraw := raw_nil.mp hw
        have hr0 : s.r = [] := by
          unfold wantedRaw at hraw
          split at hraw
          · simp at hraw; exact hraw.1
          · simpa using hraw
        have h0 : heard cs s n = [] := by
          unfold wantedRaw at hraw
          rw [if_pos (by rw [hr0]; have := hl.1; simp; omega)] at hraw
          simpa [hr0] using hraw
        have hwn : waiting cs s = [] := by
          unfold nextMin late at ht
          rw [h0] at ht
          have e1 : ((waiting cs (askH cs s)).filter fun p => !([] : List Nat).contains p) = waiting cs s := by
            show ((waiting cs s).filter fun p => !([] : List Nat).contains p) = waiting cs s
            simp
          rw [e1] at ht
          cases hq : waiting cs s with
          | nil => rfl
          | cons z zs => rw [hq] at ht; simp [minI] at ht
        have hth : p ∈ s.th := by
          refine Classical.byContradiction fun q => ?_
          have : p ∈ waiting cs s := mem_waiting.mpr ⟨hp, by rw [hr0]; simp, q⟩
          rw [hwn] at this; cases this
        exact ⟨g.on p (List.mem_append_right _ hth), g.off p hth⟩
/-- where a person gets on, and off -/
def onOf (stops : List Stop) (p : Nat) : Form := (((stops.filter fun x => x.on.contains p).map (·.m)).head?).getD (0, 0)
def offOf (stops : List Stop) (p : Nat) : Form := (((stops.filter fun x => x.off.contains p).map (·.m)).head?).getD (0, 0)
theorem on_cons {stops : List Stop} {p : Nat} (h : ∃ x ∈ stops, p ∈ x.on) : ∃ t, (stops.filter fun x => x.on.contains p).map (·.m) = onOf stops p :: t := by
  obtain ⟨x, hx, hp⟩ := h
  have : x ∈ stops.filter fun x => x.on.contains p := List.mem_filter.mpr ⟨hx, by simpa using hp⟩
  unfold onOf
  cases hq : stops.filter fun x => x.on.contains p with
  | nil => rw [hq] at this; cases this
  | cons y ys => exact ⟨_, rfl⟩
theorem off_cons {stops : List Stop} {p : Nat} (h : ∃ x ∈ stops, p ∈ x.off) : ∃ t, (stops.filter fun x => x.off.contains p).map (·.m) = offOf stops p :: t := by
  obtain ⟨x, hx, hp⟩ := h
  have : x ∈ stops.filter fun x => x.off.contains p := List.mem_filter.mpr ⟨hx, by simpa using hp⟩
  unfold offOf
  cases hq : stops.filter fun x => x.off.contains p with
  | nil => rw [hq] at this; cases this
  | cons y ys => exact ⟨_, rfl⟩
/-- every stop's minute has small parts -/
theorem run_small {l : Lf} {cs : List Cl} {n : Int} (hl : l.ok) (hc : CsOk cs) : ∀ (N i : Nat) (s : Sst) (stops : List Stop) (e : Form) (res : List Stop × Form × List Form), i + N ≤ 60 → Good l cs i s → (∀ x ∈ stops, Small 50100 x.m) → LF.run l cs n N s stops e = some res → ∀ x ∈ res.1, Small 50100 x.m
  | 0, _, _, _, _, _, _, _, _, h => by simp [LF.run] at h
  | N + 1, i, s, stops, e, res, hi, g0, hx, h => by
    have hr : ∀ p ∈ s.r, p < cs.length := fun p hp => g0.lt p (List.mem_append_left _ hp)
    have hh : ∀ p ∈ heard cs s n, p < cs.length := fun p hp => (mem_waiting.mp (mem_heard.mp hp).1).1
    have hm : Small 50000 s.m := by
      have := g0.m
      unfold Small at *
      omega
    unfold LF.run turn at h
    simp only [wanted_ask] at h
    cases hw : wanted l cs s (heard cs s n) with
    | cons a w =>
      rw [hw] at h
      simp only at h
      have hx' : ∀ x ∈ a :: w, x ∈ wantedRaw l cs s (heard cs s n) := fun x hx => mem_wanted.mp (by rw [hw]; exact hx)
      obtain ⟨y, hy, ey⟩ := List.mem_map.mp (goal_mem (s := askH cs s) (n := n) l.rule a w)
      have hgok : (goalOf l.rule (askH cs s) (a :: w) n).1.ok := by rw [← ey]; exact (raw_ok hc hr hh (hx' y hy)).1
      have hlen : (wantedRaw l cs s (heard cs s n)).length ≤ 8 := by
        have h1 := g0.len hc
        have h2 : (heard cs s n).length ≤ 4 := Nat.le_trans (List.length_filter_le _ _) (waiting_len hc)
        unfold wantedRaw
        split <;> simp <;> omega
      have hlw : (a :: w).length ≤ 8 := by
        rw [← hw]; unfold wanted; rw [(sortW_perm _).length_eq]; exact hlen
      have hgl := goal_len (s := askH cs s) (n := n) l.rule (a :: w)
      obtain ⟨g1, _⟩ := stop_good (n := n) hl hc g0 (s1 := askG (askH cs s) (goalOf l.rule (askH cs s) (a :: w) n).2) rfl rfl rfl rfl (by have := ask_good hc g0; simp only [askG, List.length_append]; omega) hgok
      refine run_small hl hc N (i + 1) _ _ _ res (by omega) g1 (fun x q => ?_) h
      rcases List.mem_append.mp q with q | q
      · exact hx x q
      · rw [List.mem_singleton] at q
        subst q
        have := mv_small (n := n) hm hl g0.fl hgok
        show Small 50100 (fadd s.m (fmul (way s.fl (goalOf l.rule (askH cs s) (a :: w) n).1 n) l.pace))
        unfold Small at *
        omega
    | nil =>
      rw [hw] at h
      simp only at h
      cases ht : nextMin cs (askH cs s) (heard cs s n) with
      | some t =>
        rw [ht] at h
        simp only at h
        obtain ⟨g1, _⟩ := wait_good hc g0 ht
        exact run_small hl hc N (i + 1) { askH cs s with m := (0, t) } stops e res (by omega) g1 hx h
      | none =>
        rw [ht] at h
        cases h
        exact hx
end LF

/-! Tab: until where the signs of forms stay. -/
namespace LF
open AF
def iabs (i : Int) : Int := if i < 0 then -i else i
def sameS (s : Int) (f : Form) (n : Int) : Option Int :=
  if f.1 = 0 then none else if s = 0 then some n else if 0 < s * f.1 then none else if s * f.1 < 0 then some ((iabs f.2 - 1) / iabs f.1) else none
def sameTo (f : Form) (n : Int) : Option Int := sameS (sgn (worth f n)) f n
def untilF (fs : List Form) (n : Int) : Option Int := minI (fs.filterMap fun f => sameTo f n)
def hiLe (m : Int) : Option Int → Prop
  | none => True
  | some e => m ≤ e
theorem sgn_cases (i : Int) : (sgn i = 1 ∧ 0 < i) ∨ (sgn i = 0 ∧ i = 0) ∨ (sgn i = -1 ∧ i < 0) := by
  unfold sgn; split
  · exact .inl ⟨rfl, by omega⟩
  · split
    · exact .inr (.inr ⟨rfl, by omega⟩)
    · exact .inr (.inl ⟨rfl, by omega⟩)
theorem sgn_eq_of {i j : Int} (h1 : 0 < i ↔ 0 < j) (h2 : i < 0 ↔ j < 0) : sgn i = sgn j := by
  rcases sgn_cases i with ⟨e1, q1⟩ | ⟨e1, q1⟩ | ⟨e1, q1⟩ <;> rcases sgn_cases j with ⟨e2, q2⟩ | ⟨e2, q2⟩ | ⟨e2, q2⟩ <;> omega
theorem sgn_neg' (i : Int) : sgn (-i) = - sgn i := by
  rcases sgn_cases i with ⟨e1, q1⟩ | ⟨e1, q1⟩ | ⟨e1, q1⟩ <;> rcases sgn_cases (-i) with ⟨e2, q2⟩ | ⟨e2, q2⟩ | ⟨e2, q2⟩ <;> omega
def fneg (f : Form) : Form := (-f.1, -f.2)
theorem worth_neg (f : Form) (n : Int) : worth (fneg f) n = - worth f n := by
  simp only [worth, fneg, Int.neg_mul]; omega
theorem iabs_neg (i : Int) : iabs (-i) = iabs i := by unfold iabs; split <;> split <;> omega
theorem sameTo_neg (f : Form) (n : Int) : sameTo (fneg f) n = sameTo f n := by
  unfold sameTo
  rw [worth_neg, sgn_neg']
  generalize sgn (worth f n) = s
  unfold sameS
  simp only [fneg, iabs_neg, Int.neg_mul_neg, Int.neg_eq_zero]
theorem sameTo_pos {f : Form} {n : Int} (hn : 0 ≤ n) (ha : 0 < f.1) :
    (sameTo f n = none → ∀ m, n ≤ m → sgn (worth f m) = sgn (worth f n)) ∧ (∀ e, sameTo f n = some e → n ≤ e ∧ e ≤ iabs f.2 ∧ ∀ m, n ≤ m → m ≤ e → sgn (worth f m) = sgn (worth f n)) := by
  obtain ⟨a, b⟩ := f
  simp only at ha
  have hab : ∀ x : Int, 0 ≤ x → x ≤ a * x := fun x hx => by
    have := Int.mul_le_mul_of_nonneg_right (show 1 ≤ a by omega) hx
    omega
  have han := hab n hn
  rw [show sameTo (a, b) n = sameS (sgn (a * n + b)) (a, b) n from rfl]
  simp only [worth]
  rcases sgn_cases (a * n + b) with ⟨e1, q1⟩ | ⟨e1, q1⟩ | ⟨e1, q1⟩
  · rw [e1]
    simp only [sameS, Int.one_mul]
    rw [if_neg (by omega), if_neg (by decide), if_pos ha]
    refine ⟨fun _ m hm => ?_, fun e h => by cases h⟩
    have := Int.mul_le_mul_of_nonneg_left hm (show 0 ≤ a by omega)
    rcases sgn_cases (a * m + b) with ⟨e2, q2⟩ | ⟨e2, q2⟩ | ⟨e2, q2⟩ <;> omega
  · rw [e1]
    simp only [sameS]
    rw [if_neg (by omega), if_pos trivial]
    refine ⟨fun h => (by cases h), fun e h => ?_⟩
    cases h
    refine ⟨Int.le_refl _, by unfold iabs; split <;> omega, fun m h1 h2 => ?_⟩
    have : m = n := by omega
    subst this; exact e1
  · rw [e1]
    simp only [sameS]
    rw [if_neg (by omega), if_neg (by decide), if_neg (by omega), if_pos (by omega)]
    refine ⟨fun h => (by cases h), fun e h => ?_⟩
    cases h
    have hb : b < 0 := by omega
    have hia : iabs a = a := by unfold iabs; split <;> omega
    have hib : iabs b = -b := by unfold iabs; split <;> omega
    rw [hia, hib]
    have hq := Int.mul_ediv_self_le (x := -b - 1) (k := a) (by omega)
    have hle : n ≤ (-b - 1) / a := (Int.le_ediv_iff_mul_le ha).mpr (by rw [Int.mul_comm]; omega)
    have hq0 : 0 ≤ (-b - 1) / a := by omega
    have hqq := hab _ hq0
    refine ⟨hle, by omega, fun m h1 h2 => ?_⟩
    have := Int.mul_le_mul_of_nonneg_left h2 (show 0 ≤ a by omega)
    rcases sgn_cases (a * m + b) with ⟨e2, q2⟩ | ⟨e2, q2⟩ | ⟨e2, q2⟩ <;> omega
theorem sameTo_spec (f : Form) {n : Int} (hn : 0 ≤ n) :
    (sameTo f n = none → ∀ m, n ≤ m → sgn (worth f m) = sgn (worth f n)) ∧ (∀ e, sameTo f n = some e → n ≤ e ∧ e ≤ iabs f.2 ∧ ∀ m, n ≤ m → m ≤ e → sgn (worth f m) = sgn (worth f n)) := by
  by_cases h0 : f.1 = 0
  · have e : ∀ m, worth f m = f.2 := fun m => by simp [worth, h0]
    unfold sameTo sameS
    rw [if_pos h0]
    exact ⟨fun _ m _ => by rw [e, e], fun e h => by cases h⟩
  · by_cases hp : 0 < f.1
    · exact sameTo_pos hn hp
    · have := sameTo_pos (f := fneg f) hn (by show 0 < -f.1; omega)
      rw [sameTo_neg] at this
      simp only [worth_neg, sgn_neg'] at this
      rw [show (fneg f).2 = - f.2 from rfl, iabs_neg] at this
      refine ⟨fun h m hm => by have := this.1 h m hm; omega, fun e h => ?_⟩
      obtain ⟨h1, h2, h3⟩ := this.2 e h
      exact ⟨h1, h2, fun m a b => by have := h3 m a b; omega⟩
theorem minI_le : ∀ {L : List Int} {t : Int}, minI L = some t → ∀ x ∈ L, t ≤ x := by
  have key : ∀ (L : List Int) (a : Int), (L.foldl (fun m x => if x < m then x else m) a) ≤ a ∧ ∀ x ∈ L, (L.foldl (fun m x => if x < m then x else m) a) ≤ x := by
    intro L
    induction L with
    | nil => intro a; exact ⟨Int.le_refl _, fun x h => by cases h⟩
    | cons b L ih =>
      intro a
      rw [List.foldl_cons]
      obtain ⟨h1, h2⟩ := ih (if b < a then b else a)
      refine ⟨by revert h1; split <;> omega, fun x hx => ?_⟩
      rcases List.mem_cons.mp hx with e | e
      · subst e; revert h1; split <;> omega
      · exact h2 x e
  intro L t h x hx
  cases L with
  | nil => cases h
  | cons a r =>
    cases h
    obtain ⟨h1, h2⟩ := key r a
    rcases List.mem_cons.mp hx with e | e
    · subst e; exact h1
    · exact h2 x e
theorem minI_none' {L : List Int} : minI L = none ↔ L = [] := by cases L <;> simp [minI]
def SameSg (fs : List Form) (n m : Int) : Prop := ∀ f ∈ fs, sgn (worth f m) = sgn (worth f n)
theorem SameSg.left {a b : List Form} {n m : Int} (h : SameSg (a ++ b) n m) : SameSg a n m := fun f hf => h f (List.mem_append_left _ hf)
theorem SameSg.right {a b : List Form} {n m : Int} (h : SameSg (a ++ b) n m) : SameSg b n m := fun f hf => h f (List.mem_append_right _ hf)
theorem SameSg.sub {a b : List Form} {n m : Int} (h : SameSg b n m) (hs : ∀ f ∈ a, f ∈ b) : SameSg a n m := fun f hf => h f (hs f hf)
theorem until_spec {fs : List Form} {n B : Int} (hn : 0 ≤ n) (hB : ∀ f ∈ fs, iabs f.2 ≤ B) :
    (∀ e, untilF fs n = some e → n ≤ e ∧ e ≤ B) ∧ ∀ m, n ≤ m → hiLe m (untilF fs n) → SameSg fs n m := by
  constructor
  · intro e h
    obtain ⟨f, hf, q⟩ := List.mem_filterMap.mp (minI_mem h)
    obtain ⟨h1, h2, _⟩ := (sameTo_spec f hn).2 e q
    exact ⟨h1, Int.le_trans h2 (hB f hf)⟩
  · intro m hm hle f hf
    cases q : sameTo f n with
    | none => exact (sameTo_spec f hn).1 q m hm
    | some e =>
      refine ((sameTo_spec f hn).2 e q).2.2 m hm ?_
      have hmem : e ∈ fs.filterMap fun f => sameTo f n := List.mem_filterMap.mpr ⟨f, hf, q⟩
      cases u : untilF fs n with
      | none =>
        rw [untilF, minI_none'] at u
        rw [u] at hmem; cases hmem
      | some t =>
        rw [u] at hle
        exact Int.le_trans hle (minI_le u e hmem)
end LF

/-! Tab2: where all signs that were asked stay, the run stays. -/
namespace LF
open AF
theorem sgn_le {i j : Int} (h : sgn i = sgn j) : (i < 0 ↔ j < 0) ∧ (0 ≤ i ↔ 0 ≤ j) ∧ (0 < i ↔ 0 < j) ∧ (i ≤ 0 ↔ j ≤ 0) ∧ (i = 0 ↔ j = 0) := by
  rcases sgn_cases i with ⟨e1, q1⟩ | ⟨e1, q1⟩ | ⟨e1, q1⟩ <;> rcases sgn_cases j with ⟨e2, q2⟩ | ⟨e2, q2⟩ | ⟨e2, q2⟩ <;> omega
section
variable {n m : Int}
theorem far_const {f g : Flr} (hf : f.ok) (hg : g.ok) (hn : 8 ≤ n) (hm : 8 ≤ m) : sgn (worth (far f g) m) = sgn (worth (far f g) n) := by
  rw [worth_far, worth_far]
  obtain ⟨a1, a2⟩ := hf
  obtain ⟨b1, b2⟩ := hg
  refine sgn_eq_of ?_ ?_
  · unfold Flr.at; cases f.top <;> cases g.top <;> simp <;> omega
  · unfold Flr.at; cases f.top <;> cases g.top <;> simp <;> omega
theorem way_const {f g : Flr} (hf : f.ok) (hg : g.ok) (hn : 8 ≤ n) (hm : 8 ≤ m) : way f g m = way f g n := by
  have := sgn_le (far_const hf hg hn hm)
  unfold way
  by_cases h : worth (far f g) n < 0
  · rw [if_pos h, if_pos (this.1.mpr h)]
  · rw [if_neg h, if_neg fun q => h (this.1.mp q)]
theorem ahead_const {f g : Flr} (up : Bool) (hf : f.ok) (hg : g.ok) (hn : 8 ≤ n) (hm : 8 ≤ m) : ahead f g up m = ahead f g up n := by
  have := sgn_le (far_const hf hg hn hm)
  unfold ahead
  cases up <;> simp [this.2.1, this.2.2.2.1]
theorem heard_const {cs : List Cl} {s : Sst} (h : SameSg ((waiting cs s).map (thenF cs s.m)) n m) : heard cs s m = heard cs s n := by
  unfold heard
  refine List.filter_congr fun p hp => ?_
  have := (sgn_le (h _ (List.mem_map_of_mem hp))).2.1
  simp [this]
theorem near_sub {fl : Flr} {up : Bool} : ∀ (gs : List Flr) (q : Flr × List Form), ∀ f ∈ q.2, f ∈ (gs.foldl (nearStep fl up n) q).2
  | [], q, f, h => h
  | g :: gs, q, f, h => near_sub gs _ f (by unfold nearStep; exact List.mem_append_left _ h)
theorem near_const {fl : Flr} {up : Bool} (hf : fl.ok) (hn : 8 ≤ n) (hm : 8 ≤ m) : ∀ (gs : List Flr) (q : Flr × List Form), q.1.ok → (∀ g ∈ gs, g.ok) → SameSg (gs.foldl (nearStep fl up n) q).2 n m → gs.foldl (nearStep fl up m) q = gs.foldl (nearStep fl up n) q
  | [], q, _, _, _ => rfl
  | g :: gs, q, hq, hg, h => by
    have hgk := hg g List.mem_cons_self
    rw [List.foldl_cons, List.foldl_cons] at *
    have e : nearStep fl up m q g = nearStep fl up n q g := by
      have hm2 := near_sub (n := n) (fl := fl) (up := up) gs (nearStep fl up n q g) (fsub (way fl g n) (way fl q.1 n)) (by unfold nearStep; simp)
      have := sgn_le (h _ hm2)
      unfold nearStep
      simp only [way_const hf hgk hn hm, way_const hf hq hn hm, ahead_const up hf hq hn hm, this.1, this.2.2.2.2]
    rw [e]
    refine near_const hf hn hm gs _ ?_ (fun g' h' => hg g' (List.mem_cons_of_mem _ h')) h
    unfold nearStep
    simp only
    split
    · exact hgk
    · exact hq
theorem nearest_const {fl : Flr} {up : Bool} (hf : fl.ok) (hn : 8 ≤ n) (hm : 8 ≤ m) (fs : List Flr) (hg : ∀ g ∈ fs, g.ok) (h : SameSg (nearest fl up n fs).2 n m) : nearest fl up m fs = nearest fl up n fs := by
  cases fs with
  | nil => rfl
  | cons g gs => exact near_const hf hn hm gs _ (hg g List.mem_cons_self) (fun g' h' => hg g' (List.mem_cons_of_mem _ h')) h
theorem goal_const {rl : Rule} {s : Sst} {w : List (Nat × Flr)} (hf : s.fl.ok) (hw : ∀ x ∈ w, x.2.ok) (hn : 8 ≤ n) (hm : 8 ≤ m) (h : SameSg (goalOf rl s w n).2 n m) : goalOf rl s w m = goalOf rl s w n := by
  have hfs : ∀ g ∈ w.map (·.2), g.ok := fun g hg => by obtain ⟨x, hx, rfl⟩ := List.mem_map.mp hg; exact hw x hx
  cases rl with
  | first => rfl
  | near => exact nearest_const hf hn hm _ hfs h
  | scan =>
    unfold goalOf at h ⊢
    simp only at h ⊢
    have e : ((w.map (·.2)).filter fun f => ahead s.fl f s.up m) = ((w.map (·.2)).filter fun f => ahead s.fl f s.up n) := List.filter_congr fun g hg => ahead_const s.up hf (hfs g hg) hn hm
    rw [e]
    refine nearest_const hf hn hm _ (fun g hg => hfs g ?_) h
    revert hg
    split
    · exact id
    · exact fun q => (List.mem_filter.mp q).1
theorem stop_const {l : Lf} {cs : List Cl} {s : Sst} {g : Flr} (hf : s.fl.ok) (hg : g.ok) (hn : 8 ≤ n) (hm : 8 ≤ m) (h : SameSg (stopAt l cs s g n).1.asked n m) : stopAt l cs s g m = stopAt l cs s g n := by
  unfold stopAt at h ⊢
  simp only at h ⊢
  have ew := way_const hf hg hn hm
  have eu : decide (0 < worth (far s.fl g) m) = decide (0 < worth (far s.fl g) n) := by
    have := (sgn_le (far_const hf hg hn hm)).2.2.1
    simp [this]
  have h2 := h.right
  rw [ew, eu]
  have ec : (((waiting cs s).filter fun p => decide ((cAt cs p).a = g)).filter fun p => decide (0 ≤ worth (thenF cs (fadd s.m (fmul (way s.fl g n) l.pace)) p) m)) = (((waiting cs s).filter fun p => decide ((cAt cs p).a = g)).filter fun p => decide (0 ≤ worth (thenF cs (fadd s.m (fmul (way s.fl g n) l.pace)) p) n)) := by
    refine List.filter_congr fun p hp => ?_
    have := (sgn_le (h2 _ (List.mem_map_of_mem hp))).2.1
    simp [this]
  rw [ec]
end
theorem stop_asked (l : Lf) (cs : List Cl) (s : Sst) (g : Flr) (n : Int) : ∀ f ∈ s.asked, f ∈ (stopAt l cs s g n).1.asked := fun f hf => List.mem_append_left _ hf
theorem turn_asked {l : Lf} {cs : List Cl} {n : Int} {s : Sst} {stops : List Stop} {e : Form} : ∀ f ∈ (askH cs s).asked, (∀ r, turn l cs n s stops e = .inl r → f ∈ r.1.asked) ∧ ∀ r, turn l cs n s stops e = .inr r → f ∈ r.2.2 := by
  intro f hf
  unfold turn
  simp only
  split
  · refine ⟨fun r h => ?_, fun r h => by cases h⟩
    cases h
    exact stop_asked _ _ _ _ _ f (List.mem_append_left _ hf)
  · split
    · exact ⟨fun r h => (by cases h), fun r h => by cases h; exact hf⟩
    · refine ⟨fun r h => ?_, fun r h => by cases h⟩
      cases h; exact hf
theorem run_asked {l : Lf} {cs : List Cl} {n : Int} : ∀ (N : Nat) (s : Sst) (stops : List Stop) (e : Form) (res : List Stop × Form × List Form), run l cs n N s stops e = some res → ∀ f ∈ s.asked, f ∈ res.2.2
  | 0, _, _, _, _, h, _, _ => by simp [run] at h
  | N + 1, s, stops, e, res, h, f, hf => by
    have hfa : f ∈ (askH cs s).asked := List.mem_append_left _ hf
    have := turn_asked (l := l) (n := n) (stops := stops) (e := e) f hfa
    unfold run at h
    split at h
    · rename_i s' st' e' ht
      exact run_asked N s' st' e' res h f (this.1 _ ht)
    · rename_i r ht
      cases h
      exact this.2 _ ht
theorem run_const {l : Lf} {cs : List Cl} {n m : Int} (hl : l.ok) (hc : CsOk cs) (hn : 8 ≤ n) (hm : 8 ≤ m) : ∀ (N i : Nat) (s : Sst) (stops : List Stop) (e : Form) (res : List Stop × Form × List Form), Good l cs i s → run l cs n N s stops e = some res → SameSg res.2.2 n m → run l cs m N s stops e = some res
  | 0, _, _, _, _, _, _, h, _ => by simp [run] at h
  | N + 1, i, s, stops, e, res, g0, h, hs => by
    have hr : ∀ p ∈ s.r, p < cs.length := fun p hp => g0.lt p (List.mem_append_left _ hp)
    have hh : ∀ p ∈ heard cs s n, p < cs.length := fun p hp => (mem_waiting.mp (mem_heard.mp hp).1).1
    have hall := run_asked (N + 1) s stops e res h
    unfold run at h ⊢
    have hta : ∀ f ∈ (askH cs s).asked, f ∈ res.2.2 := by
      intro f hf
      have := turn_asked (l := l) (n := n) (stops := stops) (e := e) f hf
      split at h
      · rename_i s' st' e' ht
        exact run_asked N s' st' e' res h f (this.1 _ ht)
      · rename_i r ht
        cases h
        exact this.2 _ ht
    have eh : heard cs s m = heard cs s n := heard_const (hs.sub fun f hf => hta f (List.mem_append_right _ hf))
    unfold turn at h ⊢
    simp only [wanted_ask] at h ⊢
    rw [eh]
    cases hw : wanted l cs s (heard cs s n) with
    | cons a w =>
      rw [hw] at h
      simp only at h ⊢
      have hx' : ∀ x ∈ a :: w, x ∈ wantedRaw l cs s (heard cs s n) := fun x hx => mem_wanted.mp (by rw [hw]; exact hx)
      have hwok : ∀ x ∈ a :: w, x.2.ok := fun x hx => (raw_ok hc hr hh (hx' x hx)).1
      obtain ⟨y, hy, ey⟩ := List.mem_map.mp (goal_mem (s := askH cs s) (n := n) l.rule a w)
      have hgok : (goalOf l.rule (askH cs s) (a :: w) n).1.ok := by rw [← ey]; exact hwok y hy
      have hlen : (wantedRaw l cs s (heard cs s n)).length ≤ 8 := by
        have h1 := g0.len hc
        have h2 : (heard cs s n).length ≤ 4 := Nat.le_trans (List.length_filter_le _ _) (waiting_len hc)
        unfold wantedRaw
        split <;> simp <;> omega
      have hlw : (a :: w).length ≤ 8 := by
        rw [← hw]; unfold wanted; rw [(sortW_perm _).length_eq]; exact hlen
      have hgl := goal_len (s := askH cs s) (n := n) l.rule (a :: w)
      obtain ⟨g1, _⟩ := stop_good (n := n) hl hc g0 (s1 := askG (askH cs s) (goalOf l.rule (askH cs s) (a :: w) n).2) rfl rfl rfl rfl (by have := ask_good hc g0; simp only [askG, List.length_append]; omega) hgok
      have hsub := run_asked N _ _ _ res h
      have eg : goalOf l.rule (askH cs s) (a :: w) m = goalOf l.rule (askH cs s) (a :: w) n := goal_const g0.fl hwok hn hm (hs.sub fun f hf => hsub f (stop_asked _ _ _ _ _ f (List.mem_append_right _ hf)))
      rw [eg]
      have es : stopAt l cs (askG (askH cs s) (goalOf l.rule (askH cs s) (a :: w) n).2) (goalOf l.rule (askH cs s) (a :: w) n).1 m = stopAt l cs (askG (askH cs s) (goalOf l.rule (askH cs s) (a :: w) n).2) (goalOf l.rule (askH cs s) (a :: w) n).1 n := stop_const g0.fl hgok hn hm (hs.sub hsub)
      rw [es]
      exact run_const hl hc hn hm N (i + 1) _ _ _ res g1 h hs
    | nil =>
      rw [hw] at h
      simp only at h ⊢
      cases ht : nextMin cs (askH cs s) (heard cs s n) with
      | some t =>
        rw [ht] at h
        simp only at h ⊢
        obtain ⟨g1, _⟩ := wait_good hc g0 ht
        exact run_const hl hc hn hm N (i + 1) { askH cs s with m := (0, t) } stops e res g1 h hs
      | none =>
        rw [ht] at h
        exact h
/-- the whole run: story, empty way, asked -/
def runF (l : Lf) (cs : List Cl) (n : Int) : List Stop × Form × List Form := (run l cs n 18 (first0 l) [] (0, 0)).getD ([], (0, 0), [])
theorem runF_eq {l : Lf} {cs : List Cl} (hl : l.ok) (hc : CsOk cs) (n : Int) : run l cs n 18 (first0 l) [] (0, 0) = some (runF l cs n) := by
  obtain ⟨res, h⟩ := run_all hl hc n
  rw [runF, h]; rfl
theorem runF_const {l : Lf} {cs : List Cl} {n m : Int} (hl : l.ok) (hc : CsOk cs) (hn : 8 ≤ n) (hm : 8 ≤ m) (h : SameSg (runF l cs n).2.2 n m) : runF l cs m = runF l cs n := by
  have := run_const hl hc hn hm 18 0 (first0 l) [] (0, 0) _ (first_good hl) (runF_eq hl hc n) h
  rw [runF, this]; rfl
end LF

/-! Tab3: rows of stretches. -/
namespace LF
open AF
section small
variable {l : Lf} {cs : List Cl} {n : Int}
theorem Small.mono' {a b : Int} {f : Form} (h : Small a f) (hab : a ≤ b) : Small b f := by unfold Small at *; omega
theorem sub_small' {f g : Form} {a b : Int} (h1 : Small a f) (h2 : Small b g) : Small (a + b) (fsub f g) := by
  unfold Small fsub at *; simp only; omega
theorem near_small {fl : Flr} {up : Bool} (hf : fl.ok) : ∀ (gs : List Flr) (q : Flr × List Form), q.1.ok → (∀ g ∈ gs, g.ok) → (∀ f ∈ q.2, Small 16 f) → ∀ f ∈ (gs.foldl (nearStep fl up n) q).2, Small 16 f
  | [], q, _, _, h => h
  | g :: gs, q, hq, hg, h => by
    rw [List.foldl_cons]
    refine near_small hf gs _ ?_ (fun g' h' => hg g' (List.mem_cons_of_mem _ h')) ?_
    · unfold nearStep
      simp only
      split
      · exact hg g List.mem_cons_self
      · exact hq
    · intro f hfm
      unfold nearStep at hfm
      simp only at hfm
      rcases List.mem_append.mp hfm with e | e
      · exact h f e
      · rw [List.mem_singleton] at e
        subst e
        exact sub_small' (a := 8) (b := 8) (way_small hf (hg g List.mem_cons_self) n) (way_small hf hq n)
theorem goal_smallF {rl : Rule} {s : Sst} {w : List (Nat × Flr)} (hf : s.fl.ok) (hw : ∀ x ∈ w, x.2.ok) : ∀ f ∈ (goalOf rl s w n).2, Small 16 f := by
  have hfs : ∀ g ∈ w.map (·.2), g.ok := fun g hg => by obtain ⟨x, hx, rfl⟩ := List.mem_map.mp hg; exact hw x hx
  have key : ∀ fs : List Flr, (∀ g ∈ fs, g.ok) → ∀ f ∈ (nearest s.fl s.up n fs).2, Small 16 f := by
    intro fs h
    cases fs with
    | nil => intro f h; cases h
    | cons g gs => exact near_small hf gs _ (h g List.mem_cons_self) (fun g' h' => h g' (List.mem_cons_of_mem _ h')) (fun f h => by cases h)
  cases rl with
  | first => intro f h; cases h
  | near => exact key _ hfs
  | scan =>
    refine key _ fun g hg => hfs g ?_
    revert hg
    simp only
    split
    · exact id
    · exact fun q => (List.mem_filter.mp q).1
theorem then_small' (hc : CsOk cs) {m : Form} {b : Int} (h : Small b m) {p : Nat} (hp : p < cs.length) : Small (b + 1000) (thenF cs m p) := by
  have e : cs[p] = cAt cs p := by unfold cAt; rw [List.getElem?_eq_getElem hp]; rfl
  have := hc.2.1 cs[p] (List.getElem_mem hp)
  rw [e] at this
  obtain ⟨h1, h2, _⟩ := this
  unfold Small thenF fsub at *
  simp only
  omega
theorem run_smallT (hl : l.ok) (hc : CsOk cs) : ∀ (N i : Nat) (s : Sst) (stops : List Stop) (e : Form) (res : List Stop × Form × List Form), i + N ≤ 18 → Good l cs i s → (∀ x ∈ stops, Small 2200 x.m) → (∀ f ∈ s.asked, Small 3300 f) → LF.run l cs n N s stops e = some res → (∀ x ∈ res.1, Small 2200 x.m) ∧ ∀ f ∈ res.2.2, Small 3300 f
  | 0, _, _, _, _, _, _, _, _, _, h => by simp [LF.run] at h
  | N + 1, i, s, stops, e, res, hi, g0, hx, ha, h => by
    have hr : ∀ p ∈ s.r, p < cs.length := fun p hp => g0.lt p (List.mem_append_left _ hp)
    have hh : ∀ p ∈ heard cs s n, p < cs.length := fun p hp => (mem_waiting.mp (mem_heard.mp hp).1).1
    have hwt : ∀ p ∈ waiting cs s, p < cs.length := fun p hp => (mem_waiting.mp hp).1
    have hm : Small 2100 s.m := by
      have := g0.m
      unfold Small at *
      omega
    have haH : ∀ f ∈ (askH cs s).asked, Small 3300 f := by
      intro f hf
      rcases List.mem_append.mp hf with q | q
      · exact ha f q
      · obtain ⟨p, hp, rfl⟩ := List.mem_map.mp q
        exact (then_small' hc hm (hwt p hp)).mono' (by decide)
    unfold LF.run turn at h
    simp only [wanted_ask] at h
    cases hw : wanted l cs s (heard cs s n) with
    | cons a w =>
      rw [hw] at h
      simp only at h
      have hx' : ∀ x ∈ a :: w, x ∈ wantedRaw l cs s (heard cs s n) := fun x hx => mem_wanted.mp (by rw [hw]; exact hx)
      have hwok : ∀ x ∈ a :: w, x.2.ok := fun x hx => (raw_ok hc hr hh (hx' x hx)).1
      obtain ⟨y, hy, ey⟩ := List.mem_map.mp (goal_mem (s := askH cs s) (n := n) l.rule a w)
      have hgok : (goalOf l.rule (askH cs s) (a :: w) n).1.ok := by rw [← ey]; exact (raw_ok hc hr hh (hx' y hy)).1
      have hlen : (wantedRaw l cs s (heard cs s n)).length ≤ 8 := by
        have h1 := g0.len hc
        have h2 : (heard cs s n).length ≤ 4 := Nat.le_trans (List.length_filter_le _ _) (waiting_len hc)
        unfold wantedRaw
        split <;> simp <;> omega
      have hlw : (a :: w).length ≤ 8 := by
        rw [← hw]; unfold wanted; rw [(sortW_perm _).length_eq]; exact hlen
      have hgl := goal_len (s := askH cs s) (n := n) l.rule (a :: w)
      obtain ⟨g1, _⟩ := stop_good (n := n) hl hc g0 (s1 := askG (askH cs s) (goalOf l.rule (askH cs s) (a :: w) n).2) rfl rfl rfl rfl (by have := ask_good hc g0; simp only [askG, List.length_append]; omega) hgok
      have hmv : Small 2140 (fadd s.m (fmul (way s.fl (goalOf l.rule (askH cs s) (a :: w) n).1 n) l.pace)) := mv_small (b := 2100) (n := n) hm hl g0.fl hgok
      refine run_smallT hl hc N (i + 1) _ _ _ res (by omega) g1 (fun x q => ?_) (fun f q => ?_) h
      · rcases List.mem_append.mp q with q | q
        · exact hx x q
        · rw [List.mem_singleton] at q
          subst q
          exact Small.mono' hmv (by decide)
      · rcases List.mem_append.mp q with q | q
        · rcases List.mem_append.mp q with q | q
          · exact haH f q
          · exact (goal_smallF (s := askH cs s) g0.fl hwok f q).mono' (by decide)
        · obtain ⟨p, hp, rfl⟩ := List.mem_map.mp q
          exact (then_small' hc hmv (hwt p (List.mem_filter.mp hp).1)).mono' (by decide)
    | nil =>
      rw [hw] at h
      simp only at h
      cases ht : nextMin cs (askH cs s) (heard cs s n) with
      | some t =>
        rw [ht] at h
        simp only at h
        obtain ⟨g1, _⟩ := wait_good hc g0 ht
        exact run_smallT hl hc N (i + 1) { askH cs s with m := (0, t) } stops e res (by omega) g1 hx haH h
      | none =>
        rw [ht] at h
        cases h
        exact ⟨hx, haH⟩
theorem runF_small (hl : l.ok) (hc : CsOk cs) (n : Int) : (∀ x ∈ (runF l cs n).1, Small 2200 x.m) ∧ ∀ f ∈ (runF l cs n).2.2, Small 3300 f :=
  run_smallT hl hc 18 0 (first0 l) [] (0, 0) _ (by omega) (first_good hl) (by simp) (by simp [first0]) (runF_eq hl hc n)
theorem iabs_le {b : Int} {f : Form} (h : Small b f) : iabs f.2 ≤ b := by
  unfold Small at h; unfold iabs; split <;> omega
end small
/-! ### rows -/
abbrev Row (τ : Type) := Int × Option Int × τ
def Cov {τ : Type} (F : Int → τ) (hi : Option Int) : Int → List (Row τ) → Prop
  | _, [] => False
  | lo, (l, h, t) :: r => l = lo ∧ (∀ n, lo ≤ n → hiLe n h → F n = t) ∧ ((r = [] ∧ h = hi ∧ hiLe lo h) ∨ ∃ e, h = some e ∧ lo ≤ e ∧ hiLe e hi ∧ Cov F hi (e + 1) r)
def Adj {τ : Type} : List (Row τ) → Prop
  | [] => True
  | [_] => True
  | a :: b :: r => a.2.2 ≠ b.2.2 ∧ Adj (b :: r)
section rows
variable {τ : Type} {F : Int → τ}
theorem Cov.lo_le {hi : Option Int} : ∀ {rows : List (Row τ)} {lo : Int}, Cov F hi lo rows → hiLe lo hi
  | [], _, h => h.elim
  | (l, g, t) :: r, lo, h => by
    obtain ⟨_, _, q | ⟨e, _, q1, q2, _⟩⟩ := h
    · rw [← q.2.1]; exact q.2.2
    · cases hi with
      | none => trivial
      | some x => exact Int.le_trans q1 q2
theorem Cov.append {hi : Option Int} {e : Int} {r2 : List (Row τ)} (he : hiLe e hi) : ∀ {r1 : List (Row τ)} {lo : Int}, Cov F (some e) lo r1 → Cov F hi (e + 1) r2 → Cov F hi lo (r1 ++ r2)
  | [], _, h, _ => h.elim
  | (l, g, t) :: r, lo, h, h2 => by
    obtain ⟨a1, a2, q | ⟨e', q1, q2, q3, q4⟩⟩ := h
    · obtain ⟨rfl, rfl, q⟩ := q
      exact ⟨a1, a2, .inr ⟨e, rfl, q, he, h2⟩⟩
    · refine ⟨a1, a2, .inr ⟨e', q1, q2, ?_, Cov.append he q4 h2⟩⟩
      cases hi with
      | none => trivial
      | some x => exact Int.le_trans q3 he
theorem Cov.one {hi : Option Int} {lo : Int} {t : τ} (h1 : hiLe lo hi) (h2 : ∀ n, lo ≤ n → hiLe n hi → F n = t) : Cov F hi lo [(lo, hi, t)] := ⟨rfl, h2, .inl ⟨rfl, rfl, h1⟩⟩
/-- the last row goes on -/
theorem Cov.ext {e : Int} {h : Option Int} {l' : Int} {g : Option Int} {t : τ} (h1 : hiLe (e + 1) h) (h2 : ∀ n, e + 1 ≤ n → hiLe n h → F n = t) : ∀ {D : List (Row τ)} {lo : Int}, Cov F (some e) lo (D ++ [(l', g, t)]) → g = some e ∧ Cov F h lo (D ++ [(l', h, t)])
  | [], lo, c => by
    obtain ⟨a1, a2, q | ⟨e', _, _, _, q4⟩⟩ := c
    · obtain ⟨_, rfl, q⟩ := q
      refine ⟨rfl, a1, fun n q1 q2 => ?_, .inl ⟨rfl, rfl, ?_⟩⟩
      · by_cases hn : n ≤ e
        · exact a2 n q1 hn
        · exact h2 n (by omega) q2
      · cases h with
        | none => trivial
        | some x => exact Int.le_trans (show lo ≤ e + 1 from by have : lo ≤ e := q; omega) h1
    · exact q4.elim
  | (l, g', t') :: r, lo, c => by
    obtain ⟨a1, a2, q | ⟨e', q1, q2, q3, q4⟩⟩ := c
    · have := q.1; simp at this
    · obtain ⟨w1, w2⟩ := Cov.ext h1 h2 q4
      refine ⟨w1, a1, a2, .inr ⟨e', q1, q2, ?_, w2⟩⟩
      cases h with
      | none => trivial
      | some x => have h1 : e + 1 ≤ x := h1; have q3 : e' ≤ e := q3; show e' ≤ x; omega
theorem Cov.last {e : Int} : ∀ {rows : List (Row τ)} {lo : Int}, Cov F (some e) lo rows → ∃ D l' t, rows = D ++ [(l', some e, t)]
  | [], _, h => h.elim
  | (l, g, t) :: r, lo, h => by
    obtain ⟨_, _, q | ⟨e', _, _, _, q4⟩⟩ := h
    · obtain ⟨rfl, rfl, _⟩ := q; exact ⟨[], l, t, rfl⟩
    · obtain ⟨D, l', t', w⟩ := Cov.last q4
      exact ⟨(l, g, t) :: D, l', t', by rw [w]; rfl⟩
theorem Adj.snoc : ∀ {D : List (Row τ)} {a b : Row τ}, Adj (D ++ [a]) → a.2.2 ≠ b.2.2 → Adj (D ++ [a] ++ [b])
  | [], a, b, _, h => ⟨h, trivial⟩
  | [c], a, b, q, h => ⟨q.1, h, trivial⟩
  | c :: d :: D, a, b, q, h => ⟨q.1, Adj.snoc (D := d :: D) q.2 h⟩
theorem Adj.chg : ∀ {D : List (Row τ)} {l' : Int} {g h : Option Int} {t : τ}, Adj (D ++ [(l', g, t)]) → Adj (D ++ [(l', h, t)])
  | [], _, _, _, _, _ => trivial
  | [c], _, _, _, _, q => ⟨q.1, trivial⟩
  | c :: d :: D, _, _, _, _, q => ⟨q.1, Adj.chg (D := d :: D) q.2⟩
variable [DecidableEq τ]
/-- rows side by side with the same are one -/
def joinStep (found : List (Row τ)) (r : Row τ) : List (Row τ) := match found.getLast? with
  | some x => if x.2.2 = r.2.2 then found.dropLast ++ [(x.1, r.2.1, r.2.2)] else found ++ [r]
  | none => found ++ [r]
def joinF (rows : List (Row τ)) : List (Row τ) := rows.foldl joinStep []
theorem joinStep_snoc (D : List (Row τ)) (x r : Row τ) : joinStep (D ++ [x]) r = if x.2.2 = r.2.2 then D ++ [(x.1, r.2.1, r.2.2)] else D ++ [x] ++ [r] := by
  simp [joinStep]
theorem join_go {hi : Option Int} {lo0 : Int} : ∀ {rows : List (Row τ)} {found : List (Row τ)} {e : Int}, Cov F (some e) lo0 found → Adj found → hiLe e hi → Cov F hi (e + 1) rows → Cov F hi lo0 (rows.foldl joinStep found) ∧ Adj (rows.foldl joinStep found)
  | [], _, _, _, _, _, h => h.elim
  | (l, g, t) :: r, found, e, c, a, he, h => by
    obtain ⟨a1, a2, q⟩ := h
    subst a1
    obtain ⟨D, l', t', rfl⟩ := c.last
    rw [List.foldl_cons, joinStep_snoc]
    simp only
    have hg : hiLe (e + 1) g := by
      rcases q with q | ⟨e', q1, q2, _⟩
      · exact q.2.2
      · rw [q1]; exact q2
    have hC : Cov F g lo0 (if t' = t then D ++ [(l', g, t)] else D ++ [(l', some e, t')] ++ [(e + 1, g, t)]) ∧ Adj (if t' = t then D ++ [(l', g, t)] else D ++ [(l', some e, t')] ++ [(e + 1, g, t)]) := by
      by_cases ht : t' = t
      · subst ht
        rw [if_pos rfl]
        exact ⟨(Cov.ext hg a2 c).2, a.chg⟩
      · rw [if_neg ht]
        refine ⟨Cov.append ?_ c (Cov.one hg a2), a.snoc ht⟩
        cases g with
        | none => trivial
        | some x => have hg : e + 1 ≤ x := hg; show e ≤ x; omega
    generalize (if t' = t then D ++ [(l', g, t)] else D ++ [(l', some e, t')] ++ [(e + 1, g, t)]) = nf at *
    rcases q with ⟨q1, q2, q3⟩ | ⟨e', q1, q2, q3, q4⟩
    · subst q1 q2; exact hC
    · subst q1
      exact join_go hC.1 hC.2 q3 q4
theorem join_cov {hi : Option Int} {lo : Int} {rows : List (Row τ)} (h : Cov F hi lo rows) : Cov F hi lo (joinF rows) ∧ Adj (joinF rows) := by
  cases rows with
  | nil => exact h.elim
  | cons x r =>
    obtain ⟨l, g, t⟩ := x
    obtain ⟨a1, a2, q⟩ := h
    subst a1
    have e0 : joinF ((l, g, t) :: r) = r.foldl joinStep [(l, g, t)] := rfl
    rw [e0]
    rcases q with ⟨q1, q2, q3⟩ | ⟨e', q1, q2, q3, q4⟩
    · subst q1 q2; exact ⟨Cov.one q3 a2, trivial⟩
    · subst q1
      exact join_go (Cov.one q2 a2) trivial q3 q4
end rows
end LF

/-! Tab4: rows made turn by turn, rows in both of two. -/
namespace LF
open AF
def lesserEnd (a b : Option Int) : Option Int := match a, b with
  | none, b => b
  | some x, none => some x
  | some x, some y => if x < y then some x else some y
theorem hiLe_lesser {m : Int} {a b : Option Int} : hiLe m (lesserEnd a b) ↔ hiLe m a ∧ hiLe m b := by
  cases a with
  | none => cases b <;> simp [lesserEnd, hiLe]
  | some x =>
    cases b with
    | none => simp [lesserEnd, hiLe]
    | some y =>
      show hiLe m (if x < y then some x else some y) ↔ m ≤ x ∧ m ≤ y
      split
      · show m ≤ x ↔ _; omega
      · show m ≤ y ↔ _; omega
section
variable {τ : Type}
def tile (G : Int → Option Int) (T : Int → τ) (hi : Option Int) : Nat → Int → List (Row τ)
  | 0, _ => []
  | k + 1, n => (n, G n, T n) :: (if G n = hi then [] else match G n with | none => [] | some e => tile G T hi k (e + 1))
structure TileOk (G : Int → Option Int) (hi : Option Int) (lo0 B : Int) : Prop where
  ok : ∀ n, lo0 ≤ n → hiLe n hi → hiLe n (G n) ∧ (G n = hi ∨ ∃ e, G n = some e ∧ e ≤ B ∧ hiLe (e + 1) hi)
theorem hiLe_mono {a b : Int} {h : Option Int} (hab : a ≤ b) (q : hiLe b h) : hiLe a h := by
  cases h with
  | none => trivial
  | some x => exact Int.le_trans hab q
theorem tile_cov {F : Int → τ} {G : Int → Option Int} {T : Int → τ} {hi : Option Int} {lo0 B : Int} (hG : TileOk G hi lo0 B) (hF : ∀ n, lo0 ≤ n → hiLe n hi → ∀ m, n ≤ m → hiLe m (G n) → F m = T n) :
    ∀ (k : Nat) (n : Int), lo0 ≤ n → hiLe n hi → B < n + k → Cov F hi n (tile G T hi (k + 1) n)
  | k, n, h1, h2, h3 => by
    obtain ⟨a1, a2⟩ := hG.ok n h1 h2
    unfold tile
    refine ⟨rfl, hF n h1 h2, ?_⟩
    rcases a2 with e | ⟨e, e1, e2, e3⟩
    · rw [if_pos e]
      exact .inl ⟨rfl, e, a1⟩
    · by_cases eq : G n = hi
      · rw [if_pos eq]
        exact .inl ⟨rfl, eq, a1⟩
      · rw [if_neg eq]
        rw [e1] at a1
        have a1 : n ≤ e := a1
        refine .inr ⟨e, e1, a1, hiLe_mono (by omega) e3, ?_⟩
        rw [e1]
        simp only
        cases k with
        | zero => simp at h3; omega
        | succ k => exact tile_cov hG hF k (e + 1) (by omega) e3 (by omega)
theorem tile_len {G : Int → Option Int} {T : Int → τ} {hi : Option Int} : ∀ (k : Nat) (n : Int), (tile G T hi k n).length ≤ k
  | 0, n => Nat.le_refl _
  | k + 1, n => by
    unfold tile
    rw [List.length_cons]
    split
    · exact Nat.succ_le_succ (Nat.zero_le _)
    · split
      · exact Nat.succ_le_succ (Nat.zero_le _)
      · exact Nat.succ_le_succ (tile_len k _)
/-! rows in both -/
def hiLeB (m : Int) : Option Int → Bool
  | none => true
  | some e => decide (m ≤ e)
theorem hiLeB_iff {m : Int} {h : Option Int} : hiLeB m h = true ↔ hiLe m h := by cases h <;> simp [hiLeB, hiLe]
variable {β : Type}
def interRow (r : Row τ) (q : Row β) : Option (Row (τ × β)) :=
  if hiLeB (if r.1 > q.1 then r.1 else q.1) (lesserEnd r.2.1 q.2.1) then some (if r.1 > q.1 then r.1 else q.1, lesserEnd r.2.1 q.2.1, (r.2.2, q.2.2)) else none
def interF (rows : List (Row τ)) (others : List (Row β)) : List (Row (τ × β)) := rows.flatMap fun r => others.filterMap (interRow r)
def mx (a b : Int) : Int := if a > b then a else b
theorem inter_row {t : τ} {G : Int → β} {hi2 : Option Int} {l : Int} {h : Option Int} (hlh : hiLe l h) : ∀ {others : List (Row β)} {lo2 : Int}, Cov G hi2 lo2 others →
    (hiLe (mx l lo2) (lesserEnd h hi2) → Cov (fun n => (t, G n)) (lesserEnd h hi2) (mx l lo2) (others.filterMap (interRow (l, h, t)))) ∧ (¬ hiLe (mx l lo2) (lesserEnd h hi2) → others.filterMap (interRow (l, h, t)) = [])
  | [], _, c => c.elim
  | (l2, h2, u) :: r, lo2, c => by
    obtain ⟨a1, a2, q⟩ := c
    subst a1
    rw [List.filterMap_cons]
    have er : interRow (l, h, t) (l2, h2, u) = if hiLeB (mx l l2) (lesserEnd h h2) then some (mx l l2, lesserEnd h h2, (t, u)) else none := rfl
    rw [er]
    have hmx2 : l2 ≤ mx l l2 := by unfold mx; split <;> omega
    rcases q with ⟨q1, q2, q3⟩ | ⟨e, q1, q2, q3, q4⟩
    · subst q1 q2
      constructor
      · intro hh
        rw [if_pos (hiLeB_iff.mpr hh)]
        exact Cov.one hh fun n n1 n2 => by
          show (t, G n) = (t, u)
          rw [a2 n (Int.le_trans hmx2 n1) (hiLe_lesser.mp n2).2]
      · intro hh
        rw [if_neg (fun z => hh (hiLeB_iff.mp z))]
        rfl
    · subst q1
      obtain ⟨i1, i2⟩ := inter_row (t := t) hlh q4
      have hle2 := q4.lo_le
      by_cases hel : e < l
      · have m1 : mx l l2 = l := by unfold mx; split <;> omega
        have m2 : mx l (e + 1) = l := by unfold mx; split <;> omega
        rw [m2] at i1 i2
        have hn : ¬ (hiLeB (mx l l2) (lesserEnd h (some e)) = true) := fun z => by
          have := (hiLe_lesser.mp (hiLeB_iff.mp z)).2
          rw [m1] at this
          have : l ≤ e := this
          omega
        rw [if_neg hn, m1]
        exact ⟨i1, i2⟩
      · have m3 : mx l (e + 1) = e + 1 := by unfold mx; split <;> omega
        rw [m3] at i1 i2
        have mle : mx l l2 ≤ e := by unfold mx; split <;> omega
        by_cases hx : hiLe (e + 1) h
        · -- the whole of this row, and on
          have el : lesserEnd h (some e) = some e := by
            cases h with
            | none => rfl
            | some x => have hx : e + 1 ≤ x := hx; simp only [lesserEnd]; rw [if_neg (by omega)]
          rw [el]
          have hp : hiLeB (mx l l2) (some e) = true := hiLeB_iff.mpr mle
          rw [if_pos hp]
          have hgo : hiLe (e + 1) (lesserEnd h hi2) := hiLe_lesser.mpr ⟨hx, hle2⟩
          refine ⟨fun _ => ?_, fun z => absurd (hiLe_mono (by omega) hgo) z⟩
          refine ⟨rfl, fun n n1 n2 => ?_, .inr ⟨e, rfl, mle, hiLe_mono (by omega) hgo, i1 hgo⟩⟩
          show (t, G n) = (t, u)
          rw [a2 n (Int.le_trans hmx2 n1) n2]
        · obtain ⟨x, rfl⟩ : ∃ x, h = some x := by cases h with
            | none => exact absurd trivial hx
            | some x => exact ⟨x, rfl⟩
          have hx : ¬ (e + 1 ≤ x) := hx
          have hrest := i2 fun z => hx (hiLe_lesser.mp z).1
          rw [hrest]
          have el : lesserEnd (some x) (some e) = some x := by
            simp only [lesserEnd]
            split
            · rfl
            · congr 1; omega
          have el2 : lesserEnd (some x) hi2 = some x := by
            cases hi2 with
            | none => rfl
            | some y =>
              have hle2 : e + 1 ≤ y := hle2
              simp only [lesserEnd]
              rw [if_pos (by omega)]
          rw [el, el2]
          constructor
          · intro hh
            rw [if_pos (hiLeB_iff.mpr hh)]
            exact Cov.one hh fun n n1 n2 => by
              show (t, G n) = (t, u)
              have n2 : n ≤ x := n2
              rw [a2 n (Int.le_trans hmx2 n1) (show n ≤ e by omega)]
          · intro hh
            rw [if_neg (fun z => hh (hiLeB_iff.mp z))]
theorem inter_cov {F : Int → τ} {G : Int → β} {hi : Option Int} {others : List (Row β)} {lo2 : Int} (c2 : Cov G none lo2 others) : ∀ {rows : List (Row τ)} {lo : Int}, lo2 ≤ lo → Cov F hi lo rows → Cov (fun n => (F n, G n)) hi lo (interF rows others)
  | [], _, _, c => c.elim
  | (l, h, t) :: r, lo, hl, c => by
    obtain ⟨a1, a2, q⟩ := c
    subst a1
    have hlh : hiLe l h := by
      rcases q with q | ⟨e, q1, q2, _⟩
      · exact q.2.2
      · rw [q1]; exact q2
    have hm : mx l lo2 = l := by unfold mx; split <;> omega
    have ln : lesserEnd h none = h := by cases h <;> rfl
    have i1 := (inter_row (t := t) hlh c2).1 (by rw [hm, ln]; exact hlh)
    rw [hm, ln] at i1
    have i2 : Cov (fun n => (F n, G n)) h l (others.filterMap (interRow (l, h, t))) := by
      have : ∀ (rows : List (Row (τ × β))) (lo : Int), l ≤ lo → (∀ e, hiLe e h ∨ True) → Cov (fun n => (t, G n)) h lo rows → Cov (fun n => (F n, G n)) h lo rows := by
        intro rows
        induction rows with
        | nil => intro _ _ _ c; exact c
        | cons x r ih =>
          obtain ⟨l', h', t'⟩ := x
          intro lo hlo _ c
          obtain ⟨b1, b2, b3⟩ := c
          have hb : hiLe lo h' ∧ ∀ n, hiLe n h' → hiLe n h := by
            rcases b3 with b | ⟨e, w1, w2, w3, _⟩
            · exact ⟨b.2.2, fun n z => by rw [← b.2.1]; exact z⟩
            · rw [w1]; exact ⟨w2, fun n z => hiLe_mono z w3⟩
          refine ⟨b1, fun n n1 n2 => ?_, ?_⟩
          · have := b2 n n1 n2
            simp only at this ⊢
            rw [a2 n (by omega) (hb.2 n n2)]; exact this
          · rcases b3 with b | ⟨e, w1, w2, w3, w4⟩
            · exact .inl b
            · exact .inr ⟨e, w1, w2, w3, ih (e + 1) (by omega) (fun _ => .inr trivial) w4⟩
      exact this _ l (Int.le_refl _) (fun _ => .inr trivial) i1
    show Cov _ hi l (others.filterMap (interRow (l, h, t)) ++ interF r others)
    rcases q with ⟨q1, q2, q3⟩ | ⟨e, q1, q2, q3, q4⟩
    · subst q1 q2
      rw [show interF [] others = [] from rfl, List.append_nil]
      exact i2
    · subst q1
      exact Cov.append q3 i2 (inter_cov c2 (by omega) q4)
end
/-! the stretches of the runs, of signs -/
def RB : Nat := 20000
theorem until_tile {fs : Int → List Form} {hi : Option Int} {B : Int} (hB : ∀ n, 8 ≤ n → ∀ f ∈ fs n, iabs f.2 ≤ B) : TileOk (fun n => lesserEnd (untilF (fs n) n) hi) hi 8 B := by
  refine ⟨fun n h1 h2 => ?_⟩
  obtain ⟨u1, _⟩ := until_spec (fs := fs n) (n := n) (B := B) (by omega) (hB n h1)
  show hiLe n (lesserEnd (untilF (fs n) n) hi) ∧ (lesserEnd (untilF (fs n) n) hi = hi ∨ ∃ e, lesserEnd (untilF (fs n) n) hi = some e ∧ e ≤ B ∧ hiLe (e + 1) hi)
  cases hu : untilF (fs n) n with
  | none =>
    have : lesserEnd none hi = hi := rfl
    rw [this]; exact ⟨h2, .inl rfl⟩
  | some e =>
    obtain ⟨v1, v2⟩ := u1 e hu
    refine ⟨hiLe_lesser.mpr ⟨v1, h2⟩, ?_⟩
    cases hi with
    | none => exact .inr ⟨e, rfl, v2, trivial⟩
    | some x =>
      simp only [lesserEnd]
      by_cases hx : e < x
      · rw [if_pos hx]; exact .inr ⟨e, rfl, v2, by show e + 1 ≤ x; omega⟩
      · rw [if_neg hx]; exact .inl rfl
def signsL (fs : List Form) (n : Int) : List Int := fs.map fun f => sgn (worth f n)
def bySigns (lo : Int) (hi : Option Int) (fs : List Form) : List (Row (List Int)) := tile (fun n => lesserEnd (untilF fs n) hi) (signsL fs) hi RB lo
theorem signs_same {fs : List Form} {n m : Int} : signsL fs m = signsL fs n ↔ SameSg fs n m := by
  unfold signsL SameSg
  rw [List.map_inj_left]
theorem bySigns_cov {lo : Int} {hi : Option Int} {fs : List Form} {B : Int} (h8 : 8 ≤ lo) (hl : hiLe lo hi) (hB : ∀ f ∈ fs, iabs f.2 ≤ B) (hB2 : B ≤ 19990) : Cov (signsL fs) hi lo (bySigns lo hi fs) :=
  tile_cov (until_tile (fs := fun _ => fs) (fun n _ => hB)) (fun n h1 h2 m m1 m2 => signs_same.mpr ((until_spec (by omega) hB).2 m m1 (hiLe_lesser.mp m2).1)) 19999 lo h8 hl (by show B < lo + (19999 : Nat); omega)
def runRows (l : Lf) (cs : List Cl) : List (Row (List Stop × Form)) := tile (fun n => untilF (runF l cs n).2.2 n) (fun n => ((runF l cs n).1, (runF l cs n).2.1)) none RB 8
theorem less_none (a : Option Int) : lesserEnd a none = a := by cases a <;> rfl
theorem runRows_cov {l : Lf} {cs : List Cl} (hl : l.ok) (hc : CsOk cs) : Cov (fun n => ((runF l cs n).1, (runF l cs n).2.1)) none 8 (runRows l cs) := by
  have hB : ∀ n, 8 ≤ n → ∀ f ∈ (runF l cs n).2.2, iabs f.2 ≤ 3300 := fun n _ f hf => iabs_le ((runF_small hl hc n).2 f hf)
  have ht := until_tile (fs := fun n => (runF l cs n).2.2) (hi := none) hB
  simp only [less_none] at ht
  refine tile_cov ht (fun n h1 _ m m1 m2 => ?_) 19999 8 (by omega) trivial (by decide)
  have hs := (until_spec (by omega) (hB n h1)).2 m m1 m2
  have := runF_const hl hc h1 (by omega : 8 ≤ m) hs
  simp only [this]
/-! the greatest of forms -/
def allPairs (fs : List Form) : List Form := fs.flatMap fun a => fs.map fun b => fsub a b
def gStep (fs : List Form) (n : Int) (best : Nat) (q : Nat × Form) : Nat := if 0 < worth (fsub q.2 ((fs[best]?).getD (0, 0))) n then q.1 else best
def greatestOf (fs : List Form) (n : Int) : Nat := (enumP 0 fs).foldl (gStep fs n) 0
theorem pair_mem {fs : List Form} {a b : Form} (ha : a ∈ fs) (hb : b ∈ fs) : fsub a b ∈ allPairs fs := List.mem_flatMap.mpr ⟨a, ha, List.mem_map_of_mem hb⟩
theorem enum_lt {α : Type} {i : Nat} {l : List α} {q : Nat × α} (h : q ∈ enumP i l) : q.1 < i + l.length ∧ q.2 ∈ l := by
  obtain ⟨p, a⟩ := q
  obtain ⟨h1, h2⟩ := mem_enumP.mp h
  have h3 := (List.getElem?_eq_some_iff.mp h2).1
  exact ⟨by simp only; omega, List.mem_of_getElem? h2⟩
theorem greatest_const {fs : List Form} {n m : Int} (h : SameSg (allPairs fs) n m) : greatestOf fs m = greatestOf fs n := by
  unfold greatestOf
  have key : ∀ (L : List (Nat × Form)) (b : Nat), (∀ q ∈ L, q.1 < fs.length ∧ q.2 ∈ fs) → b < fs.length → L.foldl (gStep fs m) b = L.foldl (gStep fs n) b := by
    intro L
    induction L with
    | nil => intro b _ _; rfl
    | cons q L ih =>
      intro b hL hb
      obtain ⟨q1, q2⟩ := hL q List.mem_cons_self
      rw [List.foldl_cons, List.foldl_cons]
      have hbm : (fs[b]?).getD (0, 0) ∈ fs := by rw [List.getElem?_eq_getElem hb]; exact List.getElem_mem hb
      have hs := sgn_le (h _ (pair_mem q2 hbm))
      have e : gStep fs m b q = gStep fs n b q := by
        unfold gStep
        by_cases hq : 0 < worth (fsub q.2 ((fs[b]?).getD (0, 0))) n
        · rw [if_pos hq, if_pos (hs.2.2.1.mpr hq)]
        · rw [if_neg hq, if_neg fun z => hq (hs.2.2.1.mp z)]
      rw [e]
      refine ih _ (fun z hz => hL z (List.mem_cons_of_mem _ hz)) ?_
      unfold gStep
      split
      · exact q1
      · exact hb
  cases hf : fs with
  | nil => rfl
  | cons a r =>
    rw [← hf]
    exact key _ 0 (fun q hq => by have := enum_lt hq; exact ⟨by omega, this.2⟩) (by rw [hf]; simp)
theorem greatest_lt {fs : List Form} (n : Int) (h : fs ≠ []) : greatestOf fs n < fs.length := by
  unfold greatestOf
  have key : ∀ (L : List (Nat × Form)) (b : Nat), (∀ q ∈ L, q.1 < fs.length) → b < fs.length → L.foldl (gStep fs n) b < fs.length := by
    intro L
    induction L with
    | nil => intro b _ h; exact h
    | cons q L ih =>
      intro b hL hb
      rw [List.foldl_cons]
      refine ih _ (fun z hz => hL z (List.mem_cons_of_mem _ hz)) ?_
      unfold gStep
      split
      · exact hL q List.mem_cons_self
      · exact hb
  exact key _ 0 (fun q hq => by have := enum_lt hq; omega) (List.length_pos_iff.mpr h)
end LF

/-! Tab5: rows as values of the core. -/
namespace LF
open AF
theorem run_lenA {l : Lf} {cs : List Cl} {n : Int} (hl : l.ok) (hc : CsOk cs) : ∀ (N i : Nat) (s : Sst) (stops : List Stop) (e : Form) (res : List Stop × Form × List Form), Good l cs i s → LF.run l cs n N s stops e = some res → res.2.2.length ≤ 20 * (i + N) + 4
  | 0, _, _, _, _, _, _, h => by simp [LF.run] at h
  | N + 1, i, s, stops, e, res, g0, h => by
    have hr : ∀ p ∈ s.r, p < cs.length := fun p hp => g0.lt p (List.mem_append_left _ hp)
    have hh : ∀ p ∈ heard cs s n, p < cs.length := fun p hp => (mem_waiting.mp (mem_heard.mp hp).1).1
    unfold LF.run turn at h
    simp only [wanted_ask] at h
    cases hw : wanted l cs s (heard cs s n) with
    | cons a w =>
      rw [hw] at h
      simp only at h
      have hx' : ∀ x ∈ a :: w, x ∈ wantedRaw l cs s (heard cs s n) := fun x hx => mem_wanted.mp (by rw [hw]; exact hx)
      obtain ⟨y, hy, ey⟩ := List.mem_map.mp (goal_mem (s := askH cs s) (n := n) l.rule a w)
      have hgok : (goalOf l.rule (askH cs s) (a :: w) n).1.ok := by rw [← ey]; exact (raw_ok hc hr hh (hx' y hy)).1
      have hlen : (wantedRaw l cs s (heard cs s n)).length ≤ 8 := by
        have h1 := g0.len hc
        have h2 : (heard cs s n).length ≤ 4 := Nat.le_trans (List.length_filter_le _ _) (waiting_len hc)
        unfold wantedRaw
        split <;> simp <;> omega
      have hlw : (a :: w).length ≤ 8 := by
        rw [← hw]; unfold wanted; rw [(sortW_perm _).length_eq]; exact hlen
      have hgl := goal_len (s := askH cs s) (n := n) l.rule (a :: w)
      obtain ⟨g1, _⟩ := stop_good (n := n) hl hc g0 (s1 := askG (askH cs s) (goalOf l.rule (askH cs s) (a :: w) n).2) rfl rfl rfl rfl (by have := ask_good hc g0; simp only [askG, List.length_append]; omega) hgok
      have := run_lenA hl hc N (i + 1) _ _ _ res g1 h
      omega
    | nil =>
      rw [hw] at h
      simp only at h
      cases ht : nextMin cs (askH cs s) (heard cs s n) with
      | some t =>
        rw [ht] at h
        simp only at h
        obtain ⟨g1, _⟩ := wait_good hc g0 ht
        have := run_lenA hl hc N (i + 1) { askH cs s with m := (0, t) } stops e res g1 h
        omega
      | none =>
        rw [ht] at h
        cases h
        have := ask_good hc g0
        simp only
        omega
theorem runF_lenA {l : Lf} {cs : List Cl} (hl : l.ok) (hc : CsOk cs) (n : Int) : (runF l cs n).2.2.length ≤ 364 := by
  have := run_lenA hl hc 18 0 (first0 l) [] (0, 0) _ (first_good hl) (runF_eq hl hc n)
  omega
theorem runF_rides {l : Lf} {cs : List Cl} (hl : l.ok) (hc : CsOk cs) (n : Int) : (runF l cs n).1.length ≤ 18 ∧ ∀ p < cs.length, (∃ x ∈ (runF l cs n).1, p ∈ x.on) ∧ ∃ x ∈ (runF l cs n).1, p ∈ x.off := by
  have := run_rides (n := n) hl 18 (first0 l) [] (0, 0) _ ⟨by simp [first0], by simp [first0]⟩ (runF_eq hl hc n)
  exact ⟨by have := this.1; simp at this; omega, this.2⟩
def ridesF (cs : List Cl) (stops : List Stop) : List (Form × Form) := (List.range cs.length).map fun p => (onOf stops p, offOf stops p)
theorem ridesF_len (cs : List Cl) (stops : List Stop) : (ridesF cs stops).length = cs.length := by rw [ridesF, List.length_map, List.length_range]
theorem cov_map {α β : Type} {F : Int → α} (g : α → β) {hi : Option Int} : ∀ {rows : List (Row α)} {lo : Int}, Cov F hi lo rows → Cov (fun n => g (F n)) hi lo (rows.map fun r => (r.1, r.2.1, g r.2.2))
  | [], _, h => h
  | (l, h, t) :: r, lo, c => by
    obtain ⟨a1, a2, q⟩ := c
    refine ⟨a1, fun n n1 n2 => congrArg g (a2 n n1 n2), ?_⟩
    rcases q with ⟨q1, q2, q3⟩ | ⟨e, q1, q2, q3, q4⟩
    · exact .inl ⟨by rw [q1]; rfl, q2, q3⟩
    · exact .inr ⟨e, q1, q2, q3, cov_map g q4⟩
theorem joinF_len {τ : Type} [DecidableEq τ] (rows : List (Row τ)) : (joinF rows).length ≤ rows.length := by
  have : ∀ (L : List (Row τ)) (f : List (Row τ)), (L.foldl joinStep f).length ≤ f.length + L.length := by
    intro L
    induction L with
    | nil => intro f; exact Nat.le_refl _
    | cons a L ih =>
      intro f
      rw [List.foldl_cons]
      have h1 := ih (joinStep f a)
      have h2 : (joinStep f a).length ≤ f.length + 1 := by
        unfold joinStep
        split
        · split
          · rename_i x hx _
            have : f ≠ [] := by intro e; rw [e] at hx; cases hx
            have := List.length_pos_iff.mpr this
            rw [List.length_append, List.length_dropLast, List.length_singleton]; omega
          · simp
        · simp
      simp only [List.length_cons]
      omega
  have := this rows []
  simpa [joinF] using this
/-- each row is within, and what it tells is so -/
theorem Cov.mem {α : Type} {F : Int → α} {hi : Option Int} : ∀ {rows : List (Row α)} {lo : Int}, Cov F hi lo rows → ∀ r ∈ rows, lo ≤ r.1 ∧ hiLe r.1 r.2.1 ∧ (∀ n, r.1 ≤ n → hiLe n r.2.1 → F n = r.2.2 ∧ hiLe n hi)
  | [], _, h, _, _ => h.elim
  | (l, h, t) :: q, lo, c, r, hr => by
    obtain ⟨a1, a2, z⟩ := c
    subst a1
    have hh : hiLe l h ∧ ∀ n, hiLe n h → hiLe n hi := by
      rcases z with b | ⟨e, w1, w2, w3, _⟩
      · exact ⟨b.2.2, fun n y => by rw [← b.2.1]; exact y⟩
      · rw [w1]; exact ⟨w2, fun n y => hiLe_mono y w3⟩
    rcases List.mem_cons.mp hr with e | e
    · subst e
      exact ⟨Int.le_refl _, hh.1, fun n n1 n2 => ⟨a2 n n1 n2, hh.2 n n2⟩⟩
    · rcases z with b | ⟨e', w1, w2, w3, w4⟩
      · rw [b.1] at e; cases e
      · obtain ⟨y1, y2, y3⟩ := Cov.mem w4 r e
        exact ⟨by omega, y2, y3⟩
def eO : Option Int → D
  | none => .non
  | some e => .int e
def eRow {τ : Type} (enc : τ → D) (r : Row τ) : D := .tup [.int r.1, eO r.2.1, enc r.2.2]
structure EncOk {τ : Type} [DecidableEq τ] (enc : τ → D) : Prop where
  pl : ∀ a, plD 20 (enc a) = true
  eq : ∀ a b, D.beq (enc a) (enc b) = decide (a = b)
theorem pl_up {k : Nat} : ∀ (j : Nat) {d : D}, plD k d = true → plD (k + j) d = true
  | 0, _, h => h
  | j + 1, _, h => plD_up' (pl_up j h)
theorem plT (k : Nat) (l : List D) : plD (k + 1) (.tup l) = l.all (plD k) := rfl
theorem plL (k : Nat) (l : List D) : plD (k + 1) (.lst l) = l.all (plD k) := rfl
theorem pl_map {α : Type} {k : Nat} {f : α → D} (h : ∀ a, plD k (f a) = true) (l : List α) : (l.map f).all (plD k) = true := by
  rw [List.all_eq_true]
  intro d hd
  obtain ⟨a, _, rfl⟩ := List.mem_map.mp hd
  exact h a
theorem pl_eO (k : Nat) (h : Option Int) : plD (k + 1) (eO h) = true := by cases h <;> rfl
theorem pl_eRow {τ : Type} [DecidableEq τ] {enc : τ → D} (he : EncOk enc) (r : Row τ) : plD 21 (eRow enc r) = true := by
  rw [eRow, plT 20]
  simp only [List.all_cons, List.all_nil, he.pl, pl_eO 19, show plD 20 (.int r.1) = true from rfl, Bool.and_true]
theorem beqs_map {α : Type} [DecidableEq α] {f : α → D} (h : ∀ a b, D.beq (f a) (f b) = decide (a = b)) : ∀ l m : List α, D.beqs (l.map f) (m.map f) = decide (l = m)
  | [], [] => by simp [D.beqs]
  | [], _ :: _ => by simp [D.beqs]
  | _ :: _, [] => by simp [D.beqs]
  | a :: l, b :: m => by
    simp only [List.map_cons, D.beqs, h, beqs_map h l m, List.cons.injEq]
    by_cases h1 : a = b <;> by_cases h2 : l = m <;> simp [h1, h2]
theorem eqF_beq (f g : Form) : D.beq (eF f) (eF g) = decide (f = g) := by
  obtain ⟨a, b⟩ := f
  obtain ⟨c, d⟩ := g
  simp only [D.beq, D.beqs, Bool.and_true, Prod.mk.injEq]
  by_cases h1 : a = c <;> by_cases h2 : b = d <;> simp [h1, h2]
theorem enc_F : EncOk eF := ⟨fun a => rfl, eqF_beq⟩
theorem beq_eN (p q : Nat) : D.beq (eN p) (eN q) = decide (p = q) := by
  rw [beq_N]; by_cases h : p = q <;> simp [h]
theorem stop_beq (a b : Stop) : D.beq (eStop a) (eStop b) = decide (a = b) := by
  obtain ⟨a1, a2, a3, a4⟩ := a
  obtain ⟨b1, b2, b3, b4⟩ := b
  have h1 := beqs_map beq_eN a3 b3
  have h2 := beqs_map beq_eN a4 b4
  have h3 := beq_fl a1 b1
  have h4 := eqF_beq a2 b2
  rw [show D.beq (eStop ⟨a1, a2, a3, a4⟩) (eStop ⟨b1, b2, b3, b4⟩) = (D.beq (eFl a1) (eFl b1) && (D.beq (eF a2) (eF b2) && (D.beqs (a3.map eN) (b3.map eN) && (D.beqs (a4.map eN) (b4.map eN) && true)))) from rfl, h1, h2, h3, h4]
  simp only [Stop.mk.injEq]
  by_cases q1 : a1 = b1 <;> by_cases q2 : a2 = b2 <;> by_cases q3 : a3 = b3 <;> by_cases q4 : a4 = b4 <;> simp [q1, q2, q3, q4]
theorem pl_eN (k : Nat) (l : List Nat) : plD (k + 2) (.tup (eNs l)) = true := (plT (k + 1) _).trans (all_Ns k l)
theorem pl_stopK (k : Nat) (s : Stop) : plD (k + 3) (eStop s) = true := by
  have h1 : plD (k + 2) (.tup (eNs s.off)) = true := pl_eN k _
  have h2 : plD (k + 2) (.tup (eNs s.on)) = true := pl_eN k _
  have h3 : plD (k + 2) (eFl s.fl) = true := pl_fl k s.fl
  have h4 : plD (k + 2) (eF s.m) = true := rfl
  rw [eStop, plT (k + 2)]
  simp only [List.all_cons, List.all_nil, h1, h2, h3, h4, Bool.and_true]
abbrev eStops (L : List Stop) : D := .tup (L.map eStop)
theorem enc_stops : EncOk eStops := ⟨fun a => (plT 19 _).trans (pl_map (pl_stopK 16) a), fun a b => beqs_map stop_beq a b⟩
abbrev eRun (p : List Stop × Form) : D := .tup [eStops p.1, eF p.2]
theorem pair_beq {α β : Type} [DecidableEq α] [DecidableEq β] {f : α → D} {g : β → D} (hf : ∀ a b, D.beq (f a) (f b) = decide (a = b)) (hg : ∀ a b, D.beq (g a) (g b) = decide (a = b)) (p q : α × β) : D.beq (.tup [f p.1, g p.2]) (.tup [f q.1, g q.2]) = decide (p = q) := by
  obtain ⟨a, b⟩ := p
  obtain ⟨c, d⟩ := q
  simp only [D.beq, D.beqs, Bool.and_true, hf, hg, Prod.mk.injEq]
  by_cases h1 : a = c <;> by_cases h2 : b = d <;> simp [h1, h2]
theorem enc_run : EncOk eRun := ⟨fun a => by
    rw [eRun, plT 19]
    have : plD 19 (eStops a.1) = true := (plT 18 _).trans (pl_map (pl_stopK 15) a.1)
    simp only [List.all_cons, List.all_nil, this, show plD 19 (eF a.2) = true from rfl, Bool.and_true], fun a b => pair_beq enc_stops.eq eqF_beq a b⟩
abbrev eRide (q : Form × Form) : D := .tup [eF q.1, eF q.2]
theorem ride_beq (a b : Form × Form) : D.beq (eRide a) (eRide b) = decide (a = b) := pair_beq eqF_beq eqF_beq a b
theorem enc_ride : EncOk eRide := ⟨fun a => rfl, ride_beq⟩
abbrev eRides (L : List (Form × Form)) : D := .lst (L.map eRide)
theorem enc_rides : EncOk eRides := ⟨fun a => (plL 19 _).trans (pl_map (fun a => rfl) a), fun a b => beqs_map ride_beq a b⟩
theorem eq_enc {τ : Type} [DecidableEq τ] {enc : τ → D} (he : EncOk enc) (a b : τ) (st : Store) : eqD st (enc a) (enc b) = some (decide (a = b)) := by
  rw [eqD_pl st (pl_up 4 (he.pl a)) (pl_up 4 (he.pl b)), he.eq]
theorem itemAt_last {α : Type} (l : List α) (x : α) : itemAt (l ++ [x]) (-1) = some x := by
  have h2 : (-((l ++ [x]).length : Int)) ≤ -1 := by simp; omega
  have h3 : ((-1 : Int) + ((l ++ [x]).length : Nat)).toNat = l.length := by rw [List.length_append, List.length_singleton]; omega
  simp only [itemAt, ixI, if_neg (show ¬ (0 : Int) ≤ -1 by decide), if_pos h2, h3]
  simp
theorem cut_last {α : Type} (l : List α) (x : α) : cut (l ++ [x]) none (some (-1)) = l := by
  have e : HT.sIx (l ++ [x]).length (l ++ [x]).length (some (-1)) = l.length := by
    unfold HT.sIx
    simp
    omega
  simp only [cut, e]
  simp [HT.sIx]
end LF

/-! Tab6: the program's rows. -/
namespace LF
open AF
def tableF (l : Lf) (cs : List Cl) : List (Row (List Stop)) := joinF ((joinF (runRows l cs)).map fun r => (r.1, r.2.1, r.2.2.1))
def ridesR (l : Lf) (cs : List Cl) : List (Row (List (Form × Form))) := joinF ((joinF (runRows l cs)).map fun r => (r.1, r.2.1, ridesF cs r.2.2.1))
theorem runs_len (l : Lf) (cs : List Cl) : (joinF (runRows l cs)).length ≤ 20000 := Nat.le_trans (joinF_len _) (tile_len _ _)
theorem ridesR_len (l : Lf) (cs : List Cl) : (ridesR l cs).length ≤ 20000 := Nat.le_trans (joinF_len _) (by rw [List.length_map]; exact runs_len l cs)
theorem tableF_cov {l : Lf} {cs : List Cl} (hl : l.ok) (hc : CsOk cs) : Cov (fun n => (runF l cs n).1) none 8 (tableF l cs) ∧ Adj (tableF l cs) :=
  join_cov (cov_map (·.1) (join_cov (runRows_cov hl hc)).1)
theorem ridesR_cov {l : Lf} {cs : List Cl} (hl : l.ok) (hc : CsOk cs) : Cov (fun n => ridesF cs (runF l cs n).1) none 8 (ridesR l cs) ∧ Adj (ridesR l cs) :=
  join_cov (cov_map (fun p : List Stop × Form => ridesF cs p.1) (join_cov (runRows_cov hl hc)).1)
/-- what a row of the runs tells is a run's -/
theorem runs_mem {l : Lf} {cs : List Cl} (hl : l.ok) (hc : CsOk cs) : ∀ r ∈ joinF (runRows l cs), 8 ≤ r.1 ∧ (runF l cs r.1).1 = r.2.2.1 := fun r hr => by
  obtain ⟨h1, h2, h3⟩ := (join_cov (runRows_cov hl hc)).1.mem r hr
  have := (h3 r.1 (Int.le_refl _) h2).1
  exact ⟨h1, by rw [← this]⟩
end LF

/-! Tab7: bounds of rows, their shape. -/
namespace LF
open AF
section
variable {τ : Type}
def EndB (B : Int) (rows : List (Row τ)) : Prop := ∀ r ∈ rows, ∀ e, r.2.1 = some e → e ≤ B
theorem EndB.map {β : Type} {B : Int} {rows : List (Row τ)} (g : τ → β) (h : EndB B rows) : EndB B (rows.map fun r => (r.1, r.2.1, g r.2.2)) := fun r hr => by
  obtain ⟨a, ha, rfl⟩ := List.mem_map.mp hr
  exact h a ha
theorem EndB.join [DecidableEq τ] {B : Int} {rows : List (Row τ)} (h : EndB B rows) : EndB B (joinF rows) := by
  have key : ∀ (L f : List (Row τ)), EndB B L → EndB B f → EndB B (L.foldl joinStep f) := by
    intro L
    induction L with
    | nil => intro f _ hf; exact hf
    | cons a L ih =>
      intro f hL hf
      rw [List.foldl_cons]
      refine ih _ (fun r hr => hL r (List.mem_cons_of_mem _ hr)) ?_
      have ha := hL a List.mem_cons_self
      intro r hr
      unfold joinStep at hr
      split at hr
      · split at hr
        · rcases List.mem_append.mp hr with q | q
          · exact hf r (List.dropLast_subset _ q)
          · rw [List.mem_singleton] at q; subst q; exact ha
        · rcases List.mem_append.mp hr with q | q
          · exact hf r q
          · rw [List.mem_singleton] at q; subst q; exact ha
      · rcases List.mem_append.mp hr with q | q
        · exact hf r q
        · rw [List.mem_singleton] at q; subst q; exact ha
  exact key rows [] h (fun r hr => by cases hr)
theorem EndB.tile {G : Int → Option Int} {T : Int → τ} {hi : Option Int} {lo0 B C : Int} (hG : TileOk G hi lo0 B) (hBC : B ≤ C) (hC : ∀ e, hi = some e → e ≤ C) : ∀ (k : Nat) (n : Int), lo0 ≤ n → hiLe n hi → EndB C (tile G T hi k n)
  | 0, _, _, _ => fun r hr => by simp [LF.tile] at hr
  | k + 1, n, h1, h2 => by
    obtain ⟨a1, a2⟩ := hG.ok n h1 h2
    unfold LF.tile
    intro r hr e he
    rcases List.mem_cons.mp hr with q | q
    · subst q
      simp only at he
      rcases a2 with z | ⟨e', e1, e2, _⟩
      · exact hC e (by rw [← z]; exact he)
      · rw [e1] at he; cases he; omega
    · split at q
      · cases q
      · rename_i hne
        rcases a2 with z | ⟨e', e1, e2, e3⟩
        · exact absurd z hne
        · rw [e1] at q a1
          have a1 : n ≤ e' := a1
          exact EndB.tile hG hBC hC k (e' + 1) (by omega) e3 r q e he
theorem Cov.lowB {F : Int → τ} {hi : Option Int} {B : Int} : ∀ {rows : List (Row τ)} {lo : Int}, Cov F hi lo rows → EndB B rows → ∀ r ∈ rows, r.1 = lo ∨ r.1 ≤ B + 1
  | [], _, h, _, _, _ => h.elim
  | (l, h, t) :: q, lo, c, hb, r, hr => by
    obtain ⟨a1, a2, z⟩ := c
    subst a1
    rcases List.mem_cons.mp hr with e | e
    · subst e; exact .inl rfl
    · rcases z with b | ⟨e', w1, w2, w3, w4⟩
      · rw [b.1] at e; cases e
      · have := hb (l, h, t) List.mem_cons_self e' w1
        rcases Cov.lowB w4 (fun r hr => hb r (List.mem_cons_of_mem _ hr)) r e with y | y
        · right; omega
        · exact .inr y
theorem Cov.lastNone {F : Int → τ} : ∀ {rows : List (Row τ)} {lo : Int}, Cov F none lo rows → ∃ D l t, rows = D ++ [(l, none, t)]
  | [], _, h => h.elim
  | (l, g, t) :: r, lo, h => by
    obtain ⟨_, _, q | ⟨e', _, _, _, q4⟩⟩ := h
    · obtain ⟨rfl, rfl, _⟩ := q; exact ⟨[], l, t, rfl⟩
    · obtain ⟨D, l', t', w⟩ := Cov.lastNone q4
      exact ⟨(l, g, t) :: D, l', t', by rw [w]; rfl⟩
theorem cov_zip {F : Int → τ} {hi : Option Int} : ∀ {rows : List (Row τ)} {lo : Int}, Cov F hi lo rows → Adj rows → ∀ q ∈ rows.zip (rows.drop 1), ∃ e, q.1.2.1 = some e ∧ q.1.1 ≤ e ∧ q.2.1 = e + 1 ∧ q.1.2.2 ≠ q.2.2.2
  | [], _, h, _, _, _ => h.elim
  | [x], _, _, _, q, hq => by simp at hq
  | (l, h, t) :: (l2, h2, t2) :: r, lo, c, ad, q, hq => by
    have hq' : q ∈ ((l, h, t), (l2, h2, t2)) :: ((l2, h2, t2) :: r).zip (((l2, h2, t2) :: r).drop 1) := by simpa using hq
    obtain ⟨a1, a2, z⟩ := c
    subst a1
    rcases z with b | ⟨e, w1, w2, w3, w4⟩
    · cases b.1
    · rcases List.mem_cons.mp hq' with y | y
      · subst y
        exact ⟨e, w1, w2, w4.1, ad.1⟩
      · exact cov_zip w4 ad.2 q y
theorem cov_at {F : Int → τ} {hi : Option Int} {n : Int} (hn : hiLe n hi) : ∀ {rows : List (Row τ)} {lo : Int}, Cov F hi lo rows → lo ≤ n → ∃ D x, rows.filter (fun r => decide (r.1 ≤ n)) = D ++ [x] ∧ x.2.2 = F n ∧ x.1 ≤ n ∧ hiLe n x.2.1 ∧ x ∈ rows
  | [], _, h, _ => h.elim
  | (l, h, t) :: r, lo, c, hlo => by
    obtain ⟨a1, a2, z⟩ := c
    subst a1
    rw [List.filter_cons, if_pos (by simpa using hlo)]
    rcases z with ⟨b1, b2, b3⟩ | ⟨e, w1, w2, w3, w4⟩
    · subst b1 b2
      exact ⟨[], (l, h, t), rfl, (a2 n hlo hn).symm, hlo, hn, List.mem_cons_self⟩
    · by_cases he : e + 1 ≤ n
      · obtain ⟨D, x, y1, y2, y3, y4, y5⟩ := cov_at hn w4 he
        exact ⟨(l, h, t) :: D, x, by rw [y1]; rfl, y2, y3, y4, List.mem_cons_of_mem _ y5⟩
      · have : r.filter (fun r => decide (r.1 ≤ n)) = [] := by
          rw [List.filter_eq_nil_iff]
          intro x hx
          have := (w4.mem x hx).1
          simp; omega
        rw [this]
        subst w1
        have hne : n ≤ e := by omega
        exact ⟨[], (l, some e, t), rfl, (a2 n hlo hne).symm, hlo, hne, List.mem_cons_self⟩
/-- a row whose telling takes several places -/
def eRowG (rest : τ → List D) (r : Row τ) : D := .tup (.int r.1 :: eO r.2.1 :: rest r.2.2)
structure EncL [DecidableEq τ] (rest : τ → List D) : Prop where
  pl : ∀ a, plD 20 (.tup (rest a)) = true
  eq : ∀ a b, D.beq (.tup (rest a)) (.tup (rest b)) = decide (a = b)
theorem EncOk.l [DecidableEq τ] {enc : τ → D} (h : EncOk enc) (h2 : ∀ a, plD 19 (enc a) = true) : EncL fun a => [enc a] := ⟨fun a => by rw [plT 19, List.all_cons, h2 a]; rfl, fun a b => by
  rw [show D.beq (.tup [enc a]) (.tup [enc b]) = (D.beq (enc a) (enc b) && true) from rfl, h.eq, Bool.and_true]⟩
theorem pl_eRowG [DecidableEq τ] {rest : τ → List D} (he : EncL rest) (r : Row τ) : plD 21 (eRowG rest r) = true := by
  have h := he.pl r.2.2
  rw [plT 19] at h
  rw [eRowG, plT 20]
  simp only [List.all_cons, pl_eO 19, show plD 20 (.int r.1) = true from rfl, Bool.true_and]
  rw [List.all_eq_true] at h ⊢
  exact fun d hd => plD_up' (h d hd)
end
theorem tableF_end {l : Lf} {cs : List Cl} (hl : l.ok) (hc : CsOk cs) : EndB 3300 (joinF (runRows l cs)) := by
  have hB : ∀ n, 8 ≤ n → ∀ f ∈ (runF l cs n).2.2, iabs f.2 ≤ 3300 := fun n _ f hf => iabs_le ((runF_small hl hc n).2 f hf)
  have ht := until_tile (fs := fun n => (runF l cs n).2.2) (hi := none) hB
  simp only [less_none] at ht
  exact (EndB.tile ht (Int.le_refl _) (fun e h => by cases h) _ 8 (by omega) trivial).join
end LF

/-! Tab8: stretches within stretches. -/
namespace LF
open AF
section
variable {τ β : Type}
theorem cov_mapL {F : Int → τ} {G : Int → β} {g : Row τ → β} {hi : Option Int} : ∀ {rows : List (Row τ)} {lo : Int}, Cov F hi lo rows → (∀ r ∈ rows, ∀ n, r.1 ≤ n → hiLe n r.2.1 → G n = g r) → Cov G hi lo (rows.map fun r => (r.1, r.2.1, g r))
  | [], _, h, _ => h
  | (l, h, t) :: r, lo, c, hg => by
    obtain ⟨a1, a2, q⟩ := c
    subst a1
    refine ⟨rfl, fun n n1 n2 => hg (l, h, t) List.mem_cons_self n n1 n2, ?_⟩
    rcases q with ⟨q1, q2, q3⟩ | ⟨e, q1, q2, q3, q4⟩
    · exact .inl ⟨by rw [q1]; rfl, q2, q3⟩
    · exact .inr ⟨e, q1, q2, q3, cov_mapL q4 fun r hr => hg r (List.mem_cons_of_mem _ hr)⟩
theorem cov_sub {F : Int → τ} {G : Int → β} {sub : Row τ → List (Row β)} {hi : Option Int} : ∀ {rows : List (Row τ)} {lo : Int}, Cov F hi lo rows → (∀ r ∈ rows, Cov G r.2.1 r.1 (sub r)) → Cov G hi lo (rows.flatMap sub)
  | [], _, h, _ => h.elim
  | (l, h, t) :: r, lo, c, hg => by
    obtain ⟨a1, a2, q⟩ := c
    subst a1
    have h1 := hg (l, h, t) List.mem_cons_self
    rw [List.flatMap_cons]
    rcases q with ⟨q1, q2, q3⟩ | ⟨e, q1, q2, q3, q4⟩
    · subst q1 q2
      rw [List.flatMap_nil, List.append_nil]
      exact h1
    · subst q1
      exact Cov.append q3 h1 (cov_sub q4 fun r hr => hg r (List.mem_cons_of_mem _ hr))
theorem EndB.flat {B : Int} {rows : List (Row τ)} {sub : Row τ → List (Row β)} (h : ∀ r ∈ rows, EndB B (sub r)) : EndB B (rows.flatMap sub) := fun r hr => by
  obtain ⟨a, ha, hb⟩ := List.mem_flatMap.mp hr
  exact h a ha r hb
theorem EndB.mapL {B : Int} {rows : List (Row τ)} {g : Row τ → β} (h : EndB B rows) : EndB B (rows.map fun r => (r.1, r.2.1, g r)) := fun r hr => by
  obtain ⟨a, ha, rfl⟩ := List.mem_map.mp hr
  exact h a ha
theorem EndB.mono {B C : Int} {rows : List (Row τ)} (h : EndB B rows) (hBC : B ≤ C) : EndB C rows := fun r hr e he => Int.le_trans (h r hr e he) hBC
end
theorem Cov.len {τ : Type} {F : Int → τ} {hi : Option Int} {B : Int} : ∀ {rows : List (Row τ)} {lo : Int}, Cov F hi lo rows → EndB B rows → lo ≤ B + 1 → rows.length ≤ (B + 2 - lo).toNat
  | [], _, h, _, _ => h.elim
  | (l, h, t) :: r, lo, c, hE, hlo => by
    obtain ⟨a1, a2, q⟩ := c
    subst a1
    rcases q with ⟨q1, q2, q3⟩ | ⟨e, q1, q2, q3, q4⟩
    · subst q1; simp only [List.length_cons, List.length_nil]; omega
    · have he := hE (l, h, t) List.mem_cons_self e q1
      have := Cov.len q4 (fun r hr => hE r (List.mem_cons_of_mem _ hr)) (by omega)
      rw [List.length_cons]; omega
theorem bySigns_end {lo : Int} {hi : Option Int} {fs : List Form} {B C : Int} (h8 : 8 ≤ lo) (hl : hiLe lo hi) (hB : ∀ f ∈ fs, iabs f.2 ≤ B) (hBC : B ≤ C) (hC : ∀ e, hi = some e → e ≤ C) : EndB C (bySigns lo hi fs) :=
  EndB.tile (until_tile (fs := fun _ => fs) (fun n _ => hB)) hBC hC _ lo h8 hl
theorem bySigns_mem {lo : Int} {hi : Option Int} {fs : List Form} {B : Int} (h8 : 8 ≤ lo) (hl : hiLe lo hi) (hB : ∀ f ∈ fs, iabs f.2 ≤ B) (hB2 : B ≤ 19990) : ∀ r ∈ bySigns lo hi fs, lo ≤ r.1 ∧ hiLe r.1 hi ∧ r.2.2 = signsL fs r.1 ∧ ∀ n, r.1 ≤ n → hiLe n r.2.1 → SameSg fs r.1 n := fun r hr => by
  obtain ⟨h1, h2, h3⟩ := (bySigns_cov h8 hl hB hB2).mem r hr
  obtain ⟨z1, z2⟩ := h3 r.1 (Int.le_refl _) h2
  exact ⟨h1, z2, z1.symm, fun n n1 n2 => signs_same.mp ((h3 n n1 n2).1.trans z1.symm)⟩
theorem bySigns_len (lo : Int) (hi : Option Int) (fs : List Form) : (bySigns lo hi fs).length ≤ 20000 := tile_len _ _
/-- parts of small forms -/
def SmallR (b : Int) (L : List (Form × Form)) : Prop := ∀ q ∈ L, Small b q.1 ∧ Small b q.2
theorem head_small' {b : Int} (hb : 0 ≤ b) {L : List Stop} (h : ∀ x ∈ L, Small b x.m) : Small b (((L.map (·.m)).head?).getD (0, 0)) := by
  cases L with
  | nil => simp [Small]; omega
  | cons x r => simpa using h x List.mem_cons_self
theorem ridesF_small {l : Lf} {cs : List Cl} (hl : l.ok) (hc : CsOk cs) (n : Int) : SmallR 2200 (ridesF cs (runF l cs n).1) := by
  intro q hq
  obtain ⟨p, _, rfl⟩ := List.mem_map.mp hq
  have h := (runF_small hl hc n).1
  exact ⟨head_small' (by decide) fun x hx => h x (List.mem_filter.mp hx).1, head_small' (by decide) fun x hx => h x (List.mem_filter.mp hx).1⟩
/-- what a row of rides tells -/
theorem ridesR_mem {l : Lf} {cs : List Cl} (hl : l.ok) (hc : CsOk cs) : ∀ r ∈ ridesR l cs, 8 ≤ r.1 ∧ hiLe r.1 r.2.1 ∧ r.2.2 = ridesF cs (runF l cs r.1).1 ∧ r.1 ≤ 3301 ∧ (∀ e, r.2.1 = some e → e ≤ 3300) := fun r hr => by
  have hC := (ridesR_cov hl hc).1
  obtain ⟨h1, h2, h3⟩ := hC.mem r hr
  have hE : EndB 3300 (ridesR l cs) := ((tableF_end hl hc).map (fun p : List Stop × Form => ridesF cs p.1)).join
  have := hC.lowB hE r hr
  exact ⟨h1, h2, ((h3 r.1 (Int.le_refl _) h2).1).symm, by omega, hE r hr⟩
theorem ridesR_end {l : Lf} {cs : List Cl} (hl : l.ok) (hc : CsOk cs) : EndB 3300 (ridesR l cs) := ((tableF_end hl hc).map (fun p : List Stop × Form => ridesF cs p.1)).join
theorem pairs_small {b : Int} {fs : List Form} (h : ∀ f ∈ fs, Small b f) : ∀ f ∈ allPairs fs, Small (b + b) f := by
  intro f hf
  obtain ⟨a, ha, hb⟩ := List.mem_flatMap.mp hf
  obtain ⟨c, hc, rfl⟩ := List.mem_map.mp hb
  exact sub_small' (h a ha) (h c hc)
theorem pairs_len (fs : List Form) : (allPairs fs).length = fs.length * fs.length := by
  unfold allPairs
  rw [List.length_flatMap]
  simp only [List.length_map]
  have key : ∀ (L : List Form) (k : Nat), (L.map fun _ => k).sum = L.length * k := by
    intro L k
    induction L with
    | nil => simp
    | cons a L ih => rw [List.map_cons, List.sum_cons, ih, List.length_cons, Nat.succ_mul]; omega
  exact key fs fs.length
def lastOf (fs : List Form) (n : Int) : Form := (fs[greatestOf fs n]?).getD (0, 0)
def offs (L : List (Form × Form)) : List Form := L.map (·.2)
def endRaw (rows : List (Row (List (Form × Form)))) : List (Row Form) := rows.flatMap fun r => (bySigns r.1 r.2.1 (allPairs (offs r.2.2))).map fun q => (q.1, q.2.1, lastOf (offs r.2.2) q.1)
def endF (l : Lf) (cs : List Cl) : List (Row Form) := if cs = [] then [(8, none, (0, 0))] else joinF (endRaw (ridesR l cs))
/-- the form of the minute at which the last one gets off -/
def endAt (l : Lf) (cs : List Cl) (n : Int) : Form := if cs = [] then (0, 0) else lastOf (offs (ridesF cs (runF l cs n).1)) n
theorem offs_small {l : Lf} {cs : List Cl} (hl : l.ok) (hc : CsOk cs) (n : Int) : ∀ f ∈ offs (ridesF cs (runF l cs n).1), Small 2200 f := fun f hf => by
  obtain ⟨q, hq, rfl⟩ := List.mem_map.mp hf
  exact (ridesF_small hl hc n q hq).2
theorem offs_len (cs : List Cl) (S : List Stop) : (offs (ridesF cs S)).length = cs.length := by rw [offs, List.length_map, ridesF_len]
theorem end_sub {l : Lf} {cs : List Cl} (hl : l.ok) (hc : CsOk cs) : ∀ r ∈ ridesR l cs, ∀ f ∈ allPairs (offs r.2.2), Small 4400 f := fun r hr => by
  obtain ⟨_, _, h, _⟩ := ridesR_mem hl hc r hr
  rw [h]
  exact pairs_small (offs_small hl hc r.1)
theorem endRaw_ok {l : Lf} {cs : List Cl} (hl : l.ok) (hc : CsOk cs) : Cov (fun n => lastOf (offs (ridesF cs (runF l cs n).1)) n) none 8 (endRaw (ridesR l cs)) ∧ EndB 4400 (endRaw (ridesR l cs)) ∧ (endRaw (ridesR l cs)).length ≤ 4400 := by
  have hE : EndB 4400 (endRaw (ridesR l cs)) := EndB.flat fun r hr => by
    obtain ⟨h1, h2, h3, h4, h5⟩ := ridesR_mem hl hc r hr
    exact EndB.mapL (bySigns_end h1 h2 (fun f hf => iabs_le (end_sub hl hc r hr f hf)) (Int.le_refl _) (fun e he => by have := h5 e he; omega))
  have hC : Cov (fun n => lastOf (offs (ridesF cs (runF l cs n).1)) n) none 8 (endRaw (ridesR l cs)) := by
    refine cov_sub (ridesR_cov hl hc).1 fun r hr => ?_
    obtain ⟨h1, h2, h3, h4, h5⟩ := ridesR_mem hl hc r hr
    have hB : ∀ f ∈ allPairs (offs r.2.2), iabs f.2 ≤ 4400 := fun f hf => iabs_le (end_sub hl hc r hr f hf)
    refine cov_mapL (bySigns_cov h1 h2 hB (by decide)) fun q hq n n1 n2 => ?_
    obtain ⟨y1, y2, y3, y4⟩ := bySigns_mem h1 h2 hB (by decide) q hq
    obtain ⟨_, _, z3⟩ := (bySigns_cov h1 h2 hB (by decide)).mem q hq
    obtain ⟨_, _, w3⟩ := (ridesR_cov hl hc).1.mem r hr
    rw [(w3 n (Int.le_trans y1 n1) (z3 n n1 n2).2).1]
    unfold lastOf
    rw [greatest_const (y4 n n1 n2)]
  have := hC.len hE (by decide)
  exact ⟨hC, hE, by omega⟩
theorem endF_cov {l : Lf} {cs : List Cl} (hl : l.ok) (hc : CsOk cs) : Cov (endAt l cs) none 8 (endF l cs) ∧ Adj (endF l cs) ∧ EndB 4400 (endF l cs) := by
  unfold endF endAt
  by_cases h0 : cs = []
  · simp only [if_pos h0]
    exact ⟨⟨rfl, fun n _ _ => rfl, .inl ⟨rfl, rfl, trivial⟩⟩, trivial, fun r hr e he => by rw [List.mem_singleton] at hr; subst hr; cases he⟩
  · simp only [if_neg h0]
    obtain ⟨hC, hE, _⟩ := endRaw_ok hl hc
    exact ⟨(join_cov hC).1, (join_cov hC).2, hE.join⟩
def rideAt (L : List (Form × Form)) (p : Nat) : Form × Form := (L[p]?).getD ((0, 0), (0, 0))
def ridesP (l : Lf) (cs : List Cl) (p : Nat) : List (Row (Form × Form)) := joinF ((ridesR l cs).map fun r => (r.1, r.2.1, rideAt r.2.2 p))
abbrev rest2 (q : Form × Form) : List D := [eF q.1, eF q.2]
theorem enc_rest2 : EncL rest2 := ⟨fun a => rfl, fun a b => pair_beq eqF_beq eqF_beq a b⟩
theorem ridesP_ok {l : Lf} {cs : List Cl} (hl : l.ok) (hc : CsOk cs) (p : Nat) : Cov (fun n => rideAt (ridesF cs (runF l cs n).1) p) none 8 (ridesP l cs p) ∧ Adj (ridesP l cs p) ∧ EndB 3300 (ridesP l cs p) := by
  have h := join_cov (cov_map (fun L => rideAt L p) (ridesR_cov hl hc).1)
  exact ⟨h.1, h.2, ((ridesR_end hl hc).map (fun L => rideAt L p)).join⟩
/-! who waits longest -/
def waitF (cs : List Cl) (L : List (Form × Form)) : List Form := (enumP 0 L).map fun q => fsub q.2.2 (0, (cAt cs q.1).t)
theorem enumP_len {α : Type} : ∀ (i : Nat) (l : List α), (enumP i l).length = l.length
  | _, [] => rfl
  | i, a :: r => by rw [enumP, List.length_cons, List.length_cons, enumP_len (i + 1) r]
theorem waitF_len (cs : List Cl) (L : List (Form × Form)) : (waitF cs L).length = L.length := by rw [waitF, List.length_map, enumP_len]
def longOf (fs : List Form) (n : Int) : Nat × Form := (greatestOf fs n, lastOf fs n)
def longRaw (cs : List Cl) (rows : List (Row (List (Form × Form)))) : List (Row (Nat × Form)) := rows.flatMap fun r => (bySigns r.1 r.2.1 (allPairs (waitF cs r.2.2))).map fun q => (q.1, q.2.1, longOf (waitF cs r.2.2) q.1)
def longF (l : Lf) (cs : List Cl) : List (Row (Nat × Form)) := joinF (longRaw cs (ridesR l cs))
theorem waits_small {l : Lf} {cs : List Cl} (hl : l.ok) (hc : CsOk cs) (n : Int) : ∀ f ∈ waitF cs (ridesF cs (runF l cs n).1), Small 3200 f := fun f hf => by
  obtain ⟨q, hq, rfl⟩ := List.mem_map.mp hf
  obtain ⟨h1, h2⟩ := enum_lt hq
  rw [ridesF_len] at h1
  have hs := (ridesF_small hl hc n q.2 h2).2
  have e : cs[q.1] = cAt cs q.1 := by unfold cAt; rw [List.getElem?_eq_getElem (by omega)]; rfl
  have := hc.2.1 cs[q.1] (List.getElem_mem (by omega))
  rw [e] at this
  obtain ⟨t1, t2, _⟩ := this
  unfold Small fsub at *
  simp only
  omega
theorem wait_sub {l : Lf} {cs : List Cl} (hl : l.ok) (hc : CsOk cs) : ∀ r ∈ ridesR l cs, ∀ f ∈ allPairs (waitF cs r.2.2), Small 6400 f := fun r hr => by
  obtain ⟨_, _, h, _⟩ := ridesR_mem hl hc r hr
  rw [h]
  exact pairs_small (waits_small hl hc r.1)
theorem longRaw_ok {l : Lf} {cs : List Cl} (hl : l.ok) (hc : CsOk cs) : Cov (fun n => longOf (waitF cs (ridesF cs (runF l cs n).1)) n) none 8 (longRaw cs (ridesR l cs)) ∧ EndB 6400 (longRaw cs (ridesR l cs)) ∧ (longRaw cs (ridesR l cs)).length ≤ 6400 := by
  have hE : EndB 6400 (longRaw cs (ridesR l cs)) := EndB.flat fun r hr => by
    obtain ⟨h1, h2, h3, h4, h5⟩ := ridesR_mem hl hc r hr
    exact EndB.mapL (bySigns_end h1 h2 (fun f hf => iabs_le (wait_sub hl hc r hr f hf)) (Int.le_refl _) (fun e he => by have := h5 e he; omega))
  have hC : Cov (fun n => longOf (waitF cs (ridesF cs (runF l cs n).1)) n) none 8 (longRaw cs (ridesR l cs)) := by
    refine cov_sub (ridesR_cov hl hc).1 fun r hr => ?_
    obtain ⟨h1, h2, h3, h4, h5⟩ := ridesR_mem hl hc r hr
    have hB : ∀ f ∈ allPairs (waitF cs r.2.2), iabs f.2 ≤ 6400 := fun f hf => iabs_le (wait_sub hl hc r hr f hf)
    refine cov_mapL (bySigns_cov h1 h2 hB (by decide)) fun q hq n n1 n2 => ?_
    obtain ⟨y1, y2, y3, y4⟩ := bySigns_mem h1 h2 hB (by decide) q hq
    obtain ⟨_, _, z3⟩ := (bySigns_cov h1 h2 hB (by decide)).mem q hq
    obtain ⟨_, _, w3⟩ := (ridesR_cov hl hc).1.mem r hr
    rw [(w3 n (Int.le_trans y1 n1) (z3 n n1 n2).2).1]
    unfold longOf lastOf
    rw [greatest_const (y4 n n1 n2)]
  have := hC.len hE (by decide)
  exact ⟨hC, hE, by omega⟩
abbrev eLong (q : Nat × Form) : D := .tup [eN q.1, eF q.2]
abbrev restLong (q : Nat × Form) : List D := [eN q.1, eF q.2]
theorem long_beq (a b : Nat × Form) : D.beq (eLong a) (eLong b) = decide (a = b) := pair_beq beq_eN eqF_beq a b
theorem enc_long : EncOk eLong := ⟨fun a => rfl, long_beq⟩
theorem enc_restLong : EncL restLong := ⟨fun a => rfl, long_beq⟩
theorem longF_ok {l : Lf} {cs : List Cl} (hl : l.ok) (hc : CsOk cs) : Cov (fun n => longOf (waitF cs (ridesF cs (runF l cs n).1)) n) none 8 (longF l cs) ∧ Adj (longF l cs) ∧ EndB 6400 (longF l cs) := by
  obtain ⟨hC, hE, _⟩ := longRaw_ok hl hc
  exact ⟨(join_cov hC).1, (join_cov hC).2, hE.join⟩
def emptyF (l : Lf) (cs : List Cl) : List (Row Form) := joinF ((joinF (runRows l cs)).map fun r => (r.1, r.2.1, r.2.2.2))
theorem emptyF_ok {l : Lf} {cs : List Cl} (hl : l.ok) (hc : CsOk cs) : Cov (fun n => (runF l cs n).2.1) none 8 (emptyF l cs) ∧ Adj (emptyF l cs) ∧ EndB 3300 (emptyF l cs) := by
  have h := join_cov (cov_map (fun p : List Stop × Form => p.2) (join_cov (runRows_cov hl hc)).1)
  exact ⟨h.1, h.2, ((tableF_end hl hc).map (fun p : List Stop × Form => p.2)).join⟩
end LF

/-! Ev: one step of the evaluator each. -/
namespace AF
section
variable {kn : Kn} {ρ : Env} {st st1 st2 : Store} {a b c : E} {es : Es} {x y : D} {r : R D}
theorem ee_cmp {op : CO} (h1 : evE kn a ρ st = .ok x st1) (h2 : evE kn b ρ st1 = .ok y st2) (h3 : cmp op x y st2 = r) : evE kn (.cmp op a b) ρ st = r := by
  rw [evE, h1]; simp only [R.bind_ok, h2, h3]
theorem ee_bin {op : BO} {m : Bool} (h1 : evE kn a ρ st = .ok x st1) (h2 : evE kn b ρ st1 = .ok y st2) (h3 : bin op m x y st2 = r) : evE kn (.bin op m a b) ρ st = r := by
  rw [evE, h1]; simp only [R.bind_ok, h2, h3]
theorem ee_idx (h1 : evE kn a ρ st = .ok x st1) (h2 : evE kn b ρ st1 = .ok y st2) (h3 : idx x y st2 = r) : evE kn (.idx a b) ρ st = r := by
  rw [evE, h1]; simp only [R.bind_ok, h2, h3]
theorem ee_call {f : Nat} {ds : List D} (h1 : evEs kn es ρ st = .ok ds st1) (h2 : kn.call f ds st1 = r) : evE kn (.call f es) ρ st = r := by
  rw [evE, h1]; simp only [R.bind_ok, h2]
theorem ee_blt {f : BF} {m : Bool} {ds : List D} (h1 : evEs kn es ρ st = .ok ds st1) (h2 : blt f m ds st1 = r) : evE kn (.blt f m es) ρ st = r := by
  rw [evE, h1]; simp only [R.bind_ok, h2]
theorem ee_not (h1 : evE kn a ρ st = .ok (.bl v) st1) : evE kn (.not a) ρ st = .ok (.bl !v) st1 := by
  rw [evE, h1]; rfl
theorem ee_or_t (h1 : evE kn a ρ st = .ok (.bl true) st1) : evE kn (.or a b) ρ st = .ok (.bl true) st1 := by
  rw [evE, h1]; rfl
theorem ee_or_f (h1 : evE kn a ρ st = .ok (.bl false) st1) (h2 : evE kn b ρ st1 = r) : evE kn (.or a b) ρ st = r := by
  rw [evE, h1]; exact h2
theorem ee_and_f (h1 : evE kn a ρ st = .ok (.bl false) st1) : evE kn (.and a b) ρ st = .ok (.bl false) st1 := by
  rw [evE, h1]; rfl
theorem ee_and_t (h1 : evE kn a ρ st = .ok (.bl true) st1) (h2 : evE kn b ρ st1 = r) : evE kn (.and a b) ρ st = r := by
  rw [evE, h1]; exact h2
theorem ee_ite_t (h1 : evE kn c ρ st = .ok (.bl true) st1) (h2 : evE kn a ρ st1 = r) : evE kn (.ite c a b) ρ st = r := by
  rw [evE, h1]; exact h2
theorem ee_ite_f (h1 : evE kn c ρ st = .ok (.bl false) st1) (h2 : evE kn b ρ st1 = r) : evE kn (.ite c a b) ρ st = r := by
  rw [evE, h1]; exact h2
theorem ee_tup {ds : List D} (h1 : evEs kn es ρ st = .ok ds st1) : evE kn (.tup es) ρ st = .ok (.tup ds) st1 := by
  rw [evE, h1]; rfl
theorem ee_lst {ds : List D} (h1 : evEs kn es ρ st = .ok ds st1) : evE kn (.lst false es) ρ st = .ok (.lst ds) st1 := by
  rw [evE, h1]; rfl
theorem es_nil : evEs kn .nil ρ st = .ok [] st := by rw [evEs]
theorem es_cons {e : E} {ds : List D} (h1 : evE kn e ρ st = .ok x st1) (h2 : evEs kn es ρ st1 = .ok ds st2) : evEs kn (.cons e es) ρ st = .ok (x :: ds) st2 := by
  rw [evEs, h1]; simp only [R.bind_ok, h2]
theorem ee_var {i : Nat} (h : ρ[i]? = some (some x)) : evE kn (.var i) ρ st = .ok x st := by rw [evE, h]
theorem ss_if_t {s r : Ss} (h : evE kn c ρ st = .ok (.bl true) st1) : evS kn (.ite c s r) ρ st = evSs kn s ρ st1 := by
  rw [evS, h]; rfl
theorem ss_if_f {s r : Ss} (h : evE kn c ρ st = .ok (.bl false) st1) : evS kn (.ite c s r) ρ st = evSs kn r ρ st1 := by
  rw [evS, h]; rfl
/-- a test that does not hold, with nothing for it -/
theorem ss_skip {s : Ss} (h : evE kn c ρ st = .ok (.bl false) st1) : evS kn (.ite c s .nil) ρ st = .ok .next ρ st1 := by
  rw [ss_if_f h]; rfl
theorem ss_asg {t : Tg} {e : E} {ρ' : Env} (h : evE kn e ρ st = .ok x st1) (h2 : asg t x ρ = some ρ') : evS kn (.asg t e) ρ st = .ok .next ρ' st1 := by
  rw [evS, h]; simp only [lift_ok, h2]
theorem ss_ret' {e : E} (h : evE kn e ρ st = .ok x st1) : evS kn (.ret e) ρ st = .ok (.ret x) ρ st1 := by
  rw [evS, h]; rfl
theorem ss_expr {e : E} (h : evE kn e ρ st = .ok x st1) : evS kn (.expr e) ρ st = .ok .next ρ st1 := by
  rw [evS, h]; rfl
theorem ee_slc {lo hi : Oe} {l h : Option Int} {st3 : Store} (h1 : evE kn a ρ st = .ok x st1) (h2 : evOe kn lo ρ st1 = .ok l st2) (h3 : evOe kn hi ρ st2 = .ok h st3) (h4 : slc x l h st3 = r) : evE kn (.slc a lo hi) ρ st = r := by
  rw [evE, h1]; simp only [R.bind_ok, h2, h3, h4]
theorem ss_last {s : S} {ρ' : Env} (h : evS kn s ρ st = .ok .next ρ' st1) : evSs kn (.cons s .nil) ρ st = .ok .next ρ' st1 := by
  rw [ss_next h]; rfl
theorem cmp_eqb {d e : D} {b : Bool} (h : eqD st d e = some b) : cmp .eq d e st = .ok (.bl b) st := by simp only [cmp, h]
theorem cmp_neb {d e : D} {b : Bool} (h : eqD st d e = some b) : cmp .ne d e st = .ok (.bl (!b)) st := by simp only [cmp, h]
theorem ss_whl {s : Ss} {q : SR} (h : evWhile (evE kn c) (evSs kn s) kn.fuel ρ st = q) : evS kn (.whl c s) ρ st = q := by
  rw [evS]; exact h
theorem ss_for {tg : Tg} {it : It} {s : Ss} {sr : Src} {q : SR} (h : evIt kn it ρ st = .ok sr st1) (h2 : evFor sr.gs tg (evSs kn s) sr.its ρ st1 = q) : evS kn (.for_ tg it s) ρ st = q := by
  rw [evS, h]; exact h2
theorem it_of {d : D} {sr : R Src} (h : evE kn a ρ st = .ok d st1) (h2 : srcOf d st1 = sr) : evIt kn (.of a) ρ st = sr := by
  rw [evIt, h]; exact h2
theorem ee_lc {own : List Nat} {tg : Tg} {it : It} {oc : Oe} {e : E} {sr : Src} {l : List D} {m : Bool} (h : evIt kn it ρ st = .ok sr st1) (h2 : evLc sr.gs tg (evOc kn oc) (evE kn e) (wipeE ρ own) sr.its [] st1 = .ok l st2) : evE kn (.lc m own tg it oc e) ρ st = mkL m l st2 := by
  rw [evE, h]; simp only [R.bind_ok, h2]
theorem ne_same {d : D} (h : eqD st d d = some true) : cmp .ne d d st = .ok (.bl false) st := by simp only [cmp, h]; rfl
theorem eq_yes {d e : D} (h : eqD st d e = some true) : cmp .eq d e st = .ok (.bl true) st := by simp only [cmp, h]
end
theorem evLc2_map {α β : Type} {gs : List (Nat × List D)} {tg tg1 : Tg} {own1 : List Nat} {src : Env → Store → R Src} {e : Env → Store → R D} {ρ : Env} {st : Store} (enc1 : α → D) (enc2 : β → D) (ys : α → List β) (g : α → β → D) (hg : guard gs st = true) :
    ∀ (xs : List α) (acc : List D), acc.length + (xs.flatMap ys).length ≤ LIM → (∀ x ∈ xs, ∃ ρ1, asg tg (enc1 x) ρ = some ρ1 ∧ src ρ1 st = .ok ⟨(ys x).map enc2, []⟩ st ∧ ∀ y ∈ ys x, ∃ ρ2, asg tg1 (enc2 y) (wipeE ρ1 own1) = some ρ2 ∧ e ρ2 st = .ok (g x y) st) →
      evLc2 gs tg src own1 tg1 e ρ (xs.map enc1) acc st = .ok (acc ++ xs.flatMap fun x => (ys x).map (g x)) st
  | [], acc, _, _ => by simp [evLc2, hg]
  | x :: xs, acc, hl, h => by
    obtain ⟨ρ1, h1, h2, h3⟩ := h x List.mem_cons_self
    rw [List.flatMap_cons, List.length_append] at hl
    rw [List.map_cons, evLc2, if_pos hg, h1]
    simp only [h2]
    rw [evLc_map (gs := []) enc2 (fun _ => true) (g x) rfl (ys x) acc (by omega) (fun y hy => by
      obtain ⟨ρ2, w1, w2⟩ := h3 y hy
      exact ⟨ρ2, w1, rfl, fun _ => w2⟩), List.filter_eq_self.mpr fun _ _ => rfl]
    simp only
    rw [evLc2_map enc1 enc2 ys g hg xs _ (by rw [List.length_append, List.length_map]; omega) fun y hy => h y (List.mem_cons_of_mem _ hy)]
    rw [List.flatMap_cons, List.append_assoc]
end AF

namespace K05
open AF PySem
def top (i : Nat) : Stmt := PySem.Challenge.pw_anyfloors_k05_longest_waits_and_empty_wa.main.body.getD i (.Pass ⟨0, 0, 0, 0⟩)
def fis_number : Fn := ⟨3, 3, (.cons (.ret (.and (.isi .int (.var 0)) (.and (.not (.isi .bool (.var 0))) (.chn .le .le (.var 1) (.var 0) (.var 2))))) .nil)⟩
def fis_tuple : Fn := ⟨3, 3, (.cons (.ret (.and (.isi .tuple (.var 0)) (.chn .le .le (.var 1) (.blt .len false (.cons (.var 0) .nil)) (.var 2)))) .nil)⟩
def fis_word : Fn := ⟨2, 2, (.cons (.ret (.and (.isi .str (.var 0)) (.cmp .isin (.var 0) (.var 1)))) .nil)⟩
def fis_floor : Fn := ⟨1, 1, (.cons (.ret (.and (.call 1 (.cons (.var 0) (.cons (.int 2) (.cons (.int 2) .nil)))) (.and (.call 2 (.cons (.idx (.var 0) (.int 0)) (.cons (.tup (.cons (.str [98]) (.cons (.str [116]) .nil))) .nil))) (.call 0 (.cons (.idx (.var 0) (.int 1)) (.cons (.int 0) (.cons (.int 3) .nil))))))) .nil)⟩
def fis_good_lift : Fn := ⟨1, 1, (.cons (.ite (.or (.not (.call 1 (.cons (.var 0) (.cons (.int 6) (.cons (.int 6) .nil))))) (.or (.not (.call 2 (.cons (.idx (.var 0) (.int 0)) (.cons (.con 0) .nil)))) (.not (.call 0 (.cons (.idx (.var 0) (.int 1)) (.cons (.int 1) (.cons (.int 4) .nil))))))) (.cons (.ret (.bl false)) .nil) .nil) (.cons (.ite (.or (.not (.call 0 (.cons (.idx (.var 0) (.int 2)) (.cons (.int 1) (.cons (.int 20) .nil))))) (.not (.call 0 (.cons (.idx (.var 0) (.int 3)) (.cons (.int 1) (.cons (.int 5) .nil)))))) (.cons (.ret (.bl false)) .nil) .nil) (.cons (.ret (.and (.call 3 (.cons (.idx (.var 0) (.int 4)) .nil)) (.call 2 (.cons (.idx (.var 0) (.int 5)) (.cons (.tup (.cons (.str [117, 112]) (.cons (.str [100, 111, 119, 110]) .nil))) .nil))))) .nil)))⟩
def fis_call : Fn := ⟨1, 1, (.cons (.ite (.or (.not (.call 1 (.cons (.var 0) (.cons (.int 3) (.cons (.int 3) .nil))))) (.not (.call 0 (.cons (.idx (.var 0) (.int 0)) (.cons (.int 0) (.cons (.int 1000) .nil)))))) (.cons (.ret (.bl false)) .nil) .nil) (.cons (.ret (.and (.call 3 (.cons (.idx (.var 0) (.int 1)) .nil)) (.and (.call 3 (.cons (.idx (.var 0) (.int 2)) .nil)) (.cmp .ne (.idx (.var 0) (.int 1)) (.idx (.var 0) (.int 2)))))) .nil))⟩
def fare_good_calls : Fn := ⟨4, 1, (.cons (.ite (.or (.not (.call 1 (.cons (.var 0) (.cons (.int 0) (.cons (.int 4) .nil))))) (.not (.blt .all false (.cons (.lc false [1] (.name 1) (.of (.var 0)) .none (.call 5 (.cons (.var 1) .nil))) .nil)))) (.cons (.ret (.bl false)) .nil) .nil) (.cons (.ret (.blt .all false (.cons (.lc false [2, 3] (.tup [(.name 2), (.name 3)]) (.zip (.var 0) (.slc (.var 0) (.some (.int 1)) .none)) .none (.cmp .le (.idx (.var 2) (.int 0)) (.idx (.var 3) (.int 0)))) .nil))) .nil))⟩
def ffloor_form : Fn := ⟨1, 1, (.cons (.ret (.ite (.cmp .eq (.idx (.var 0) (.int 0)) (.str [98])) (.tup (.cons (.int 0) (.cons (.idx (.var 0) (.int 1)) .nil))) (.tup (.cons (.int 1) (.cons (.bin .sub false (.neg (.int 1)) (.idx (.var 0) (.int 1))) .nil))))) .nil)⟩
def fworth : Fn := ⟨2, 2, (.cons (.ret (.bin .add false (.bin .mul false (.idx (.var 0) (.int 0)) (.var 1)) (.idx (.var 0) (.int 1)))) .nil)⟩
def fadded : Fn := ⟨2, 2, (.cons (.ret (.tup (.cons (.bin .add false (.idx (.var 0) (.int 0)) (.idx (.var 1) (.int 0))) (.cons (.bin .add false (.idx (.var 0) (.int 1)) (.idx (.var 1) (.int 1))) .nil)))) .nil)⟩
def fmany_times : Fn := ⟨2, 2, (.cons (.ret (.tup (.cons (.bin .mul false (.idx (.var 0) (.int 0)) (.var 1)) (.cons (.bin .mul false (.idx (.var 0) (.int 1)) (.var 1)) .nil)))) .nil)⟩
def fless : Fn := ⟨2, 2, (.cons (.ret (.tup (.cons (.bin .sub false (.idx (.var 0) (.int 0)) (.idx (.var 1) (.int 0))) (.cons (.bin .sub false (.idx (.var 0) (.int 1)) (.idx (.var 1) (.int 1))) .nil)))) .nil)⟩
def fsign_of : Fn := ⟨3, 2, (.cons (.asg (.name 2) (.call 8 (.cons (.var 0) (.cons (.var 1) .nil)))) (.cons (.ret (.ite (.cmp .gt (.var 2) (.int 0)) (.int 1) (.ite (.cmp .lt (.var 2) (.int 0)) (.neg (.int 1)) (.int 0)))) .nil))⟩
def fsame_to_s1 : S := (.asg (.tup [(.name 2), (.name 3)]) (.var 0))
def fsame_to_s2 : S := (.asg (.name 4) (.call 12 (.cons (.var 0) (.cons (.var 1) .nil))))
def fsame_to_s3 : S := (.ite (.cmp .eq (.var 2) (.int 0)) (.cons (.ret .non) .nil) .nil)
def fsame_to_s4 : S := (.ite (.cmp .eq (.var 4) (.int 0)) (.cons (.ret (.var 1)) .nil) .nil)
def fsame_to_s5 : S := (.ite (.cmp .gt (.bin .mul false (.var 4) (.var 2)) (.int 0)) (.cons (.ret .non) .nil) .nil)
def fsame_to_s6 : S := (.ret (.ite (.cmp .lt (.bin .mul false (.var 4) (.var 2)) (.int 0)) (.bin .fdiv false (.bin .sub false (.blt .abs false (.cons (.var 3) .nil)) (.int 1)) (.blt .abs false (.cons (.var 2) .nil))) .non))
def fsame_to : Fn := ⟨5, 2, (.cons fsame_to_s1 (.cons fsame_to_s2 (.cons fsame_to_s3 (.cons fsame_to_s4 (.cons fsame_to_s5 (.cons fsame_to_s6 .nil))))))⟩
def fneed_lift : Fn := ⟨1, 1, (.cons (.ite (.not (.call 4 (.cons (.var 0) .nil))) (.cons (.rais 1 .nil) .nil) .nil) .nil)⟩
def fneed_calls : Fn := ⟨1, 1, (.cons (.ite (.not (.call 6 (.cons (.var 0) .nil))) (.cons (.rais 2 .nil) .nil) .nil) .nil)⟩
def fneed_plan : Fn := ⟨2, 2, (.cons (.expr (.call 14 (.cons (.var 0) .nil))) (.cons (.expr (.call 15 (.cons (.var 1) .nil))) .nil))⟩
def ffar_to : Fn := ⟨2, 2, (.cons (.ret (.call 11 (.cons (.call 7 (.cons (.var 1) .nil)) (.cons (.call 7 (.cons (.var 0) .nil)) .nil)))) .nil)⟩
def fway_form : Fn := ⟨4, 3, (.cons (.asg (.name 3) (.call 17 (.cons (.var 0) (.cons (.var 1) .nil)))) (.cons (.ret (.ite (.cmp .lt (.call 12 (.cons (.var 3) (.cons (.var 2) .nil))) (.int 0)) (.call 10 (.cons (.var 3) (.cons (.neg (.int 1)) .nil))) (.var 3))) .nil))⟩
def flies_ahead : Fn := ⟨5, 4, (.cons (.asg (.name 4) (.call 12 (.cons (.call 17 (.cons (.var 0) (.cons (.var 1) .nil))) (.cons (.var 3) .nil)))) (.cons (.ret (.ite (.cmp .eq (.var 2) (.str [117, 112])) (.cmp .ge (.var 4) (.int 0)) (.cmp .le (.var 4) (.int 0)))) .nil))⟩
def fstanding_first : Fn := ⟨1, 1, (.cons (.ret (.tup (.cons (.tup (.cons (.int 0) (.cons (.int 0) .nil))) (.cons (.idx (.var 0) (.int 4)) (.cons (.idx (.var 0) (.int 5)) (.cons (.tup .nil) (.cons (.tup .nil) (.cons (.tup .nil) .nil)))))))) .nil)⟩
def fwaiting_ones : Fn := ⟨3, 2, (.cons (.ret (.lc false [2] (.name 2) (.rng1 (.blt .len false (.cons (.var 0) .nil))) (.some (.and (.cmp .notin (.var 2) (.idx (.var 1) (.int 3))) (.cmp .notin (.var 2) (.idx (.var 1) (.int 4))))) (.var 2))) .nil)⟩
def fby_then : Fn := ⟨4, 3, (.cons (.ret (.lc false [3] (.name 3) (.of (.var 2)) .none (.call 11 (.cons (.var 1) (.cons (.tup (.cons (.int 0) (.cons (.idx (.idx (.var 0) (.var 3)) (.int 0)) .nil))) .nil))))) .nil)⟩
def fheard_ones : Fn := ⟨7, 3, (.cons (.asg (.name 3) (.call 21 (.cons (.var 0) (.cons (.var 1) .nil)))) (.cons (.asg (.name 4) (.call 22 (.cons (.var 0) (.cons (.idx (.var 1) (.int 0)) (.cons (.var 3) .nil))))) (.cons (.ret (.tup (.cons (.lc false [5, 6] (.tup [(.name 5), (.name 6)]) (.zip (.var 3) (.var 4)) (.some (.cmp .ge (.call 12 (.cons (.var 6) (.cons (.var 2) .nil))) (.int 0))) (.var 5)) (.cons (.blt .tuple false (.cons (.var 4) .nil)) .nil)))) .nil)))⟩
def fwanted_by : Fn := ⟨6, 4, (.cons (.asg (.name 4) (.lc false [5] (.name 5) (.of (.idx (.var 2) (.int 3))) .none (.tup (.cons (.var 5) (.cons (.idx (.idx (.var 1) (.var 5)) (.int 2)) .nil))))) (.cons (.ite (.cmp .lt (.blt .len false (.cons (.idx (.var 2) (.int 3)) .nil)) (.idx (.var 0) (.int 1))) (.cons (.asg (.name 4) (.bin .add false (.var 4) (.lc false [5] (.name 5) (.of (.var 3)) .none (.tup (.cons (.var 5) (.cons (.idx (.idx (.var 1) (.var 5)) (.int 1)) .nil)))))) .nil) .nil) (.cons (.ret (.blt .sorted false (.cons (.var 4) .nil))) .nil)))⟩
def fnearest_b1 : Ss := (.cons (.asg (.name 6) (.call 11 (.cons (.call 18 (.cons (.idx (.var 0) (.int 1)) (.cons (.var 5) (.cons (.var 2) .nil)))) (.cons (.call 18 (.cons (.idx (.var 0) (.int 1)) (.cons (.var 3) (.cons (.var 2) .nil)))) .nil)))) (.cons (.asg (.name 4) (.bin .add false (.var 4) (.tup (.cons (.var 6) .nil)))) (.cons (.asg (.name 7) (.call 12 (.cons (.var 6) (.cons (.var 2) .nil)))) (.cons (.ite (.or (.cmp .lt (.var 7) (.int 0)) (.and (.cmp .eq (.var 7) (.int 0)) (.not (.call 19 (.cons (.idx (.var 0) (.int 1)) (.cons (.var 3) (.cons (.idx (.var 0) (.int 2)) (.cons (.var 2) .nil)))))))) (.cons (.asg (.name 3) (.var 5)) .nil) .nil) .nil))))
def fnearest : Fn := ⟨8, 3, (.cons (.asg (.tup [(.name 3), (.name 4)]) (.tup (.cons (.idx (.var 1) (.int 0)) (.cons (.tup .nil) .nil)))) (.cons (.for_ (.name 5) (.of (.slc (.var 1) (.some (.int 1)) .none)) fnearest_b1) (.cons (.ret (.tup (.cons (.var 3) (.cons (.var 4) .nil)))) .nil)))⟩
def fgoal_of : Fn := ⟨8, 4, (.cons (.asg (.name 4) (.lc false [5, 6] (.tup [(.name 5), (.name 6)]) (.of (.var 2)) .none (.var 6))) (.cons (.ite (.cmp .eq (.var 0) (.str [102, 105, 114, 115, 116])) (.cons (.ret (.tup (.cons (.idx (.var 4) (.int 0)) (.cons (.tup .nil) .nil)))) .nil) .nil) (.cons (.ite (.cmp .eq (.var 0) (.str [110, 101, 97, 114])) (.cons (.ret (.call 25 (.cons (.var 1) (.cons (.var 4) (.cons (.var 3) .nil))))) .nil) .nil) (.cons (.asg (.name 7) (.lc false [6] (.name 6) (.of (.var 4)) (.some (.call 19 (.cons (.idx (.var 1) (.int 1)) (.cons (.var 6) (.cons (.idx (.var 1) (.int 2)) (.cons (.var 3) .nil)))))) (.var 6))) (.cons (.ret (.call 25 (.cons (.var 1) (.cons (.ite (.cmp .ne (.var 7) (.lst false .nil)) (.var 7) (.var 4)) (.cons (.var 3) .nil))))) .nil)))))⟩
def fstop_at_s1 : S := (.asg (.tup [(.name 5), (.name 6), (.name 7), (.name 8), (.name 9), (.name 10)]) (.var 2))
def fstop_at_s2 : S := (.asg (.name 11) (.call 18 (.cons (.var 6) (.cons (.var 3) (.cons (.var 4) .nil)))))
def fstop_at_s3 : S := (.asg (.name 5) (.call 9 (.cons (.var 5) (.cons (.call 10 (.cons (.var 11) (.cons (.idx (.var 0) (.int 3)) .nil))) .nil))))
def fstop_at_s4 : S := (.ite (.cmp .ne (.var 3) (.var 6)) (.cons (.asg (.name 7) (.ite (.cmp .gt (.call 12 (.cons (.call 17 (.cons (.var 6) (.cons (.var 3) .nil))) (.cons (.var 4) .nil))) (.int 0)) (.str [117, 112]) (.str [100, 111, 119, 110]))) .nil) .nil)
def fstop_at_s5 : S := (.asg (.name 12) (.blt .tuple false (.cons (.lc false [13] (.name 13) (.of (.var 8)) (.some (.cmp .eq (.idx (.idx (.var 1) (.var 13)) (.int 2)) (.var 3))) (.var 13)) .nil)))
def fstop_at_s6 : S := (.asg (.name 14) (.blt .tuple false (.cons (.lc false [13] (.name 13) (.of (.var 8)) (.some (.cmp .notin (.var 13) (.var 12))) (.var 13)) .nil)))
def fstop_at_s7 : S := (.asg (.name 15) (.lc false [13] (.name 13) (.of (.call 21 (.cons (.var 1) (.cons (.var 2) .nil)))) (.some (.cmp .eq (.idx (.idx (.var 1) (.var 13)) (.int 1)) (.var 3))) (.var 13)))
def fstop_at_s8 : S := (.asg (.name 16) (.call 22 (.cons (.var 1) (.cons (.var 5) (.cons (.var 15) .nil)))))
def fstop_at_s9 : S := (.asg (.name 17) (.lc false [13, 18] (.tup [(.name 13), (.name 18)]) (.zip (.var 15) (.var 16)) (.some (.cmp .ge (.call 12 (.cons (.var 18) (.cons (.var 4) .nil))) (.int 0))) (.var 13)))
def fstop_at_s10 : S := (.asg (.name 19) (.blt .tuple false (.cons (.slc (.var 17) .none (.some (.bin .sub false (.idx (.var 0) (.int 1)) (.blt .len false (.cons (.var 14) .nil))))) .nil)))
def fstop_at_s11 : S := (.asg (.name 20) (.tup (.cons (.call 9 (.cons (.var 5) (.cons (.tup (.cons (.int 0) (.cons (.idx (.var 0) (.int 2)) .nil))) .nil))) (.cons (.var 3) (.cons (.var 7) (.cons (.blt .tuple false (.cons (.blt .sorted false (.cons (.bin .add false (.var 14) (.var 19)) .nil)) .nil)) (.cons (.bin .add false (.var 9) (.var 12)) (.cons (.bin .add false (.var 10) (.blt .tuple false (.cons (.var 16) .nil))) .nil))))))))
def fstop_at_s12 : S := (.ret (.tup (.cons (.var 20) (.cons (.tup (.cons (.var 3) (.cons (.var 5) (.cons (.var 12) (.cons (.var 19) .nil))))) (.cons (.var 11) .nil)))))
def fstop_at : Fn := ⟨21, 5, (.cons fstop_at_s1 (.cons fstop_at_s2 (.cons fstop_at_s3 (.cons fstop_at_s4 (.cons fstop_at_s5 (.cons fstop_at_s6 (.cons fstop_at_s7 (.cons fstop_at_s8 (.cons fstop_at_s9 (.cons fstop_at_s10 (.cons fstop_at_s11 (.cons fstop_at_s12 .nil))))))))))))⟩
def fnext_minute : Fn := ⟨5, 3, (.cons (.asg (.name 3) (.lc false [4] (.name 4) (.of (.call 21 (.cons (.var 0) (.cons (.var 1) .nil)))) (.some (.cmp .notin (.var 4) (.var 2))) (.blt .int false (.cons (.idx (.idx (.var 0) (.var 4)) (.int 0)) .nil)))) (.cons (.ret (.ite (.cmp .ne (.var 3) (.lst false .nil)) (.blt .min false (.cons (.var 3) .nil)) .non)) .nil))⟩
def frun_with_s1 : S := (.asg (.tup [(.name 9), (.name 7)]) (.call 26 (.cons (.idx (.var 0) (.int 0)) (.cons (.var 3) (.cons (.var 8) (.cons (.var 2) .nil))))))
def frun_with_s2 : S := (.asg (.name 10) (.cmp .eq (.idx (.var 3) (.int 3)) (.tup .nil)))
def frun_with_s3 : S := (.asg (.tup [(.name 3), (.name 11), (.name 12)]) (.call 27 (.cons (.var 0) (.cons (.var 1) (.cons (.bin .add false (.slc (.var 3) .none (.some (.int 5))) (.tup (.cons (.bin .add false (.idx (.var 3) (.int 5)) (.var 7)) .nil))) (.cons (.var 9) (.cons (.var 2) .nil)))))))
def frun_with_s4 : S := (.asg (.tup [(.name 4), (.name 5)]) (.tup (.cons (.bin .add false (.var 4) (.tup (.cons (.var 11) .nil))) (.cons (.ite (.var 10) (.call 9 (.cons (.var 5) (.cons (.var 12) .nil))) (.var 5)) .nil))))
def frun_with_s5 : S := (.asg (.name 13) (.call 28 (.cons (.var 1) (.cons (.var 3) (.cons (.var 6) .nil)))))
def frun_with_s6 : S := (.ite (.cmp .is_ (.var 13) .non) (.cons (.ret (.tup (.cons (.var 4) (.cons (.var 5) (.cons (.idx (.var 3) (.int 5)) .nil))))) .nil) .nil)
def frun_with_s7 : S := (.asg (.name 3) (.bin .add false (.tup (.cons (.tup (.cons (.int 0) (.cons (.var 13) .nil))) .nil)) (.slc (.var 3) (.some (.int 1)) .none)))
def frun_with_s8 : S := (.asg (.tup [(.name 6), (.name 7)]) (.call 23 (.cons (.var 1) (.cons (.var 3) (.cons (.var 2) .nil)))))
def frun_with_s9 : S := (.asg (.name 3) (.bin .add false (.slc (.var 3) .none (.some (.int 5))) (.tup (.cons (.bin .add false (.idx (.var 3) (.int 5)) (.var 7)) .nil))))
def frun_with_s10 : S := (.asg (.name 8) (.call 24 (.cons (.var 0) (.cons (.var 1) (.cons (.var 3) (.cons (.var 6) .nil))))))
def frun_with_s11 : S := (.ite (.cmp .ne (.var 8) (.lst false .nil)) (.cons frun_with_s1 (.cons frun_with_s2 (.cons frun_with_s3 (.cons frun_with_s4 .nil)))) (.cons frun_with_s5 (.cons frun_with_s6 (.cons frun_with_s7 .nil))))
def frun_with_b1 : Ss := (.cons frun_with_s8 (.cons frun_with_s9 (.cons frun_with_s10 (.cons frun_with_s11 .nil))))
def frun_with_s12 : S := (.asg (.tup [(.name 3), (.name 4), (.name 5)]) (.tup (.cons (.call 20 (.cons (.var 0) .nil)) (.cons (.tup .nil) (.cons (.tup (.cons (.int 0) (.cons (.int 0) .nil))) .nil)))))
def frun_with_s13 : S := (.whl (.bl true) frun_with_b1)
def frun_with : Fn := ⟨14, 3, (.cons frun_with_s12 (.cons frun_with_s13 .nil))⟩
def fride_forms_b1 : Ss := (.cons (.asg (.name 4) (.lc false [5, 6, 7, 8] (.tup [(.name 5), (.name 6), (.name 7), (.name 8)]) (.of (.var 1)) (.some (.cmp .isin (.var 3) (.var 8))) (.var 6))) (.cons (.asg (.name 9) (.lc false [5, 6, 7, 8] (.tup [(.name 5), (.name 6), (.name 7), (.name 8)]) (.of (.var 1)) (.some (.cmp .isin (.var 3) (.var 7))) (.var 6))) (.cons (.asg (.name 2) (.bin .add false (.var 2) (.lst false (.cons (.tup (.cons (.idx (.var 4) (.int 0)) (.cons (.idx (.var 9) (.int 0)) .nil))) .nil)))) .nil)))
def fride_forms : Fn := ⟨10, 2, (.cons (.asg (.name 2) (.lst false .nil)) (.cons (.for_ (.name 3) (.rng1 (.blt .len false (.cons (.var 0) .nil))) fride_forms_b1) (.cons (.ret (.var 2)) .nil)))⟩
def funtil : Fn := ⟨5, 2, (.cons (.asg (.name 2) (.lc false [3] (.name 3) (.of (.var 0)) .none (.call 13 (.cons (.var 3) (.cons (.var 1) .nil))))) (.cons (.asg (.name 2) (.lc false [4] (.name 4) (.of (.var 2)) (.some (.cmp .isnot (.var 4) .non)) (.blt .int false (.cons (.var 4) .nil)))) (.cons (.ret (.ite (.cmp .ne (.var 2) (.lst false .nil)) (.blt .min false (.cons (.var 2) .nil)) .non)) .nil)))⟩
def fjoined_b1 : Ss := (.cons (.ite (.and (.cmp .ne (.var 1) (.lst false .nil)) (.cmp .eq (.idx (.idx (.var 1) (.neg (.int 1))) (.int 2)) (.var 4))) (.cons (.asg (.name 1) (.bin .add false (.slc (.var 1) .none (.some (.neg (.int 1)))) (.lst false (.cons (.tup (.cons (.idx (.idx (.var 1) (.neg (.int 1))) (.int 0)) (.cons (.var 3) (.cons (.var 4) .nil)))) .nil)))) .nil) (.cons (.asg (.name 1) (.bin .add false (.var 1) (.lst false (.cons (.tup (.cons (.var 2) (.cons (.var 3) (.cons (.var 4) .nil)))) .nil)))) .nil)) .nil)
def fjoined : Fn := ⟨5, 1, (.cons (.asg (.name 1) (.lst false .nil)) (.cons (.for_ (.tup [(.name 2), (.name 3), (.name 4)]) (.of (.var 0)) fjoined_b1) (.cons (.ret (.var 1)) .nil)))⟩
def fall_runs_b1 : Ss := (.cons (.asg (.tup [(.name 4), (.name 5), (.name 6)]) (.call 29 (.cons (.var 0) (.cons (.var 1) (.cons (.var 3) .nil))))) (.cons (.asg (.name 7) (.call 31 (.cons (.var 6) (.cons (.var 3) .nil)))) (.cons (.asg (.name 2) (.bin .add false (.var 2) (.lst false (.cons (.tup (.cons (.var 3) (.cons (.var 7) (.cons (.tup (.cons (.var 4) (.cons (.var 5) .nil))) .nil)))) .nil)))) (.cons (.asg (.name 3) (.ite (.cmp .is_ (.var 7) .non) .non (.bin .add false (.var 7) (.int 1)))) .nil))))
def fall_runs : Fn := ⟨8, 2, (.cons (.asg (.tup [(.name 2), (.name 3)]) (.tup (.cons (.lst false .nil) (.cons (.con 1) .nil)))) (.cons (.whl (.cmp .isnot (.var 3) .non) fall_runs_b1) (.cons (.ret (.call 32 (.cons (.var 2) .nil))) .nil)))⟩
def flesser_end : Fn := ⟨2, 2, (.cons (.ite (.cmp .is_ (.var 0) .non) (.cons (.ret (.var 1)) .nil) .nil) (.cons (.ret (.ite (.or (.cmp .is_ (.var 1) .non) (.cmp .lt (.var 0) (.var 1))) (.var 0) (.var 1))) .nil))⟩
def fby_signs_b1 : Ss := (.cons (.asg (.name 5) (.call 34 (.cons (.call 31 (.cons (.var 2) (.cons (.var 4) .nil))) (.cons (.var 1) .nil)))) (.cons (.asg (.name 3) (.bin .add false (.var 3) (.lst false (.cons (.tup (.cons (.var 4) (.cons (.var 5) (.cons (.blt .tuple false (.cons (.lc false [6] (.name 6) (.of (.var 2)) .none (.call 12 (.cons (.var 6) (.cons (.var 4) .nil)))) .nil)) .nil)))) .nil)))) (.cons (.asg (.name 4) (.ite (.cmp .is_ (.var 5) .non) .non (.bin .add false (.var 5) (.int 1)))) .nil)))
def fby_signs : Fn := ⟨7, 3, (.cons (.asg (.tup [(.name 3), (.name 4)]) (.tup (.cons (.lst false .nil) (.cons (.var 0) .nil)))) (.cons (.whl (.and (.cmp .isnot (.var 4) .non) (.or (.cmp .is_ (.var 1) .non) (.cmp .le (.var 4) (.var 1)))) fby_signs_b1) (.cons (.ret (.var 3)) .nil)))⟩
def fall_rides : Fn := ⟨7, 2, (.cons (.asg (.name 2) (.call 33 (.cons (.var 0) (.cons (.var 1) .nil)))) (.cons (.ret (.call 32 (.cons (.lc false [3, 4, 5, 6] (.tup [(.name 3), (.name 4), (.tup [(.name 5), (.name 6)])]) (.of (.var 2)) .none (.tup (.cons (.var 3) (.cons (.var 4) (.cons (.call 30 (.cons (.var 1) (.cons (.var 5) .nil))) .nil))))) .nil))) .nil))⟩
def fgreatest_of_b1 : Ss := (.cons (.ite (.cmp .gt (.call 12 (.cons (.call 11 (.cons (.var 4) (.cons (.idx (.var 0) (.var 2)) .nil))) (.cons (.var 1) .nil))) (.int 0)) (.cons (.asg (.name 2) (.var 3)) .nil) .nil) .nil)
def fgreatest_of : Fn := ⟨5, 2, (.cons (.asg (.name 2) (.int 0)) (.cons (.for_ (.tup [(.name 3), (.name 4)]) (.enum (.var 0)) fgreatest_of_b1) (.cons (.ret (.var 2)) .nil)))⟩
def fall_pairs : Fn := ⟨3, 1, (.cons (.ret (.lc2 false [1, 2] [2] (.name 1) (.of (.var 0)) (.name 2) (.of (.var 0)) (.call 11 (.cons (.var 1) (.cons (.var 2) .nil))))) .nil)⟩
def fwait_forms : Fn := ⟨5, 2, (.cons (.ret (.lc false [2, 3, 4] (.tup [(.name 2), (.tup [(.name 3), (.name 4)])]) (.enum (.var 1)) .none (.call 11 (.cons (.var 4) (.cons (.tup (.cons (.int 0) (.cons (.idx (.idx (.var 0) (.var 2)) (.int 0)) .nil))) .nil))))) .nil)⟩
def flongest_rows_b1 : Ss := (.cons (.asg (.name 10) (.call 37 (.cons (.var 6) (.cons (.var 7) .nil)))) (.cons (.asg (.name 2) (.bin .add false (.var 2) (.lst false (.cons (.tup (.cons (.var 7) (.cons (.var 8) (.cons (.tup (.cons (.var 10) (.cons (.idx (.var 6) (.var 10)) .nil))) .nil)))) .nil)))) .nil))
def flongest_rows_b2 : Ss := (.cons (.asg (.name 6) (.call 39 (.cons (.var 1) (.cons (.var 5) .nil)))) (.cons (.for_ (.tup [(.name 7), (.name 8), (.name 9)]) (.of (.call 35 (.cons (.var 3) (.cons (.var 4) (.cons (.call 38 (.cons (.var 6) .nil)) .nil))))) flongest_rows_b1) .nil))
def flongest_rows : Fn := ⟨11, 2, (.cons (.asg (.name 2) (.lst false .nil)) (.cons (.for_ (.tup [(.name 3), (.name 4), (.name 5)]) (.of (.call 36 (.cons (.var 0) (.cons (.var 1) .nil)))) flongest_rows_b2) (.cons (.ret (.call 32 (.cons (.var 2) .nil))) .nil)))⟩
def flongest_waits : Fn := ⟨5, 2, (.cons (.expr (.call 16 (.cons (.var 0) (.cons (.var 1) .nil)))) (.cons (.ite (.cmp .eq (.var 1) (.tup .nil)) (.cons (.ret (.lst false .nil)) .nil) .nil) (.cons (.ret (.lc false [2, 3, 4] (.tup [(.name 2), (.name 3), (.name 4)]) (.of (.call 40 (.cons (.var 0) (.cons (.var 1) .nil)))) .none (.bin .add false (.tup (.cons (.var 2) (.cons (.var 3) .nil))) (.var 4)))) .nil)))⟩
def fempty_ways : Fn := ⟨6, 2, (.cons (.expr (.call 16 (.cons (.var 0) (.cons (.var 1) .nil)))) (.cons (.ret (.call 32 (.cons (.lc false [2, 3, 4, 5] (.tup [(.name 2), (.name 3), (.tup [(.name 4), (.name 5)])]) (.of (.call 33 (.cons (.var 0) (.cons (.var 1) .nil)))) .none (.tup (.cons (.var 2) (.cons (.var 3) (.cons (.var 5) .nil))))) .nil))) .nil))⟩
def f_law_source : Fn := ⟨3, 2, (.cons (.asg (.name 2) (.int 0)) (.cons (.ite (.cmp .lt (.var 1) (.blt .len false (.cons (.var 0) .nil))) (.cons (.asg (.name 2) (.blt .abs false (.cons (.blt .int false (.cons (.idx (.var 0) (.var 1)) .nil)) .nil))) .nil) .nil) (.cons (.ite (.cmp .lt (.var 2) (.bin .pow false (.int 10) (.int 18))) (.cons (.ret (.lst true (.cons (.int 0) (.cons (.bin .add false (.int 1) (.bin .mod false (.blt .int false (.cons (.bin .add false (.bin .mul false (.var 2) (.int 7919)) (.bin .mul false (.int 104729) (.var 1))) .nil)) (.int 2147483646))) .nil)))) .nil) .nil) (.cons (.ret (.lst true (.cons (.var 2) (.cons (.bin .add false (.int 1) (.bin .mod false (.blt .int false (.cons (.bin .add false (.var 2) (.var 1)) .nil)) (.int 2147483646))) .nil)))) .nil))))⟩
def f_law_draw : Fn := ⟨3, 2, (.cons (.ite (.cmp .gt (.idx (.var 0) (.int 0)) (.int 0)) (.cons (.asg (.name 2) (.bin .mod false (.blt .int false (.cons (.idx (.var 0) (.int 0)) .nil)) (.var 1))) (.cons (.setI (.var 0) (.int 0) (.bin .fdiv false (.idx (.var 0) (.int 0)) (.var 1))) (.cons (.ret (.var 2)) .nil))) .nil) (.cons (.setI (.var 0) (.int 1) (.bin .mod false (.blt .int false (.cons (.bin .mul false (.idx (.var 0) (.int 1)) (.int 48271)) .nil)) (.int 2147483647))) (.cons (.ret (.bin .mod false (.blt .int false (.cons (.bin .fdiv false (.bin .mod false (.blt .int false (.cons (.bin .mul false (.idx (.var 0) (.int 1)) (.idx (.var 0) (.int 1))) .nil)) (.int 2147483629)) (.int 64)) .nil)) (.var 1))) .nil)))⟩
def f_law_of : Fn := ⟨2, 2, (.cons (.ret (.idx (.var 1) (.call 44 (.cons (.var 0) (.cons (.blt .len false (.cons (.var 1) .nil)) .nil))))) .nil)⟩
def f_law_floor : Fn := ⟨1, 1, (.cons (.ret (.tup (.cons (.call 45 (.cons (.var 0) (.cons (.lst false (.cons (.str [98]) (.cons (.str [116]) .nil))) .nil))) (.cons (.call 44 (.cons (.var 0) (.cons (.int 4) .nil))) .nil)))) .nil)⟩
def f_law_lift : Fn := ⟨6, 1, (.cons (.asg (.name 1) (.call 45 (.cons (.var 0) (.cons (.lst false (.cons (.str [102, 105, 114, 115, 116]) (.cons (.str [110, 101, 97, 114]) (.cons (.str [110, 101, 97, 114]) (.cons (.str [115, 99, 97, 110]) (.cons (.str [115, 99, 97, 110]) .nil)))))) .nil)))) (.cons (.asg (.tup [(.name 2), (.name 3)]) (.tup (.cons (.bin .add false (.int 1) (.call 44 (.cons (.var 0) (.cons (.int 4) .nil)))) (.cons (.call 45 (.cons (.var 0) (.cons (.lst false (.cons (.int 1) (.cons (.int 1) (.cons (.int 2) (.cons (.int 3) (.cons (.bin .add false (.int 1) (.call 44 (.cons (.var 0) (.cons (.int 20) .nil)))) .nil)))))) .nil))) .nil)))) (.cons (.asg (.tup [(.name 4), (.name 5)]) (.tup (.cons (.call 45 (.cons (.var 0) (.cons (.lst false (.cons (.int 1) (.cons (.int 1) (.cons (.int 2) (.cons (.int 3) (.cons (.int 5) .nil)))))) .nil))) (.cons (.call 45 (.cons (.var 0) (.cons (.lst false (.cons (.str [117, 112]) (.cons (.str [100, 111, 119, 110]) .nil))) .nil))) .nil)))) (.cons (.ret (.tup (.cons (.var 1) (.cons (.var 2) (.cons (.var 3) (.cons (.var 4) (.cons (.call 46 (.cons (.var 0) .nil)) (.cons (.var 5) .nil)))))))) .nil))))⟩
def f_law_calls_s1 : S := (.asg (.name 3) (.bin .add false (.var 3) (.call 45 (.cons (.var 0) (.cons (.lst false (.cons (.int 0) (.cons (.int 0) (.cons (.int 1) (.cons (.int 3) (.cons (.int 12) (.cons (.int 40) (.cons (.call 44 (.cons (.var 0) (.cons (.int 250) .nil))) .nil)))))))) .nil)))))
def f_law_calls_s2 : S := (.asg (.tup [(.name 5), (.name 6)]) (.tup (.cons (.call 46 (.cons (.var 0) .nil)) (.cons (.call 46 (.cons (.var 0) .nil)) .nil))))
def f_law_calls_s3 : S := (.ite (.cmp .eq (.var 5) (.var 6)) (.cons (.asg (.name 6) (.tup (.cons (.idx (.var 6) (.int 0)) (.cons (.bin .mod false (.bin .add false (.idx (.var 6) (.int 1)) (.int 1)) (.int 4)) .nil)))) .nil) .nil)
def f_law_calls_s4 : S := (.asg (.name 2) (.bin .add false (.var 2) (.tup (.cons (.tup (.cons (.blt .min false (.cons (.var 3) (.cons (.int 1000) .nil))) (.cons (.var 5) (.cons (.var 6) .nil)))) .nil))))
def f_law_calls_b1 : Ss := (.cons f_law_calls_s1 (.cons f_law_calls_s2 (.cons f_law_calls_s3 (.cons f_law_calls_s4 .nil))))
def f_law_calls_s5 : S := (.asg (.tup [(.name 2), (.name 3)]) (.tup (.cons (.tup .nil) (.cons (.int 0) .nil))))
def f_law_calls_s6 : S := (.for_ (.name 4) (.rng1 (.call 44 (.cons (.var 0) (.cons (.bin .add false (.var 1) (.int 1)) .nil)))) f_law_calls_b1)
def f_law_calls_s7 : S := (.ret (.var 2))
def f_law_calls : Fn := ⟨7, 2, (.cons f_law_calls_s5 (.cons f_law_calls_s6 (.cons f_law_calls_s7 .nil)))⟩
def f_law_at : Fn := ⟨2, 2, (.cons (.ret (.ite (.cmp .eq (.idx (.var 0) (.int 0)) (.str [98])) (.idx (.var 0) (.int 1)) (.bin .sub false (.bin .sub false (.var 1) (.int 1)) (.idx (.var 0) (.int 1))))) .nil)⟩
def f_law_form : Fn := ⟨1, 1, (.cons (.ret (.ite (.cmp .eq (.idx (.var 0) (.int 0)) (.str [98])) (.tup (.cons (.int 0) (.cons (.idx (.var 0) (.int 1)) .nil))) (.tup (.cons (.int 1) (.cons (.bin .sub false (.neg (.int 1)) (.idx (.var 0) (.int 1))) .nil))))) .nil)⟩
def f_law_worth : Fn := ⟨2, 2, (.cons (.ret (.bin .add false (.bin .mul false (.idx (.var 0) (.int 0)) (.var 1)) (.idx (.var 0) (.int 1)))) .nil)⟩
def f_law_plus : Fn := ⟨3, 3, (.cons (.ret (.tup (.cons (.bin .add false (.idx (.var 0) (.int 0)) (.bin .mul false (.var 2) (.idx (.var 1) (.int 0)))) (.cons (.bin .add false (.idx (.var 0) (.int 1)) (.bin .mul false (.var 2) (.idx (.var 1) (.int 1)))) .nil)))) .nil)⟩
def f_law_far : Fn := ⟨4, 3, (.cons (.asg (.name 3) (.call 52 (.cons (.call 50 (.cons (.var 1) .nil)) (.cons (.call 50 (.cons (.var 0) .nil)) (.cons (.neg (.int 1)) .nil))))) (.cons (.ite (.cmp .ge (.call 49 (.cons (.var 1) (.cons (.var 2) .nil))) (.call 49 (.cons (.var 0) (.cons (.var 2) .nil)))) (.cons (.ret (.var 3)) .nil) .nil) (.cons (.ret (.call 52 (.cons (.tup (.cons (.int 0) (.cons (.int 0) .nil))) (.cons (.var 3) (.cons (.neg (.int 1)) .nil))))) .nil)))⟩
def f_law_better_s1 : S := (.asg (.tup [(.name 6), (.name 7)]) (.tup (.cons (.call 53 (.cons (.var 2) (.cons (.var 0) (.cons (.var 4) .nil)))) (.cons (.call 53 (.cons (.var 2) (.cons (.var 1) (.cons (.var 4) .nil)))) .nil))))
def f_law_better_s2 : S := (.expr (.mth .append (.var 5) (.cons (.call 52 (.cons (.var 6) (.cons (.var 7) (.cons (.neg (.int 1)) .nil)))) .nil)))
def f_law_better_s3 : S := (.asg (.name 8) (.call 51 (.cons (.idx (.var 5) (.neg (.int 1))) (.cons (.var 4) .nil))))
def f_law_better_s4 : S := (.ite (.cmp .ne (.var 8) (.int 0)) (.cons (.ret (.cmp .lt (.var 8) (.int 0))) .nil) .nil)
def f_law_better_s5 : S := (.asg (.name 9) (.cmp .gt (.call 49 (.cons (.var 0) (.cons (.var 4) .nil))) (.call 49 (.cons (.var 2) (.cons (.var 4) .nil)))))
def f_law_better_s6 : S := (.ret (.and (.cmp .ne (.var 0) (.var 1)) (.cmp .eq (.var 9) (.cmp .eq (.var 3) (.str [117, 112])))))
def f_law_better : Fn := ⟨10, 6, (.cons f_law_better_s1 (.cons f_law_better_s2 (.cons f_law_better_s3 (.cons f_law_better_s4 (.cons f_law_better_s5 (.cons f_law_better_s6 .nil))))))⟩
def f_law_goal_b1 : Ss := (.cons (.ite (.call 54 (.cons (.var 11) (.cons (.var 10) (.cons (.var 2) (.cons (.var 3) (.cons (.var 4) (.cons (.var 5) .nil))))))) (.cons (.asg (.name 10) (.var 11)) .nil) .nil) .nil)
def f_law_goal_s1 : S := (.ite (.cmp .eq (.var 0) (.str [102, 105, 114, 115, 116])) (.cons (.ret (.idx (.blt .min false (.cons (.var 1) .nil)) (.int 1))) .nil) .nil)
def f_law_goal_s2 : S := (.asg (.tup [(.name 6), (.name 7)]) (.tup (.cons (.lc false [8] (.name 8) (.of (.blt .sorted false (.cons (.var 1) .nil))) .none (.idx (.var 8) (.int 1))) (.cons (.call 49 (.cons (.var 2) (.cons (.var 4) .nil))) .nil))))
def f_law_goal_s3 : S := (.ite (.cmp .eq (.var 0) (.str [115, 99, 97, 110])) (.cons (.asg (.name 9) (.lc false [8] (.name 8) (.of (.var 6)) (.some (.cmp .ge (.call 49 (.cons (.var 8) (.cons (.var 4) .nil))) (.var 7))) (.var 8))) (.cons (.ite (.cmp .eq (.var 3) (.str [100, 111, 119, 110])) (.cons (.asg (.name 9) (.lc false [8] (.name 8) (.of (.var 6)) (.some (.cmp .le (.call 49 (.cons (.var 8) (.cons (.var 4) .nil))) (.var 7))) (.var 8))) .nil) .nil) (.cons (.asg (.name 6) (.ite (.cmp .ne (.var 9) (.lst false .nil)) (.var 9) (.var 6))) .nil))) .nil)
def f_law_goal_s4 : S := (.asg (.name 10) (.idx (.var 6) (.int 0)))
def f_law_goal_s5 : S := (.for_ (.name 11) (.of (.var 6)) f_law_goal_b1)
def f_law_goal_s6 : S := (.ret (.var 10))
def f_law_goal : Fn := ⟨12, 6, (.cons f_law_goal_s1 (.cons f_law_goal_s2 (.cons f_law_goal_s3 (.cons f_law_goal_s4 (.cons f_law_goal_s5 (.cons f_law_goal_s6 .nil))))))⟩
def f_law_who : Fn := ⟨4, 2, (.cons (.ret (.lc false [2, 3] (.tup [(.name 2), (.name 3)]) (.enum (.var 0)) (.some (.cmp .eq (.var 3) (.var 1))) (.var 2))) .nil)⟩
def f_law_called_s1 : S := (.expr (.mth .append (.var 4) (.cons (.tup (.cons (.idx (.var 2) (.int 0)) (.cons (.bin .sub false (.idx (.var 2) (.int 1)) (.idx (.idx (.var 0) (.var 6)) (.int 0))) .nil))) .nil)))
def f_law_called_s2 : S := (.ite (.cmp .ge (.call 51 (.cons (.idx (.var 4) (.neg (.int 1))) (.cons (.var 3) .nil))) (.int 0)) (.cons (.expr (.mth .append (.var 5) (.cons (.var 6) .nil))) .nil) .nil)
def f_law_called_b1 : Ss := (.cons f_law_called_s1 (.cons f_law_called_s2 .nil))
def f_law_called_s3 : S := (.asg (.name 5) (.lst true .nil))
def f_law_called_s4 : S := (.for_ (.name 6) (.of (.call 56 (.cons (.var 1) (.cons (.str [119, 97, 105, 116, 115]) .nil)))) f_law_called_b1)
def f_law_called_s5 : S := (.ret (.var 5))
def f_law_called : Fn := ⟨7, 5, (.cons f_law_called_s3 (.cons f_law_called_s4 (.cons f_law_called_s5 .nil)))⟩
def f_law_change_b1 : Ss := (.cons (.setI (.var 1) (.var 7) (.str [116, 104, 101, 114, 101])) .nil)
def f_law_change_s1 : S := (.setI (.var 1) (.var 7) (.str [114, 105, 100, 101, 115]))
def f_law_change_s2 : S := (.expr (.mth .append (.var 8) (.cons (.var 7) .nil)))
def f_law_change_b2 : Ss := (.cons (.ite (.and (.cmp .eq (.idx (.idx (.var 0) (.var 7)) (.int 1)) (.var 2)) (.cmp .lt (.mth .count (.var 1) (.cons (.str [114, 105, 100, 101, 115]) .nil)) (.var 4))) (.cons f_law_change_s1 (.cons f_law_change_s2 .nil)) .nil) .nil)
def f_law_change_s3 : S := (.asg (.name 5) (.lc false [6] (.name 6) (.of (.call 56 (.cons (.var 1) (.cons (.str [114, 105, 100, 101, 115]) .nil)))) (.some (.cmp .eq (.idx (.idx (.var 0) (.var 6)) (.int 2)) (.var 2))) (.var 6)))
def f_law_change_s4 : S := (.for_ (.name 7) (.of (.var 5)) f_law_change_b1)
def f_law_change_s5 : S := (.asg (.name 8) (.lst true .nil))
def f_law_change_s6 : S := (.for_ (.name 7) (.of (.var 3)) f_law_change_b2)
def f_law_change_s7 : S := (.ret (.tup (.cons (.blt .tuple false (.cons (.var 5) .nil)) (.cons (.blt .tuple false (.cons (.var 8) .nil)) .nil))))
def f_law_change : Fn := ⟨9, 5, (.cons f_law_change_s3 (.cons f_law_change_s4 (.cons f_law_change_s5 (.cons f_law_change_s6 (.cons f_law_change_s7 .nil)))))⟩
def f_law_wanted : Fn := ⟨6, 4, (.cons (.asg (.name 4) (.lc false [5] (.name 5) (.of (.call 56 (.cons (.var 1) (.cons (.str [114, 105, 100, 101, 115]) .nil)))) .none (.tup (.cons (.var 5) (.cons (.idx (.idx (.var 0) (.var 5)) (.int 2)) .nil))))) (.cons (.ite (.cmp .lt (.blt .len false (.cons (.var 4) .nil)) (.var 3)) (.cons (.asg (.name 4) (.bin .add false (.var 4) (.lc false [5] (.name 5) (.of (.var 2)) .none (.tup (.cons (.var 5) (.cons (.idx (.idx (.var 0) (.var 5)) (.int 1)) .nil)))))) .nil) .nil) (.cons (.ret (.var 4)) .nil)))⟩
def f_law_traced_s1 : S := (.asg (.name 16) (.lc false [17] (.name 17) (.of (.call 56 (.cons (.var 13) (.cons (.str [119, 97, 105, 116, 115]) .nil)))) (.some (.cmp .notin (.var 17) (.var 14))) (.var 17)))
def f_law_traced_s2 : S := (.asg (.name 10) (.tup (.cons (.int 0) (.cons (.blt .min false (.cons (.lc false [18] (.name 18) (.of (.var 16)) .none (.blt .int false (.cons (.idx (.idx (.var 1) (.var 18)) (.int 0)) .nil))) .nil)) .nil))))
def f_law_traced_s3 : S := (.asg (.name 19) (.call 55 (.cons (.var 4) (.cons (.var 15) (.cons (.var 8) (.cons (.var 9) (.cons (.var 2) (.cons (.var 3) .nil))))))))
def f_law_traced_s4 : S := (.asg (.name 20) (.call 53 (.cons (.var 8) (.cons (.var 19) (.cons (.var 2) .nil)))))
def f_law_traced_s5 : S := (.asg (.name 12) (.ite (.cmp .isin (.str [114, 105, 100, 101, 115]) (.var 13)) (.var 12) (.call 52 (.cons (.var 12) (.cons (.var 20) (.cons (.int 1) .nil))))))
def f_law_traced_s6 : S := (.ite (.cmp .ne (.var 19) (.var 8)) (.cons (.asg (.name 9) (.ite (.cmp .gt (.call 49 (.cons (.var 19) (.cons (.var 2) .nil))) (.call 49 (.cons (.var 8) (.cons (.var 2) .nil)))) (.str [117, 112]) (.str [100, 111, 119, 110]))) .nil) .nil)
def f_law_traced_s7 : S := (.asg (.tup [(.name 10), (.name 8)]) (.tup (.cons (.call 52 (.cons (.var 10) (.cons (.var 20) (.cons (.var 7) .nil)))) (.cons (.var 19) .nil))))
def f_law_traced_s8 : S := (.asg (.name 14) (.call 57 (.cons (.var 1) (.cons (.var 13) (.cons (.var 10) (.cons (.var 2) (.cons (.var 3) .nil)))))))
def f_law_traced_s9 : S := (.asg (.name 21) (.call 58 (.cons (.var 1) (.cons (.var 13) (.cons (.var 8) (.cons (.var 14) (.cons (.var 5) .nil)))))))
def f_law_traced_s10 : S := (.expr (.mth .append (.var 11) (.cons (.bin .add false (.tup (.cons (.var 8) (.cons (.var 10) .nil))) (.var 21)) .nil)))
def f_law_traced_s11 : S := (.asg (.name 10) (.call 52 (.cons (.var 10) (.cons (.tup (.cons (.int 0) (.cons (.int 1) .nil))) (.cons (.var 6) .nil)))))
def f_law_traced_s12 : S := (.asg (.name 14) (.call 57 (.cons (.var 1) (.cons (.var 13) (.cons (.var 10) (.cons (.var 2) (.cons (.var 3) .nil)))))))
def f_law_traced_s13 : S := (.asg (.name 15) (.call 59 (.cons (.var 1) (.cons (.var 13) (.cons (.var 14) (.cons (.var 5) .nil))))))
def f_law_traced_s14 : S := (.ite (.cmp .eq (.var 15) (.lst false .nil)) (.cons f_law_traced_s1 (.cons f_law_traced_s2 .nil)) (.cons f_law_traced_s3 (.cons f_law_traced_s4 (.cons f_law_traced_s5 (.cons f_law_traced_s6 (.cons f_law_traced_s7 (.cons f_law_traced_s8 (.cons f_law_traced_s9 (.cons f_law_traced_s10 (.cons f_law_traced_s11 .nil))))))))))
def f_law_traced_b1 : Ss := (.cons f_law_traced_s12 (.cons f_law_traced_s13 (.cons f_law_traced_s14 .nil)))
def f_law_traced_s15 : S := (.asg (.tup [(.name 4), (.name 5), (.name 6), (.name 7), (.name 8), (.name 9)]) (.var 0))
def f_law_traced_s16 : S := (.asg (.tup [(.name 10), (.name 11), (.name 12), (.name 13)]) (.tup (.cons (.tup (.cons (.int 0) (.cons (.int 0) .nil))) (.cons (.lst true .nil) (.cons (.tup (.cons (.int 0) (.cons (.int 0) .nil))) (.cons (.bin .mul true (.lst false (.cons (.str [119, 97, 105, 116, 115]) .nil)) (.blt .len false (.cons (.var 1) .nil))) .nil))))))
def f_law_traced_s17 : S := (.whl (.or (.cmp .isin (.str [119, 97, 105, 116, 115]) (.var 13)) (.cmp .isin (.str [114, 105, 100, 101, 115]) (.var 13))) f_law_traced_b1)
def f_law_traced_s18 : S := (.ret (.tup (.cons (.blt .tuple false (.cons (.var 11) .nil)) (.cons (.var 12) .nil))))
def f_law_traced : Fn := ⟨22, 4, (.cons f_law_traced_s15 (.cons f_law_traced_s16 (.cons f_law_traced_s17 (.cons f_law_traced_s18 .nil))))⟩
def f_law_run : Fn := ⟨3, 3, (.cons (.ret (.call 60 (.cons (.var 0) (.cons (.var 1) (.cons (.var 2) (.cons (.lst true .nil) .nil)))))) .nil)⟩
def f_law_rides_b1 : Ss := (.cons (.asg (.name 4) (.lc false [5] (.name 5) (.of (.var 1)) (.some (.cmp .isin (.var 3) (.idx (.var 5) (.int 3)))) (.idx (.var 5) (.int 1)))) (.cons (.asg (.name 6) (.lc false [5] (.name 5) (.of (.var 1)) (.some (.cmp .isin (.var 3) (.idx (.var 5) (.int 2)))) (.idx (.var 5) (.int 1)))) (.cons (.expr (.mth .append (.var 2) (.cons (.tup (.cons (.idx (.var 4) (.int 0)) (.cons (.idx (.var 6) (.int 0)) .nil))) .nil))) .nil)))
def f_law_rides : Fn := ⟨7, 2, (.cons (.asg (.name 2) (.lst true .nil)) (.cons (.for_ (.name 3) (.rng1 (.blt .len false (.cons (.var 0) .nil))) f_law_rides_b1) (.cons (.ret (.var 2)) .nil)))⟩
def f_law_some : Fn := ⟨4, 3, (.cons (.ite (.cmp .is_ (.var 2) .non) (.cons (.asg (.name 3) (.bin .add false (.var 1) (.call 44 (.cons (.var 0) (.cons (.bin .sub false (.bin .pow false (.int 10) (.int 30)) (.bin .pow false (.int 10) (.int 6))) .nil))))) (.cons (.ret (.lst false (.cons (.var 1) (.cons (.bin .add false (.var 1) (.call 44 (.cons (.var 0) (.cons (.int 200) .nil)))) (.cons (.var 3) (.cons (.bin .pow false (.int 10) (.int 30)) .nil)))))) .nil)) .nil) (.cons (.ret (.lst false (.cons (.var 1) (.cons (.var 2) (.cons (.bin .add false (.var 1) (.call 44 (.cons (.var 0) (.cons (.bin .add false (.bin .sub false (.var 2) (.var 1)) (.int 1)) .nil)))) .nil))))) .nil))⟩
def f_law_shaped_b1 : Ss := (.cons (.ite (.or (.cmp .is_ (.idx (.var 1) (.int 1)) .non) (.or (.cmp .lt (.idx (.var 1) (.int 1)) (.idx (.var 1) (.int 0))) (.cmp .ne (.idx (.var 2) (.int 0)) (.bin .add false (.idx (.var 1) (.int 1)) (.int 1))))) (.cons (.ret (.bl false)) .nil) .nil) (.cons (.ite (.cmp .eq (.slc (.var 1) (.some (.int 2)) .none) (.slc (.var 2) (.some (.int 2)) .none)) (.cons (.ret (.bl false)) .nil) .nil) .nil))
def f_law_shaped : Fn := ⟨3, 1, (.cons (.ite (.or (.not (.isi .list (.var 0))) (.cmp .eq (.var 0) (.lst false .nil))) (.cons (.ret (.bl false)) .nil) .nil) (.cons (.ite (.or (.cmp .ne (.idx (.idx (.var 0) (.int 0)) (.int 0)) (.int 8)) (.cmp .isnot (.idx (.idx (.var 0) (.neg (.int 1))) (.int 1)) .non)) (.cons (.ret (.bl false)) .nil) .nil) (.cons (.for_ (.tup [(.name 1), (.name 2)]) (.zip (.var 0) (.slc (.var 0) (.some (.int 1)) .none)) f_law_shaped_b1) (.cons (.ret (.bl true)) .nil))))⟩
def f_law_longest_b1 : Ss := (.cons (.asg (.name 8) (.tup (.cons (.idx (.var 7) (.int 0)) (.cons (.bin .sub false (.idx (.var 7) (.int 1)) (.idx (.idx (.var 0) (.var 5)) (.int 0))) .nil)))) (.cons (.ite (.or (.cmp .is_ (.var 3) .non) (.cmp .gt (.call 51 (.cons (.var 8) (.cons (.var 1) .nil))) (.var 3))) (.cons (.asg (.tup [(.name 3), (.name 4)]) (.tup (.cons (.call 51 (.cons (.var 8) (.cons (.var 1) .nil))) (.cons (.tup (.cons (.var 5) (.cons (.var 8) .nil))) .nil)))) .nil) .nil) .nil))
def f_law_longest : Fn := ⟨9, 3, (.cons (.asg (.tup [(.name 3), (.name 4)]) (.tup (.cons .non (.cons .non .nil)))) (.cons (.for_ (.tup [(.name 5), (.tup [(.name 6), (.name 7)])]) (.enum (.call 62 (.cons (.var 0) (.cons (.var 2) .nil)))) f_law_longest_b1) (.cons (.ret (.var 4)) .nil)))⟩
def flaw_s1 : S := (.asg (.name 13) (.idx (.call 61 (.cons (.var 4) (.cons (.var 5) (.cons (.var 12) .nil)))) (.int 0)))
def flaw_s2 : S := (.ite (.cmp .ne (.call 65 (.cons (.var 5) (.cons (.var 12) (.cons (.var 13) .nil)))) (.tup (.cons (.var 10) (.cons (.var 11) .nil)))) (.cons (.ret (.bl false)) .nil) .nil)
def flaw_b1 : Ss := (.cons flaw_s1 (.cons flaw_s2 .nil))
def flaw_b2 : Ss := (.cons (.for_ (.name 12) (.of (.call 63 (.cons (.var 2) (.cons (.var 8) (.cons (.var 9) .nil))))) flaw_b1) .nil)
def flaw_b3 : Ss := (.cons (.ite (.cmp .ne (.idx (.call 61 (.cons (.var 4) (.cons (.var 5) (.cons (.var 12) .nil)))) (.int 1)) (.var 11)) (.cons (.ret (.bl false)) .nil) .nil) .nil)
def flaw_b4 : Ss := (.cons (.for_ (.name 12) (.of (.call 63 (.cons (.var 2) (.cons (.var 8) (.cons (.var 9) .nil))))) flaw_b3) .nil)
def flaw_s3 : S := (.asg (.tup [(.name 4), (.name 5)]) (.tup (.cons (.call 47 (.cons (.var 2) .nil)) (.cons (.call 48 (.cons (.var 2) (.cons (.int 4) .nil))) .nil))))
def flaw_s4 : S := (.asg (.tup [(.name 6), (.name 7)]) (.tup (.cons (.call 41 (.cons (.var 4) (.cons (.var 5) .nil))) (.cons (.call 42 (.cons (.var 4) (.cons (.var 5) .nil))) .nil))))
def flaw_s5 : S := (.ite (.or (.and (.cmp .eq (.var 5) (.tup .nil)) (.cmp .ne (.var 6) (.lst false .nil))) (.and (.cmp .ne (.var 5) (.tup .nil)) (.not (.call 64 (.cons (.var 6) .nil))))) (.cons (.ret (.bl false)) .nil) .nil)
def flaw_s6 : S := (.for_ (.tup [(.name 8), (.name 9), (.name 10), (.name 11)]) (.of (.var 6)) flaw_b2)
def flaw_s7 : S := (.ite (.not (.call 64 (.cons (.var 7) .nil))) (.cons (.ret (.bl false)) .nil) .nil)
def flaw_s8 : S := (.for_ (.tup [(.name 8), (.name 9), (.name 11)]) (.of (.var 7)) flaw_b4)
def flaw_b5 : Ss := (.cons flaw_s3 (.cons flaw_s4 (.cons flaw_s5 (.cons flaw_s6 (.cons flaw_s7 (.cons flaw_s8 .nil))))))
def flaw_s9 : S := (.asg (.name 2) (.call 43 (.cons (.var 0) (.cons (.var 1) .nil))))
def flaw_s10 : S := (.for_ (.name 3) (.rng1 (.int 3)) flaw_b5)
def flaw_b6 : Ss := (.cons flaw_s9 (.cons flaw_s10 .nil))
def flaw_s11 : S := (.for_ (.name 1) (.rng1 (.bin .add false (.int 1) (.blt .min false (.cons (.blt .len false (.cons (.var 0) .nil)) (.cons (.int 8) .nil))))) flaw_b6)
def flaw_s12 : S := (.asg (.tup [(.name 4), (.name 14)]) (.tup (.cons (.tup (.cons (.str [102, 105, 114, 115, 116]) (.cons (.int 1) (.cons (.int 2) (.cons (.int 1) (.cons (.tup (.cons (.str [98]) (.cons (.int 0) .nil))) (.cons (.str [117, 112]) .nil))))))) (.cons (.tup (.cons (.tup (.cons (.int 0) (.cons (.tup (.cons (.str [116]) (.cons (.int 0) .nil))) (.cons (.tup (.cons (.str [98]) (.cons (.int 0) .nil))) .nil)))) (.cons (.tup (.cons (.int 20) (.cons (.tup (.cons (.str [98]) (.cons (.int 1) .nil))) (.cons (.tup (.cons (.str [116]) (.cons (.int 1) .nil))) .nil)))) .nil))) .nil))))
def flaw_s13 : S := (.ite (.cmp .ne (.call 41 (.cons (.var 4) (.cons (.var 14) .nil))) (.lst false (.cons (.tup (.cons (.int 8) (.cons (.int 18) (.cons (.int 0) (.cons (.tup (.cons (.int 2) (.cons (.int 0) .nil))) .nil))))) (.cons (.tup (.cons (.int 19) (.cons .non (.cons (.int 1) (.cons (.tup (.cons (.int 3) (.cons (.neg (.int 18)) .nil))) .nil))))) .nil)))) (.cons (.ret (.bl false)) .nil) .nil)
def flaw_s14 : S := (.ret (.and (.cmp .eq (.call 42 (.cons (.var 4) (.cons (.var 14) .nil))) (.lst false (.cons (.tup (.cons (.int 8) (.cons .non (.cons (.tup (.cons (.int 1) (.cons (.int 0) .nil))) .nil)))) .nil))) (.cmp .eq (.call 42 (.cons (.var 4) (.cons (.tup .nil) .nil))) (.lst false (.cons (.tup (.cons (.int 8) (.cons .non (.cons (.tup (.cons (.int 0) (.cons (.int 0) .nil))) .nil)))) .nil)))))
def flaw : Fn := ⟨15, 1, (.cons flaw_s11 (.cons flaw_s12 (.cons flaw_s13 (.cons flaw_s14 .nil))))⟩
def fns : List FnE := [
  ⟨"is_number", ["value", "least", "most"], top 7, fis_number⟩,
  ⟨"is_tuple", ["value", "least", "most"], top 8, fis_tuple⟩,
  ⟨"is_word", ["value", "some"], top 9, fis_word⟩,
  ⟨"is_floor", ["value"], top 10, fis_floor⟩,
  ⟨"is_good_lift", ["value"], top 11, fis_good_lift⟩,
  ⟨"is_call", ["value"], top 12, fis_call⟩,
  ⟨"are_good_calls", ["value", "call", "one", "other"], top 13, fare_good_calls⟩,
  ⟨"floor_form", ["floor"], top 14, ffloor_form⟩,
  ⟨"worth", ["form", "n"], top 15, fworth⟩,
  ⟨"added", ["one", "other"], top 16, fadded⟩,
  ⟨"many_times", ["form", "times"], top 17, fmany_times⟩,
  ⟨"less", ["one", "other"], top 18, fless⟩,
  ⟨"sign_of", ["form", "n", "found"], top 19, fsign_of⟩,
  ⟨"same_to", ["form", "n", "a", "b", "sign"], top 20, fsame_to⟩,
  ⟨"need_lift", ["value"], top 21, fneed_lift⟩,
  ⟨"need_calls", ["value"], top 22, fneed_calls⟩,
  ⟨"need_plan", ["lift", "calls"], top 23, fneed_plan⟩,
  ⟨"far_to", ["floor", "goal"], top 25, ffar_to⟩,
  ⟨"way_form", ["floor", "goal", "n", "far"], top 26, fway_form⟩,
  ⟨"lies_ahead", ["floor", "goal", "way", "n", "sign"], top 27, flies_ahead⟩,
  ⟨"standing_first", ["lift"], top 28, fstanding_first⟩,
  ⟨"waiting_ones", ["calls", "state", "person"], top 29, fwaiting_ones⟩,
  ⟨"by_then", ["calls", "minute", "people", "person"], top 30, fby_then⟩,
  ⟨"heard_ones", ["calls", "state", "n", "people", "forms", "person", "form"], top 31, fheard_ones⟩,
  ⟨"wanted_by", ["lift", "calls", "state", "heard", "found", "person"], top 32, fwanted_by⟩,
  ⟨"nearest", ["state", "floors", "n", "best", "asked", "goal", "form", "sign"], top 33, fnearest⟩,
  ⟨"goal_of", ["rule", "state", "wanted", "n", "floors", "person", "floor", "ahead"], top 34, fgoal_of⟩,
  ⟨"stop_at", ["lift", "calls", "state", "goal", "n", "minute", "floor", "way", "riders", "there", "asked", "far", "off", "person", "rest", "people", "forms", "come", "form", "on", "later"], top 35, fstop_at⟩,
  ⟨"next_minute", ["calls", "state", "heard", "some", "person"], top 36, fnext_minute⟩,
  ⟨"run_with", ["lift", "calls", "n", "state", "stops", "empty", "heard", "forms", "wanted", "goal", "empty_so", "stop", "far", "minute"], top 37, frun_with⟩,
  ⟨"ride_forms", ["calls", "stops", "found", "person", "on", "floor", "minute", "out", "into", "off"], top 38, fride_forms⟩,
  ⟨"until", ["forms", "n", "ends", "form", "end"], top 40, funtil⟩,
  ⟨"joined", ["rows", "found", "least", "greatest", "told"], top 41, fjoined⟩,
  ⟨"all_runs", ["lift", "calls", "found", "n", "stops", "empty", "asked", "end"], top 42, fall_runs⟩,
  ⟨"lesser_end", ["one", "other"], top 43, flesser_end⟩,
  ⟨"by_signs", ["least", "greatest", "forms", "found", "n", "end", "form"], top 44, fby_signs⟩,
  ⟨"all_rides", ["lift", "calls", "runs", "least", "greatest", "stops", "empty"], top 45, fall_rides⟩,
  ⟨"greatest_of", ["forms", "n", "best", "index", "form"], top 46, fgreatest_of⟩,
  ⟨"all_pairs", ["forms", "one", "other"], top 47, fall_pairs⟩,
  ⟨"wait_forms", ["calls", "rides", "person", "on", "off"], top 49, fwait_forms⟩,
  ⟨"longest_rows", ["lift", "calls", "found", "least", "greatest", "rides", "forms", "low", "high", "signs", "person"], top 50, flongest_rows⟩,
  ⟨"longest_waits", ["lift", "calls", "least", "greatest", "pair"], top 51, flongest_waits⟩,
  ⟨"empty_ways", ["lift", "calls", "least", "greatest", "stops", "empty"], top 52, fempty_ways⟩,
  ⟨"_law_source", ["script", "k", "cell"], top 54, f_law_source⟩,
  ⟨"_law_draw", ["source", "many", "found"], top 55, f_law_draw⟩,
  ⟨"_law_of", ["source", "items"], top 56, f_law_of⟩,
  ⟨"_law_floor", ["source"], top 57, f_law_floor⟩,
  ⟨"_law_lift", ["source", "rule", "room", "halt", "pace", "way"], top 58, f_law_lift⟩,
  ⟨"_law_calls", ["source", "most", "found", "minute", "turn", "start", "goal"], top 59, f_law_calls⟩,
  ⟨"_law_at", ["floor", "n"], top 60, f_law_at⟩,
  ⟨"_law_form", ["floor"], top 61, f_law_form⟩,
  ⟨"_law_worth", ["form", "n"], top 62, f_law_worth⟩,
  ⟨"_law_plus", ["form", "other", "times"], top 63, f_law_plus⟩,
  ⟨"_law_far", ["floor", "goal", "n", "far"], top 64, f_law_far⟩,
  ⟨"_law_better", ["goal", "best", "floor", "way", "n", "asked", "mine", "yours", "far", "up"], top 65, f_law_better⟩,
  ⟨"_law_goal", ["rule", "wanted", "floor", "way", "n", "asked", "some", "here", "one", "ahead", "best", "goal"], top 66, f_law_goal⟩,
  ⟨"_law_who", ["told", "word", "person", "one"], top 67, f_law_who⟩,
  ⟨"_law_called", ["calls", "told", "form", "n", "asked", "found", "person"], top 68, f_law_called⟩,
  ⟨"_law_change", ["calls", "told", "floor", "heard", "room", "off", "one", "person", "on"], top 69, f_law_change⟩,
  ⟨"_law_wanted", ["calls", "told", "heard", "room", "wanted", "person"], top 70, f_law_wanted⟩,
  ⟨"_law_traced", ["lift", "calls", "n", "asked", "rule", "room", "halt", "pace", "floor", "way", "form", "stops", "empty", "told", "heard", "wanted", "late", "one", "person", "goal", "far", "change"], top 71, f_law_traced⟩,
  ⟨"_law_run", ["lift", "calls", "n"], top 72, f_law_run⟩,
  ⟨"_law_rides", ["calls", "stops", "found", "person", "on", "stop", "off"], top 73, f_law_rides⟩,
  ⟨"_law_some", ["source", "least", "greatest", "far"], top 74, f_law_some⟩,
  ⟨"_law_shaped", ["rows", "one", "other"], top 75, f_law_shaped⟩,
  ⟨"_law_longest", ["calls", "n", "stops", "best", "due", "person", "on", "off", "form"], top 76, f_law_longest⟩,
  ⟨"law", ["script", "k", "source", "turn", "lift", "calls", "rows", "ways", "least", "greatest", "person", "form", "n", "stops", "both"], top 77, flaw⟩]
abbrev iis_number : Nat := 0
abbrev iis_tuple : Nat := 1
abbrev iis_word : Nat := 2
abbrev iis_floor : Nat := 3
abbrev iis_good_lift : Nat := 4
abbrev iis_call : Nat := 5
abbrev iare_good_calls : Nat := 6
abbrev ifloor_form : Nat := 7
abbrev iworth : Nat := 8
abbrev iadded : Nat := 9
abbrev imany_times : Nat := 10
abbrev iless : Nat := 11
abbrev isign_of : Nat := 12
abbrev isame_to : Nat := 13
abbrev ineed_lift : Nat := 14
abbrev ineed_calls : Nat := 15
abbrev ineed_plan : Nat := 16
abbrev ifar_to : Nat := 17
abbrev iway_form : Nat := 18
abbrev ilies_ahead : Nat := 19
abbrev istanding_first : Nat := 20
abbrev iwaiting_ones : Nat := 21
abbrev iby_then : Nat := 22
abbrev iheard_ones : Nat := 23
abbrev iwanted_by : Nat := 24
abbrev inearest : Nat := 25
abbrev igoal_of : Nat := 26
abbrev istop_at : Nat := 27
abbrev inext_minute : Nat := 28
abbrev irun_with : Nat := 29
abbrev iride_forms : Nat := 30
abbrev iuntil : Nat := 31
abbrev ijoined : Nat := 32
abbrev iall_runs : Nat := 33
abbrev ilesser_end : Nat := 34
abbrev iby_signs : Nat := 35
abbrev iall_rides : Nat := 36
abbrev igreatest_of : Nat := 37
abbrev iall_pairs : Nat := 38
abbrev iwait_forms : Nat := 39
abbrev ilongest_rows : Nat := 40
abbrev ilongest_waits : Nat := 41
abbrev iempty_ways : Nat := 42
abbrev i_law_source : Nat := 43
abbrev i_law_draw : Nat := 44
abbrev i_law_of : Nat := 45
abbrev i_law_floor : Nat := 46
abbrev i_law_lift : Nat := 47
abbrev i_law_calls : Nat := 48
abbrev i_law_at : Nat := 49
abbrev i_law_form : Nat := 50
abbrev i_law_worth : Nat := 51
abbrev i_law_plus : Nat := 52
abbrev i_law_far : Nat := 53
abbrev i_law_better : Nat := 54
abbrev i_law_goal : Nat := 55
abbrev i_law_who : Nat := 56
abbrev i_law_called : Nat := 57
abbrev i_law_change : Nat := 58
abbrev i_law_wanted : Nat := 59
abbrev i_law_traced : Nat := 60
abbrev i_law_run : Nat := 61
abbrev i_law_rides : Nat := 62
abbrev i_law_some : Nat := 63
abbrev i_law_shaped : Nat := 64
abbrev i_law_longest : Nat := 65
abbrev ilaw : Nat := 66
def txt : Txt := ⟨fns, ["FloorError", "InvalidLift", "InvalidCalls"], [("RULES", .tup [[102, 105, 114, 115, 116], [110, 101, 97, 114], [115, 99, 97, 110]]), ("LEAST", .int 8)], 100000⟩
end K05
namespace K05
open AF PySem
theorem chk : txt.fns.all (chkFn txt) = true := by decide +kernel
end K05

namespace K05
open AF PySem LF
abbrev P : Prog := txt.prog
def kn (k : Nat) : Kn := ⟨P.cons, P.fuel, evCall P k⟩
theorem call_of {f : Nat} {fn : Fn} (h : P.fns[f]? = some fn) (k : Nat) (ds : List D) (st : Store) : evCall P (k + 1) f ds st = callBody (kn k) fn ds st := by
  rw [evCall, h]; rfl
theorem kn_call (k f : Nat) (ds : List D) (st : Store) : (kn k).call f ds st = evCall P k f ds st := rfl
theorem ev_added (k : Nat) (f g : Form) (st : Store) : evCall P (k + 1) iadded [eF f, eF g] st = .ok (eF (fadd f g)) st := rfl
theorem ev_less (k : Nat) (f g : Form) (st : Store) : evCall P (k + 1) iless [eF f, eF g] st = .ok (eF (fsub f g)) st := rfl
theorem mul_ok {i j : Int} {st : Store} {m : Bool} (h : small64 i = true) : bin .mul m (.int i) (.int j) st = .ok (.int (i * j)) st := by simp [bin, h]
theorem mul_ok' {i j : Int} {st : Store} {m : Bool} (h : small64 j = true) : bin .mul m (.int i) (.int j) st = .ok (.int (i * j)) st := by simp [bin, h]
theorem small_of {b : Int} {i : Int} (h1 : -b ≤ i) (h2 : i ≤ b) (hb : b < 2 ^ 64) : small64 i = true := by
  simp only [small64, Bool.and_eq_true, decide_eq_true_eq]; omega
theorem ev_many (k : Nat) (f : Form) (t : Int) (st : Store) (h : small64 t = true) : evCall P (k + 1) imany_times [eF f, .int t] st = .ok (eF (fmul f t)) st := by
  rw [call_of (fn := fmany_times) rfl]
  simp [callBody, fmany_times, envOf, evSs, evS, evE, evEs, idx, seqOf, lstOf, itemAt, ixI, bin, h, fmul]
theorem ev_worth (k : Nat) (f : Form) (n : Int) (st : Store) (h : small64 f.1 = true) : evCall P (k + 1) iworth [eF f, .int n] st = .ok (.int (worth f n)) st := by
  rw [call_of (fn := fworth) rfl]
  simp [callBody, fworth, envOf, evSs, evS, evE, evEs, idx, seqOf, lstOf, itemAt, ixI, bin, h, worth]
theorem ev_sign (k : Nat) (f : Form) (n : Int) (st : Store) (h : small64 f.1 = true) : evCall P (k + 2) isign_of [eF f, .int n] st = .ok (.int (sgn (worth f n))) st := by
  rw [call_of (fn := fsign_of) rfl]
  simp only [callBody, fsign_of, envOf, evSs, evS, evE, evEs]
  simp [kn_call, ev_worth k f n st h, asg, cmp, sgn]
  by_cases h1 : 0 < worth f n
  · simp [h1]
  · by_cases h2 : worth f n < 0 <;> simp [h1, h2]
theorem ev_floor_form (k : Nat) (f : Flr) (st : Store) : evCall P (k + 1) ifloor_form [eFl f] st = .ok (eF f.form) st := by
  obtain ⟨t, j⟩ := f
  rw [call_of (fn := ffloor_form) rfl]
  simp only [callBody, ffloor_form, envOf, evSs, evS, evE, evEs]
  cases t <;> simp [idx, seqOf, lstOf, itemAt, ixI, cmp, eq_str, cpsOk, wFl, Flr.form, bin]
theorem ev_far_to (k : Nat) (f g : Flr) (st : Store) : evCall P (k + 2) ifar_to [eFl f, eFl g] st = .ok (eF (far f g)) st := by
  rw [call_of (fn := ffar_to) rfl]
  simp only [callBody, ffar_to, envOf, evSs, evS, evE, evEs]
  simp [kn_call, ev_floor_form k, ev_less k, far]
theorem sm {b : Int} {f : Form} (h : Small b f) (hb : b < 2 ^ 64) : small64 f.1 = true := small_of h.1 h.2.1 hb
theorem sgn_neg (i : Int) : (sgn i < 0) ↔ i < 0 := by unfold sgn; split <;> (try split) <;> omega
theorem sgn_nn (i : Int) : (0 ≤ sgn i) ↔ 0 ≤ i := by unfold sgn; split <;> (try split) <;> omega
theorem sgn_np (i : Int) : (sgn i ≤ 0) ↔ i ≤ 0 := by unfold sgn; split <;> (try split) <;> omega
theorem sgn_pos (i : Int) : (0 < sgn i) ↔ 0 < i := by unfold sgn; split <;> (try split) <;> omega
theorem sgn_z (i : Int) : (sgn i = 0) ↔ i = 0 := by unfold sgn; split <;> (try split) <;> omega
theorem ev_way_form (k : Nat) (f g : Flr) (n : Int) (st : Store) (hf : f.ok) (hg : g.ok) : evCall P (k + 3) iway_form [eFl f, eFl g, .int n] st = .ok (eF (way f g n)) st := by
  rw [call_of (fn := fway_form) rfl]
  simp only [callBody, fway_form, envOf, evSs, evS, evE, evEs]
  simp [kn_call, ev_far_to k, ev_sign k (far f g) n st (sm (far_small hf hg) (by decide)), asg, cmp, sgn_neg]
  unfold way
  by_cases h : worth (far f g) n < 0
  · simp [h, ev_many (k + 1) (far f g) (-1) st (by decide)]
  · simp [h]
theorem ev_lies_ahead (k : Nat) (f g : Flr) (up : Bool) (n : Int) (st : Store) (hf : f.ok) (hg : g.ok) : evCall P (k + 3) ilies_ahead [eFl f, eFl g, .str (wUp up), .int n] st = .ok (.bl (ahead f g up n)) st := by
  rw [call_of (fn := flies_ahead) rfl]
  simp only [callBody, flies_ahead, envOf, evSs, evS, evE, evEs]
  cases up <;> simp [kn_call, ev_far_to k, ev_sign k (far f g) n st (sm (far_small hf hg) (by decide)), asg, cmp, eq_str, cpsOk, wUp, ahead, sgn_nn, sgn_np]
theorem ev_waiting (k : Nat) (cs : List Cl) (s : Sst) (st : Store) (hl : cs.length ≤ 4) : evCall P (k + 1) iwaiting_ones [eCs cs, eSt s] st = .ok (.lst (eNs (waiting cs s))) st := by
  rw [call_of (fn := fwaiting_ones) rfl]
  simp only [callBody, fwaiting_ones, envOf, evSs, evS, evE, evEs, evIt]
  simp [blt, seqOf, wipeE, rngD_range]
  have ok1 : okR (cs.length : Int) = true := by simp [okR]; omega
  simp only [ok1, if_true, R.bind_ok]
  rw [evLc_map eN (fun p => !s.r.contains p && !s.th.contains p) eN rfl (List.range cs.length) [] (by simp [LIM]; omega) (fun p hp => ⟨_, rfl, ?_, fun _ => ?_⟩)]
  · simp [mkL, waiting, eNs]
  · simp only [evOc, evE]
    simp [idx, seqOf, itemAt, ixI, cmp, in_Ns]
    by_cases h : p ∈ s.r <;> simp [h]
  · rfl
theorem waiting_lt {cs : List Cl} {s : Sst} {p : Nat} (h : p ∈ waiting cs s) : p < cs.length := List.mem_range.mp (List.mem_filter.mp h).1
theorem ev_by_then (k : Nat) (cs : List Cl) (m : Form) (ps : List Nat) (st : Store) (hp : ∀ p ∈ ps, p < cs.length) (hl : ps.length ≤ 10) : evCall P (k + 2) iby_then [eCs cs, eF m, .lst (eNs ps)] st = .ok (.lst (ps.map fun p => eF (thenF cs m p))) st := by
  rw [call_of (fn := fby_then) rfl]
  simp only [callBody, fby_then, envOf, evSs, evS, evE, evEs, evIt]
  simp [srcOf, wipeE]
  rw [evLc_map eN (fun _ => true) (fun p => eF (thenF cs m p)) rfl ps [] (by simp [LIM]; omega) (fun p hq => ⟨_, rfl, by simp [evOc], fun _ => ?_⟩)]
  · rw [List.filter_eq_self.mpr (fun _ _ => rfl)]; simp [mkL]
  · simp [item_call (hp p hq), kn_call]
    simp [idx, seqOf, itemAt, ixI, ev_less k m (0, (cAt cs p).t) st, thenF]
theorem then_small {cs : List Cl} (hc : CsOk cs) {m : Form} {b : Int} (h : Small b m) {p : Nat} (hp : p < cs.length) : Small (b + 1000) (thenF cs m p) := by
  have e : cAt cs p ∈ cs := by unfold cAt; rw [List.getElem?_eq_getElem hp]; exact List.getElem_mem hp
  obtain ⟨h1, h2, _⟩ := hc.2.1 _ e
  unfold Small thenF fsub at *
  simp only
  omega
theorem ev_heard (k : Nat) (cs : List Cl) (s : Sst) (n : Int) (st : Store) (hc : CsOk cs) (hm : Small 100000 s.m) :
    evCall P (k + 3) iheard_ones [eCs cs, eSt s, .int n] st = .ok (.tup [.lst (eNs (heard cs s n)), .tup ((waiting cs s).map fun p => eF (thenF cs s.m p))]) st := by
  have hw : (waiting cs s).length ≤ 4 := Nat.le_trans (List.length_filter_le _ _) (by rw [List.length_range]; exact hc.1)
  rw [call_of (fn := fheard_ones) rfl]
  simp only [callBody, fheard_ones, envOf, evSs, evS, evE, evEs, evIt]
  simp [kn_call, ev_waiting (k + 1) cs s st hc.1, asg, idx, seqOf, itemAt, ixI, ev_by_then k cs s.m (waiting cs s) st (fun p hp => waiting_lt hp) (by omega), srcOf, wipeE]
  have hz := zipD_map eN (fun p => eF (thenF cs s.m p)) (waiting cs s)
  rw [show eNs (waiting cs s) = (waiting cs s).map eN from rfl, hz]
  rw [evLc_map (fun p => .tup [eN p, eF (thenF cs s.m p)]) (fun p => decide (0 ≤ worth (thenF cs s.m p) n)) eN rfl (waiting cs s) [] (by simp [LIM]; omega) (fun p hq => ⟨_, rfl, ?_, fun _ => rfl⟩)]
  · simp [mkL, heard, blt, seqOf, lstOf]
  · simp only [evOc, evE, evEs]
    simp [kn_call, ev_sign k (thenF cs s.m p) n st (sm (then_small hc hm (waiting_lt hq)) (by decide)), cmp, sgn_nn]
theorem cAt_ok {cs : List Cl} (hc : CsOk cs) {p : Nat} (hp : p < cs.length) : (cAt cs p).ok := by
  have e : cAt cs p ∈ cs := by unfold cAt; rw [List.getElem?_eq_getElem hp]; exact List.getElem_mem hp
  exact hc.2.1 _ e
theorem cAt_get {cs : List Cl} {p : Nat} (h : p < cs.length) : cs[p]? = some (cAt cs p) := by unfold cAt; rw [List.getElem?_eq_getElem h]; rfl
theorem cAt_el {cs : List Cl} {p : Nat} (h : p < cs.length) : cs[p] = cAt cs p := by unfold cAt; rw [List.getElem?_eq_getElem h]; rfl
theorem filt_true {α : Type} (l : List α) : l.filter (fun _ => true) = l := List.filter_eq_self.mpr fun _ _ => rfl
theorem ev_wanted (k : Nat) (l : Lf) (cs : List Cl) (s : Sst) (hd : List Nat) (st : Store) (hr : ∀ p ∈ s.r, p < cs.length) (hh : ∀ p ∈ hd, p < cs.length) (lr : s.r.length ≤ 10) (lh : hd.length ≤ 10) (nd : (s.r ++ hd).Nodup) :
    evCall P (k + 1) iwanted_by [eLf l, eCs cs, eSt s, .lst (eNs hd)] st = .ok (.lst ((wanted l cs s hd).map eW)) st := by
  rw [call_of (fn := fwanted_by) rfl]
  simp only [callBody, fwanted_by, envOf, evSs, evS, evE, evEs, evIt]
  simp [idx, seqOf, itemAt, ixI, srcOf, wipeE]
  rw [evLc_map eN (fun _ => true) (fun p => eW (p, (cAt cs p).b)) rfl s.r [] (by simp [LIM]; omega) (fun p hq => ⟨_, rfl, by simp [evOc], fun _ => ?_⟩), filt_true]
  · simp [mkL, asg, blt, seqOf, cmp]
    have e1 : sortD ((wantedRaw l cs s hd).map eW) = some ((wanted l cs s hd).map eW) := by
      refine sortD_W _ ?_
      unfold wantedRaw
      split
      · rw [List.map_append, List.map_map, List.map_map]; simpa [Function.comp_def] using nd
      · rw [List.map_map]; simpa [Function.comp_def] using (List.nodup_append.mp nd).1
    have len : (wantedRaw l cs s hd).length ≤ 20 := by
      unfold wantedRaw; split <;> simp <;> omega
    by_cases h : (s.r.length : Int) < l.room
    · simp [h]
      rw [evLc_map eN (fun _ => true) (fun p => eW (p, (cAt cs p).a)) rfl hd [] (by simp [LIM]; omega) (fun p hq => ⟨_, rfl, by simp [evOc], fun _ => ?_⟩), filt_true]
      · have e2 : wantedRaw l cs s hd = s.r.map (fun p => (p, (cAt cs p).b)) ++ hd.map (fun p => (p, (cAt cs p).a)) := by unfold wantedRaw; rw [if_pos h]
        rw [e2, List.map_append, List.map_map, List.map_map] at e1
        have l20 : s.r.length + hd.length ≤ LIM := by simp [LIM]; omega
        have l60 : s.r.length + hd.length ≤ 60 := by omega
        simp only [Function.comp_def] at e1
        simp [bin, mkL, l20, l60, lstOf, e1]
      · simp [hh p hq, cAt_el (hh p hq)]
    · simp [h]
      have e2 : wantedRaw l cs s hd = s.r.map (fun p => (p, (cAt cs p).b)) := by unfold wantedRaw; rw [if_neg h]
      rw [e2, List.map_map] at e1
      simp only [Function.comp_def] at e1
      have l60 : s.r.length ≤ 60 := by omega
      simp [lstOf, l60, e1, mkL]
  · simp [hr p hq, cAt_el (hr p hq)]
end K05

namespace K05
open AF PySem LF
theorem near_foldl_ok {fl : Flr} {up : Bool} {n : Int} (P : Flr → Prop) : ∀ (gs : List Flr) (q : Flr × List Form), P q.1 → (∀ g ∈ gs, P g) → P (gs.foldl (nearStep fl up n) q).1
  | [], _, h, _ => h
  | g :: gs, q, h, hg => near_foldl_ok P gs _ (by unfold nearStep; simp only; split <;> first | exact hg g List.mem_cons_self | exact h) fun x hx => hg x (List.mem_cons_of_mem _ hx)
theorem sub_small {f g : Form} {a b : Int} (h1 : Small a f) (h2 : Small b g) : Small (a + b) (fsub f g) := by
  unfold Small fsub at *; simp only; omega
theorem ev_near_body (k : Nat) (s : Sst) (fs : D) (q : Flr × List Form) (g : Flr) (n : Int) (t6 t7 : Option D) (st : Store) (hf : s.fl.ok) (hq : q.1.ok) (hg : g.ok) (hl : q.2.length ≤ 2000) :
    ∃ t6' t7', evSs (kn (k + 3)) fnearest_b1 [some (eSt s), some fs, some (.int n), some (eFl q.1), some (.tup (q.2.map eF)), some (eFl g), t6, t7] st =
      .ok .next [some (eSt s), some fs, some (.int n), some (eFl (nearStep s.fl s.up n q g).1), some (.tup ((nearStep s.fl s.up n q g).2.map eF)), some (eFl g), t6', t7'] st := by
  have hs := sub_small (way_small hf hg n) (way_small hf hq n)
  refine ⟨some (eF (fsub (way s.fl g n) (way s.fl q.1 n))), some (.int (sgn (worth (fsub (way s.fl g n) (way s.fl q.1 n)) n))), ?_⟩
  have hl' : q.2.length + 1 ≤ LIM := by simp [LIM]; omega
  simp only [fnearest_b1, evSs, evS, evE, evEs]
  simp [idx, seqOf, lstOf, itemAt, ixI, asg, asgs, kn_call, ev_way_form k s.fl _ n st hf hg, ev_way_form k s.fl _ n st hf hq, ev_less, bin, hl', ev_sign (k + 1) (fsub (way s.fl g n) (way s.fl q.1 n)) n st (sm hs (by decide)), cmp, eq_int, ev_lies_ahead k s.fl q.1 s.up n st hf hq]
  generalize hW : worth (fsub (way s.fl g n) (way s.fl q.1 n)) n = W
  have hz : (sgn W == 0) = decide (W = 0) := by
    by_cases h : W = 0
    · subst h; rfl
    · rw [decide_eq_false h, beq_eq_false_iff_ne]; intro e; exact h ((sgn_z W).mp e)
  have hn : decide (sgn W < 0) = decide (W < 0) := by
    by_cases h : W < 0
    · rw [decide_eq_true h, decide_eq_true ((sgn_neg W).mpr h)]
    · rw [decide_eq_false h, decide_eq_false (fun z => h ((sgn_neg W).mp z))]
  simp only [nearStep, hW, hz, hn]
  by_cases h1 : W < 0
  · simp [h1]
  · by_cases h2 : W = 0
    · subst h2
      cases h3 : ahead s.fl q.1 s.up n <;> simp [h3]
    · simp [h1, h2]
theorem near_len {fl : Flr} {up : Bool} {n : Int} : ∀ (gs : List Flr) (q : Flr × List Form), (gs.foldl (nearStep fl up n) q).2.length = q.2.length + gs.length
  | [], _ => rfl
  | g :: gs, q => by rw [List.foldl_cons, near_len gs]; simp [nearStep]; omega
theorem ev_nearest (k : Nat) (s : Sst) (g : Flr) (gs : List Flr) (n : Int) (st : Store) (hf : s.fl.ok) (hg : ∀ f ∈ g :: gs, f.ok) (hl : gs.length ≤ 1000) :
    evCall P (k + 4) inearest [eSt s, .lst ((g :: gs).map eFl), .int n] st = .ok (.tup [eFl (nearest s.fl s.up n (g :: gs)).1, .tup ((nearest s.fl s.up n (g :: gs)).2.map eF)]) st := by
  rw [call_of (fn := fnearest) rfl]
  simp only [callBody, fnearest, envOf, evSs, evS, evE, evEs, evIt, evOe]
  simp [idx, seqOf, lstOf, itemAt, ixI, asg, asgs, slc, srcOf]
  have hc : cut (eFl g :: gs.map eFl) (some 1) none = gs.map eFl := cut_from (k := 1) (eFl g :: gs.map eFl) (by simp)
  rw [hc]
  obtain ⟨ρ', h1, t5, t6, t7, h3⟩ := evFor_pre (gs := []) (tg := .name 5) (body := evSs (kn (k + 3)) fnearest_b1) (st := st) eFl
    (fun pre ρ => (∃ t5 t6 t7, ρ = [some (eSt s), some (.lst (eFl g :: gs.map eFl)), some (.int n), some (eFl (pre.foldl (nearStep s.fl s.up n) (g, [])).1), some (.tup ((pre.foldl (nearStep s.fl s.up n) (g, [])).2.map eF)), t5, t6, t7])) rfl gs []
    [some (eSt s), some (.lst (eFl g :: gs.map eFl)), some (.int n), some (eFl g), some (.tup []), none, none, none] ⟨none, none, none, rfl⟩
    (fun p x q ρ e ⟨t5, t6, t7, er⟩ => by
      have e : gs = p ++ x :: q := e
      have hx : x.ok := hg x (by rw [e]; simp)
      have hb : (p.foldl (nearStep s.fl s.up n) (g, [])).1.ok := near_foldl_ok Flr.ok p (g, []) (hg g List.mem_cons_self) fun y hy => hg y (by rw [e]; simp [hy])
      have hl2 : (p.foldl (nearStep s.fl s.up n) (g, [])).2.length ≤ 2000 := by
        rw [near_len]
        have := congrArg List.length e
        simp at this ⊢; omega
      obtain ⟨u6, u7, hu⟩ := ev_near_body k s (.lst (eFl g :: gs.map eFl)) (p.foldl (nearStep s.fl s.up n) (g, [])) x n t6 t7 st hf hb hx hl2
      subst er
      exact ⟨_, _, rfl, hu, some (eFl x), u6, u7, by rw [List.foldl_append]; rfl⟩)
  rw [h1]
  subst h3
  simp [nearest]
theorem rule_ok (rl : Rule) : cpsOk (wRule rl) = true := by cases rl <;> decide
theorem empty_eq (st : Store) (l : List D) (h : l.all (plD 23) = true) : eqD st (.lst l) (.lst []) = some (decide (l = [])) := by
  rw [eqD_pl st (show plD 24 (.lst l) = true from h) rfl]
  cases l <;> simp [D.beq, D.beqs]
theorem all_Fl (k : Nat) (fs : List Flr) : (fs.map eFl).all (plD (k + 2)) = true := by
  rw [List.all_eq_true]
  intro d hd
  obtain ⟨a, _, rfl⟩ := List.mem_map.mp hd
  exact pl_fl k a
theorem goal_ok {l : Lf} {s : Sst} {w : List (Nat × Flr)} {n : Int} (hf : s.fl.ok) (hw : ∀ x ∈ w, x.2.ok) (rl : Rule) : (goalOf rl s w n).1.ok := by
  have near : ∀ fs : List Flr, (∀ f ∈ fs, f.ok) → (nearest s.fl s.up n fs).1.ok := fun fs h => by
    cases fs with
    | nil => exact hf
    | cons g gs => exact near_foldl_ok Flr.ok gs (g, []) (h g List.mem_cons_self) fun y hy => h y (List.mem_cons_of_mem _ hy)
  have hm : ∀ f ∈ w.map (·.2), f.ok := fun f hf => by
    obtain ⟨x, hx, rfl⟩ := List.mem_map.mp hf
    exact hw x hx
  unfold goalOf
  cases rl with
  | first =>
    simp only
    cases w with
    | nil => exact hf
    | cons a r => exact hw a List.mem_cons_self
  | near => exact near _ hm
  | scan =>
    refine near _ ?_
    simp only
    split
    · exact hm
    · exact fun f hf => hm f (List.mem_filter.mp hf).1
theorem ev_goal (k : Nat) (rl : Rule) (s : Sst) (a : Nat × Flr) (w : List (Nat × Flr)) (n : Int) (st : Store) (hf : s.fl.ok) (hw : ∀ x ∈ a :: w, x.2.ok) (hl : w.length ≤ 100) :
    evCall P (k + 5) igoal_of [.str (wRule rl), eSt s, .lst ((a :: w).map eW), .int n] st = .ok (.tup [eFl (goalOf rl s (a :: w) n).1, .tup ((goalOf rl s (a :: w) n).2.map eF)]) st := by
  have hm : ∀ f ∈ (a :: w).map (·.2), f.ok := fun f hf => by
    obtain ⟨x, hx, rfl⟩ := List.mem_map.mp hf
    exact hw x hx
  rw [call_of (fn := fgoal_of) rfl]
  simp only [callBody, fgoal_of, envOf, evSs, evS, evE, evEs, evIt]
  simp [srcOf, wipeE]
  rw [show eW a :: w.map eW = (a :: w).map eW from rfl, evLc_map eW (fun _ => true) (fun x => eFl x.2) rfl (a :: w) [] (by simp [LIM]; omega) (fun p hq => ⟨_, rfl, by simp [evOc], fun _ => rfl⟩), filt_true]
  simp [mkL, asg, cmp, eq_str st (rule_ok rl) (show cpsOk [102, 105, 114, 115, 116] = true by decide), eq_str st (rule_ok rl) (show cpsOk [110, 101, 97, 114] = true by decide)]
  have hm' : ∀ f ∈ a.2 :: w.map (fun x => x.2), f.ok := hm
  have hn := ev_nearest k s a.2 (w.map fun x => x.2) n st hf hm' (by simp; omega)
  simp only [List.map_cons, List.map_map, Function.comp_def] at hn
  cases rl with
  | first =>
    simp [wRule, goalOf, idx, seqOf, lstOf, itemAt, ixI]
  | near =>
    simp [wRule, goalOf, kn_call, eq_str, cpsOk, hn]
  | scan =>
    simp [wRule, goalOf, kn_call, eq_str, cpsOk, srcOf]
    have e1 : (eFl a.2 :: w.map fun x => eFl x.2) = ((a :: w).map (·.2)).map eFl := by simp
    generalize hF : ((a :: w).map (·.2)).filter (fun f => ahead s.fl f s.up n) = F
    have hF' : (a.2 :: w.map (·.2)).filter (fun f => ahead s.fl f s.up n) = F := by rw [← hF]; rfl
    rw [e1, evLc_map eFl (fun f => ahead s.fl f s.up n) eFl rfl ((a :: w).map (·.2)) [] (by simp [LIM]; omega) (fun f hq => ⟨_, rfl, by
      simp only [evOc, evE, evEs]
      simp [idx, seqOf, itemAt, ixI, kn_call, ev_lies_ahead (k + 1) s.fl f s.up n st hf (hm f hq)], fun _ => rfl⟩), hF, hF']
    have he := empty_eq st (F.map eFl) (all_Fl 21 F)
    simp [he]
    cases F with
    | nil => simp [hn, Function.comp_def]
    | cons b F =>
      have hb : ∀ f ∈ b :: F, f.ok := fun f hf => hm f (by rw [← hF] at hf; exact (List.mem_filter.mp hf).1)
      have hlF : F.length ≤ 1000 := by
        have := congrArg List.length hF
        have h2 := List.length_filter_le (fun f => ahead s.fl f s.up n) ((a :: w).map (·.2))
        simp only [List.length_cons, List.length_map] at this h2; omega
      have hn2 := ev_nearest k s b F n st hf hb hlF
      simp only [List.map_cons] at hn2
      simp [hn2]
end K05

namespace K05
open AF PySem LF
theorem far_sgn (f g : Flr) (hf : f.ok) (hg : g.ok) : small64 (far f g).1 = true := sm (far_small hf hg) (by decide)
theorem move_small {m : Form} {b : Int} {l : Lf} {f g : Flr} {n : Int} (hm : Small b m) (hl : l.ok) (hf : f.ok) (hg : g.ok) : Small (b + 40) (fadd m (fmul (way f g n) l.pace)) := by
  have h := way_small hf hg n
  obtain ⟨_, _, _, _, h1, h2, _⟩ := hl
  unfold Small fadd fmul at *
  simp only
  obtain ⟨a1, a2, a3, a4⟩ := h
  have p1 : (way f g n).1 * l.pace ≤ 8 * 5 := Int.le_trans (Int.mul_le_mul_of_nonneg_right a2 (by omega)) (by omega)
  have p2 : -(8 * 5) ≤ (way f g n).1 * l.pace := by
    have := Int.mul_le_mul_of_nonneg_right a1 (show 0 ≤ l.pace by omega); omega
  have p3 : (way f g n).2 * l.pace ≤ 8 * 5 := Int.le_trans (Int.mul_le_mul_of_nonneg_right a4 (by omega)) (by omega)
  have p4 : -(8 * 5) ≤ (way f g n).2 * l.pace := by
    have := Int.mul_le_mul_of_nonneg_right a3 (show 0 ≤ l.pace by omega); omega
  omega
section
variable (k : Nat) (l : Lf) (cs : List Cl) (s : Sst) (g : Flr) (n : Int) (st : Store)
abbrev up' (s : Sst) (g : Flr) (n : Int) : Bool := if g ≠ s.fl then decide (0 < worth (far s.fl g) n) else s.up
abbrev m' (l : Lf) (s : Sst) (g : Flr) (n : Int) : Form := fadd s.m (fmul (way s.fl g n) l.pace)
abbrev off' (cs : List Cl) (s : Sst) (g : Flr) : List Nat := s.r.filter fun p => decide ((cAt cs p).b = g)
abbrev rest' (cs : List Cl) (s : Sst) (g : Flr) : List Nat := s.r.filter fun p => !(off' cs s g).contains p
abbrev people' (cs : List Cl) (s : Sst) (g : Flr) : List Nat := (waiting cs s).filter fun p => decide ((cAt cs p).a = g)
abbrev come' (l : Lf) (cs : List Cl) (s : Sst) (g : Flr) (n : Int) : List Nat := (people' cs s g).filter fun p => decide (0 ≤ worth (thenF cs (m' l s g n) p) n)
abbrev on' (l : Lf) (cs : List Cl) (s : Sst) (g : Flr) (n : Int) : List Nat := (come' l cs s g n).take (l.room - (rest' cs s g).length).toNat
def envS (up : Bool) (x12 x13 x14 x15 x16 x17 x18 x19 x20 : Option D) : AF.Env :=
  [some (eLf l), some (eCs cs), some (eSt s), some (eFl g), some (.int n), some (eF (m' l s g n)), some (eFl s.fl), some (.str (wUp up)), some (.tup (eNs s.r)), some (.tup (eNs s.th)), some (.tup (s.asked.map eF)), some (eF (way s.fl g n)), x12, x13, x14, x15, x16, x17, x18, x19, x20]
theorem st1_3 (hl : l.ok) (hf : s.fl.ok) (hg : g.ok) (rest : Ss) (h : True) :
    evSs (kn (k + 3)) (.cons fstop_at_s1 (.cons fstop_at_s2 (.cons fstop_at_s3 rest))) (AF.envOf 21 [eLf l, eCs cs, eSt s, eFl g, .int n]) st = evSs (kn (k + 3)) rest (envS l cs s g n s.up none none none none none none none none none) st := by
  have hp : small64 l.pace = true := small_of (b := 10) (by have := hl.2.2.2.2.1; omega) (by have := hl.2.2.2.2.2.1; omega) (by decide)
  simp only [evSs, fstop_at_s1, fstop_at_s2, fstop_at_s3, evS, evE, evEs, envOf]
  simp [asg, asgs, kn_call, ev_way_form k s.fl g n st hf hg, idx, seqOf, lstOf, itemAt, ixI, ev_many (k + 2) _ _ st hp, ev_added, envS]
theorem st4 (hf : s.fl.ok) (hg : g.ok) : evS (kn (k + 3)) fstop_at_s4 (envS l cs s g n s.up none none none none none none none none none) st = .ok .next (envS l cs s g n (up' s g n) none none none none none none none none none) st := by
  simp only [fstop_at_s4, evSs, evS, evE, evEs, envS]
  simp [asg, asgs, kn_call, cmp, eq_fl, ev_far_to (k + 1), ev_sign (k + 1) _ n st (far_sgn s.fl g hf hg), sgn_pos]
  by_cases h : g = s.fl
  · simp [h]
  · by_cases h2 : 0 < worth (far s.fl g) n <;> simp [h, h2, wUp]
theorem st5 (up : Bool) (hr : ∀ p ∈ s.r, p < cs.length) (lr : s.r.length ≤ 10) : evS (kn (k + 3)) fstop_at_s5 (envS l cs s g n up none none none none none none none none none) st = .ok .next (envS l cs s g n up (some (.tup (eNs (off' cs s g)))) none none none none none none none none) st := by
  simp only [fstop_at_s5, evSs, evS, evE, evEs, evIt, envS]
  simp [srcOf, wipeE]
  rw [evLc_map eN (fun p => decide ((cAt cs p).b = g)) eN rfl s.r [] (by simp [LIM]; omega) (fun p hq => ⟨_, rfl, ?_, fun _ => rfl⟩)]
  · simp [mkL, blt, seqOf, lstOf, asg]
  · simp only [evOc, evE, evEs]
    simp [item_call (hr p hq)]
    simp [idx, seqOf, lstOf, itemAt, ixI, cmp, eq_fl]
theorem st6 (up : Bool) (lr : s.r.length ≤ 10) : evS (kn (k + 3)) fstop_at_s6 (envS l cs s g n up (some (.tup (eNs (off' cs s g)))) none none none none none none none none) st = .ok .next (envS l cs s g n up (some (.tup (eNs (off' cs s g)))) none (some (.tup (eNs (rest' cs s g)))) none none none none none none) st := by
  simp only [fstop_at_s6, evSs, evS, evE, evEs, evIt, envS]
  simp [srcOf, wipeE]
  rw [evLc_map eN (fun p => !(off' cs s g).contains p) eN rfl s.r [] (by simp [LIM]; omega) (fun p hq => ⟨_, rfl, ?_, fun _ => rfl⟩)]
  · rfl
  · simp only [evOc, evE, evEs]
    simp only [cmp, in_Ns]
    simp [cmp, in_Ns]
theorem st7 (up : Bool) (a b : Option D) (hc : CsOk cs) : evS (kn (k + 3)) fstop_at_s7 (envS l cs s g n up a none b none none none none none none) st = .ok .next (envS l cs s g n up a none b (some (.lst (eNs (people' cs s g)))) none none none none none) st := by
  have hw : (waiting cs s).length ≤ 4 := Nat.le_trans (List.length_filter_le _ _) (by rw [List.length_range]; exact hc.1)
  simp only [fstop_at_s7, evSs, evS, evE, evEs, evIt, envS]
  simp [srcOf, wipeE, kn_call, ev_waiting (k + 2) cs s st hc.1]
  rw [evLc_map eN (fun p => decide ((cAt cs p).a = g)) eN rfl (waiting cs s) [] (by simp [LIM]; omega) (fun p hq => ⟨_, rfl, ?_, fun _ => rfl⟩)]
  · rfl
  · simp only [evOc, evE, evEs]
    simp [item_call (waiting_lt hq)]
    simp [idx, seqOf, lstOf, itemAt, ixI, cmp, eq_fl]
theorem people_lt {p : Nat} (h : p ∈ people' cs s g) : p < cs.length := waiting_lt (List.mem_filter.mp h).1
theorem people_len (hc : CsOk cs) : (people' cs s g).length ≤ 4 := Nat.le_trans (List.length_filter_le _ _) (Nat.le_trans (List.length_filter_le _ _) (by rw [List.length_range]; exact hc.1))
theorem st8 (up : Bool) (a b : Option D) (hc : CsOk cs) : evS (kn (k + 3)) fstop_at_s8 (envS l cs s g n up a none b (some (.lst (eNs (people' cs s g)))) none none none none none) st =
    .ok .next (envS l cs s g n up a none b (some (.lst (eNs (people' cs s g)))) (some (.lst ((people' cs s g).map fun p => eF (thenF cs (m' l s g n) p)))) none none none none) st := by
  simp only [fstop_at_s8, evSs, evS, evE, evEs, evIt, envS]
  have h := ev_by_then (k + 1) cs (m' l s g n) (people' cs s g) st (fun p hp => people_lt cs s g hp) (Nat.le_trans (people_len cs s g hc) (by omega))
  simp [kn_call, h, asg]
theorem st9 (up : Bool) (a b : Option D) (hc : CsOk cs) (hm : Small 50000 s.m) (hl : l.ok) (hf : s.fl.ok) (hg : g.ok) : evS (kn (k + 3)) fstop_at_s9 (envS l cs s g n up a none b (some (.lst (eNs (people' cs s g)))) (some (.lst ((people' cs s g).map fun p => eF (thenF cs (m' l s g n) p)))) none none none none) st =
    .ok .next (envS l cs s g n up a none b (some (.lst (eNs (people' cs s g)))) (some (.lst ((people' cs s g).map fun p => eF (thenF cs (m' l s g n) p)))) (some (.lst (eNs (come' l cs s g n)))) none none none) st := by
  have hl4 := people_len cs s g hc
  simp only [fstop_at_s9, evSs, evS, evE, evEs, evIt, envS]
  simp only [List.getElem?_cons_succ, List.getElem?_cons_zero, AF.R.bind_ok, srcOf]
  rw [show eNs (people' cs s g) = (people' cs s g).map eN from rfl, zipD_map eN (fun p => eF (thenF cs (m' l s g n) p)) (people' cs s g)]
  rw [evLc_map (fun p => .tup [eN p, eF (thenF cs (m' l s g n) p)]) (fun p => decide (0 ≤ worth (thenF cs (m' l s g n) p) n)) eN rfl (people' cs s g) [] (by simp [LIM]; omega) (fun p hq => ⟨_, rfl, ?_, fun _ => rfl⟩)]
  · rfl
  · have hsm := then_small hc (move_small (n := n) hm hl hf hg) (people_lt cs s g hq)
    simp only [evOc, evE, evEs]
    simp [kn_call, wipeE, ev_sign (k + 1) (thenF cs (m' l s g n) p) n st (sm hsm (by decide)), cmp, sgn_nn]
theorem st10 (up : Bool) (a c d e f : Option D) (hroom : (s.r.length : Int) ≤ l.room) : evS (kn (k + 3)) fstop_at_s10 (envS l cs s g n up a c (some (.tup (eNs (rest' cs s g)))) d e (some (.lst (eNs (come' l cs s g n)))) f none none) st =
    .ok .next (envS l cs s g n up a c (some (.tup (eNs (rest' cs s g)))) d e (some (.lst (eNs (come' l cs s g n)))) f (some (.tup (eNs (on' l cs s g n)))) none) st := by
  have h0 : (rest' cs s g).length ≤ s.r.length := List.length_filter_le _ _
  have h1 : 0 ≤ l.room - (rest' cs s g).length := by omega
  have h2 := cut_take (eNs (come' l cs s g n)) h1
  have hlen : (eNs (rest' cs s g)).length = (rest' cs s g).length := List.length_map ..
  have h3 : eNs (on' l cs s g n) = (eNs (come' l cs s g n)).take (l.room - (rest' cs s g).length).toNat := List.map_take ..
  rw [h3, ← h2]
  clear h3 h2 h0
  generalize eNs (come' l cs s g n) = C at *
  generalize eNs (rest' cs s g) = R at *
  generalize (rest' cs s g).length = r at *
  simp only [fstop_at_s10, evSs, evS, evE, evEs, evIt, evOe, envS]
  simp [blt, seqOf, lstOf, idx, itemAt, ixI, bin, slc, asg, hlen]
theorem sort_len : ∀ l : List Nat, (sortN l).length = l.length := by
  have ins : ∀ (a : Nat) (l : List Nat), (insN a l).length = l.length + 1 := fun a l => by
    induction l with
    | nil => rfl
    | cons b r ih => unfold insN; split <;> simp [ih]
  intro l
  induction l with
  | nil => rfl
  | cons a r ih => rw [sortN, ins, ih]; rfl
theorem st11 (up : Bool) (c d f : Option D) (hl : l.ok) (hc : CsOk cs) (lr : s.r.length ≤ 10) (lt : s.th.length ≤ 10) (la : s.asked.length ≤ 100000) : evS (kn (k + 3)) fstop_at_s11 (envS l cs s g n up (some (.tup (eNs (off' cs s g)))) c (some (.tup (eNs (rest' cs s g)))) (some (.lst (eNs (people' cs s g)))) (some (.lst ((people' cs s g).map fun p => eF (thenF cs (m' l s g n) p)))) d f (some (.tup (eNs (on' l cs s g n)))) none) st =
    .ok .next (envS l cs s g n up (some (.tup (eNs (off' cs s g)))) c (some (.tup (eNs (rest' cs s g)))) (some (.lst (eNs (people' cs s g)))) (some (.lst ((people' cs s g).map fun p => eF (thenF cs (m' l s g n) p)))) d f (some (.tup (eNs (on' l cs s g n))))
      (some (eSt ⟨fadd (m' l s g n) (0, l.halt), g, up, sortN (rest' cs s g ++ on' l cs s g n), s.th ++ off' cs s g, s.asked ++ (people' cs s g).map (thenF cs (m' l s g n))⟩))) st := by
  have l1 : (eNs (rest' cs s g)).length ≤ 10 := by rw [List.length_map]; exact Nat.le_trans (List.length_filter_le _ _) lr
  have l2 : (eNs (on' l cs s g n)).length ≤ 4 := by
    rw [List.length_map]
    refine Nat.le_trans (List.length_take_le' ..) ?_
    exact Nat.le_trans (List.length_filter_le _ _) (people_len cs s g hc)
  have l3 : (eNs (off' cs s g)).length ≤ 10 := by rw [List.length_map]; exact Nat.le_trans (List.length_filter_le _ _) lr
  have l4 : ((people' cs s g).map fun p => eF (thenF cs (m' l s g n) p)).length ≤ 4 := by rw [List.length_map]; exact people_len cs s g hc
  have e1 : eNs (sortN (rest' cs s g ++ on' l cs s g n)) = eNs (sortN (rest' cs s g ++ on' l cs s g n)) := rfl
  have hsd := sortD_N (rest' cs s g ++ on' l cs s g n)
  have e2 : eNs (rest' cs s g ++ on' l cs s g n) = eNs (rest' cs s g) ++ eNs (on' l cs s g n) := List.map_append ..
  have e3 : eNs (s.th ++ off' cs s g) = eNs s.th ++ eNs (off' cs s g) := List.map_append ..
  have e4 : (s.asked ++ (people' cs s g).map (thenF cs (m' l s g n))).map eF = s.asked.map eF ++ (people' cs s g).map fun p => eF (thenF cs (m' l s g n) p) := by rw [List.map_append, List.map_map]; rfl
  have l5 : (eNs s.th).length ≤ 10 := by rw [List.length_map]; exact lt
  have l6 : (s.asked.map eF).length ≤ 100000 := by rw [List.length_map]; exact la
  rw [e2] at hsd
  have b1 : (eNs (rest' cs s g)).length + (eNs (on' l cs s g n)).length ≤ LIM := by simp only [LIM]; omega
  have b2 : s.th.length + (eNs (off' cs s g)).length ≤ LIM := by simp only [LIM]; omega
  have b3 : s.asked.length + ((people' cs s g).map fun p => eF (thenF cs (m' l s g n) p)).length ≤ LIM := by simp only [LIM]; omega
  have b4 : (eNs (rest' cs s g) ++ eNs (on' l cs s g n)).length ≤ 60 := by rw [List.length_append]; omega
  simp only [eSt, e3, e4]
  generalize eNs (sortN (rest' cs s g ++ on' l cs s g n)) = SO at *
  generalize eNs (on' l cs s g n) = O at *
  generalize eNs (rest' cs s g) = R at *
  generalize eNs (off' cs s g) = F at *
  generalize ((people' cs s g).map fun p => eF (thenF cs (m' l s g n) p)) = Fo at *
  simp only [fstop_at_s11, evSs, evS, evE, evEs, evIt, evOe, envS]
  have ha := ev_added (k + 2) (m' l s g n) (0, l.halt) st
  simp only [List.length_append] at b4
  simp [kn_call, idx, seqOf, lstOf, itemAt, ixI, ha, bin, b1, b2, b3, b4, blt, hsd, mkL, asg]
theorem ev_stop (hl : l.ok) (hc : CsOk cs) (hm : Small 50000 s.m) (hf : s.fl.ok) (hg : g.ok) (hr : ∀ p ∈ s.r, p < cs.length) (lr : s.r.length ≤ 10) (lt : s.th.length ≤ 10) (la : s.asked.length ≤ 100000) (hroom : (s.r.length : Int) ≤ l.room) :
    evCall P (k + 4) istop_at [eLf l, eCs cs, eSt s, eFl g, .int n] st = .ok (.tup [eSt (stopAt l cs s g n).1, eStop (stopAt l cs s g n).2.1, eF (stopAt l cs s g n).2.2]) st := by
  rw [call_of (fn := fstop_at) rfl]
  refine body_ret (ρ' := envS l cs s g n (up' s g n) (some (.tup (eNs (off' cs s g)))) none (some (.tup (eNs (rest' cs s g)))) (some (.lst (eNs (people' cs s g)))) (some (.lst ((people' cs s g).map fun p => eF (thenF cs (m' l s g n) p)))) (some (.lst (eNs (come' l cs s g n)))) none (some (.tup (eNs (on' l cs s g n))))
      (some (eSt ⟨fadd (m' l s g n) (0, l.halt), g, up' s g n, sortN (rest' cs s g ++ on' l cs s g n), s.th ++ off' cs s g, s.asked ++ (people' cs s g).map (thenF cs (m' l s g n))⟩))) rfl ?_
  rw [show fstop_at.body = .cons fstop_at_s1 (.cons fstop_at_s2 (.cons fstop_at_s3 (.cons fstop_at_s4 (.cons fstop_at_s5 (.cons fstop_at_s6 (.cons fstop_at_s7 (.cons fstop_at_s8 (.cons fstop_at_s9 (.cons fstop_at_s10 (.cons fstop_at_s11 (.cons fstop_at_s12 .nil))))))))))) from rfl]
  rw [show fstop_at.n = 21 from rfl, st1_3 k l cs s g n st hl hf hg _ trivial, ss_next (st4 k l cs s g n st hf hg), ss_next (st5 k l cs s g n st _ hr lr), ss_next (st6 k l cs s g n st _ lr), ss_next (st7 k l cs s g n st _ _ _ hc), ss_next (st8 k l cs s g n st _ _ _ hc), ss_next (st9 k l cs s g n st _ _ _ hc hm hl hf hg), ss_next (st10 k l cs s g n st _ _ _ _ _ _ hroom), ss_next (st11 k l cs s g n st _ _ _ _ hl hc lr lt la)]
  refine ss_ret ?_
  rfl
end
end K05

namespace K05
open AF PySem LF
theorem ints_map {α : Type} (f : α → Int) : ∀ l : List α, intsOf (l.map fun a => D.int (f a)) = some (l.map f)
  | [] => rfl
  | a :: r => by
    rw [List.map_cons, intsOf, ints_map f r]; rfl
theorem late_lt {cs : List Cl} {s : Sst} {hd : List Nat} {p : Nat} (h : p ∈ late cs s hd) : p < cs.length := waiting_lt (List.mem_filter.mp h).1
theorem all_ints {α : Type} (f : α → Int) (l : List α) : (l.map fun a => D.int (f a)).all (plD 23) = true := by
  rw [List.all_eq_true]
  intro d hd
  obtain ⟨a, _, rfl⟩ := List.mem_map.mp hd
  rfl
theorem minI_none {l : List Int} : minI l = none ↔ l = [] := by cases l <;> simp [minI]
theorem ev_next (k : Nat) (cs : List Cl) (s : Sst) (hd : List Nat) (st : Store) (hc : CsOk cs) :
    evCall P (k + 2) inext_minute [eCs cs, eSt s, .lst (eNs hd)] st = .ok (match nextMin cs s hd with | none => .non | some t => .int t) st := by
  have hw : (waiting cs s).length ≤ 4 := Nat.le_trans (List.length_filter_le _ _) (by rw [List.length_range]; exact hc.1)
  rw [call_of (fn := fnext_minute) rfl]
  simp only [callBody, fnext_minute, envOf, evSs, evS, evE, evEs, evIt]
  simp only [List.length_cons, List.length_nil, if_true, List.map_cons, List.map_nil, List.cons_append, List.nil_append, Nat.reduceSub, List.replicate, List.getElem?_cons_succ, List.getElem?_cons_zero, AF.R.bind_ok, kn_call, ev_waiting k cs s st hc.1, srcOf]
  rw [evLc_map eN (fun p => !hd.contains p) (fun p => D.int (cAt cs p).t) rfl (waiting cs s) [] (by simp [LIM]; omega) (fun p hq => ⟨_, rfl, ?_, fun _ => ?_⟩)]
  · rw [show (waiting cs s).filter (fun p => !hd.contains p) = late cs s hd from rfl]
    have hlen : (late cs s hd).length ≤ 60 := Nat.le_trans (List.length_filter_le _ _) (by omega)
    have he := empty_eq st ((late cs s hd).map fun p => D.int (cAt cs p).t) (all_ints _ _)
    have hi := ints_map (fun p => (cAt cs p).t) (late cs s hd)
    unfold nextMin
    generalize late cs s hd = L at *
    simp [mkL, asg, cmp, he]
    cases L with
    | nil => simp [minI]
    | cons a r =>
      have hlen' : r.length + 1 ≤ LIM := Nat.le_trans hlen (by decide)
      simp only [List.map_cons] at hi
      simp [blt, lstOf, hlen', minD, hi, minI]
  · simp only [evOc, evE, evEs]
    simp [wipeE, cmp, in_NsL]
  · simp [wipeE, item_call (waiting_lt hq)]
    simp [idx, seqOf, lstOf, itemAt, ixI, blt]
def envR (l : Lf) (cs : List Cl) (n : Int) (s : Sst) (stops : List Stop) (e : Form) (x6 x7 x8 x9 x10 x11 x12 x13 : Option D) : AF.Env :=
  [some (eLf l), some (eCs cs), some (.int n), some (eSt s), some (.tup (stops.map eStop)), some (eF e), x6, x7, x8, x9, x10, x11, x12, x13]
section
variable (k : Nat) (l : Lf) (cs : List Cl) (n : Int) (s : Sst) (stops : List Stop) (e : Form) (st : Store) (x6 x7 x8 x9 x10 x11 x12 x13 : Option D)
theorem c5 (L : List D) : cut L none (some 5) = L.take 5 := cut_take L (by decide)
theorem c1 (L : List D) (h : 1 ≤ L.length) : cut L (some 1) none = L.drop 1 := cut_from (k := 1) L h
theorem rs8 (hc : CsOk cs) (hm : Small 100000 s.m) : evS (kn (k + 3)) frun_with_s8 (envR l cs n s stops e x6 x7 x8 x9 x10 x11 x12 x13) st =
    .ok .next (envR l cs n s stops e (some (.lst (eNs (heard cs s n)))) (some (.tup ((waiting cs s).map fun p => eF (thenF cs s.m p)))) x8 x9 x10 x11 x12 x13) st := by
  simp only [frun_with_s8, evS, evE, evEs, envR]
  simp [kn_call, ev_heard k cs s n st hc hm, asg, asgs]
theorem wait_len (hc : CsOk cs) : (waiting cs s).length ≤ 4 := Nat.le_trans (List.length_filter_le _ _) (by rw [List.length_range]; exact hc.1)
theorem add_tup {x y : List D} {m : Bool} {st : Store} (h : x.length + y.length ≤ LIM) : bin .add m (.tup x) (.tup y) st = .ok (.tup (x ++ y)) st := by simp [bin, h]
theorem rs9 (hc : CsOk cs) (la : s.asked.length ≤ 100000) : evS (kn k) frun_with_s9 (envR l cs n s stops e x6 (some (.tup ((waiting cs s).map fun p => eF (thenF cs s.m p)))) x8 x9 x10 x11 x12 x13) st =
    .ok .next (envR l cs n (askH cs s) stops e x6 (some (.tup ((waiting cs s).map fun p => eF (thenF cs s.m p)))) x8 x9 x10 x11 x12 x13) st := by
  have hl := wait_len cs s hc
  have b : (s.asked.map eF).length + ((waiting cs s).map fun p => eF (thenF cs s.m p)).length ≤ LIM := by simp only [LIM, List.length_map]; omega
  have e4 : (s.asked ++ (waiting cs s).map (thenF cs s.m)).map eF = s.asked.map eF ++ (waiting cs s).map fun p => eF (thenF cs s.m p) := by rw [List.map_append, List.map_map]; rfl
  have a1 := add_tup (m := false) (st := st) b
  have a2 : ∀ d : D, bin .add false (.tup [eF s.m, eFl s.fl, .str (wUp s.up), .tup (eNs s.r), .tup (eNs s.th)]) (.tup [d]) st = .ok (.tup [eF s.m, eFl s.fl, .str (wUp s.up), .tup (eNs s.r), .tup (eNs s.th), d]) st := fun d => add_tup (by simp [LIM])
  simp only [frun_with_s9, evS, evE, evEs, evOe, envR]
  simp [slc, c5, idx, seqOf, lstOf, itemAt, ixI, a1, a2, asg, askH, e4]
theorem rs10 (hd : List Nat) (hr : ∀ p ∈ s.r, p < cs.length) (hh : ∀ p ∈ hd, p < cs.length) (lr : s.r.length ≤ 10) (lh : hd.length ≤ 10) (nd : (s.r ++ hd).Nodup) : evS (kn (k + 1)) frun_with_s10 (envR l cs n s stops e (some (.lst (eNs hd))) x7 x8 x9 x10 x11 x12 x13) st =
    .ok .next (envR l cs n s stops e (some (.lst (eNs hd))) x7 (some (.lst ((wanted l cs s hd).map eW))) x9 x10 x11 x12 x13) st := by
  simp only [frun_with_s10, evS, evE, evEs, evOe, envR]
  simp [kn_call, ev_wanted k l cs s hd st hr hh lr lh nd, asg]
theorem rs1 (a : Nat × Flr) (w : List (Nat × Flr)) (hf : s.fl.ok) (hw : ∀ x ∈ a :: w, x.2.ok) (hl : w.length ≤ 100) : evS (kn (k + 5)) frun_with_s1 (envR l cs n s stops e x6 x7 (some (.lst ((a :: w).map eW))) x9 x10 x11 x12 x13) st =
    .ok .next (envR l cs n s stops e x6 (some (.tup ((goalOf l.rule s (a :: w) n).2.map eF))) (some (.lst ((a :: w).map eW))) (some (eFl (goalOf l.rule s (a :: w) n).1)) x10 x11 x12 x13) st := by
  have h := ev_goal k l.rule s a w n st hf hw hl
  simp only [List.map_cons] at h
  simp only [frun_with_s1, evS, evE, evEs, evOe, envR]
  simp [idx, seqOf, lstOf, itemAt, ixI, kn_call, h, asg, asgs]
theorem emptyT (L : List Nat) : eqD st (.tup (eNs L)) (.tup []) = some (decide (L = [])) := by
  rw [eqD_pl st (show plD 24 (.tup (eNs L)) = true from all_Ns 22 L) rfl]
  cases L <;> simp [D.beq, D.beqs]
theorem rs2 : evS (kn k) frun_with_s2 (envR l cs n s stops e x6 x7 x8 x9 x10 x11 x12 x13) st = .ok .next (envR l cs n s stops e x6 x7 x8 x9 (some (.bl (decide (s.r = [])))) x11 x12 x13) st := by
  simp only [frun_with_s2, evS, evE, evEs, evOe, envR]
  simp [idx, seqOf, lstOf, itemAt, ixI, cmp, emptyT, asg]
theorem rs3 (fs : List Form) (g : Flr) (hl : l.ok) (hc : CsOk cs) (hm : Small 50000 s.m) (hf : s.fl.ok) (hg : g.ok) (hr : ∀ p ∈ s.r, p < cs.length) (lr : s.r.length ≤ 10) (lt : s.th.length ≤ 10) (la : s.asked.length + fs.length ≤ 100000) (hroom : (s.r.length : Int) ≤ l.room) :
    evS (kn (k + 4)) frun_with_s3 (envR l cs n s stops e x6 (some (.tup (fs.map eF))) x8 (some (eFl g)) x10 x11 x12 x13) st =
    .ok .next (envR l cs n (stopAt l cs (askG s fs) g n).1 stops e x6 (some (.tup (fs.map eF))) x8 (some (eFl g)) x10 (some (eStop (stopAt l cs (askG s fs) g n).2.1)) (some (eF (stopAt l cs (askG s fs) g n).2.2)) x13) st := by
  have b : (s.asked.map eF).length + (fs.map eF).length ≤ LIM := by simp only [LIM, List.length_map]; omega
  have a1 := add_tup (m := false) (st := st) b
  have a2 : ∀ d : D, bin .add false (.tup [eF s.m, eFl s.fl, .str (wUp s.up), .tup (eNs s.r), .tup (eNs s.th)]) (.tup [d]) st = .ok (.tup [eF s.m, eFl s.fl, .str (wUp s.up), .tup (eNs s.r), .tup (eNs s.th), d]) st := fun d => add_tup (by simp [LIM])
  have h := ev_stop k l cs (askG s fs) g n st hl hc hm hf hg hr lr lt (by simpa [askG] using la) hroom
  simp only [askG, eSt, List.map_append] at h
  generalize hX : stopAt l cs (askG s fs) g n = X
  have hX' : stopAt l cs { m := s.m, fl := s.fl, up := s.up, r := s.r, th := s.th, asked := s.asked ++ fs } g n = X := hX
  rw [hX'] at h
  simp only [frun_with_s3, evS, evE, evEs, evOe, envR]
  simp [slc, c5, idx, seqOf, lstOf, itemAt, ixI, a1, a2, kn_call, h, asg, asgs]
theorem rs4 (sp : Stop) (f : Form) (b : Bool) (hl : stops.length ≤ 1000) : evS (kn (k + 1)) frun_with_s4 (envR l cs n s stops e x6 x7 x8 x9 (some (.bl b)) (some (eStop sp)) (some (eF f)) x13) st =
    .ok .next (envR l cs n s (stops ++ [sp]) (if b then fadd e f else e) x6 x7 x8 x9 (some (.bl b)) (some (eStop sp)) (some (eF f)) x13) st := by
  have b1 : (stops.map eStop).length + [eStop sp].length ≤ LIM := by simp [LIM]; omega
  have a1 := add_tup (m := false) (st := st) b1
  have h := ev_added k e f st
  simp only [frun_with_s4, evS, evE, evEs, evOe, envR]
  cases b <;> simp [a1, kn_call, h, asg, asgs]
theorem rs5 (hd : List Nat) (hc : CsOk cs) : evS (kn (k + 2)) frun_with_s5 (envR l cs n s stops e (some (.lst (eNs hd))) x7 x8 x9 x10 x11 x12 x13) st =
    .ok .next (envR l cs n s stops e (some (.lst (eNs hd))) x7 x8 x9 x10 x11 x12 (some (match nextMin cs s hd with | none => .non | some t => .int t))) st := by
  have h := ev_next k cs s hd st hc
  simp only [frun_with_s5, evS, evE, evEs, evOe, envR]
  simp [kn_call, h, asg]
theorem rs6n : evS (kn k) frun_with_s6 (envR l cs n s stops e x6 x7 x8 x9 x10 x11 x12 (some .non)) st =
    .ok (.ret (.tup [.tup (stops.map eStop), eF e, .tup (s.asked.map eF)])) (envR l cs n s stops e x6 x7 x8 x9 x10 x11 x12 (some .non)) st := by
  simp only [frun_with_s6, evS, evSs, evE, evEs, evOe, envR]
  simp [cmp, isNon, idx, seqOf, lstOf, itemAt, ixI]
theorem rs6s (t : Int) : evS (kn k) frun_with_s6 (envR l cs n s stops e x6 x7 x8 x9 x10 x11 x12 (some (.int t))) st = .ok .next (envR l cs n s stops e x6 x7 x8 x9 x10 x11 x12 (some (.int t))) st := by
  simp only [frun_with_s6, evS, evSs, evE, evEs, evOe, envR]
  simp [cmp, isNon]
theorem rs7 (t : Int) : evS (kn k) frun_with_s7 (envR l cs n s stops e x6 x7 x8 x9 x10 x11 x12 (some (.int t))) st = .ok .next (envR l cs n { s with m := (0, t) } stops e x6 x7 x8 x9 x10 x11 x12 (some (.int t))) st := by
  have a2 : bin .add false (.tup [.tup [.int 0, .int t]]) (.tup [eFl s.fl, .str (wUp s.up), .tup (eNs s.r), .tup (eNs s.th), .tup (s.asked.map eF)]) st = .ok (.tup [.tup [.int 0, .int t], eFl s.fl, .str (wUp s.up), .tup (eNs s.r), .tup (eNs s.th), .tup (s.asked.map eF)]) st := add_tup (by simp [LIM])
  simp only [frun_with_s7, evS, evSs, evE, evEs, evOe, envR]
  simp [slc, c1, a2, asg]
end
end K05

namespace K05
open AF PySem LF
theorem goal_small (i : Nat) (hi : i ≤ 60) : (1000 + 60 * (i : Int)) ≤ 50000 := by omega
theorem Small.mono {a b : Int} {f : Form} (h : Small a f) (hab : a ≤ b) : Small b f := by unfold Small at *; omega
/-- the program's loop -/
theorem ev_loop (k : Nat) (l : Lf) (cs : List Cl) (n : Int) (st : Store) (hl : l.ok) (hc : CsOk cs) :
    ∀ (N fuel i : Nat) (s : Sst) (stops : List Stop) (e : Form) (res : List Stop × Form × List Form) (x6 x7 x8 x9 x10 x11 x12 x13 : Option D), N ≤ fuel → i + N ≤ 60 → Good l cs i s → stops.length ≤ i → LF.run l cs n N s stops e = some res →
      ∃ ρ', evWhile (evE (kn (k + 5)) (.bl true)) (evSs (kn (k + 5)) frun_with_b1) fuel (envR l cs n s stops e x6 x7 x8 x9 x10 x11 x12 x13) st = .ok (.ret (.tup [.tup (res.1.map eStop), eF res.2.1, .tup (res.2.2.map eF)])) ρ' st
  | 0, _, _, _, _, _, _, _, _, _, _, _, _, _, _, _, _, _, _, h => by simp [LF.run] at h
  | N + 1, 0, _, _, _, _, _, _, _, _, _, _, _, _, _, h, _, _, _, _ => by omega
  | N + 1, fuel + 1, i, s, stops, e, res, x6, x7, x8, x9, x10, x11, x12, x13, hf, hi, g0, hst, hrun => by
    have hr : ∀ p ∈ s.r, p < cs.length := fun p hp => g0.lt p (List.mem_append_left _ hp)
    have hh : ∀ p ∈ heard cs s n, p < cs.length := fun p hp => (mem_waiting.mp (mem_heard.mp hp).1).1
    have hlen := g0.len hc
    have hhl : (heard cs s n).length ≤ 4 := Nat.le_trans (List.length_filter_le _ _) (waiting_len hc)
    have hm := Small.mono g0.m (show (1000 + 60 * (i : Int)) ≤ 50000 by omega)
    have ha := ask_good hc g0
    have h8 := rs8 (k + 2) l cs n s stops e st x6 x7 x8 x9 x10 x11 x12 x13 hc (Small.mono hm (by decide))
    have h9 := rs9 (k + 5) l cs n s stops e st (some (.lst (eNs (heard cs s n)))) x8 x9 x10 x11 x12 x13 hc (by have := g0.ask; omega)
    have h10 := rs10 (k + 4) l cs n (askH cs s) stops e st (some (.tup ((waiting cs s).map fun p => eF (thenF cs s.m p)))) x8 x9 x10 x11 x12 x13 (heard cs s n) hr hh (show s.r.length ≤ 10 by omega) (by omega) (show (s.r ++ heard cs s n).Nodup from nd_heard g0)
    unfold evWhile
    simp only [evE]
    rw [show frun_with_b1 = .cons frun_with_s8 (.cons frun_with_s9 (.cons frun_with_s10 (.cons frun_with_s11 .nil))) from rfl, ss_next h8, ss_next h9, ss_next h10]
    unfold LF.run turn at hrun
    simp only at hrun
    rw [show frun_with_s11 = .ite (.cmp .ne (.var 8) (.lst false .nil)) (.cons frun_with_s1 (.cons frun_with_s2 (.cons frun_with_s3 (.cons frun_with_s4 .nil)))) (.cons frun_with_s5 (.cons frun_with_s6 (.cons frun_with_s7 .nil))) from rfl]
    have hpl : ((wanted l cs (askH cs s) (heard cs s n)).map eW).all (plD 23) = true := by
      rw [List.all_eq_true]
      intro d hd
      obtain ⟨x, _, rfl⟩ := List.mem_map.mp hd
      have := pl_fl 20 x.2
      simp only [plD, List.all_cons, List.all_nil, Bool.and_true] at this ⊢
      simpa using this
    have hem := empty_eq st _ hpl
    have hcond : ∀ (W : List D), eqD st (.lst W) (.lst []) = some (decide (W = [])) → ∀ (s' : Sst) x6 x7 x9 x10 x11 x12 x13, evE (kn (k + 5)) (.cmp .ne (.var 8) (.lst false .nil)) (envR l cs n s' stops e x6 x7 (some (.lst W)) x9 x10 x11 x12 x13) st = .ok (.bl (!decide (W = []))) st := by
      intro W hW s' x6 x7 x9 x10 x11 x12 x13
      simp only [evE, evEs, envR]
      simp [mkL, cmp, hW]
    have hite : ∀ (W : List D), eqD st (.lst W) (.lst []) = some (decide (W = [])) → ∀ (s' : Sst) x6 x7 x9 x10 x11 x12 x13 A B, evS (kn (k + 5)) (.ite (.cmp .ne (.var 8) (.lst false .nil)) A B) (envR l cs n s' stops e x6 x7 (some (.lst W)) x9 x10 x11 x12 x13) st = if W = [] then evSs (kn (k + 5)) B (envR l cs n s' stops e x6 x7 (some (.lst W)) x9 x10 x11 x12 x13) st else evSs (kn (k + 5)) A (envR l cs n s' stops e x6 x7 (some (.lst W)) x9 x10 x11 x12 x13) st := by
      intro W hW s' x6 x7 x9 x10 x11 x12 x13 A B
      simp only [evS, hcond W hW]
      by_cases h : W = [] <;> simp [h]
    cases hw : wanted l cs (askH cs s) (heard cs s n) with
    | cons a w =>
      rw [hw] at hrun hem
      simp only at hrun
      have hx' : ∀ x ∈ a :: w, x ∈ wantedRaw l cs s (heard cs s n) := fun x hx => mem_wanted.mp (by rw [show wanted l cs s (heard cs s n) = a :: w from hw]; exact hx)
      have hok : ∀ x ∈ a :: w, x.2.ok := fun x hx => (raw_ok hc hr hh (hx' x hx)).1
      have hlraw : (wantedRaw l cs s (heard cs s n)).length ≤ 8 := by
        unfold wantedRaw; split <;> simp <;> omega
      have hlw : (a :: w).length ≤ 8 := by
        rw [← hw]; show (sortW (wantedRaw l cs s (heard cs s n))).length ≤ 8; rw [(sortW_perm _).length_eq]; exact hlraw
      have hgl := goal_len (s := askH cs s) (n := n) l.rule (a :: w)
      obtain ⟨y, hy, ey⟩ := List.mem_map.mp (goal_mem (s := askH cs s) (n := n) l.rule a w)
      have hgok : (goalOf l.rule (askH cs s) (a :: w) n).1.ok := by rw [← ey]; exact hok y hy
      obtain ⟨g1, _⟩ := stop_good (n := n) hl hc g0 (s1 := askG (askH cs s) (goalOf l.rule (askH cs s) (a :: w) n).2) rfl rfl rfl rfl (by simp only [askG, List.length_append]; omega) hgok
      have e1 := rs1 k l cs n (askH cs s) stops e st (some (.lst (eNs (heard cs s n)))) (some (.tup ((waiting cs s).map fun p => eF (thenF cs s.m p)))) x9 x10 x11 x12 x13 a w g0.fl hok (by simp at hlw; omega)
      have e2 := rs2 (k + 5) l cs n (askH cs s) stops e st (some (.lst (eNs (heard cs s n)))) (some (.tup ((goalOf l.rule (askH cs s) (a :: w) n).2.map eF))) (some (.lst ((a :: w).map eW))) (some (eFl (goalOf l.rule (askH cs s) (a :: w) n).1)) x10 x11 x12 x13
      have e3 := rs3 (k + 1) l cs n (askH cs s) stops e st (some (.lst (eNs (heard cs s n)))) (some (.lst ((a :: w).map eW))) (some (.bl (decide ((askH cs s).r = [])))) x11 x12 x13 (goalOf l.rule (askH cs s) (a :: w) n).2 (goalOf l.rule (askH cs s) (a :: w) n).1 hl hc hm g0.fl hgok hr (show s.r.length ≤ 10 by omega) (show s.th.length ≤ 10 by omega) (by have := g0.ask; omega) g0.rm
      have e4 := rs4 (k + 4) l cs n (stopAt l cs (askG (askH cs s) (goalOf l.rule (askH cs s) (a :: w) n).2) (goalOf l.rule (askH cs s) (a :: w) n).1 n).1 stops e st (some (.lst (eNs (heard cs s n)))) (some (.tup ((goalOf l.rule (askH cs s) (a :: w) n).2.map eF))) (some (.lst ((a :: w).map eW))) (some (eFl (goalOf l.rule (askH cs s) (a :: w) n).1)) x13 (stopAt l cs (askG (askH cs s) (goalOf l.rule (askH cs s) (a :: w) n).2) (goalOf l.rule (askH cs s) (a :: w) n).1 n).2.1 (stopAt l cs (askG (askH cs s) (goalOf l.rule (askH cs s) (a :: w) n).2) (goalOf l.rule (askH cs s) (a :: w) n).1 n).2.2 (decide ((askH cs s).r = [])) (by omega)
      obtain ⟨ρ', hρ⟩ := ev_loop k l cs n st hl hc N fuel (i + 1) _ _ _ res (some (.lst (eNs (heard cs s n)))) (some (.tup ((goalOf l.rule (askH cs s) (a :: w) n).2.map eF))) (some (.lst ((a :: w).map eW))) (some (eFl (goalOf l.rule (askH cs s) (a :: w) n).1)) (some (.bl (decide ((askH cs s).r = [])))) (some (eStop (stopAt l cs (askG (askH cs s) (goalOf l.rule (askH cs s) (a :: w) n).2) (goalOf l.rule (askH cs s) (a :: w) n).1 n).2.1)) (some (eF (stopAt l cs (askG (askH cs s) (goalOf l.rule (askH cs s) (a :: w) n).2) (goalOf l.rule (askH cs s) (a :: w) n).1 n).2.2)) x13 (by omega) (by omega) g1 (by simp; omega) hrun
      refine ⟨ρ', ?_⟩
      have hs11 := hite _ hem (askH cs s) (some (.lst (eNs (heard cs s n)))) (some (.tup ((waiting cs s).map fun p => eF (thenF cs s.m p)))) x9 x10 x11 x12 x13 (.cons frun_with_s1 (.cons frun_with_s2 (.cons frun_with_s3 (.cons frun_with_s4 .nil)))) (.cons frun_with_s5 (.cons frun_with_s6 (.cons frun_with_s7 .nil)))
      rw [if_neg (by simp), ss_next e1, ss_next e2, ss_next e3, ss_next e4] at hs11
      have hif : (if decide ((askH cs s).r = []) = true then fadd e (stopAt l cs (askG (askH cs s) (goalOf l.rule (askH cs s) (a :: w) n).2) (goalOf l.rule (askH cs s) (a :: w) n).1 n).2.2 else e) = (if s.r = [] then fadd e (stopAt l cs (askG (askH cs s) (goalOf l.rule (askH cs s) (a :: w) n).2) (goalOf l.rule (askH cs s) (a :: w) n).1 n).2.2 else e) := by
        by_cases h : s.r = [] <;> simp [show (askH cs s).r = s.r from rfl, h]
      rw [hif] at hs11
      rw [ss_next (s := .ite _ _ _) hs11]
      exact hρ
    | nil =>
      rw [hw] at hrun hem
      simp only at hrun
      have hs11 := hite _ hem (askH cs s) (some (.lst (eNs (heard cs s n)))) (some (.tup ((waiting cs s).map fun p => eF (thenF cs s.m p)))) x9 x10 x11 x12 x13 (.cons frun_with_s1 (.cons frun_with_s2 (.cons frun_with_s3 (.cons frun_with_s4 .nil)))) (.cons frun_with_s5 (.cons frun_with_s6 (.cons frun_with_s7 .nil)))
      have e5 := rs5 (k + 3) l cs n (askH cs s) stops e st (some (.tup ((waiting cs s).map fun p => eF (thenF cs s.m p)))) (some (.lst (List.map eW []))) x9 x10 x11 x12 x13 (heard cs s n) hc
      rw [if_pos List.map_nil, ss_next e5] at hs11
      cases ht : nextMin cs (askH cs s) (heard cs s n) with
      | none =>
        rw [ht] at hrun hs11
        simp only at hrun hs11
        rw [ss_ret (rs6n (k + 5) l cs n (askH cs s) stops e st _ _ _ _ _ _ _)] at hs11
        refine ⟨envR l cs n (askH cs s) stops e (some (.lst (eNs (heard cs s n)))) (some (.tup ((waiting cs s).map fun p => eF (thenF cs s.m p)))) (some (.lst (List.map eW []))) x9 x10 x11 x12 (some .non), ?_⟩
        rw [ss_ret (s := .ite _ _ _) hs11]
        cases hrun
        rfl
      | some t =>
        rw [ht] at hrun hs11
        simp only at hrun hs11
        obtain ⟨g1, _⟩ := wait_good hc g0 ht
        obtain ⟨ρ', hρ⟩ := ev_loop k l cs n st hl hc N fuel (i + 1) _ _ _ res (some (.lst (eNs (heard cs s n)))) (some (.tup ((waiting cs s).map fun p => eF (thenF cs s.m p)))) (some (.lst (List.map eW []))) x9 x10 x11 x12 (some (.int t)) (by omega) (by omega) g1 (by omega) hrun
        refine ⟨ρ', ?_⟩
        rw [ss_next (rs6s (k + 5) l cs n (askH cs s) stops e st _ _ _ _ _ _ _ t), ss_next (rs7 (k + 5) l cs n (askH cs s) stops e st _ _ _ _ _ _ _ t)] at hs11
        rw [ss_next (s := .ite _ _ _) hs11]
        exact hρ
theorem ev_run (k : Nat) (l : Lf) (cs : List Cl) (n : Int) (st : Store) (hl : l.ok) (hc : CsOk cs) {res : List Stop × Form × List Form} (h : LF.run l cs n 18 (first0 l) [] (0, 0) = some res) :
    evCall P (k + 6) irun_with [eLf l, eCs cs, .int n] st = .ok (.tup [.tup (res.1.map eStop), eF res.2.1, .tup (res.2.2.map eF)]) st := by
  rw [call_of (fn := frun_with) rfl]
  obtain ⟨ρ', hρ⟩ := ev_loop k l cs n st hl hc 18 100000 0 (first0 l) [] (0, 0) res none none none none none none none none (by omega) (by omega) (first_good hl) (by simp) h
  refine body_ret (ρ' := ρ') rfl ?_
  have h12 : evS (kn (k + 5)) frun_with_s12 (AF.envOf frun_with.n [eLf l, eCs cs, .int n]) st = .ok .next (envR l cs n (first0 l) [] (0, 0) none none none none none none none none) st := by rfl
  rw [show frun_with.body = .cons frun_with_s12 (.cons frun_with_s13 .nil) from rfl, ss_next h12]
  exact ss_ret hρ
end K05

namespace K05
open AF PySem LF
/-- what a step of the store leaves alone -/
structure Keep (X : List Nat) (st st' : Store) : Prop where
  len : st.length ≤ st'.length
  get : ∀ j, j < st.length → j ∉ X → st'[j]? = st[j]?
theorem Keep.refl {X : List Nat} {st : Store} : Keep X st st := ⟨Nat.le_refl _, fun _ _ _ => rfl⟩
theorem Keep.set {a : Nat} {st : Store} {x : Ob} : Keep [a] st (st.set a x) := ⟨by rw [List.length_set]; exact Nat.le_refl _, fun j _ hj => List.getElem?_set_ne (by simpa using Ne.symm (by simpa using hj))⟩
theorem Keep.snoc {st : Store} {x : Ob} : Keep [] st (st ++ [x]) := ⟨by simp, fun j hj _ => List.getElem?_append_left hj⟩
theorem Keep.trans {X : List Nat} {a b c : Store} (h1 : Keep X a b) (h2 : Keep X b c) : Keep X a c := ⟨Nat.le_trans h1.len h2.len, fun j hj hx => (h2.get j (Nat.lt_of_lt_of_le hj h1.len) hx).trans (h1.get j hj hx)⟩
theorem Keep.mono {X Y : List Nat} {a b : Store} (h : Keep X a b) (hxy : ∀ j ∈ X, j ∈ Y) : Keep Y a b := ⟨h.len, fun j hj hx => h.get j hj fun z => hx (hxy j z)⟩
theorem Keep.at {X : List Nat} {a b : Store} (h : Keep X a b) {j : Nat} {o : Ob} (e : a[j]? = some o) (hj : j ∉ X) : b[j]? = some o := (h.get j (List.getElem?_eq_some_iff.mp e).1 hj).trans e
theorem lt_of {st : Store} {j : Nat} {o : Ob} (e : st[j]? = some o) : j < st.length := (List.getElem?_eq_some_iff.mp e).1
theorem get_last {st : Store} {x : Ob} {n : Nat} (h : st.length = n) : (st ++ [x])[n]? = some x := by subst h; simp
end K05

namespace K05
open AF PySem LF
theorem rf_b1 (k : Nat) (cs : List Cl) (stops : List Stop) (acc : List D) (p : Nat) (st : Store) (x4 x5 x6 x7 x8 x9 : Option D) (hacc : acc.length ≤ 1000) (hs : stops.length ≤ 1000) (h1 : ∃ x ∈ stops, p ∈ x.on) (h2 : ∃ x ∈ stops, p ∈ x.off) :
    ∃ y4 y9, evSs (kn k) fride_forms_b1 [some (eCs cs), some (.tup (stops.map eStop)), some (.lst acc), some (eN p), x4, x5, x6, x7, x8, x9] st =
      .ok .next [some (eCs cs), some (.tup (stops.map eStop)), some (.lst (acc ++ [eRide (onOf stops p, offOf stops p)])), some (eN p), y4, x5, x6, x7, x8, y9] st := by
  obtain ⟨t1, e1⟩ := on_cons h1
  obtain ⟨t2, e2⟩ := off_cons h2
  refine ⟨some (.lst ((onOf stops p :: t1).map eF)), some (.lst ((offOf stops p :: t2).map eF)), ?_⟩
  simp only [fride_forms_b1, evSs, evS, evE, evEs, evIt]
  simp [srcOf, wipeE]
  rw [evLc_map eStop (fun x => x.on.contains p) (fun x => eF x.m) rfl stops [] (by simp [LIM]; omega) (fun x hx => ⟨_, rfl, by
      simp only [evOc, evE, evEs]
      simp [cmp, in_Ns], fun _ => rfl⟩)]
  have e1' : ([] : List D) ++ (stops.filter fun x => x.on.contains p).map (fun x => eF x.m) = eF (onOf stops p) :: t1.map eF := by
    have := congrArg (List.map eF) e1
    rw [List.map_map] at this
    exact this
  have e2' : ([] : List D) ++ (stops.filter fun x => x.off.contains p).map (fun x => eF x.m) = eF (offOf stops p) :: t2.map eF := by
    have := congrArg (List.map eF) e2
    rw [List.map_map] at this
    exact this
  rw [e1']
  simp [mkL, asg, srcOf, wipeE]
  rw [evLc_map eStop (fun x => x.off.contains p) (fun x => eF x.m) rfl stops [] (by simp [LIM]; omega) (fun x hx => ⟨_, rfl, by
      simp only [evOc, evE, evEs]
      simp [cmp, in_Ns], fun _ => rfl⟩), e2']
  simp [mkL, asg, idx, seqOf, lstOf, itemAt, ixI, bin, LIM, show acc.length ≤ 999999 by omega]
theorem take_rangeR {m : Nat} {p q : List Nat} {x : Nat} (h : List.range m = p ++ x :: q) : x < m := by
  have : x ∈ List.range m := by rw [h]; simp
  exact List.mem_range.mp this
theorem ev_ride_forms (k : Nat) (cs : List Cl) (stops : List Stop) (st : Store) (hc : cs.length ≤ 4) (hs : stops.length ≤ 1000) (h : ∀ p < cs.length, (∃ x ∈ stops, p ∈ x.on) ∧ ∃ x ∈ stops, p ∈ x.off) :
    evCall P (k + 1) iride_forms [eCs cs, .tup (stops.map eStop)] st = .ok (.lst ((ridesF cs stops).map eRide)) st := by
  rw [call_of (fn := fride_forms) rfl]
  obtain ⟨ρ', q1, ⟨y3, y4, y5, y6, y7, y8, y9, q2⟩⟩ := evFor_pre (gs := []) (tg := .name 3) (body := evSs (kn k) fride_forms_b1) (st := st) eN
    (fun pre ρ => ∃ y3 y4 y5 y6 y7 y8 y9, ρ = [some (eCs cs), some (.tup (stops.map eStop)), some (.lst (pre.map fun p => eRide (onOf stops p, offOf stops p))), y3, y4, y5, y6, y7, y8, y9]) rfl
    (List.range cs.length) [] [some (eCs cs), some (.tup (stops.map eStop)), some (.lst []), none, none, none, none, none, none, none] ⟨_, _, _, _, _, _, _, rfl⟩ (by
      rintro p x q ρ e ⟨y3, y4, y5, y6, y7, y8, y9, rfl⟩
      rw [List.nil_append] at e
      have hx := take_rangeR e
      have hlp : p.length ≤ 1000 := by
        have := congrArg List.length e
        simp at this; omega
      obtain ⟨z4, z9, hb⟩ := rf_b1 k cs stops (p.map fun p => eRide (onOf stops p, offOf stops p)) x st y4 y5 y6 y7 y8 y9 (by rw [List.length_map]; exact hlp) hs (h x hx).1 (h x hx).2
      exact ⟨_, _, rfl, hb, _, _, _, _, _, _, _, by rw [List.map_append]; rfl⟩)
  refine body_ret (ρ' := ρ') rfl ?_
  simp only [fride_forms]
  have h1 : evS (kn k) (.asg (.name 2) (.lst false .nil)) (AF.envOf 10 [eCs cs, .tup (stops.map eStop)]) st = .ok .next [some (eCs cs), some (.tup (stops.map eStop)), some (.lst []), none, none, none, none, none, none, none] st := by rfl
  have h2 : evS (kn k) (.for_ (.name 3) (.rng1 (.blt .len false (.cons (.var 0) .nil))) fride_forms_b1) [some (eCs cs), some (.tup (stops.map eStop)), some (.lst []), none, none, none, none, none, none, none] st = .ok .next ρ' st := by
    simp only [evS, evIt, evE, evEs]
    rw [← rngD_range] at q1
    simp [blt, seqOf, okR, show (cs.length : Int) ≤ 1000000 by omega]
    simpa using q1
  rw [ss_next h1, ss_next h2, q2]
  rw [show (ridesF cs stops).map eRide = ([] ++ List.range cs.length).map fun p => eRide (onOf stops p, offOf stops p) by rw [ridesF, List.map_map]; rfl]
  exact ss_ret (by rfl)
end K05

namespace K05
open AF PySem LF
theorem head_small {b : Int} (hb : 0 ≤ b) {L : List Stop} (h : ∀ x ∈ L, Small b x.m) : Small b (((L.map (·.m)).head?).getD (0, 0)) := by
  cases L with
  | nil => simp [Small]; omega
  | cons x r => simpa using h x List.mem_cons_self
theorem rides_small {cs : List Cl} {stops : List Stop} (h : ∀ x ∈ stops, Small 50100 x.m) : ∀ q ∈ ridesF cs stops, small64 q.1.1 = true ∧ small64 q.2.1 = true := by
  intro q hq
  obtain ⟨p, _, rfl⟩ := List.mem_map.mp hq
  have h1 : Small 50100 (onOf stops p) := head_small (by decide) fun x hx => h x (List.mem_filter.mp hx).1
  have h2 : Small 50100 (offOf stops p) := head_small (by decide) fun x hx => h x (List.mem_filter.mp hx).1
  exact ⟨small_of h1.1 h1.2.1 (by decide), small_of h2.1 h2.2.1 (by decide)⟩
theorem run_rides_small {l : Lf} {cs : List Cl} {n : Int} (hl : l.ok) (hc : CsOk cs) {res : List Stop × Form × List Form} (h : LF.run l cs n 18 (first0 l) [] (0, 0) = some res) : ∀ q ∈ ridesF cs res.1, small64 q.1.1 = true ∧ small64 q.2.1 = true :=
  rides_small (run_small hl hc 18 0 (first0 l) [] (0, 0) res (by omega) (first_good hl) (by simp) h)
end K05

namespace K05
open AF PySem LF
theorem ev_is_number (k : Nat) (i lo hi : Int) (st : Store) (h1 : lo ≤ i) (h2 : i ≤ hi) : evCall P (k + 1) iis_number [.int i, .int lo, .int hi] st = .ok (.bl true) st := by
  rw [call_of (fn := fis_number) rfl]
  simp [callBody, fis_number, AF.envOf, evSs, evS, evE, evEs, cmp, isiD, h1, h2]
theorem ev_is_tuple (k : Nat) (L : List D) (lo hi : Int) (st : Store) (h1 : lo ≤ L.length) (h2 : (L.length : Int) ≤ hi) : evCall P (k + 1) iis_tuple [.tup L, .int lo, .int hi] st = .ok (.bl true) st := by
  rw [call_of (fn := fis_tuple) rfl]
  simp [callBody, fis_tuple, AF.envOf, evSs, evS, evE, evEs, cmp, blt, seqOf, isiD, h1, h2]
theorem ev_is_word (k : Nat) (w : List Nat) (L : List D) (st : Store) (h : inD st (.str w) (.tup L) = some true) : evCall P (k + 1) iis_word [.str w, .tup L] st = .ok (.bl true) st := by
  rw [call_of (fn := fis_word) rfl]
  simp [callBody, fis_word, AF.envOf, evSs, evS, evE, evEs, cmp, isiD, h]
theorem ev_is_floor (k : Nat) (f : Flr) (hf : f.ok) (st : Store) : evCall P (k + 2) iis_floor [eFl f] st = .ok (.bl true) st := by
  have h1 := ev_is_tuple k [.str (wFl f.top), .int f.k] 2 2 st (by simp) (by simp)
  have h2 := ev_is_word k (wFl f.top) [.str [98], .str [116]] st (by cases f.top <;> rfl)
  have h3 := ev_is_number k f.k 0 3 st hf.1 hf.2
  rw [call_of (fn := fis_floor) rfl]
  simp [callBody, fis_floor, AF.envOf, evSs, evS, evE, evEs, kn_call, h1, h2, h3, idx, seqOf, itemAt, ixI]
theorem kn_con0 (k : Nat) : (kn k).cons[0]? = some (.tup [.str [102, 105, 114, 115, 116], .str [110, 101, 97, 114], .str [115, 99, 97, 110]]) := by rfl
theorem kn_con1 (k : Nat) : (kn k).cons[1]? = some (.int 8) := by rfl
theorem ev_good_lift (k : Nat) (l : Lf) (hl : l.ok) (st : Store) : evCall P (k + 3) iis_good_lift [eLf l] st = .ok (.bl true) st := by
  obtain ⟨a1, a2, a3, a4, a5, a6, a7⟩ := hl
  have h1 := ev_is_tuple (k + 1) [.str (wRule l.rule), .int l.room, .int l.halt, .int l.pace, eFl l.fl, .str (wUp l.up)] 6 6 st (by simp) (by simp)
  have h2 := ev_is_word (k + 1) (wRule l.rule) [.str [102, 105, 114, 115, 116], .str [110, 101, 97, 114], .str [115, 99, 97, 110]] st (by cases l.rule <;> rfl)
  have h3 := ev_is_number (k + 1) l.room 1 4 st a1 a2
  have h4 := ev_is_number (k + 1) l.halt 1 20 st a3 a4
  have h5 := ev_is_number (k + 1) l.pace 1 5 st a5 a6
  have h6 := ev_is_floor k l.fl a7 st
  have h7 := ev_is_word (k + 1) (wUp l.up) [.str [117, 112], .str [100, 111, 119, 110]] st (by cases l.up <;> rfl)
  rw [call_of (fn := fis_good_lift) rfl]
  simp only [callBody, fis_good_lift, AF.envOf, evSs, evS, evE, evEs]
  simp [kn_call, kn_con0, h1, h2, h3, h4, h5, h6, h7, idx, seqOf, itemAt, ixI]

theorem ev_is_call (k : Nat) (c : Cl) (hc : c.ok) (st : Store) : evCall P (k + 3) iis_call [eCl c] st = .ok (.bl true) st := by
  obtain ⟨a1, a2, a3, a4, a5⟩ := hc
  have h1 := ev_is_tuple (k + 1) [.int c.t, eFl c.a, eFl c.b] 3 3 st (by simp) (by simp)
  have h2 := ev_is_number (k + 1) c.t 0 1000 st a1 a2
  have h3 := ev_is_floor k c.a a3 st
  have h4 := ev_is_floor k c.b a4 st
  rw [call_of (fn := fis_call) rfl]
  simp [callBody, fis_call, AF.envOf, evSs, evS, evE, evEs, kn_call, h1, h2, h3, h4, idx, seqOf, itemAt, ixI, cmp, eq_fl, a5]
theorem ev_need_lift (k : Nat) (l : Lf) (hl : l.ok) (st : Store) : evCall P (k + 4) ineed_lift [eLf l] st = .ok .non st := by
  rw [call_of (fn := fneed_lift) rfl]
  simp [callBody, fneed_lift, AF.envOf, evSs, evS, evE, evEs, kn_call, ev_good_lift k l hl st]
end K05

namespace K05
open AF PySem LF
theorem zipD_zip {α β : Type} (f : α → D) (g : β → D) : ∀ (xs : List α) (ys : List β), zipD (xs.map f) (ys.map g) = (xs.zip ys).map fun q => .tup [f q.1, g q.2]
  | [], _ => by simp [zipD]
  | _ :: _, [] => by simp [zipD]
  | a :: xs, b :: ys => by simp [zipD, zipD_zip f g xs ys]
theorem bools_repl : ∀ n : Nat, bools (List.replicate n (.bl true)) = some (List.replicate n true)
  | 0 => rfl
  | n + 1 => by rw [List.replicate_succ, bools, bools_repl n]; rfl
theorem pair_zip {cs : List Cl} (h : cs.Pairwise fun x y => x.t ≤ y.t) : ∀ q ∈ cs.zip (cs.drop 1), q.1.t ≤ q.2.t := by
  induction cs with
  | nil => intro q hq; simp at hq
  | cons a r ih =>
    obtain ⟨h1, h2⟩ := List.pairwise_cons.mp h
    cases r with
    | nil => intro q hq; simp at hq
    | cons b r =>
      intro q hq
      have : q ∈ (a, b) :: (b :: r).zip ((b :: r).drop 1) := by simpa using hq
      rcases List.mem_cons.mp this with e | e
      · subst e; exact h1 b List.mem_cons_self
      · exact ih h2 q e
theorem cut_one (cs : List Cl) : cut (cs.map eCl) (some 1) none = (cs.drop 1).map eCl := by
  cases cs with
  | nil => rfl
  | cons a r =>
    have := cut_from ((a :: r).map eCl) (k := 1) (by simp)
    rw [show (some 1 : Option Int) = some ((1 : Nat) : Int) from rfl, this, List.map_drop]
theorem ev_good_calls (k : Nat) (cs : List Cl) (hc : CsOk cs) (st : Store) : evCall P (k + 4) iare_good_calls [eCs cs] st = .ok (.bl true) st := by
  have h1 := ev_is_tuple (k + 2) (cs.map eCl) 0 4 st (by omega) (by have := hc.1; simp; omega)
  have hz := pair_zip hc.2.2
  have hlz : (cs.zip (cs.drop 1)).length ≤ 4 := by rw [List.length_zip]; have := hc.1; omega
  rw [call_of (fn := fare_good_calls) rfl]
  simp only [callBody, fare_good_calls, AF.envOf, evSs, evS, evE, evEs, evIt]
  simp [kn_call, h1, srcOf, wipeE]
  rw [evLc_map eCl (fun _ => true) (fun _ => D.bl true) rfl cs [] (by have := hc.1; simp [LIM]; omega) (fun c hq => ⟨_, rfl, by simp [evOc], fun _ => by
      simp [ev_is_call k c (hc.2.1 c hq)]⟩), filt_true]
  have hb1 : ([] : List D) ++ cs.map (fun _ => D.bl true) = List.replicate cs.length (.bl true) := by rw [List.nil_append, List.map_const']
  rw [hb1]
  simp [mkL, blt, lstOf, bools_repl, evOe, evE, slc, cut_one, zipD_zip, -List.drop_one]
  rw [← List.map_drop, zipD_zip]
  generalize cs.zip (cs.drop 1) = Z at *
  rw [evLc_map (fun q : Cl × Cl => D.tup [eCl q.1, eCl q.2]) (fun _ => true) (fun _ => D.bl true) rfl Z [] (by simp [LIM]; omega) (fun q hq => ⟨_, rfl, by simp [evOc], fun _ => by
      simp [idx, seqOf, lstOf, itemAt, ixI, cmp, hz q hq]⟩), filt_true]
  have hb2 : ([] : List D) ++ Z.map (fun _ => D.bl true) = List.replicate Z.length (.bl true) := by rw [List.nil_append, List.map_const']
  rw [hb2]
  simp [mkL, blt, lstOf, bools_repl]
end K05

namespace K05
open AF PySem LF
theorem ev_need_calls (k : Nat) (cs : List Cl) (hc : CsOk cs) (st : Store) : evCall P (k + 5) ineed_calls [eCs cs] st = .ok .non st := by
  rw [call_of (fn := fneed_calls) rfl]
  simp [callBody, fneed_calls, AF.envOf, evSs, evS, evE, evEs, kn_call, ev_good_calls k cs hc st]
theorem ev_need_plan (k : Nat) (l : Lf) (cs : List Cl) (hl : l.ok) (hc : CsOk cs) (st : Store) : evCall P (k + 6) ineed_plan [eLf l, eCs cs] st = .ok .non st := by
  rw [call_of (fn := fneed_plan) rfl]
  simp [callBody, fneed_plan, AF.envOf, evSs, evS, evE, evEs, kn_call, ev_need_calls k cs hc st, ev_need_lift (k + 1) l hl st]
end K05

namespace K05
open AF PySem LF
/-- the law's source of chance, at a place of the store -/
def Src2 (r : Nat) (st : Store) : Prop := ∃ a b : Int, st[r]? = some (.lst [.int a, .int b]) ∧ 0 ≤ a ∧ 0 ≤ b ∧ b < 2147483648
theorem lw_draw (k : Nat) (r : Nat) (m : Int) (st : Store) (hr : Src2 r st) (hm : 0 < m) (hm2 : m < 10 ^ 100) :
    ∃ (i : Int) (st' : Store), evCall P (k + 1) i_law_draw [.ref r, .int m] st = .ok (.int i) st' ∧ 0 ≤ i ∧ i < m ∧ Src2 r st' ∧ Keep [r] st st' ∧ st'.length = st.length := by
  obtain ⟨a, b, h, ha, hb, hb2⟩ := hr
  have hl := lt_of h
  rw [call_of (fn := f_law_draw) rfl]
  by_cases hp : 0 < a
  · refine ⟨a % m, st.set r (.lst [.int (a / m), .int b]), ?_, Int.emod_nonneg _ (by omega), Int.emod_lt_of_pos _ hm, ⟨a / m, b, List.getElem?_set_self hl, Int.ediv_nonneg ha (by omega), hb, hb2⟩, Keep.set, by simp⟩
    have hdv : bin .fdiv false (.int a) (.int m) st = .ok (.int (a / m)) st := by simp only [bin]; rw [if_pos ⟨hm, by omega⟩]
    have hmd : bin .mod false (.int a) (.int m) st = .ok (.int (a % m)) st := by simp only [bin]; rw [if_pos hm]
    simp only [callBody, f_law_draw, AF.envOf, evSs, evS, evE, evEs]
    simp [idx, seqOf, lstOf, h, itemAt, ixI, cmp, hp, blt, hdv, hmd, asg, setI]
  · have hv0 : 0 ≤ b * 48271 % 2147483647 := Int.emod_nonneg _ (by decide)
    have hv1 : b * 48271 % 2147483647 < 2147483647 := Int.emod_lt_of_pos _ (by decide)
    have hsm : small64 (b * 48271 % 2147483647) = true := small_of (b := 2147483647) (by omega) (by omega) (by decide)
    refine ⟨(b * 48271 % 2147483647 * (b * 48271 % 2147483647) % 2147483629 / 64) % m, st.set r (.lst [.int a, .int (b * 48271 % 2147483647)]), ?_, Int.emod_nonneg _ (by omega), Int.emod_lt_of_pos _ hm, ⟨a, _, List.getElem?_set_self hl, ha, hv0, by omega⟩, Keep.set, by simp⟩
    have hmu : bin .mul false (.int b) (.int 48271) st = .ok (.int (b * 48271)) st := by simp only [bin]; rw [if_pos (by simp [small64])]
    have hmo : bin .mod false (.int (b * 48271)) (.int 2147483647) st = .ok (.int (b * 48271 % 2147483647)) st := by simp only [bin]; rw [if_pos (by decide)]
    generalize b * 48271 % 2147483647 = v at *
    generalize hS : st.set r (.lst [.int a, .int v]) = S
    have hS1 : S[r]? = some (.lst [.int a, .int v]) := by rw [← hS]; exact List.getElem?_set_self hl
    have h1 : bin .mul false (.int v) (.int v) S = .ok (.int (v * v)) S := by simp only [bin]; rw [if_pos (by rw [hsm]; rfl)]
    have h2 : bin .mod false (.int (v * v)) (.int 2147483629) S = .ok (.int (v * v % 2147483629)) S := by simp only [bin]; rw [if_pos (by decide)]
    have h3 : bin .fdiv false (.int (v * v % 2147483629)) (.int 64) S = .ok (.int (v * v % 2147483629 / 64)) S := by simp only [bin]; rw [if_pos ⟨by decide, by decide⟩]
    have h4 : bin .mod false (.int (v * v % 2147483629 / 64)) (.int m) S = .ok (.int (v * v % 2147483629 / 64 % m)) S := by simp only [bin]; rw [if_pos hm]
    simp only [callBody, f_law_draw, AF.envOf, evSs, evS, evE, evEs]
    simp [idx, seqOf, lstOf, h, itemAt, ixI, cmp, hp, blt, hmu, hmo, asg, setI, hS, hS1, h1, h2, h3, h4]
end K05

namespace K05
open AF PySem LF
theorem lw_of (k : Nat) (r : Nat) (L : List D) (st : Store) (hr : Src2 r st) (h1 : 0 < L.length) (h2 : L.length < 1000) :
    ∃ (d : D) (st' : Store), evCall P (k + 2) i_law_of [.ref r, .lst L] st = .ok d st' ∧ d ∈ L ∧ Src2 r st' ∧ Keep [r] st st' ∧ st'.length = st.length := by
  obtain ⟨i, st', q1, q2, q3, q4, q5, q6⟩ := lw_draw k r (L.length : Int) st hr (by omega) (by omega)
  have hi : i.toNat < L.length := by omega
  refine ⟨L[i.toNat], st', ?_, List.getElem_mem hi, q4, q5, q6⟩
  rw [call_of (fn := f_law_of) rfl]
  simp [callBody, f_law_of, AF.envOf, evSs, evS, evE, evEs, kn_call, blt, seqOf, lstOf, q1, idx, itemAt, ixI, q2, q3, hi]
theorem lw_floor (k : Nat) (r : Nat) (st : Store) (hr : Src2 r st) :
    ∃ (f : Flr) (st' : Store), evCall P (k + 3) i_law_floor [.ref r] st = .ok (eFl f) st' ∧ f.ok ∧ Src2 r st' ∧ Keep [r] st st' ∧ st'.length = st.length := by
  obtain ⟨d, s1, a1, a2, a3, a4, a5⟩ := lw_of k r [.str [98], .str [116]] st hr (by decide) (by decide)
  obtain ⟨i, s2, b1, b2, b3, b4, b5, b6⟩ := lw_draw (k + 1) r 4 s1 a3 (by decide) (by decide)
  have hd : ∃ t : Bool, d = .str (wFl t) := by
    simp at a2
    rcases a2 with e | e
    · exact ⟨false, e⟩
    · exact ⟨true, e⟩
  obtain ⟨t, rfl⟩ := hd
  refine ⟨⟨t, i⟩, s2, ?_, ⟨b2, by show i ≤ 3; omega⟩, b4, a4.trans b5, by omega⟩
  rw [call_of (fn := f_law_floor) rfl]
  simp [callBody, f_law_floor, AF.envOf, evSs, evS, evE, evEs, kn_call, mkL, LIM, a1, b1]
end K05

namespace K05
open AF PySem LF
theorem lw_lift (k : Nat) (r : Nat) (st : Store) (hr : Src2 r st) :
    ∃ (l : Lf) (st' : Store), evCall P (k + 4) i_law_lift [.ref r] st = .ok (eLf l) st' ∧ l.ok ∧ Src2 r st' ∧ Keep [r] st st' ∧ st'.length = st.length := by
  obtain ⟨d1, s1, a1, a2, a3, a4, a5⟩ := lw_of (k + 1) r [.str [102, 105, 114, 115, 116], .str [110, 101, 97, 114], .str [110, 101, 97, 114], .str [115, 99, 97, 110], .str [115, 99, 97, 110]] st hr (by decide) (by decide)
  have hd : ∃ t : Rule, d1 = .str (wRule t) := by
    simp at a2
    rcases a2 with e | e | e
    · exact ⟨.first, e⟩
    · exact ⟨.near, e⟩
    · exact ⟨.scan, e⟩
  obtain ⟨rl, rfl⟩ := hd
  obtain ⟨i2, s2, b1, b2, b3, b4, b5, b6⟩ := lw_draw (k + 2) r 4 s1 a3 (by decide) (by decide)
  obtain ⟨i3, s3, c1, c2, c3, c4, c5, c6⟩ := lw_draw (k + 2) r 20 s2 b4 (by decide) (by decide)
  obtain ⟨d4, s4, e1, e2, e3, e4, e5⟩ := lw_of (k + 1) r [.int 1, .int 1, .int 2, .int 3, .int (1 + i3)] s3 c4 (by simp) (by simp)
  have hd4 : ∃ h : Int, d4 = .int h ∧ 1 ≤ h ∧ h ≤ 20 := by
    simp at e2
    rcases e2 with e | e | e | e
    · exact ⟨1, e, by omega, by omega⟩
    · exact ⟨2, e, by omega, by omega⟩
    · exact ⟨3, e, by omega, by omega⟩
    · exact ⟨1 + i3, e, by omega, by omega⟩
  obtain ⟨hh, rfl, hh1, hh2⟩ := hd4
  obtain ⟨d5, s5, f1, f2, f3, f4, f5⟩ := lw_of (k + 1) r [.int 1, .int 1, .int 2, .int 3, .int 5] s4 e3 (by simp) (by simp)
  have hd5 : ∃ h : Int, d5 = .int h ∧ 1 ≤ h ∧ h ≤ 5 := by
    simp at f2
    rcases f2 with e | e | e | e
    · exact ⟨1, e, by omega, by omega⟩
    · exact ⟨2, e, by omega, by omega⟩
    · exact ⟨3, e, by omega, by omega⟩
    · exact ⟨5, e, by omega, by omega⟩
  obtain ⟨pp, rfl, pp1, pp2⟩ := hd5
  obtain ⟨d6, s6, g1, g2, g3, g4, g5⟩ := lw_of (k + 1) r [.str [117, 112], .str [100, 111, 119, 110]] s5 f3 (by simp) (by simp)
  have hd6 : ∃ t : Bool, d6 = .str (wUp t) := by
    simp at g2
    rcases g2 with e | e
    · exact ⟨true, e⟩
    · exact ⟨false, e⟩
  obtain ⟨up, rfl⟩ := hd6
  obtain ⟨fl, s7, h1, h2, h3, h4, h5⟩ := lw_floor k r s6 g3
  refine ⟨⟨rl, 1 + i2, hh, pp, fl, up⟩, s7, ?_, ⟨by show 1 ≤ 1 + i2; omega, by show 1 + i2 ≤ 4; omega, hh1, hh2, pp1, pp2, h2⟩, h3, ((((((a4.trans b5).trans c5).trans e4).trans f4).trans g4).trans h4), by omega⟩
  rw [call_of (fn := f_law_lift) rfl]
  simp [callBody, f_law_lift, AF.envOf, evSs, evS, evE, evEs, kn_call, mkL, LIM, a1, b1, c1, e1, f1, g1, h1, asg, asgs, bin]
end K05

namespace K05
open AF PySem LF
def CInv (cs : List Cl) (t : Int) : Prop := (∀ c ∈ cs, c.ok) ∧ (cs.Pairwise fun x y => x.t ≤ y.t) ∧ (∀ c ∈ cs, c.t ≤ t) ∧ 0 ≤ t
theorem lc_b1 (k : Nat) (r : Nat) (cs : List Cl) (t : Int) (st : Store) (x4 x5 x6 : Option D) (hr : Src2 r st) (hci : CInv cs t) (hlen : cs.length ≤ 100) :
    ∃ (c : Cl) (t' : Int) (y5 y6 : Option D) (st' : Store), evSs (kn (k + 3)) f_law_calls_b1 [some (.ref r), some (.int 4), some (eCs cs), some (.int t), x4, x5, x6] st =
      .ok .next [some (.ref r), some (.int 4), some (eCs (cs ++ [c])), some (.int t'), x4, y5, y6] st' ∧ CInv (cs ++ [c]) t' ∧ Src2 r st' ∧ Keep [r] st st' ∧ st'.length = st.length := by
  obtain ⟨i1, s1, a1, a2, a3, a4, a5, a6⟩ := lw_draw (k + 2) r 250 st hr (by decide) (by decide)
  obtain ⟨d2, s2, b1, b2, b3, b4, b5⟩ := lw_of (k + 1) r [.int 0, .int 0, .int 1, .int 3, .int 12, .int 40, .int i1] s1 a4 (by simp) (by simp)
  have hd : ∃ h : Int, d2 = .int h ∧ 0 ≤ h := by
    simp at b2
    rcases b2 with e | e | e | e | e | e
    · exact ⟨0, e, by omega⟩
    · exact ⟨1, e, by omega⟩
    · exact ⟨3, e, by omega⟩
    · exact ⟨12, e, by omega⟩
    · exact ⟨40, e, by omega⟩
    · exact ⟨i1, e, by omega⟩
  obtain ⟨h, rfl, hh⟩ := hd
  obtain ⟨fa, s3, c1, c2, c3, c4, c5⟩ := lw_floor k r s2 b3
  obtain ⟨fb, s4, e1, e2, e3, e4, e5⟩ := lw_floor k r s3 c3
  have hS1 : evS (kn (k + 3)) f_law_calls_s1 [some (.ref r), some (.int 4), some (eCs cs), some (.int t), x4, x5, x6] st = .ok .next [some (.ref r), some (.int 4), some (eCs cs), some (.int (t + h)), x4, x5, x6] s2 := by
    simp only [f_law_calls_s1, evS, evE, evEs]
    simp [kn_call, mkL, LIM, a1, b1, bin, asg]
  have hS2 : evS (kn (k + 3)) f_law_calls_s2 [some (.ref r), some (.int 4), some (eCs cs), some (.int (t + h)), x4, x5, x6] s2 = .ok .next [some (.ref r), some (.int 4), some (eCs cs), some (.int (t + h)), x4, some (eFl fa), some (eFl fb)] s4 := by
    simp only [f_law_calls_s2, evS, evE, evEs]
    simp [kn_call, c1, e1, asg, asgs]
  have hS3 : ∃ fc : Flr, fc.ok ∧ fa ≠ fc ∧ evS (kn (k + 3)) f_law_calls_s3 [some (.ref r), some (.int 4), some (eCs cs), some (.int (t + h)), x4, some (eFl fa), some (eFl fb)] s4 = .ok .next [some (.ref r), some (.int 4), some (eCs cs), some (.int (t + h)), x4, some (eFl fa), some (eFl fc)] s4 := by
    by_cases hq : fa = fb
    · refine ⟨⟨fb.top, (fb.k + 1) % 4⟩, ⟨Int.emod_nonneg _ (by decide), by show (fb.k + 1) % 4 ≤ 3; omega⟩, fun q => ?_, ?_⟩
      · rw [hq] at q
        have := congrArg Flr.k q
        have h1 := e2.1
        have h2 := e2.2
        simp only at this
        omega
      · simp only [f_law_calls_s3, evS, evSs, evE, evEs]
        simp [cmp, eq_fl, hq, idx, seqOf, itemAt, ixI, bin, asg]
    · refine ⟨fb, e2, hq, ?_⟩
      simp only [f_law_calls_s3, evS, evSs, evE, evEs]
      simp [cmp, eq_fl, hq]
  obtain ⟨fc, hfc, hne, hS3⟩ := hS3
  have hmin : (if 1000 < t + h then (1000 : Int) else t + h) ≤ 1000 ∧ 0 ≤ (if 1000 < t + h then (1000 : Int) else t + h) ∧ (if 1000 < t + h then (1000 : Int) else t + h) ≤ t + h := by have := hci.2.2.2; split <;> omega
  have hS4 : evS (kn (k + 3)) f_law_calls_s4 [some (.ref r), some (.int 4), some (eCs cs), some (.int (t + h)), x4, some (eFl fa), some (eFl fc)] s4 = .ok .next [some (.ref r), some (.int 4), some (eCs (cs ++ [⟨if 1000 < t + h then 1000 else t + h, fa, fc⟩])), some (.int (t + h)), x4, some (eFl fa), some (eFl fc)] s4 := by
    simp only [f_law_calls_s4, evS, evE, evEs]
    simp [blt, bin, LIM, asg, show cs.length ≤ 999999 by omega]
  refine ⟨⟨if 1000 < t + h then 1000 else t + h, fa, fc⟩, t + h, some (eFl fa), some (eFl fc), s4, ?_, ⟨?_, ?_, ?_, by have := hci.2.2.2; omega⟩, e3, ((a5.trans b4).trans c4).trans e4, by omega⟩
  · rw [show f_law_calls_b1 = .cons f_law_calls_s1 (.cons f_law_calls_s2 (.cons f_law_calls_s3 (.cons f_law_calls_s4 .nil))) from rfl, ss_next hS1, ss_next hS2, ss_next hS3, ss_next hS4]
    rfl
  · intro c hc
    rcases List.mem_append.mp hc with q | q
    · exact hci.1 c q
    · rw [List.mem_singleton] at q; subst q
      exact ⟨hmin.2.1, hmin.1, c2, hfc, hne⟩
  · rw [List.pairwise_append]
    refine ⟨hci.2.1, by simp, fun x hx y hy => ?_⟩
    rw [List.mem_singleton] at hy; subst hy
    have h1 := hci.2.2.1 x hx
    have h2 := (hci.1 x hx).2.1
    show x.t ≤ if 1000 < t + h then 1000 else t + h
    split <;> omega
  · intro c hc
    rcases List.mem_append.mp hc with q | q
    · have := hci.2.2.1 c q; omega
    · rw [List.mem_singleton] at q; subst q; exact hmin.2.2
end K05

namespace K05
open AF PySem LF
theorem lw_calls (k : Nat) (r : Nat) (st : Store) (hr : Src2 r st) :
    ∃ (cs : List Cl) (st' : Store), evCall P (k + 4) i_law_calls [.ref r, .int 4] st = .ok (eCs cs) st' ∧ CsOk cs ∧ Src2 r st' ∧ Keep [r] st st' ∧ st'.length = st.length := by
  obtain ⟨m, s1, a1, a2, a3, a4, a5, a6⟩ := lw_draw (k + 2) r 5 st hr (by decide) (by decide)
  obtain ⟨ρ', st', q1, cs, t, y4, y5, y6, q2, q3, q4, q5, q6, q7⟩ := evFor_preS (tg := .name 4) (body := evSs (kn (k + 3)) f_law_calls_b1) eN
    (fun p ρ s => ∃ cs t y4 y5 y6, ρ = [some (.ref r), some (.int 4), some (eCs cs), some (.int t), y4, y5, y6] ∧ cs.length = p.length ∧ CInv cs t ∧ Src2 r s ∧ Keep [r] s1 s ∧ s.length = s1.length)
    (List.range m.toNat) [] [some (.ref r), some (.int 4), some (eCs []), some (.int 0), none, none, none] s1 ⟨[], 0, none, none, none, rfl, rfl, ⟨by simp, .nil, by simp, by omega⟩, a4, .refl, rfl⟩ (by
      rintro p x q ρ s e ⟨cs, t, y4, y5, y6, rfl, e2, ci, sr, kp, hl⟩
      have hlp : p.length ≤ 4 := by
        have := congrArg List.length e
        simp at this; omega
      obtain ⟨c, t', z5, z6, s2, b1, b2, b3, b4, b5⟩ := lc_b1 k r cs t s (some (eN x)) y5 y6 sr ci (by omega)
      exact ⟨_, _, s2, rfl, b1, cs ++ [c], t', _, _, _, rfl, by simp [e2], b2, b3, kp.trans b4, by omega⟩)
  refine ⟨cs, st', ?_, ⟨by simp at q3; omega, q4.1, q4.2.1⟩, q5, a5.trans q6, by omega⟩
  rw [call_of (fn := f_law_calls) rfl]
  refine body_ret (ρ' := ρ') rfl ?_
  have h1 : evS (kn (k + 3)) f_law_calls_s5 (AF.envOf f_law_calls.n [.ref r, .int 4]) st = .ok .next [some (.ref r), some (.int 4), some (eCs []), some (.int 0), none, none, none] st := by rfl
  have h2 : evS (kn (k + 3)) f_law_calls_s6 [some (.ref r), some (.int 4), some (eCs []), some (.int 0), none, none, none] st = .ok .next ρ' st' := by
    simp only [f_law_calls_s6, evS, evIt, evE, evEs]
    rw [← rngD_range] at q1
    simp [bin, kn_call, a1, okR, show (-1000000 : Int) ≤ m by omega, show (m : Int) ≤ 1000000 by omega]
    simpa using q1
  rw [show f_law_calls.body = .cons f_law_calls_s5 (.cons f_law_calls_s6 (.cons f_law_calls_s7 .nil)) from rfl, ss_next h1, ss_next h2, q2]
  exact ss_ret (by rfl)
theorem scr_item {ns : List Int} {i : Nat} (h : i < ns.length) (st : Store) : ∃ v, idx (.scr ns) (eN i) st = .ok (.int v) st := by
  have e : itemAt ns (i : Int) = some ns[i] := by rw [itemAt_nat h, List.getElem?_eq_getElem h]
  exact ⟨ns[i], by simp only [idx, e]⟩
theorem lw_source (k : Nat) (ns : List Int) (i : Nat) (st : Store) : ∃ a b : Int, evCall P (k + 1) i_law_source [.scr ns, eN i] st = .ok (.ref st.length) (st ++ [Ob.lst [.int a, .int b]]) ∧ 0 ≤ a ∧ 0 ≤ b ∧ b < 2147483648 := by
  rw [call_of (fn := f_law_source) rfl]
  have key : ∃ c : Int, 0 ≤ c ∧ evSs (kn k) f_law_source.body (AF.envOf 3 [.scr ns, eN i]) st = evSs (kn k) (match f_law_source.body with | .cons _ (.cons _ r) => r | x => x) [some (.scr ns), some (eN i), some (.int c)] st := by
    by_cases hi : i < ns.length
    · obtain ⟨v, hv⟩ := scr_item hi st
      refine ⟨if v < 0 then -v else v, by split <;> omega, ?_⟩
      simp only [f_law_source, AF.envOf, evSs, evS, evE, evEs]
      simp [asg, blt, cmp, hi, hv]
    · refine ⟨0, by omega, ?_⟩
      simp only [f_law_source, AF.envOf, evSs, evS, evE, evEs]
      simp [asg, blt, cmp, hi]
  obtain ⟨c, hc, e⟩ := key
  have hm : ∀ x : Int, 0 ≤ x % 2147483646 ∧ x % 2147483646 < 2147483646 := fun x => ⟨Int.emod_nonneg _ (by decide), Int.emod_lt_of_pos _ (by decide)⟩
  by_cases h : c < 1000000000000000000
  · refine ⟨0, 1 + (c * 7919 + 104729 * (i : Int)) % 2147483646, ?_, by omega, by have := hm (c * 7919 + 104729 * (i : Int)); omega, by have := hm (c * 7919 + 104729 * (i : Int)); omega⟩
    rw [callBody, if_pos (show [D.scr ns, eN i].length = f_law_source.ps from rfl), show f_law_source.n = 3 from rfl, e]
    simp only [f_law_source, evSs, evS, evE, evEs]
    simp [cmp, bin, small64, h, blt, mkL, LIM]
  · refine ⟨c, 1 + (c + (i : Int)) % 2147483646, ?_, by omega, by have := hm (c + (i : Int)); omega, by have := hm (c + (i : Int)); omega⟩
    rw [callBody, if_pos (show [D.scr ns, eN i].length = f_law_source.ps from rfl), show f_law_source.n = 3 from rfl, e]
    simp only [f_law_source, evSs, evS, evE, evEs]
    simp [cmp, bin, small64, h, blt, mkL, LIM]
theorem plD_tup (k : Nat) (l : List D) : plD (k + 1) (.tup l) = l.all (plD k) := rfl
theorem plD_int (k : Nat) (i : Int) : plD (k + 1) (.int i) = true := rfl
theorem pl_stop (s : Stop) : plD 23 (eStop s) = true := by
  have h1 : plD 22 (.tup (eNs s.off)) = true := (plD_tup 21 _).trans (all_Ns 20 s.off)
  have h2 : plD 22 (.tup (eNs s.on)) = true := (plD_tup 21 _).trans (all_Ns 20 s.on)
  have h3 : plD 22 (eFl s.fl) = true := pl_fl 20 s.fl
  have h4 : plD 22 (eF s.m) = true := rfl
  rw [eStop, plD_tup 22]
  simp only [List.all_cons, List.all_nil, h1, h2, h3, h4, Bool.and_true]
theorem pl_stops (stops : List Stop) : plD 24 (.tup (stops.map eStop)) = true := by
  rw [plD_tup 23, List.all_eq_true]
  intro d hd
  obtain ⟨s, _, rfl⟩ := List.mem_map.mp hd
  exact pl_stop s
theorem eq_same {d : D} (h : plD 24 d = true) (st : Store) : eqD st d d = some true := by rw [eqD_pl st h h, D.beq_refl]
theorem pl_pairs (L : List (Int × Int)) : plD 24 (.tup (L.map fun q => .tup [.int q.1, .int q.2])) = true := by
  rw [plD_tup 23, List.all_eq_true]
  intro d hd
  obtain ⟨s, _, rfl⟩ := List.mem_map.mp hd
  rfl
end K05

namespace K05
open AF PySem LF
def fplus (f g : Form) (t : Int) : Form := (f.1 + t * g.1, f.2 + t * g.2)
theorem lw_at (k : Nat) (f : Flr) (n : Int) (st : Store) : evCall P (k + 1) i_law_at [eFl f, .int n] st = .ok (.int (f.at n)) st := by
  obtain ⟨t, j⟩ := f
  rw [call_of (fn := f_law_at) rfl]
  simp only [callBody, f_law_at, envOf, evSs, evS, evE, evEs]
  cases t <;> simp [idx, seqOf, lstOf, itemAt, ixI, cmp, eq_str, cpsOk, wFl, Flr.at, bin]
theorem lw_form (k : Nat) (f : Flr) (st : Store) : evCall P (k + 1) i_law_form [eFl f] st = .ok (eF f.form) st := by
  obtain ⟨t, j⟩ := f
  rw [call_of (fn := f_law_form) rfl]
  simp only [callBody, f_law_form, envOf, evSs, evS, evE, evEs]
  cases t <;> simp [idx, seqOf, lstOf, itemAt, ixI, cmp, eq_str, cpsOk, wFl, Flr.form, bin]
theorem lw_worth (k : Nat) (f : Form) (n : Int) (st : Store) (h : small64 f.1 = true) : evCall P (k + 1) i_law_worth [eF f, .int n] st = .ok (.int (worth f n)) st := by
  rw [call_of (fn := f_law_worth) rfl]
  simp [callBody, f_law_worth, envOf, evSs, evS, evE, evEs, idx, seqOf, lstOf, itemAt, ixI, bin, h, worth]
theorem lw_plus (k : Nat) (f g : Form) (t : Int) (st : Store) (h : small64 t = true) : evCall P (k + 1) i_law_plus [eF f, eF g, .int t] st = .ok (eF (fplus f g t)) st := by
  rw [call_of (fn := f_law_plus) rfl]
  simp [callBody, f_law_plus, envOf, evSs, evS, evE, evEs, idx, seqOf, lstOf, itemAt, ixI, bin, h, fplus]
theorem fplus_sub (f g : Form) : fplus f g (-1) = fsub f g := by
  simp only [fplus, fsub]; ext <;> simp <;> omega
theorem fplus_neg (f : Form) : fplus (0, 0) f (-1) = fmul f (-1) := by
  simp only [fplus, fmul]; ext <;> simp <;> omega
theorem fplus_mul (f g : Form) (t : Int) : fplus f g t = fadd f (fmul g t) := by
  simp only [fplus, fadd, fmul]; ext <;> simp [Int.mul_comm]
theorem fplus_one (f g : Form) : fplus f g 1 = fadd f g := by
  simp only [fplus, fadd]; ext <;> simp
theorem lw_far (k : Nat) (f g : Flr) (n : Int) (st : Store) : evCall P (k + 2) i_law_far [eFl f, eFl g, .int n] st = .ok (eF (way f g n)) st := by
  rw [call_of (fn := f_law_far) rfl]
  simp only [callBody, f_law_far, envOf, evSs, evS, evE, evEs]
  simp [kn_call, lw_form, lw_at, lw_plus k _ _ (-1) st (by decide), fplus_sub, asg, cmp]
  have e : fsub g.form f.form = far f g := rfl
  rw [e]
  have hw := worth_far f g n
  unfold way
  by_cases h : f.at n ≤ g.at n
  · have h2 : ¬ worth (far f g) n < 0 := by omega
    simp [h, h2]
  · have h2 : worth (far f g) n < 0 := by omega
    have hp := lw_plus k (0, 0) (far f g) (-1) st (by decide)
    simp only [fplus_neg] at hp
    simp [h, h2, hp]
end K05

namespace K05
open AF PySem LF
theorem eq_bl (st : Store) (a b : Bool) : eqD st (.bl a) (.bl b) = some (a == b) := by
  unfold eqD look PYN
  rw [show (24 : Nat) = 23 + 1 from rfl, py_bl, py_bl]
  simp [PyData.eqv]
theorem idx_last {L : List D} {x : D} {a : Nat} {st : Store} (h : st[a]? = some (.lst (L ++ [x]))) : idx (.ref a) (.int (-1)) st = .ok x st := by
  have e : itemAt (L ++ [x]) (-1) = some x := by
    unfold itemAt ixI
    rw [if_neg (by decide), if_pos (by simp; omega)]
    simp only
    have : (-1 + ((L ++ [x]).length : Int)).toNat = L.length := by simp; omega
    rw [this]; simp
  simp only [idx, seqOf, lstOf, h, e]
theorem app_ref {L : List D} {x : D} {a : Nat} {st : Store} (h : st[a]? = some (.lst L)) (hl : L.length < LIM) : mth .append (.ref a) [x] st = .ok .non (st.set a (.lst (L ++ [x]))) := by
  simp only [mth, h, if_pos hl]
theorem recv_ref {L : List D} {a : Nat} {st : Store} (h : st[a]? = some (.lst L)) (f : BM) (hf : f = .append ∨ f = .count ∨ f = .index) : recvOk f (.ref a) st = true := by
  rcases hf with rfl | rfl | rfl <;> simp [recvOk, lstOf, h]
def better (fl : Flr) (up : Bool) (n : Int) (g b : Flr) : Bool :=
  let W := worth (fsub (way fl g n) (way fl b n)) n
  if W ≠ 0 then decide (W < 0) else (!decide (g = b)) && (decide (fl.at n < g.at n) == up)
theorem lw_better (k : Nat) (g b fl : Flr) (up : Bool) (n : Int) (a : Nat) (L : List D) (st : Store) (hf : fl.ok) (hg : g.ok) (hb : b.ok) (ha : st[a]? = some (.lst L)) (hl : L.length < LIM) :
    evCall P (k + 3) i_law_better [eFl g, eFl b, eFl fl, .str (wUp up), .int n, .ref a] st = .ok (.bl (better fl up n g b)) (st.set a (.lst (L ++ [eF (fsub (way fl g n) (way fl b n))]))) := by
  have hs := sub_small (way_small hf hg n) (way_small hf hb n)
  have hp := fun st => lw_plus (k + 1) (way fl g n) (way fl b n) (-1) st (by decide)
  simp only [fplus_sub] at hp
  have hal : a < st.length := (List.getElem?_eq_some_iff.mp ha).1
  have hset : (st.set a (.lst (L ++ [eF (fsub (way fl g n) (way fl b n))])))[a]? = some (.lst (L ++ [eF (fsub (way fl g n) (way fl b n))])) := List.getElem?_set_self hal
  have hap := app_ref (x := eF (fsub (way fl g n) (way fl b n))) ha hl
  have hrc := recv_ref ha .append (.inl rfl)
  have hix := idx_last hset
  rw [call_of (fn := f_law_better) rfl]
  simp only [callBody, f_law_better, f_law_better_s1, f_law_better_s2, f_law_better_s3, f_law_better_s4, f_law_better_s5, f_law_better_s6, envOf, evSs, evS, evE, evEs]
  generalize hst' : st.set a (.lst (L ++ [eF (fsub (way fl g n) (way fl b n))])) = st' at *
  generalize hW : worth (fsub (way fl g n) (way fl b n)) n = W
  have hww := fun st => lw_worth (k + 1) (fsub (way fl g n) (way fl b n)) n st (sm hs (by decide))
  rw [hW] at hww
  simp [kn_call, lw_far k, hp, asg, asgs, hrc, hap, hix, hww, cmp, eq_int, eq_fl, lw_at (k + 1)]
  simp only [better, hW]
  by_cases h0 : W = 0
  · subst h0
    by_cases h1 : g = b
    · subst h1; simp [lw_at (k + 1), eq_fl]
    · cases up <;> simp [h1, eq_str, cpsOk, wUp, eq_bl, lw_at (k + 1), eq_fl]
  · have hb0 : (W == 0) = false := beq_eq_false_iff_ne.mpr h0
    simp [h0, hb0]
/-- the law's choice of the nearest, as the program's -/
theorem at_inj {f g : Flr} {n : Int} (hf : f.ok) (hg : g.ok) (hn : 8 ≤ n) (h : f.at n = g.at n) : f = g := by
  obtain ⟨t, j⟩ := f
  obtain ⟨u, i⟩ := g
  obtain ⟨a1, a2⟩ := hf
  obtain ⟨b1, b2⟩ := hg
  simp only at a1 a2 b1 b2
  unfold Flr.at at h
  cases t <;> cases u <;> simp at h ⊢ <;> omega
theorem way_abs (f g : Flr) (n : Int) : worth (way f g n) n = if g.at n < f.at n then f.at n - g.at n else g.at n - f.at n := by
  have h := worth_far f g n
  unfold way
  split
  · rw [worth_mul, h]; split <;> omega
  · rw [h]; split <;> omega
theorem better_near (fl : Flr) (up : Bool) (n : Int) (g b : Flr) (hf : fl.ok) (hg : g.ok) (hb : b.ok) (hn : 8 ≤ n) : (if better fl up n g b then g else b) = (if worth (fsub (way fl g n) (way fl b n)) n < 0 ∨ (worth (fsub (way fl g n) (way fl b n)) n = 0 ∧ ahead fl b up n = false) then g else b) := by
  unfold better
  simp only
  have hW : worth (fsub (way fl g n) (way fl b n)) n = worth (way fl g n) n - worth (way fl b n) n := worth_sub _ _ _
  rw [way_abs, way_abs] at hW
  have hab := worth_far fl b n
  generalize worth (fsub (way fl g n) (way fl b n)) n = W at *
  by_cases h0 : W = 0
  · subst h0
    by_cases h1 : g = b
    · subst h1; simp
    · have hne : g.at n ≠ b.at n := fun e => h1 (at_inj hg hb hn e)
      have hab2 : ahead fl b up n = if up then decide (fl.at n ≤ b.at n) else decide (b.at n ≤ fl.at n) := by
        unfold ahead
        rw [hab]
        cases up
        · simp only [Bool.false_eq_true, if_false]
          congr 1
          apply propext; omega
        · simp only [if_true]
          congr 1
          apply propext; omega
      rw [hab2]
      cases up
      · by_cases h2 : fl.at n < g.at n
        · have h3 : b.at n ≤ fl.at n := by split at hW <;> split at hW <;> omega
          simp [h1, h2, h3]
        · have h3 : ¬ b.at n ≤ fl.at n := by split at hW <;> split at hW <;> omega
          simp [h1, h2, h3]
      · by_cases h2 : fl.at n < g.at n
        · have h3 : ¬ fl.at n ≤ b.at n := by split at hW <;> split at hW <;> omega
          simp [h1, h2, h3]
        · have h3 : fl.at n ≤ b.at n := by split at hW <;> split at hW <;> omega
          simp [h1, h2, h3]
  · simp [h0]
end K05

namespace K05
open AF PySem LF
theorem look_W (st : Store) (w : Nat × Flr) : look st (eW w) = some (.tuple [.int w.1, .tuple [.str (toStr (wFl w.2.top)), .int w.2.k]]) := by
  have hc : cpsOk (wFl w.2.top) = true := by cases w.2.top <;> decide
  show py st (21 + 1 + 1 + 1) _ = _
  simp only [py_tup, optAll, py_int, py_str, hc, if_true, Option.map_some]
theorem alike_W (st : Store) (l : List (Nat × Flr)) : alikeB st (l.map eW) = true := by
  have go : ∀ l : List (Nat × Flr), optAll (look st) (l.map eW) = some (l.map fun w => .tuple [.int w.1, .tuple [.str (toStr (wFl w.2.top)), .int w.2.k]]) := by
    intro l
    induction l with
    | nil => rfl
    | cons a r ih => simp only [List.map_cons, optAll, look_W, ih]
  unfold alikeB
  rw [go]
  simp only [List.all_eq_true, List.mem_map]
  rintro p ⟨x, _, rfl⟩ q ⟨y, _, rfl⟩
  simp [PySem.W.alike, PySem.W.alikeAll]
theorem minK_head : ∀ (a : Nat × Flr) (r : List (Nat × Flr)), ((a :: r).map (·.1)).Nodup → ∃ b ws, sortW (a :: r) = b :: ws ∧ minK ((a :: r).map fun w => ((w.1 : Int), eFl w.2)) = some ((b.1 : Int), eFl b.2) := by
  have fold : ∀ (r : List (Nat × Flr)) (a : Nat × Flr), ∃ b, b ∈ a :: r ∧ (∀ c ∈ a :: r, b.1 ≤ c.1) ∧ (r.map fun w => ((w.1 : Int), eFl w.2)).foldl (fun m x => if x.1 < m.1 then x else m) ((a.1 : Int), eFl a.2) = ((b.1 : Int), eFl b.2) := by
    intro r
    induction r with
    | nil => intro a; exact ⟨a, List.mem_cons_self, fun c hc => by simp at hc; subst hc; omega, rfl⟩
    | cons c r ih =>
      intro a
      rw [List.map_cons, List.foldl_cons]
      by_cases h : c.1 < a.1
      · rw [if_pos (by show (c.1 : Int) < (a.1 : Int); omega)]
        obtain ⟨b, h1, h2, h3⟩ := ih c
        refine ⟨b, List.mem_cons_of_mem _ h1, fun d hd => ?_, h3⟩
        rcases List.mem_cons.mp hd with e | e
        · subst e; have := h2 c List.mem_cons_self; omega
        · exact h2 d e
      · rw [if_neg (by show ¬ (c.1 : Int) < (a.1 : Int); omega)]
        obtain ⟨b, h1, h2, h3⟩ := ih a
        refine ⟨b, ?_, fun d hd => ?_, h3⟩
        · rcases List.mem_cons.mp h1 with e | e
          · rw [e]; exact List.mem_cons_self
          · exact List.mem_cons_of_mem _ (List.mem_cons_of_mem _ e)
        · rcases List.mem_cons.mp hd with e | e
          · subst e; exact h2 d List.mem_cons_self
          · rcases List.mem_cons.mp e with e | e
            · subst e; have := h2 a List.mem_cons_self; omega
            · exact h2 d (List.mem_cons_of_mem _ e)
  have insmin : ∀ (a : Nat × Flr) (l : List (Nat × Flr)), l.Pairwise (fun x y => x.1 ≤ y.1) → (insW a l).Pairwise (fun x y => x.1 ≤ y.1) := by
    intro a l
    induction l with
    | nil => intro _; simp [insW]
    | cons b r ih =>
      intro h
      obtain ⟨h1, h2⟩ := List.pairwise_cons.mp h
      unfold insW
      split
      · rename_i hab
        refine List.pairwise_cons.mpr ⟨fun x hx => ?_, h⟩
        rcases List.mem_cons.mp hx with e | e
        · subst e; exact hab
        · exact Nat.le_trans hab (h1 x e)
      · refine List.pairwise_cons.mpr ⟨fun x hx => ?_, ih h2⟩
        rcases List.mem_cons.mp ((insW_perm a r).mem_iff.mp hx) with e | e
        · subst e; omega
        · exact h1 x e
  have sorted : ∀ l : List (Nat × Flr), (sortW l).Pairwise (fun x y => x.1 ≤ y.1) := by
    intro l
    induction l with
    | nil => exact .nil
    | cons a r ih => exact insmin a _ ih
  intro a r nd
  obtain ⟨b, hb, hmin, hfold⟩ := fold r a
  cases e : sortW (a :: r) with
  | nil =>
    have := (sortW_perm (a :: r)).length_eq
    rw [e] at this; simp at this
  | cons c ws =>
    have hc : c ∈ a :: r := (sortW_perm (a :: r)).mem_iff.mp (by rw [e]; exact List.mem_cons_self)
    have hbs : b ∈ c :: ws := by rw [← e]; exact (sortW_perm (a :: r)).mem_iff.mpr hb
    have hp := sorted (a :: r)
    rw [e] at hp
    have hcb : c.1 ≤ b.1 := by
      rcases List.mem_cons.mp hbs with q | q
      · rw [q]; exact Nat.le_refl _
      · exact (List.pairwise_cons.mp hp).1 b q
    have h1 := hmin c hc
    have heq : c.1 = b.1 := by omega
    have hcb2 : c = b := by
      have go : ∀ (l : List (Nat × Flr)), (l.map (·.1)).Nodup → ∀ x ∈ l, ∀ y ∈ l, x.1 = y.1 → x = y := by
        intro l
        induction l with
        | nil => intro _ x hx; cases hx
        | cons z l ih =>
          intro nd x hx y hy e
          obtain ⟨n1, n2⟩ := List.nodup_cons.mp nd
          rcases List.mem_cons.mp hx with p | p <;> rcases List.mem_cons.mp hy with q | q
          · rw [p, q]
          · subst p; exact absurd (List.mem_map.mpr ⟨y, q, e.symm⟩) n1
          · subst q; exact absurd (List.mem_map.mpr ⟨x, p, e⟩) n1
          · exact ih n2 x p y q e
      exact go _ nd c hc b hb heq
    subst hcb2
    exact ⟨c, ws, rfl, by rw [List.map_cons, minK, hfold]⟩
theorem min_W (st : Store) (a : Nat × Flr) (r : List (Nat × Flr)) (nd : ((a :: r).map (·.1)).Nodup) (hl : (a :: r).length ≤ 60) : ∃ b ws, sortW (a :: r) = b :: ws ∧ blt .min false [.lst ((a :: r).map eW)] st = .ok (eW b) st := by
  obtain ⟨b, ws, h1, h2⟩ := minK_head a r nd
  refine ⟨b, ws, h1, ?_⟩
  have e1 : intsOf ((a :: r).map eW) = none := rfl
  have e2 := nodupI_N nd
  rw [List.map_map] at e2
  have e3 : ((a :: r).map fun w => ((w.1 : Int), eFl w.2)).map (·.1) = (a :: r).map ((fun (n : Nat) => (n : Int)) ∘ fun w => w.1) := by rw [List.map_map]; rfl
  have hm : minD st ((a :: r).map eW) = some (eW b) := by
    simp only [minD, e1, pairsOf_W]
    rw [e3, e2, alike_W, h2]
    rfl
  have hl' : ((a :: r).map eW).length ≤ LIM := Nat.le_trans (by rw [List.length_map]; exact hl) (by decide)
  simp only [blt, lstOf, if_pos hl', hm]
theorem fold_near {fl : Flr} {up : Bool} {n : Int} : ∀ (gs : List Flr) (b : Flr) (fs : List Form), gs.foldl (nearStep fl up n) (b, fs) = ((gs.foldl (nearStep fl up n) (b, [])).1, fs ++ (gs.foldl (nearStep fl up n) (b, [])).2)
  | [], b, fs => by simp
  | g :: gs, b, fs => by
    rw [List.foldl_cons, List.foldl_cons]
    have e1 : ∀ fs, nearStep fl up n (b, fs) g = ((nearStep fl up n (b, []) g).1, fs ++ (nearStep fl up n (b, []) g).2) := fun fs => by simp [nearStep]
    rw [e1 fs, fold_near gs _ (fs ++ _), fold_near gs _ (nearStep fl up n (b, []) g).2]
    simp [nearStep]
theorem near_law {fl : Flr} {up : Bool} {n : Int} (g : Flr) (gs : List Flr) : (g :: gs).foldl (nearStep fl up n) (g, []) = ((nearest fl up n (g :: gs)).1, (0, 0) :: (nearest fl up n (g :: gs)).2) := by
  rw [List.foldl_cons]
  have e0 : fsub (way fl g n) (way fl g n) = (0, 0) := by simp [fsub]
  have e1 : nearStep fl up n (g, []) g = (g, [(0, 0)]) := by
    simp only [nearStep, e0]
    simp
  rw [e1, fold_near]
  rfl
end K05

namespace K05
open AF PySem LF
theorem near_ok {fl : Flr} {up : Bool} {n : Int} (gs : List Flr) (q : Flr × List Form) (h : q.1.ok) (hg : ∀ g ∈ gs, g.ok) : (gs.foldl (nearStep fl up n) q).1.ok := near_foldl Flr.ok gs q h hg
/-- the loop of the law's choice -/
theorem lw_goal_loop (k : Nat) (fl : Flr) (up : Bool) (n : Int) (a : Nat) (L : List D) (st : Store) (hf : fl.ok) (hn : 8 ≤ n) (ha : st[a]? = some (.lst L)) (hl : L.length ≤ 900000) (g : Flr) (gs : List Flr) (hg : ∀ f ∈ g :: gs, f.ok) (hgs : gs.length ≤ 100) (x0 x1 x6 x7 x8 x9 x11 : Option D) :
    ∃ y11, evFor [] (.name 11) (evSs (kn (k + 3)) f_law_goal_b1) ((g :: gs).map eFl) [x0, x1, some (eFl fl), some (.str (wUp up)), some (.int n), some (.ref a), x6, x7, x8, x9, some (eFl g), x11] st =
      .ok .next [x0, x1, some (eFl fl), some (.str (wUp up)), some (.int n), some (.ref a), x6, x7, x8, x9, some (eFl ((g :: gs).foldl (nearStep fl up n) (g, [])).1), y11] (st.set a (.lst (L ++ ((g :: gs).foldl (nearStep fl up n) (g, [])).2.map eF))) := by
  have hal : a < st.length := (List.getElem?_eq_some_iff.mp ha).1
  have hset0 : st.set a (.lst (L ++ List.map eF ([] : List Form))) = st := by
    rw [List.map_nil, List.append_nil]
    apply List.ext_getElem?
    intro i
    by_cases h : i = a
    · subst h; rw [List.getElem?_set_self hal, ha]
    · rw [List.getElem?_set_ne (Ne.symm h)]
  obtain ⟨ρ', st', h1, y11, h2, h3⟩ := evFor_preS (tg := .name 11) (body := evSs (kn (k + 3)) f_law_goal_b1) eFl
    (fun pre ρ st' => ∃ y11, ρ = [x0, x1, some (eFl fl), some (.str (wUp up)), some (.int n), some (.ref a), x6, x7, x8, x9, some (eFl (pre.foldl (nearStep fl up n) (g, [])).1), y11] ∧ st' = st.set a (.lst (L ++ (pre.foldl (nearStep fl up n) (g, [])).2.map eF)))
    (g :: gs) [] [x0, x1, some (eFl fl), some (.str (wUp up)), some (.int n), some (.ref a), x6, x7, x8, x9, some (eFl g), x11] st ⟨x11, rfl, hset0.symm⟩
    (fun p x q ρ st' e ⟨y11, er, es⟩ => by
      have e : g :: gs = p ++ x :: q := e
      have hx : x.ok := hg x (by rw [e]; simp)
      have hb : (p.foldl (nearStep fl up n) (g, [])).1.ok := near_ok p (g, []) (hg g List.mem_cons_self) fun y hy => hg y (by rw [e]; simp [hy])
      have hlp : p.length ≤ 101 := by
        have := congrArg List.length e
        simp at this; omega
      have hlen : (L ++ (p.foldl (nearStep fl up n) (g, [])).2.map eF).length < LIM := by
        rw [List.length_append, List.length_map, near_len2]
        simp [LIM]; omega
      have hget : (st.set a (.lst (L ++ (p.foldl (nearStep fl up n) (g, [])).2.map eF)))[a]? = some (.lst (L ++ (p.foldl (nearStep fl up n) (g, [])).2.map eF)) := List.getElem?_set_self hal
      have hbt := lw_better k x (p.foldl (nearStep fl up n) (g, [])).1 fl up n a _ _ hf hx hb hget hlen
      have hnb := better_near fl up n x (p.foldl (nearStep fl up n) (g, [])).1 hf hx hb hn
      subst er es
      rw [List.set_set, List.append_assoc] at hbt
      refine ⟨_, _, _, rfl, ?_, some (eFl x), rfl, rfl⟩
      rw [List.foldl_append]
      show _ = SR.ok .next [x0, x1, some (eFl fl), some (.str (wUp up)), some (.int n), some (.ref a), x6, x7, x8, x9, some (eFl (nearStep fl up n (p.foldl (nearStep fl up n) (g, [])) x).1), some (eFl x)] (st.set a (.lst (L ++ (nearStep fl up n (p.foldl (nearStep fl up n) (g, [])) x).2.map eF)))
      generalize p.foldl (nearStep fl up n) (g, []) = Q at *
      have e1 : (nearStep fl up n Q x).1 = if better fl up n x Q.1 then x else Q.1 := hnb.symm
      have e2 : (nearStep fl up n Q x).2.map eF = Q.2.map eF ++ [eF (fsub (way fl x n) (way fl Q.1 n))] := by simp [nearStep]
      rw [e1, e2]
      simp only [f_law_goal_b1, evSs, evS, evE, evEs]
      simp [kn_call, hbt]
      cases better fl up n x Q.1 <;> simp [asg])
  subst h2 h3
  exact ⟨y11, h1⟩
theorem lw_goal_tail (k : Nat) (fl : Flr) (up : Bool) (n : Int) (a : Nat) (L : List D) (st : Store) (hf : fl.ok) (hn : 8 ≤ n) (ha : st[a]? = some (.lst L)) (hl : L.length ≤ 900000) (g : Flr) (gs : List Flr) (hg : ∀ f ∈ g :: gs, f.ok) (hgs : gs.length ≤ 100) (x0 x1 x7 x8 x9 : Option D) :
    ∃ ρ', evSs (kn (k + 3)) (.cons f_law_goal_s4 (.cons f_law_goal_s5 (.cons f_law_goal_s6 .nil))) [x0, x1, some (eFl fl), some (.str (wUp up)), some (.int n), some (.ref a), some (.lst ((g :: gs).map eFl)), x7, x8, x9, none, none] st =
      .ok (.ret (eFl (nearest fl up n (g :: gs)).1)) ρ' (st.set a (.lst (L ++ ((0, 0) :: (nearest fl up n (g :: gs)).2).map eF))) := by
  obtain ⟨y11, hloop⟩ := lw_goal_loop k fl up n a L st hf hn ha hl g gs hg hgs x0 x1 (some (.lst ((g :: gs).map eFl))) x7 x8 x9 none
  rw [near_law] at hloop
  have h4 : evS (kn (k + 3)) f_law_goal_s4 [x0, x1, some (eFl fl), some (.str (wUp up)), some (.int n), some (.ref a), some (.lst ((g :: gs).map eFl)), x7, x8, x9, none, none] st = .ok .next [x0, x1, some (eFl fl), some (.str (wUp up)), some (.int n), some (.ref a), some (.lst ((g :: gs).map eFl)), x7, x8, x9, some (eFl g), none] st := by
    simp only [f_law_goal_s4, evS, evSs, evE, evEs]
    simp [idx, seqOf, lstOf, itemAt, ixI, asg]
  have h5 : evS (kn (k + 3)) f_law_goal_s5 [x0, x1, some (eFl fl), some (.str (wUp up)), some (.int n), some (.ref a), some (.lst ((g :: gs).map eFl)), x7, x8, x9, some (eFl g), none] st = .ok .next [x0, x1, some (eFl fl), some (.str (wUp up)), some (.int n), some (.ref a), some (.lst ((g :: gs).map eFl)), x7, x8, x9, some (eFl (nearest fl up n (g :: gs)).1), y11] (st.set a (.lst (L ++ ((0, 0) :: (nearest fl up n (g :: gs)).2).map eF))) := by
    rw [← hloop]
    simp only [f_law_goal_s5, evS, evIt, evE]
    rfl
  exact ⟨_, by rw [ss_next h4, ss_next h5]; exact ss_ret rfl⟩
def lawForms (rl : Rule) (s : Sst) (w : List (Nat × Flr)) (n : Int) : List Form := match rl with
  | .first => []
  | _ => (0, 0) :: (goalOf rl s w n).2
theorem lw_goal_s2 (k : Nat) (rl : Rule) (s : Sst) (b : Nat × Flr) (ws : List (Nat × Flr)) (n : Int) (a : Nat) (RW : List D) (st : Store) (hs : blt .sorted false [.lst RW] st = .ok (.lst ((b :: ws).map eW)) st) (hlen : (b :: ws).length ≤ 50) :
    evS (kn (k + 3)) f_law_goal_s2 (AF.envOf 12 [.str (wRule rl), .lst RW, eFl s.fl, .str (wUp s.up), .int n, .ref a]) st = .ok .next [some (.str (wRule rl)), some (.lst RW), some (eFl s.fl), some (.str (wUp s.up)), some (.int n), some (.ref a), some (.lst (((b :: ws).map fun x => x.2).map eFl)), some (.int (s.fl.at n)), none, none, none, none] st := by
  simp only [f_law_goal_s2, evS, evSs, evE, evEs, evIt, envOf]
  simp [hs, srcOf, wipeE]
  rw [show eW b :: ws.map eW = (b :: ws).map eW from rfl, evLc_map eW (fun _ => true) (fun x => eFl x.2) rfl (b :: ws) [] (by simp at hlen; simp [LIM]; omega) (fun p hq => ⟨_, rfl, by simp [evOc], fun _ => rfl⟩), filt_true]
  simp [mkL, kn_call, lw_at (k + 2), asg, asgs, Function.comp_def]
theorem ahead_at (f g : Flr) (up : Bool) (n : Int) : ahead f g up n = if up then decide (f.at n ≤ g.at n) else decide (g.at n ≤ f.at n) := by
  unfold ahead
  rw [worth_far]
  cases up
  · simp only [Bool.false_eq_true, if_false]; congr 1; apply propext; omega
  · simp only [if_true]; congr 1; apply propext; omega
theorem lw_goal_s3 (k : Nat) (s : Sst) (n : Int) (a : Nat) (fs : List Flr) (x1 : Option D) (st : Store) (hf : s.fl.ok) (hm : ∀ f ∈ fs, f.ok) (hl : fs.length ≤ 100) :
    ∃ y9, evS (kn (k + 3)) f_law_goal_s3 [some (.str (wRule .scan)), x1, some (eFl s.fl), some (.str (wUp s.up)), some (.int n), some (.ref a), some (.lst (fs.map eFl)), some (.int (s.fl.at n)), none, none, none, none] st =
      .ok .next [some (.str (wRule .scan)), x1, some (eFl s.fl), some (.str (wUp s.up)), some (.int n), some (.ref a), some (.lst ((if (fs.filter fun f => ahead s.fl f s.up n) = [] then fs else fs.filter fun f => ahead s.fl f s.up n).map eFl)), some (.int (s.fl.at n)), none, y9, none, none] st := by
  have he := empty_eq st ((fs.filter fun f => ahead s.fl f s.up n).map eFl) (all_Fl 21 _)
  generalize hF : (fs.filter fun f => ahead s.fl f s.up n) = F at *
  have hFu := hF
  simp only [ahead_at] at hFu
  refine ⟨some (.lst (F.map eFl)), ?_⟩
  simp only [f_law_goal_s3, evS, evSs, evE, evEs, evIt]
  simp [cmp, wRule, eq_str, cpsOk, srcOf, wipeE]
  rw [evLc_map eFl (fun f => decide (s.fl.at n ≤ f.at n)) eFl rfl fs [] (by simp [LIM]; omega) (fun f hq => ⟨_, rfl, by
      simp only [evOc, evE, evEs]
      simp [kn_call, lw_at (k + 2), cmp], fun _ => rfl⟩)]
  cases hu : s.up with
  | true =>
    rw [hu] at hFu
    simp only [if_true] at hFu
    rw [hFu]
    simp [mkL, asg, wUp, eq_str, cpsOk, he]
    cases F with
    | nil => simp
    | cons g F => simp
  | false =>
    rw [hu] at hFu
    simp only [Bool.false_eq_true, if_false] at hFu
    simp [mkL, asg, wUp, eq_str, cpsOk, wipeE]
    rw [evLc_map eFl (fun f => decide (f.at n ≤ s.fl.at n)) eFl rfl fs [] (by simp [LIM]; omega) (fun f hq => ⟨_, rfl, by
      simp only [evOc, evE, evEs]
      simp [kn_call, lw_at (k + 2), cmp], fun _ => rfl⟩), hFu]
    simp [he]
    cases F with
    | nil => simp
    | cons g F => simp
theorem lw_goal (k : Nat) (rl : Rule) (s : Sst) (r0 : Nat × Flr) (raw : List (Nat × Flr)) (n : Int) (a : Nat) (L : List D) (st : Store) (hf : s.fl.ok) (hn : 8 ≤ n) (hw : ∀ x ∈ r0 :: raw, x.2.ok) (nd : ((r0 :: raw).map (·.1)).Nodup) (hl8 : (r0 :: raw).length ≤ 50) (ha : st[a]? = some (.lst L)) (hl : L.length ≤ 900000) :
    evCall P (k + 4) i_law_goal [.str (wRule rl), .lst ((r0 :: raw).map eW), eFl s.fl, .str (wUp s.up), .int n, .ref a] st =
      .ok (eFl (goalOf rl s (sortW (r0 :: raw)) n).1) (st.set a (.lst (L ++ (lawForms rl s (sortW (r0 :: raw)) n).map eF))) := by
  have hal : a < st.length := (List.getElem?_eq_some_iff.mp ha).1
  have hset0 : st.set a (.lst (L ++ List.map eF ([] : List Form))) = st := by
    rw [List.map_nil, List.append_nil]
    apply List.ext_getElem?
    intro i
    by_cases h : i = a
    · subst h; rw [List.getElem?_set_self hal, ha]
    · rw [List.getElem?_set_ne (Ne.symm h)]
  obtain ⟨b, ws, hsort, hmin⟩ := min_W st r0 raw nd (by omega)
  have hsd := sortD_W (r0 :: raw) nd
  rw [hsort] at hsd ⊢
  have hperm := sortW_perm (r0 :: raw)
  rw [hsort] at hperm
  have hwb : ∀ x ∈ b :: ws, x.2.ok := fun x hx => hw x (hperm.mem_iff.mp hx)
  have hlen : (b :: ws).length ≤ 50 := by rw [hperm.length_eq]; exact hl8
  have hm : ∀ f ∈ (b :: ws).map (·.2), f.ok := fun f hf => by
    obtain ⟨x, hx, rfl⟩ := List.mem_map.mp hf
    exact hwb x hx
  have hsorted : blt .sorted false [.lst ((r0 :: raw).map eW)] st = .ok (.lst ((b :: ws).map eW)) st := by
    have h60 : ((r0 :: raw).map eW).length ≤ 60 := by rw [List.length_map]; omega
    simp only [blt, seqOf, lstOf, if_pos h60, hsd, mkL, Bool.false_eq_true, if_false]
  generalize hR : (r0 :: raw).map eW = RW at *
  rw [call_of (fn := f_law_goal) rfl]
  cases rl with
  | first =>
    refine body_ret (ρ' := AF.envOf 12 [.str (wRule .first), .lst RW, eFl s.fl, .str (wUp s.up), .int n, .ref a]) rfl ?_
    rw [show f_law_goal.body = .cons f_law_goal_s1 (.cons f_law_goal_s2 (.cons f_law_goal_s3 (.cons f_law_goal_s4 (.cons f_law_goal_s5 (.cons f_law_goal_s6 .nil))))) from rfl, show f_law_goal.n = 12 from rfl]
    rw [show lawForms .first s (b :: ws) n = [] from rfl, hset0]
    refine ss_ret ?_
    simp only [f_law_goal_s1, evS, evSs, evE, evEs, envOf]
    simp [cmp, wRule, eq_str, cpsOk, hmin]
    simp [idx, seqOf, lstOf, itemAt, ixI, goalOf]
  | near =>
    obtain ⟨ρ', ht⟩ := lw_goal_tail k s.fl s.up n a L st hf hn ha hl b.2 (ws.map fun x : Nat × Flr => x.2) hm (by simp at hlen ⊢; omega) (some (.str (wRule .near))) (some (.lst RW)) (some (.int (s.fl.at n))) none none
    refine body_ret (ρ' := ρ') rfl ?_
    rw [show f_law_goal.body = .cons f_law_goal_s1 (.cons f_law_goal_s2 (.cons f_law_goal_s3 (.cons f_law_goal_s4 (.cons f_law_goal_s5 (.cons f_law_goal_s6 .nil))))) from rfl, show f_law_goal.n = 12 from rfl]
    have h1 : evS (kn (k + 3)) f_law_goal_s1 (AF.envOf 12 [.str (wRule .near), .lst RW, eFl s.fl, .str (wUp s.up), .int n, .ref a]) st = .ok .next (AF.envOf 12 [.str (wRule .near), .lst RW, eFl s.fl, .str (wUp s.up), .int n, .ref a]) st := by
      simp only [f_law_goal_s1, evS, evSs, evE, evEs, envOf]
      simp [cmp, wRule, eq_str, cpsOk]
    have h2 := lw_goal_s2 k .near s b ws n a RW st hsorted hlen
    have h3 : ∀ x6 : D, evS (kn (k + 3)) f_law_goal_s3 [some (.str (wRule .near)), some (.lst RW), some (eFl s.fl), some (.str (wUp s.up)), some (.int n), some (.ref a), some x6, some (.int (s.fl.at n)), none, none, none, none] st = .ok .next [some (.str (wRule .near)), some (.lst RW), some (eFl s.fl), some (.str (wUp s.up)), some (.int n), some (.ref a), some x6, some (.int (s.fl.at n)), none, none, none, none] st := by
      intro x6
      simp only [f_law_goal_s3, evS, evSs, evE, evEs]
      simp [cmp, wRule, eq_str, cpsOk]
    rw [ss_next h1, ss_next h2, ss_next (h3 _)]
    exact ht
  | scan =>
    have h1 : evS (kn (k + 3)) f_law_goal_s1 (AF.envOf 12 [.str (wRule .scan), .lst RW, eFl s.fl, .str (wUp s.up), .int n, .ref a]) st = .ok .next (AF.envOf 12 [.str (wRule .scan), .lst RW, eFl s.fl, .str (wUp s.up), .int n, .ref a]) st := by
      simp only [f_law_goal_s1, evS, evSs, evE, evEs, envOf]
      simp [cmp, wRule, eq_str, cpsOk]
    have h2 := lw_goal_s2 k .scan s b ws n a RW st hsorted hlen
    obtain ⟨y9, h3⟩ := lw_goal_s3 k s n a ((b :: ws).map fun x => x.2) (some (.lst RW)) st hf hm (by simp at hlen ⊢; omega)
    generalize hF : (((b :: ws).map fun x => x.2).filter fun f => ahead s.fl f s.up n) = F at *
    have hgoal : goalOf .scan s (b :: ws) n = nearest s.fl s.up n (if F = [] then (b :: ws).map (·.2) else F) := by
      simp only [goalOf]; rw [hF]
    have hforms : lawForms .scan s (b :: ws) n = (0, 0) :: (nearest s.fl s.up n (if F = [] then (b :: ws).map (·.2) else F)).2 := by
      simp only [lawForms, hgoal]
    rw [hgoal, hforms]
    have hX : ∃ g gs, (if F = [] then (b :: ws).map (·.2) else F) = g :: gs ∧ (∀ f ∈ g :: gs, f.ok) ∧ gs.length ≤ 100 := by
      by_cases h : F = []
      · rw [if_pos h]; exact ⟨b.2, ws.map fun x : Nat × Flr => x.2, rfl, hm, by simp at hlen ⊢; omega⟩
      · rw [if_neg h]
        cases e : F with
        | nil => exact absurd e h
        | cons g gs =>
          refine ⟨g, gs, rfl, fun f hf => hm f (by rw [← e, ← hF] at hf; exact (List.mem_filter.mp hf).1), ?_⟩
          have := List.length_filter_le (fun f => ahead s.fl f s.up n) ((b :: ws).map fun x => x.2)
          rw [hF, e] at this
          simp at this hlen; omega
    obtain ⟨g, gs, hX1, hX2, hX3⟩ := hX
    rw [hX1] at h3 ⊢
    obtain ⟨ρ', ht⟩ := lw_goal_tail k s.fl s.up n a L st hf hn ha hl g gs hX2 hX3 (some (.str (wRule .scan))) (some (.lst RW)) (some (.int (s.fl.at n))) none y9
    refine body_ret (ρ' := ρ') rfl ?_
    rw [show f_law_goal.body = .cons f_law_goal_s1 (.cons f_law_goal_s2 (.cons f_law_goal_s3 (.cons f_law_goal_s4 (.cons f_law_goal_s5 (.cons f_law_goal_s6 .nil))))) from rfl, show f_law_goal.n = 12 from rfl]
    rw [ss_next h1, ss_next h2, ss_next h3]
    exact ht
end K05

namespace K05
open AF PySem LF
theorem wd_ok (w : Wd) : cpsOk (wWd w) = true := by cases w <;> decide
theorem wd_beq (w v : Wd) : (wWd w == wWd v) = decide (w = v) := by cases w <;> cases v <;> decide
theorem eq_wd (st : Store) (w v : Wd) : eqD st (eWd w) (eWd v) = some (decide (w = v)) := by rw [eq_str st (wd_ok w) (wd_ok v), wd_beq]
theorem enumP_map2 {α β γ : Type} (f : Nat × α → Bool) (g : Nat → β) (l : List (Nat × α)) : (l.filter f).map (fun q => g q.1) = ((l.filter f).map (·.1)).map g := by rw [List.map_map]; rfl
theorem enumP_len {α : Type} : ∀ (i : Nat) (l : List α), (enumP i l).length = l.length
  | _, [] => rfl
  | i, _ :: r => by simp [enumP, enumP_len (i + 1) r]
theorem lw_who (k : Nat) (told : List Wd) (w : Wd) (c : Nat) (st : Store) (hc : st[c]? = some (.lst (told.map eWd))) (hl : told.length ≤ 100) : evCall P (k + 1) i_law_who [.ref c, eWd w] st = .ok (.lst (eNs (idxs told w))) st := by
  rw [call_of (fn := f_law_who) rfl]
  simp only [callBody, f_law_who, envOf, evSs, evS, evE, evEs, evIt]
  simp [srcOf, wipeE, hc]
  rw [enumD_P eWd 0 told, evLc_map (fun q => .tup [eN q.1, eWd q.2]) (fun q => decide (q.2 = w)) (fun q => eN q.1) (guard1 hc) (enumP 0 told) [] (by rw [enumP_len]; simp [LIM]; omega) (fun q hq => ⟨_, rfl, by
      simp only [evOc, evE, evEs]
      simp [cmp, eq_wd], fun _ => rfl⟩)]
  simp [mkL, idxs, eNs, Function.comp_def]
theorem lw_wanted (k : Nat) (l : Lf) (cs : List Cl) (s : Sst) (hd : List Nat) (c h : Nat) (st : Store) (hr : ∀ p ∈ s.r, p < cs.length) (hh : ∀ p ∈ hd, p < cs.length) (hso : s.r.Pairwise (· < ·)) (lr : s.r.length ≤ 10) (lh : hd.length ≤ 10) (hcs : cs.length ≤ 4)
    (hc : st[c]? = some (.lst ((toldOf cs s).map eWd))) (hhd : st[h]? = some (.lst (eNs hd))) :
    evCall P (k + 2) i_law_wanted [eCs cs, .ref c, .ref h, .int l.room] st = .ok (.lst ((wantedRaw l cs s hd).map eW)) st := by
  have hw := lw_who k (toldOf cs s) .rides c st hc (by simp [toldOf]; omega)
  rw [told_rides cs s hso hr] at hw
  rw [call_of (fn := f_law_wanted) rfl]
  simp only [callBody, f_law_wanted, envOf, evSs, evS, evE, evEs, evIt]
  simp [kn_call, show D.str [114, 105, 100, 101, 115] = eWd .rides from rfl, hw, srcOf, wipeE]
  rw [evLc_map eN (fun _ => true) (fun p => eW (p, (cAt cs p).b)) rfl s.r [] (by simp [LIM]; omega) (fun p hq => ⟨_, rfl, by simp [evOc], fun _ => by
      simp [item_call (hr p hq)]
      simp [idx, seqOf, lstOf, itemAt, ixI]⟩), filt_true]
  have e1 : s.r.map (fun p => eW (p, (cAt cs p).b)) = (s.r.map fun p => (p, (cAt cs p).b)).map eW := by rw [List.map_map]; rfl
  simp [mkL, asg, blt, seqOf, lstOf, cmp]
  by_cases hlt : (s.r.length : Int) < l.room
  · simp [hlt, hhd]
    rw [evLc_map eN (fun _ => true) (fun p => eW (p, (cAt cs p).a)) (guard1 hhd) hd [] (by simp [LIM]; omega) (fun p hq => ⟨_, rfl, by simp [evOc], fun _ => by
      simp [item_call (hh p hq)]
      simp [idx, seqOf, lstOf, itemAt, ixI]⟩), filt_true]
    have b : s.r.length + hd.length ≤ LIM := by simp [LIM]; omega
    unfold wantedRaw
    rw [if_pos hlt]
    simp [bin, mkL, b, Function.comp_def]
  · unfold wantedRaw
    rw [if_neg hlt]
    simp [hlt, Function.comp_def]
end K05

namespace K05
open AF PySem LF
def heardP (cs : List Cl) (m : Form) (n : Int) (p : Nat) : Bool := decide (0 ≤ worth (thenF cs m p) n)
/-- one caller: asked, then perhaps heard -/
theorem lw_called_body (k : Nat) (cs : List Cl) (m : Form) (n : Int) (a f : Nat) (L F : List D) (p : Nat) (told : Option D) (st : Store) (hc : CsOk cs) (hm : Small 100000 m) (hp : p < cs.length) (ha : st[a]? = some (.lst L)) (hf : st[f]? = some (.lst F)) (haf : a ≠ f) (hl : L.length < LIM) (hlF : F.length < LIM) :
    evSs (kn (k + 1)) f_law_called_b1 [some (eCs cs), told, some (eF m), some (.int n), some (.ref a), some (.ref f), some (eN p)] st =
      .ok .next [some (eCs cs), told, some (eF m), some (.int n), some (.ref a), some (.ref f), some (eN p)]
        (if heardP cs m n p then (st.set a (.lst (L ++ [eF (thenF cs m p)]))).set f (.lst (F ++ [eN p])) else st.set a (.lst (L ++ [eF (thenF cs m p)]))) := by
  have hal : a < st.length := (List.getElem?_eq_some_iff.mp ha).1
  have hfl : f < st.length := (List.getElem?_eq_some_iff.mp hf).1
  have hth : D.tup [.int m.1, .int (m.2 - (cAt cs p).t)] = eF (thenF cs m p) := by simp [thenF, fsub]
  have hset : (st.set a (.lst (L ++ [eF (thenF cs m p)])))[a]? = some (.lst (L ++ [eF (thenF cs m p)])) := List.getElem?_set_self hal
  have hf2 : (st.set a (.lst (L ++ [eF (thenF cs m p)])))[f]? = some (.lst F) := by rw [List.getElem?_set_ne haf]; exact hf
  have hap := app_ref (x := eF (thenF cs m p)) ha hl
  have hrc := recv_ref ha .append (.inl rfl)
  have hap2 := app_ref (x := eN p) hf2 hlF
  have hrc2 := recv_ref hf2 .append (.inl rfl)
  have hix := idx_last hset
  have hs := then_small hc hm hp
  have h1 : evS (kn (k + 1)) f_law_called_s1 [some (eCs cs), told, some (eF m), some (.int n), some (.ref a), some (.ref f), some (eN p)] st = .ok .next [some (eCs cs), told, some (eF m), some (.int n), some (.ref a), some (.ref f), some (eN p)] (st.set a (.lst (L ++ [eF (thenF cs m p)]))) := by
    simp only [f_law_called_s1, evS, evE, evEs]
    simp only [List.getElem?_cons_succ, List.getElem?_cons_zero, AF.R.bind_ok, hrc, if_true, item_call hp]
    simp only [idx, seqOf, lstOf, itemAt, ixI]
    simp [bin, hth, hap]
  rw [show f_law_called_b1 = .cons f_law_called_s1 (.cons f_law_called_s2 .nil) from rfl, ss_next h1]
  have hww := fun st => lw_worth k (thenF cs m p) n st (sm hs (by decide))
  generalize hst' : st.set a (.lst (L ++ [eF (thenF cs m p)])) = st' at *
  simp only [f_law_called_s2, evSs, evS, evE, evEs]
  simp [kn_call, hix, hww, cmp]
  by_cases h : 0 ≤ worth (thenF cs m p) n
  · simp [h, heardP, hrc2, hap2]
  · simp [h, heardP]
theorem lw_called (k : Nat) (cs : List Cl) (s : Sst) (m : Form) (n : Int) (c a : Nat) (L : List D) (st : Store) (hc : CsOk cs) (hm : Small 100000 m) (hcc : st[c]? = some (.lst ((toldOf cs s).map eWd))) (ha : st[a]? = some (.lst L)) (hl : L.length ≤ 900000) :
    evCall P (k + 2) i_law_called [eCs cs, .ref c, eF m, .int n, .ref a] st =
      .ok (.ref st.length) (st.set a (Ob.lst (L ++ (waiting cs s).map fun p => eF (thenF cs m p))) ++ [Ob.lst (eNs ((waiting cs s).filter (heardP cs m n)))]) := by
  have hal : a < st.length := (List.getElem?_eq_some_iff.mp ha).1
  have hcl : c < st.length := (List.getElem?_eq_some_iff.mp hcc).1
  have hset0 : st.set a (Ob.lst (L ++ [])) = st := by
    rw [List.append_nil]
    apply List.ext_getElem?
    intro i
    by_cases h : i = a
    · subst h; rw [List.getElem?_set_self hal, ha]
    · rw [List.getElem?_set_ne (Ne.symm h)]
  have hcc2 : (st ++ [Ob.lst []])[c]? = some (.lst ((toldOf cs s).map eWd)) := by rw [List.getElem?_append_left hcl]; exact hcc
  have hwho := lw_who k (toldOf cs s) .waits c (st ++ [Ob.lst []]) hcc2 (by simp [toldOf]; have := hc.1; omega)
  rw [told_waits] at hwho
  have hwl := waiting_len (s := s) hc
  obtain ⟨ρ', st', h1, h2, h3⟩ := evFor_preS (tg := .name 6) (body := evSs (kn (k + 1)) f_law_called_b1) eN
    (fun pre ρ st' => (∃ y6, ρ = [some (eCs cs), some (.ref c), some (eF m), some (.int n), some (.ref a), some (.ref st.length), y6]) ∧ st' = st.set a (Ob.lst (L ++ pre.map fun p => eF (thenF cs m p))) ++ [Ob.lst (eNs (pre.filter (heardP cs m n)))])
    (waiting cs s) [] [some (eCs cs), some (.ref c), some (eF m), some (.int n), some (.ref a), some (.ref st.length), none] (st ++ [Ob.lst []]) ⟨⟨none, rfl⟩, by rw [List.map_nil, hset0]; rfl⟩
    (fun p x q ρ st' e ⟨⟨y6, er⟩, es⟩ => by
      have e : waiting cs s = p ++ x :: q := e
      have hx : x < cs.length := waiting_lt (by rw [e]; simp : x ∈ waiting cs s)
      have hlp : p.length ≤ 4 := by
        have := congrArg List.length e
        simp at this; omega
      have hga : (st.set a (Ob.lst (L ++ p.map fun p => eF (thenF cs m p))) ++ [Ob.lst (eNs (p.filter (heardP cs m n)))])[a]? = some (.lst (L ++ p.map fun p => eF (thenF cs m p))) := by
        rw [List.getElem?_append_left (by rw [List.length_set]; exact hal), List.getElem?_set_self hal]
      have hgf : (st.set a (Ob.lst (L ++ p.map fun p => eF (thenF cs m p))) ++ [Ob.lst (eNs (p.filter (heardP cs m n)))])[st.length]? = some (.lst (eNs (p.filter (heardP cs m n)))) := by
        rw [List.getElem?_append_right (by rw [List.length_set]; exact Nat.le_refl _)]; simp
      have hb := lw_called_body k cs m n a st.length _ _ x (some (.ref c)) _ hc hm hx hga hgf (Nat.ne_of_lt hal) (by rw [List.length_append, List.length_map]; simp [LIM]; omega) (by rw [List.length_map]; have := List.length_filter_le (heardP cs m n) p; simp [LIM]; omega)
      subst er es
      refine ⟨_, _, _, rfl, hb, ⟨some (eN x), rfl⟩, ?_⟩
      have s1 : (st.set a (Ob.lst (L ++ p.map fun p => eF (thenF cs m p))) ++ [Ob.lst (eNs (p.filter (heardP cs m n)))]).set a (Ob.lst ((L ++ p.map fun p => eF (thenF cs m p)) ++ [eF (thenF cs m x)])) = st.set a (Ob.lst (L ++ (p ++ [x]).map fun p => eF (thenF cs m p))) ++ [Ob.lst (eNs (p.filter (heardP cs m n)))] := by
        rw [List.set_append_left _ _ (by rw [List.length_set]; exact hal), List.set_set, List.append_assoc, List.map_append]; rfl
      rw [s1]
      cases hx2 : heardP cs m n x with
      | true =>
        rw [if_pos rfl, List.set_append_right _ _ (by rw [List.length_set]; exact Nat.le_refl _)]
        simp [List.filter_append, hx2]
      | false =>
        rw [if_neg (by simp)]
        simp [List.filter_append, hx2])
  obtain ⟨y6, h2⟩ := h2
  subst h3
  rw [call_of (fn := f_law_called) rfl]
  refine body_ret (ρ' := ρ') rfl ?_
  rw [show f_law_called.body = .cons f_law_called_s3 (.cons f_law_called_s4 (.cons f_law_called_s5 .nil)) from rfl, show f_law_called.n = 7 from rfl]
  have g3 : evS (kn (k + 1)) f_law_called_s3 (AF.envOf 7 [eCs cs, .ref c, eF m, .int n, .ref a]) st = .ok .next [some (eCs cs), some (.ref c), some (eF m), some (.int n), some (.ref a), some (.ref st.length), none] (st ++ [Ob.lst []]) := rfl
  have g4 : evS (kn (k + 1)) f_law_called_s4 [some (eCs cs), some (.ref c), some (eF m), some (.int n), some (.ref a), some (.ref st.length), none] (st ++ [Ob.lst []]) = .ok .next ρ' (List.append (List.set st a (Ob.lst (L ++ ([] ++ waiting cs s).map fun p => eF (thenF cs m p)))) [Ob.lst (eNs (([] ++ waiting cs s).filter (heardP cs m n)))]) := by
    refine Eq.trans ?_ h1
    simp only [f_law_called_s4, evS, evIt, evE, evEs]
    simp [kn_call, show D.str [119, 97, 105, 116, 115] = eWd .waits from rfl, hwho, srcOf]
  rw [ss_next g3, ss_next g4]
  subst h2
  refine ss_ret ?_
  rfl
end K05

namespace K05
open AF PySem LF
theorem setI_tl {m : Nat} {f : Nat → Wd} {c p : Nat} {w : Wd} {st : Store} (hc : st[c]? = some (.lst ((tl m f).map eWd))) (hp : p < m) : setI (.ref c) (eN p) (eWd w) st = .ok () (st.set c (.lst ((tl m (updf f p w)).map eWd))) := by
  have hl : p < ((tl m f).map eWd).length := by rw [List.length_map, tl_len]; exact hp
  have h1 : ixI ((tl m f).map eWd).length (p : Int) = some p := by
    unfold ixI
    rw [if_pos (by omega), if_pos (by omega)]
    simp
  simp only [setI, hc, h1, tl_set]
/-- those who ride no more -/
theorem change1 (k : Nat) (c : Nat) (m : Nat) (f : Nat → Wd) (off : List Nat) (st : Store) (hc : st[c]? = some (.lst ((tl m f).map eWd))) (ho : ∀ p ∈ off, p < m) (x0 x2 x3 x4 x5 x6 x7 x8 : Option D) :
    ∃ y7, evFor [] (.name 7) (evSs (kn k) f_law_change_b1) (eNs off) [x0, some (.ref c), x2, x3, x4, x5, x6, x7, x8] st =
      .ok .next [x0, some (.ref c), x2, x3, x4, x5, x6, y7, x8] (st.set c (.lst ((tl m fun q => if q ∈ off then .there else f q).map eWd))) := by
  have hcl : c < st.length := (List.getElem?_eq_some_iff.mp hc).1
  have hset0 : st.set c (.lst ((tl m fun q => if q ∈ ([] : List Nat) then .there else f q).map eWd)) = st := by
    apply List.ext_getElem?
    intro i
    by_cases h : i = c
    · subst h; rw [List.getElem?_set_self hcl, hc]; simp
    · rw [List.getElem?_set_ne (Ne.symm h)]
  obtain ⟨ρ', st', h1, ⟨y7, h2⟩, h3⟩ := evFor_preS (tg := .name 7) (body := evSs (kn k) f_law_change_b1) eN
    (fun pre ρ st' => (∃ y7, ρ = [x0, some (.ref c), x2, x3, x4, x5, x6, y7, x8]) ∧ st' = st.set c (.lst ((tl m fun q => if q ∈ pre then .there else f q).map eWd)))
    off [] [x0, some (.ref c), x2, x3, x4, x5, x6, x7, x8] st ⟨⟨x7, rfl⟩, hset0.symm⟩
    (fun p x q ρ st' e ⟨⟨y7, er⟩, es⟩ => by
      have e : off = p ++ x :: q := e
      have hx : x < m := ho x (by rw [e]; simp)
      have hg : (st.set c (.lst ((tl m fun q => if q ∈ p then .there else f q).map eWd)))[c]? = some (.lst ((tl m fun q => if q ∈ p then .there else f q).map eWd)) := List.getElem?_set_self hcl
      have hs := setI_tl (w := .there) hg hx
      rw [List.set_set, tl_congr (f := updf (fun q => if q ∈ p then .there else f q) x .there) (g := fun q => if q ∈ p ++ [x] then .there else f q) (fun q _ => by
        unfold updf
        by_cases h1 : q = x
        · subst h1; simp
        · simp [h1])] at hs
      subst er es
      refine ⟨_, _, _, rfl, ?_, ⟨some (eN x), rfl⟩, rfl⟩
      generalize (tl m fun q => if q ∈ p ++ [x] then Wd.there else f q) = A at *
      generalize (tl m fun q => if q ∈ p then Wd.there else f q) = B at *
      simp only [f_law_change_b1, evSs, evS, evE]
      simp [show D.str [116, 104, 101, 114, 101] = eWd .there from rfl, hs])
  subst h2 h3
  exact ⟨y7, h1⟩
/-- how many fit in -/
def onP (cs : List Cl) (g : Flr) (K : Nat) (pre : List Nat) : List Nat := (pre.filter fun p => decide ((cAt cs p).a = g)).take K
theorem onP_snoc (cs : List Cl) (g : Flr) (K : Nat) (pre : List Nat) (x : Nat) : onP cs g K (pre ++ [x]) = if (cAt cs x).a = g ∧ (onP cs g K pre).length < K then onP cs g K pre ++ [x] else onP cs g K pre := by
  unfold onP
  rw [List.filter_append]
  by_cases h : (cAt cs x).a = g
  · have e : [x].filter (fun p => decide ((cAt cs p).a = g)) = [x] := by simp [h]
    rw [e, take_snoc]
    simp [h]
  · have e : [x].filter (fun p => decide ((cAt cs p).a = g)) = [] := by simp [h]
    rw [e, List.append_nil]
    simp [h]
/-- those who get on -/
theorem change2 (k : Nat) (cs : List Cl) (g : Flr) (c h : Nat) (f : Nat → Wd) (rest hd : List Nat) (room : Int) (st : Store) (hcs : cs.length ≤ 4)
    (hc : st[c]? = some (.lst ((tl cs.length f).map eWd))) (hh : st[h]? = some (.lst (eNs hd))) (hch : c ≠ h) (hhd : ∀ p ∈ hd, p < cs.length) (nhd : hd.Nodup) (nre : rest.Nodup) (hre : ∀ p ∈ rest, p < cs.length) (hdj : ∀ p ∈ hd, p ∉ rest)
    (hf : ∀ q, q < cs.length → (f q = .rides ↔ q ∈ rest)) (hro : (rest.length : Int) ≤ room) (x5 x6 x7 : Option D) :
    ∃ y7, evFor [(h, eNs hd)] (.name 7) (evSs (kn k) f_law_change_b2) (eNs hd) [some (eCs cs), some (.ref c), some (eFl g), some (.ref h), some (.int room), x5, x6, x7, some (.ref st.length)] (st ++ [.lst []]) =
      .ok .next [some (eCs cs), some (.ref c), some (eFl g), some (.ref h), some (.int room), x5, x6, y7, some (.ref st.length)]
        (st.set c (.lst ((tl cs.length fun q => if q ∈ onP cs g (room - rest.length).toNat hd then .rides else f q).map eWd)) ++ [Ob.lst (eNs (onP cs g (room - rest.length).toNat hd))]) := by
  have hcl : c < st.length := (List.getElem?_eq_some_iff.mp hc).1
  have hhl : h < st.length := (List.getElem?_eq_some_iff.mp hh).1
  generalize hK : (room - rest.length).toNat = K
  have hset0 : st.set c (.lst ((tl cs.length fun q => if q ∈ ([] : List Nat) then .rides else f q).map eWd)) = st := by
    apply List.ext_getElem?
    intro i
    by_cases h : i = c
    · subst h; rw [List.getElem?_set_self hcl, hc]; simp
    · rw [List.getElem?_set_ne (Ne.symm h)]
  have honil : onP cs g K [] = [] := by simp [onP]
  obtain ⟨ρ', st', h1, ⟨y7, h2⟩, _, h3⟩ := evFor_preG (gs := [(h, eNs hd)]) (tg := .name 7) (body := evSs (kn k) f_law_change_b2) eN
    (fun pre ρ st' => (∃ y7, ρ = [some (eCs cs), some (.ref c), some (eFl g), some (.ref h), some (.int room), x5, x6, y7, some (.ref st.length)]) ∧ (∃ q, hd = pre ++ q) ∧
      st' = st.set c (.lst ((tl cs.length fun q => if q ∈ onP cs g K pre then .rides else f q).map eWd)) ++ [Ob.lst (eNs (onP cs g K pre))])
    (fun p ρ st' ⟨_, _, es⟩ => by
      subst es
      refine guard1 ?_
      rw [List.getElem?_append_left (by rw [List.length_set]; exact hhl), List.getElem?_set_ne hch]
      exact hh)
    hd [] [some (eCs cs), some (.ref c), some (eFl g), some (.ref h), some (.int room), x5, x6, x7, some (.ref st.length)] (st ++ [.lst []]) ⟨⟨x7, rfl⟩, ⟨hd, rfl⟩, by rw [honil, hset0]; rfl⟩
    (fun p x q ρ st' e ⟨⟨y7, er⟩, _, es⟩ => by
      have e : hd = p ++ x :: q := e
      have hx : x < cs.length := hhd x (by rw [e]; simp)
      have hsub : ∀ y ∈ onP cs g K p, y ∈ hd := fun y hy => by
        rw [e]
        exact List.mem_append_left _ (List.mem_filter.mp (List.mem_of_mem_take hy)).1
      have ndp : (onP cs g K p).Nodup := by
        have h1 : p.Nodup := by rw [e] at nhd; exact (List.nodup_append.mp nhd).1
        exact List.Nodup.sublist (List.take_sublist _ _) (h1.filter _)
      have nd : (rest ++ onP cs g K p).Nodup := by
        rw [List.nodup_append]
        exact ⟨nre, ndp, fun a ha b hb e2 => hdj b (hsub b hb) (by rw [← e2]; exact ha)⟩
      have hcount : ((List.range cs.length).filter fun q => decide ((if q ∈ onP cs g K p then Wd.rides else f q) = .rides)).length = rest.length + (onP cs g K p).length := by
        rw [← List.length_append]
        refine count_mem nd (fun q hq => ?_) fun q hq => ?_
        · rcases List.mem_append.mp hq with z | z
          · exact hre q z
          · exact hhd q (hsub q z)
        · rw [List.mem_append, decide_eq_true_eq]
          by_cases z : q ∈ onP cs g K p
          · simp [z]
          · simp only [z, if_false, or_false]; exact hf q hq
      generalize hA : (fun q => if q ∈ onP cs g K p then Wd.rides else f q) = fA at *
      have hgc : (st.set c (.lst ((tl cs.length fA).map eWd)) ++ [Ob.lst (eNs (onP cs g K p))])[c]? = some (.lst ((tl cs.length fA).map eWd)) := by
        rw [List.getElem?_append_left (by rw [List.length_set]; exact hcl), List.getElem?_set_self hcl]
      have hcnt := count_plR (a := eWd .rides) (st.set c (.lst ((tl cs.length fA).map eWd)) ++ [Ob.lst (eNs (onP cs g K p))]) hgc (by decide) (by
        rw [List.all_eq_true]
        intro d hd
        obtain ⟨w, _, rfl⟩ := List.mem_map.mp hd
        exact wd_ok w)
      have hfA : ∀ q, (fA q = .rides) = ((if q ∈ onP cs g K p then Wd.rides else f q) = .rides) := fun q => by rw [← hA]
      rw [count_tl] at hcnt
      simp only [hfA] at hcnt
      rw [hcount] at hcnt
      have hrc := recv_ref hgc .count (.inr (.inl rfl))
      have hlt : ((rest.length + (onP cs g K p).length : Nat) : Int) < room ↔ (onP cs g K p).length < K := by omega
      have hset := setI_tl (w := .rides) hgc hx
      have hs1 : (st.set c (.lst ((tl cs.length fA).map eWd)) ++ [Ob.lst (eNs (onP cs g K p))]).set c (.lst ((tl cs.length (updf fA x .rides)).map eWd)) = st.set c (.lst ((tl cs.length (updf fA x .rides)).map eWd)) ++ [Ob.lst (eNs (onP cs g K p))] := by
        rw [List.set_append_left _ _ (by rw [List.length_set]; exact hcl), List.set_set]
      rw [hs1] at hset
      have hgo : (st.set c (.lst ((tl cs.length (updf fA x .rides)).map eWd)) ++ [Ob.lst (eNs (onP cs g K p))])[st.length]? = some (.lst (eNs (onP cs g K p))) := by
        rw [List.getElem?_append_right (by rw [List.length_set]; exact Nat.le_refl _)]; simp
      have hlen : (eNs (onP cs g K p)).length < LIM := by
        rw [List.length_map]
        have h1 := nodup_le cs.length (onP cs g K p) ndp fun q hq => hhd q (hsub q hq)
        simp [LIM]; omega
      have hap := app_ref (x := eN x) hgo hlen
      have hrc2 := recv_ref hgo .append (.inl rfl)
      have hs2 : (st.set c (.lst ((tl cs.length (updf fA x .rides)).map eWd)) ++ [Ob.lst (eNs (onP cs g K p))]).set st.length (.lst (eNs (onP cs g K p) ++ [eN x])) = st.set c (.lst ((tl cs.length (updf fA x .rides)).map eWd)) ++ [Ob.lst (eNs (onP cs g K p) ++ [eN x])] := by
        rw [List.set_append_right _ _ (by rw [List.length_set]; exact Nat.le_refl _)]; simp
      rw [hs2] at hap
      subst er es
      refine ⟨[some (eCs cs), some (.ref c), some (eFl g), some (.ref h), some (.int room), x5, x6, some (eN x), some (.ref st.length)], [some (eCs cs), some (.ref c), some (eFl g), some (.ref h), some (.int room), x5, x6, some (eN x), some (.ref st.length)], _, rfl, ?_, ⟨some (eN x), rfl⟩, ⟨q, by rw [e]; simp⟩, rfl⟩
      rw [onP_snoc]
      have hcntE := hcnt
      generalize hS : st.set c (.lst ((tl cs.length fA).map eWd)) ++ [Ob.lst (eNs (onP cs g K p))] = S at *
      have hA1 : evE (kn k) (.cmp .eq (.idx (.idx (.var 0) (.var 7)) (.int 1)) (.var 2)) [some (eCs cs), some (.ref c), some (eFl g), some (.ref h), some (.int room), x5, x6, some (eN x), some (.ref st.length)] S = .ok (.bl (decide ((cAt cs x).a = g))) S := by
        simp only [evE, List.getElem?_cons_succ, List.getElem?_cons_zero, AF.R.bind_ok, item_call hx]
        simp [idx, seqOf, lstOf, itemAt, ixI, cmp, eq_fl]
      have hB1 : evE (kn k) (.cmp .lt (.mth .count (.var 1) (.cons (.str [114, 105, 100, 101, 115]) .nil)) (.var 4)) [some (eCs cs), some (.ref c), some (eFl g), some (.ref h), some (.int room), x5, x6, some (eN x), some (.ref st.length)] S = .ok (.bl (decide ((onP cs g K p).length < K))) S := by
        simp only [evE, evEs, List.getElem?_cons_succ, List.getElem?_cons_zero, AF.R.bind_ok, hrc, if_true, show D.str [114, 105, 100, 101, 115] = eWd .rides from rfl, hcnt, cmp]
        congr 2
        exact decide_eq_decide.mpr hlt
      have hcond : evE (kn k) (.and (.cmp .eq (.idx (.idx (.var 0) (.var 7)) (.int 1)) (.var 2)) (.cmp .lt (.mth .count (.var 1) (.cons (.str [114, 105, 100, 101, 115]) .nil)) (.var 4))) [some (eCs cs), some (.ref c), some (eFl g), some (.ref h), some (.int room), x5, x6, some (eN x), some (.ref st.length)] S = .ok (.bl (decide ((cAt cs x).a = g ∧ (onP cs g K p).length < K))) S := by
        rw [evE, hA1, AF.R.bind_ok]
        by_cases q1 : (cAt cs x).a = g
        · simp only [q1, decide_true, true_and]; exact hB1
        · simp [q1]
      rw [show f_law_change_b2 = .cons (.ite (.and (.cmp .eq (.idx (.idx (.var 0) (.var 7)) (.int 1)) (.var 2)) (.cmp .lt (.mth .count (.var 1) (.cons (.str [114, 105, 100, 101, 115]) .nil)) (.var 4))) (.cons f_law_change_s1 (.cons f_law_change_s2 .nil)) .nil) .nil from rfl]
      rw [evSs, evS, hcond, lift_ok]
      by_cases q1 : (cAt cs x).a = g ∧ (onP cs g K p).length < K
      · rw [decide_eq_true q1, if_pos q1]
        have hfin : tl cs.length (updf fA x .rides) = tl cs.length (fun q => if q ∈ onP cs g K p ++ [x] then Wd.rides else f q) := tl_congr fun q _ => by
          unfold updf
          by_cases z : q = x
          · subst z; simp
          · simp only [if_neg z]
            rw [← hA]
            simp [z]
        rw [hfin] at hset hap hgo hrc2
        generalize st.set c (.lst ((tl cs.length fun q => if q ∈ onP cs g K p ++ [x] then Wd.rides else f q).map eWd)) = A2 at *
        have e2 : eNs (onP cs g K p ++ [x]) = eNs (onP cs g K p) ++ [eN x] := by simp
        rw [e2]
        have g1 : evS (kn k) f_law_change_s1 [some (eCs cs), some (.ref c), some (eFl g), some (.ref h), some (.int room), x5, x6, some (eN x), some (.ref st.length)] S = .ok .next [some (eCs cs), some (.ref c), some (eFl g), some (.ref h), some (.int room), x5, x6, some (eN x), some (.ref st.length)] (A2 ++ [Ob.lst (eNs (onP cs g K p))]) := by
          simp only [f_law_change_s1, evS, evE, List.getElem?_cons_succ, List.getElem?_cons_zero, lift_ok, show D.str [114, 105, 100, 101, 115] = eWd .rides from rfl, hset]
        have g2 : evS (kn k) f_law_change_s2 [some (eCs cs), some (.ref c), some (eFl g), some (.ref h), some (.int room), x5, x6, some (eN x), some (.ref st.length)] (A2 ++ [Ob.lst (eNs (onP cs g K p))]) = .ok .next [some (eCs cs), some (.ref c), some (eFl g), some (.ref h), some (.int room), x5, x6, some (eN x), some (.ref st.length)] (A2 ++ [Ob.lst (eNs (onP cs g K p) ++ [eN x])]) := by
          simp only [f_law_change_s2, evS, evE, evEs, List.getElem?_cons_succ, List.getElem?_cons_zero, AF.R.bind_ok, hrc2, if_true, hap, lift_ok]
        simp only
        rw [ss_next g1, ss_next g2]
        rfl
      · rw [decide_eq_false q1, if_neg q1]
        simp only [evSs]
        rw [← hS, ← hA])
  subst h2 h3
  exact ⟨y7, h1⟩
end K05

namespace K05
open AF PySem LF
def offP (cs : List Cl) (s : Sst) (g : Flr) : List Nat := s.r.filter fun p => decide ((cAt cs p).b = g)
def restP (cs : List Cl) (s : Sst) (g : Flr) : List Nat := s.r.filter fun p => !(offP cs s g).contains p
theorem mem_offP {cs : List Cl} {s : Sst} {g : Flr} {p : Nat} : p ∈ offP cs s g ↔ p ∈ s.r ∧ (cAt cs p).b = g := by simp [offP, List.mem_filter]
theorem mem_restP {cs : List Cl} {s : Sst} {g : Flr} {p : Nat} : p ∈ restP cs s g ↔ p ∈ s.r ∧ p ∉ offP cs s g := by simp [restP, List.mem_filter]
def wd2 (cs : List Cl) (s : Sst) (g : Flr) (K : Nat) (hd : List Nat) (q : Nat) : Wd := if q ∈ onP cs g K hd then .rides else if q ∈ offP cs s g then .there else wdOf s q
theorem lw_change (k : Nat) (l : Lf) (cs : List Cl) (i : Nat) (s : Sst) (g : Flr) (c h : Nat) (hd : List Nat) (st : Store) (hcs : CsOk cs) (g0 : Good l cs i s)
    (hc : st[c]? = some (.lst ((toldOf cs s).map eWd))) (hh : st[h]? = some (.lst (eNs hd))) (hch : c ≠ h) (hhd : ∀ p ∈ hd, p ∈ waiting cs s) (nhd : hd.Nodup) :
    evCall P (k + 2) i_law_change [eCs cs, .ref c, eFl g, .ref h, .int l.room] st =
      .ok (.tup [.tup (eNs (offP cs s g)), .tup (eNs (onP cs g (l.room - (restP cs s g).length).toNat hd))])
        (st.set c (.lst ((tl cs.length (wd2 cs s g (l.room - (restP cs s g).length).toNat hd)).map eWd)) ++ [Ob.lst (eNs (onP cs g (l.room - (restP cs s g).length).toNat hd))]) := by
  have hcl : c < st.length := (List.getElem?_eq_some_iff.mp hc).1
  have hr : ∀ p ∈ s.r, p < cs.length := fun p hp => g0.lt p (List.mem_append_left _ hp)
  have hlen := g0.len hcs
  have hw := lw_who k (toldOf cs s) .rides c st hc (by simp [toldOf]; have := hcs.1; omega)
  rw [told_rides cs s g0.so hr] at hw
  have hl4 := hcs.1
  -- off
  have e3 : evS (kn (k + 1)) f_law_change_s3 (AF.envOf 9 [eCs cs, .ref c, eFl g, .ref h, .int l.room]) st = .ok .next [some (eCs cs), some (.ref c), some (eFl g), some (.ref h), some (.int l.room), some (.lst (eNs (offP cs s g))), none, none, none] st := by
    simp only [f_law_change_s3, evS, evE, evEs, evIt, envOf]
    simp [kn_call, show D.str [114, 105, 100, 101, 115] = eWd .rides from rfl, hw, srcOf, wipeE]
    rw [evLc_map eN (fun p => decide ((cAt cs p).b = g)) eN rfl s.r [] (by simp [LIM]; omega) (fun p hq => ⟨_, rfl, by
      simp only [evOc, evE, evEs]
      simp [item_call (hr p hq)]
      simp [idx, seqOf, lstOf, itemAt, ixI, cmp, eq_fl], fun _ => rfl⟩)]
    rfl
  obtain ⟨y7, h1⟩ := change1 (k + 1) c cs.length (wdOf s) (offP cs s g) st hc (fun p hp => hr p (mem_offP.mp hp).1) (some (eCs cs)) (some (eFl g)) (some (.ref h)) (some (.int l.room)) (some (.lst (eNs (offP cs s g)))) none none none
  generalize hst1 : st.set c (.lst ((tl cs.length fun q => if q ∈ offP cs s g then Wd.there else wdOf s q).map eWd)) = st1 at *
  have len1 : st1.length = st.length := by rw [← hst1, List.length_set]
  have hc1 : st1[c]? = some (.lst ((tl cs.length fun q => if q ∈ offP cs s g then Wd.there else wdOf s q).map eWd)) := by rw [← hst1]; exact List.getElem?_set_self hcl
  have hh1 : st1[h]? = some (.lst (eNs hd)) := by rw [← hst1, List.getElem?_set_ne hch]; exact hh
  have hf : ∀ q, q < cs.length → ((fun q => if q ∈ offP cs s g then Wd.there else wdOf s q) q = .rides ↔ q ∈ restP cs s g) := fun q _ => by
    simp only [mem_restP, wdOf]
    by_cases z1 : q ∈ offP cs s g
    · simp [z1]
    · by_cases z2 : q ∈ s.r
      · simp [z1, z2]
      · by_cases z3 : q ∈ s.th <;> simp [z1, z2, z3]
  have hrl : (restP cs s g).length ≤ s.r.length := List.length_filter_le _ _
  obtain ⟨z7, h2⟩ := change2 (k + 1) cs g c h _ (restP cs s g) hd l.room st1 hcs.1 hc1 hh1 hch (fun p hp => (mem_waiting.mp (hhd p hp)).1) nhd ((List.nodup_append.mp g0.nd).1.filter _) (fun p hp => hr p (mem_restP.mp hp).1)
    (fun p hp hq => (mem_waiting.mp (hhd p hp)).2.1 (mem_restP.mp hq).1) hf (by have := g0.rm; omega) (some (.lst (eNs (offP cs s g)))) none y7
  have hset2 : st1.set c (.lst ((tl cs.length fun q => if q ∈ onP cs g (l.room - (restP cs s g).length).toNat hd then Wd.rides else (fun q => if q ∈ offP cs s g then Wd.there else wdOf s q) q).map eWd)) = st.set c (.lst ((tl cs.length (wd2 cs s g (l.room - (restP cs s g).length).toNat hd)).map eWd)) := by
    rw [← hst1, List.set_set]; rfl
  rw [hset2] at h2
  rw [call_of (fn := f_law_change) rfl]
  refine body_ret (ρ' := [some (eCs cs), some (.ref c), some (eFl g), some (.ref h), some (.int l.room), some (.lst (eNs (offP cs s g))), none, z7, some (.ref st1.length)]) rfl ?_
  rw [show f_law_change.body = .cons f_law_change_s3 (.cons f_law_change_s4 (.cons f_law_change_s5 (.cons f_law_change_s6 (.cons f_law_change_s7 .nil)))) from rfl, show f_law_change.n = 9 from rfl]
  have e4 : evS (kn (k + 1)) f_law_change_s4 [some (eCs cs), some (.ref c), some (eFl g), some (.ref h), some (.int l.room), some (.lst (eNs (offP cs s g))), none, none, none] st = .ok .next [some (eCs cs), some (.ref c), some (eFl g), some (.ref h), some (.int l.room), some (.lst (eNs (offP cs s g))), none, y7, none] st1 := h1
  have e5 : evS (kn (k + 1)) f_law_change_s5 [some (eCs cs), some (.ref c), some (eFl g), some (.ref h), some (.int l.room), some (.lst (eNs (offP cs s g))), none, y7, none] st1 = .ok .next [some (eCs cs), some (.ref c), some (eFl g), some (.ref h), some (.int l.room), some (.lst (eNs (offP cs s g))), none, y7, some (.ref st1.length)] (st1 ++ [.lst []]) := rfl
  have hh2 : (st1 ++ [Ob.lst []])[h]? = some (.lst (eNs hd)) := by rw [List.getElem?_append_left (List.getElem?_eq_some_iff.mp hh1).1]; exact hh1
  have e6 : evS (kn (k + 1)) f_law_change_s6 [some (eCs cs), some (.ref c), some (eFl g), some (.ref h), some (.int l.room), some (.lst (eNs (offP cs s g))), none, y7, some (.ref st1.length)] (st1 ++ [.lst []]) = .ok .next [some (eCs cs), some (.ref c), some (eFl g), some (.ref h), some (.int l.room), some (.lst (eNs (offP cs s g))), none, z7, some (.ref st1.length)]
      (st.set c (.lst ((tl cs.length (wd2 cs s g (l.room - (restP cs s g).length).toNat hd)).map eWd)) ++ [Ob.lst (eNs (onP cs g (l.room - (restP cs s g).length).toNat hd))]) := by
    refine Eq.trans ?_ h2
    simp only [f_law_change_s6, evS, evIt, evE]
    simp [srcOf, hh2]
  rw [ss_next e3, ss_next e4, ss_next e5, ss_next e6]
  refine ss_ret ?_
  have hgo : (st.set c (.lst ((tl cs.length (wd2 cs s g (l.room - (restP cs s g).length).toNat hd)).map eWd)) ++ [Ob.lst (eNs (onP cs g (l.room - (restP cs s g).length).toNat hd))])[st1.length]? = some (.lst (eNs (onP cs g (l.room - (restP cs s g).length).toNat hd))) := by
    rw [len1, List.getElem?_append_right (by rw [List.length_set]; exact Nat.le_refl _)]; simp
  generalize (st.set c (.lst ((tl cs.length (wd2 cs s g (l.room - (restP cs s g).length).toNat hd)).map eWd)) ++ [Ob.lst (eNs (onP cs g (l.room - (restP cs s g).length).toNat hd))]) = S2 at *
  simp only [f_law_change_s7, evS, evE, evEs]
  simp [blt, lstOf, hgo]
end K05

namespace K05
open AF PySem LF
def envT (l : Lf) (cs : List Cl) (n : Int) (a sp c : Nat) (fl : Flr) (up : Bool) (m e : Form) (x14 x15 x16 x17 x18 x19 x20 x21 : Option D) : AF.Env :=
  [some (eLf l), some (eCs cs), some (.int n), some (.ref a), some (.str (wRule l.rule)), some (.int l.room), some (.int l.halt), some (.int l.pace), some (eFl fl), some (.str (wUp up)), some (eF m), some (.ref sp), some (eF e), some (.ref c), x14, x15, x16, x17, x18, x19, x20, x21]
section
variable (k : Nat) (l : Lf) (cs : List Cl) (n : Int) (a sp c : Nat) (s : Sst) (fl : Flr) (up : Bool) (m e : Form) (st : Store) (x14 x15 x16 x17 x18 x19 x20 x21 : Option D)
theorem ts12 (L : List D) (hc : CsOk cs) (hm : Small 100000 m) (hcc : st[c]? = some (.lst ((toldOf cs s).map eWd))) (ha : st[a]? = some (.lst L)) (hl : L.length ≤ 900000) :
    evS (kn (k + 2)) f_law_traced_s12 (envT l cs n a sp c fl up m e x14 x15 x16 x17 x18 x19 x20 x21) st =
      .ok .next (envT l cs n a sp c fl up m e (some (.ref st.length)) x15 x16 x17 x18 x19 x20 x21) (st.set a (.lst (L ++ (waiting cs s).map fun p => eF (thenF cs m p))) ++ [Ob.lst (eNs ((waiting cs s).filter (heardP cs m n)))]) := by
  have h := lw_called k cs s m n c a L st hc hm hcc ha hl
  simp only [f_law_traced_s12, evS, evE, evEs, envT]
  simp [kn_call, h, asg]
theorem ts8 (L : List D) (hc : CsOk cs) (hm : Small 100000 m) (hcc : st[c]? = some (.lst ((toldOf cs s).map eWd))) (ha : st[a]? = some (.lst L)) (hl : L.length ≤ 900000) :
    evS (kn (k + 2)) f_law_traced_s8 (envT l cs n a sp c fl up m e x14 x15 x16 x17 x18 x19 x20 x21) st =
      .ok .next (envT l cs n a sp c fl up m e (some (.ref st.length)) x15 x16 x17 x18 x19 x20 x21) (st.set a (.lst (L ++ (waiting cs s).map fun p => eF (thenF cs m p))) ++ [Ob.lst (eNs ((waiting cs s).filter (heardP cs m n)))]) := by
  have h := lw_called k cs s m n c a L st hc hm hcc ha hl
  simp only [f_law_traced_s8, evS, evE, evEs, envT]
  simp [kn_call, h, asg]
theorem ts13 (h : Nat) (hd : List Nat) (hr : ∀ p ∈ s.r, p < cs.length) (hh : ∀ p ∈ hd, p < cs.length) (hso : s.r.Pairwise (· < ·)) (lr : s.r.length ≤ 10) (lh : hd.length ≤ 10) (hcs : cs.length ≤ 4)
    (hc : st[c]? = some (.lst ((toldOf cs s).map eWd))) (hhd : st[h]? = some (.lst (eNs hd))) :
    evS (kn (k + 2)) f_law_traced_s13 (envT l cs n a sp c fl up m e (some (.ref h)) x15 x16 x17 x18 x19 x20 x21) st = .ok .next (envT l cs n a sp c fl up m e (some (.ref h)) (some (.lst ((wantedRaw l cs s hd).map eW))) x16 x17 x18 x19 x20 x21) st := by
  have hw := lw_wanted k l cs s hd c h st hr hh hso lr lh hcs hc hhd
  simp only [f_law_traced_s13, evS, evE, evEs, envT]
  simp [kn_call, hw, asg]
theorem ts3 (r0 : Nat × Flr) (raw : List (Nat × Flr)) (L : List D) (hf : s.fl.ok) (hn : 8 ≤ n) (hw : ∀ x ∈ r0 :: raw, x.2.ok) (nd : ((r0 :: raw).map (·.1)).Nodup) (hl8 : (r0 :: raw).length ≤ 50) (ha : st[a]? = some (.lst L)) (hl : L.length ≤ 900000) :
    evS (kn (k + 4)) f_law_traced_s3 (envT l cs n a sp c s.fl s.up m e x14 (some (.lst ((r0 :: raw).map eW))) x16 x17 x18 x19 x20 x21) st =
      .ok .next (envT l cs n a sp c s.fl s.up m e x14 (some (.lst ((r0 :: raw).map eW))) x16 x17 x18 (some (eFl (goalOf l.rule s (sortW (r0 :: raw)) n).1)) x20 x21) (st.set a (.lst (L ++ (lawForms l.rule s (sortW (r0 :: raw)) n).map eF))) := by
  have h := lw_goal k l.rule s r0 raw n a L st hf hn hw nd hl8 ha hl
  generalize (r0 :: raw).map eW = RW at *
  simp only [f_law_traced_s3, evS, evE, evEs, envT]
  simp [kn_call, h, asg]
theorem ts4 (g : Flr) : evS (kn (k + 2)) f_law_traced_s4 (envT l cs n a sp c fl up m e x14 x15 x16 x17 x18 (some (eFl g)) x20 x21) st = .ok .next (envT l cs n a sp c fl up m e x14 x15 x16 x17 x18 (some (eFl g)) (some (eF (way fl g n))) x21) st := by
  have h := lw_far k fl g n st
  simp only [f_law_traced_s4, evS, evE, evEs, envT]
  simp [kn_call, h, asg]
theorem wds_all (l : List Wd) : (l.map eWd).all (plD 23) = true := by
  rw [List.all_eq_true]
  intro d hd
  obtain ⟨w, _, rfl⟩ := List.mem_map.mp hd
  exact wd_ok w
theorem in_told (w : Wd) (told : List Wd) (hc : st[c]? = some (.lst (told.map eWd))) : inD st (eWd w) (.ref c) = some (decide (idxs told w ≠ [])) := by
  rw [inD_plR st hc (show plD 23 (eWd w) = true from wd_ok w) (wds_all told)]
  congr 1
  rw [List.any_map, Bool.eq_iff_iff, List.any_eq_true, decide_eq_true_eq]
  constructor
  · rintro ⟨v, hv, hb⟩ e
    obtain ⟨i, hi, rfl⟩ := List.mem_iff_getElem.mp hv
    have : told[i] = w := by
      simp only [Function.comp, D.beq, wd_beq, decide_eq_true_eq] at hb
      exact hb
    have hm : i ∈ idxs told w := mem_idxs.mpr (by rw [List.getElem?_eq_getElem hi, this])
    rw [e] at hm; cases hm
  · intro h
    cases e : idxs told w with
    | nil => exact absurd e h
    | cons i r =>
      have hm : i ∈ idxs told w := by rw [e]; exact List.mem_cons_self
      have h2 := mem_idxs.mp hm
      refine ⟨w, List.mem_of_getElem? h2, ?_⟩
      simp [D.beq]
theorem ts5 (f : Form) (hr : ∀ p ∈ s.r, p < cs.length) (hso : s.r.Pairwise (· < ·)) (hc : st[c]? = some (.lst ((toldOf cs s).map eWd))) : evS (kn (k + 1)) f_law_traced_s5 (envT l cs n a sp c fl up m e x14 x15 x16 x17 x18 x19 (some (eF f)) x21) st =
    .ok .next (envT l cs n a sp c fl up m (if s.r = [] then fadd e f else e) x14 x15 x16 x17 x18 x19 (some (eF f)) x21) st := by
  have h := lw_plus k e f 1 st (by decide)
  rw [fplus_one] at h
  have hi := in_told c st .rides (toldOf cs s) hc
  rw [told_rides cs s hso hr] at hi
  simp only [f_law_traced_s5, evS, evE, evEs, envT]
  simp [kn_call, h, show D.str [114, 105, 100, 101, 115] = eWd .rides from rfl, cmp, hi]
  by_cases z : s.r = [] <;> simp [z, asg]
theorem ts6 (g : Flr) (hf : fl.ok) (hg : g.ok) (hn : 8 ≤ n) : evS (kn (k + 1)) f_law_traced_s6 (envT l cs n a sp c fl up m e x14 x15 x16 x17 x18 (some (eFl g)) x20 x21) st =
    .ok .next (envT l cs n a sp c fl (if g ≠ fl then decide (0 < worth (far fl g) n) else up) m e x14 x15 x16 x17 x18 (some (eFl g)) x20 x21) st := by
  have h1 := lw_at k g n st
  have h2 := lw_at k fl n st
  have hw := worth_far fl g n
  simp only [f_law_traced_s6, evSs, evS, evE, evEs, envT]
  simp [kn_call, h1, h2, cmp, eq_fl]
  by_cases z : g = fl
  · simp [z]
  · by_cases y : fl.at n < g.at n
    · have : 0 < worth (far fl g) n := by omega
      simp [z, y, this, asg, wUp]
    · have : ¬ 0 < worth (far fl g) n := by omega
      simp [z, y, this, asg, wUp]
theorem ts7 (g : Flr) (f : Form) (hl : l.ok) : evS (kn (k + 1)) f_law_traced_s7 (envT l cs n a sp c fl up m e x14 x15 x16 x17 x18 (some (eFl g)) (some (eF f)) x21) st =
    .ok .next (envT l cs n a sp c g up (fadd m (fmul f l.pace)) e x14 x15 x16 x17 x18 (some (eFl g)) (some (eF f)) x21) st := by
  have hp : small64 l.pace = true := small_of (b := 10) (by have := hl.2.2.2.2.1; omega) (by have := hl.2.2.2.2.2.1; omega) (by decide)
  have h := lw_plus k m f l.pace st hp
  rw [fplus_mul] at h
  simp only [f_law_traced_s7, evS, evE, evEs, envT]
  simp [kn_call, h, asg, asgs]
theorem ts11 (hl : l.ok) : evS (kn (k + 1)) f_law_traced_s11 (envT l cs n a sp c fl up m e x14 x15 x16 x17 x18 x19 x20 x21) st = .ok .next (envT l cs n a sp c fl up (fadd m (0, l.halt)) e x14 x15 x16 x17 x18 x19 x20 x21) st := by
  have hp : small64 l.halt = true := small_of (b := 20) (by have := hl.2.2.1; omega) (by have := hl.2.2.2.1; omega) (by decide)
  have h := lw_plus k m (0, 1) l.halt st hp
  have e1 : fplus m (0, 1) l.halt = fadd m (0, l.halt) := by simp [fplus, fadd]
  rw [e1] at h
  simp only [f_law_traced_s11, evS, evE, evEs, envT]
  simp [kn_call, h, asg]
theorem ts10 (fl : Flr) (stops : List Stop) (off on : List Nat) (hs : st[sp]? = some (.lst (stops.map eStop))) (hl : stops.length ≤ 1000) : evS (kn k) f_law_traced_s10 (envT l cs n a sp c fl up m e x14 x15 x16 x17 x18 x19 x20 (some (.tup [.tup (eNs off), .tup (eNs on)]))) st =
    .ok .next (envT l cs n a sp c fl up m e x14 x15 x16 x17 x18 x19 x20 (some (.tup [.tup (eNs off), .tup (eNs on)]))) (st.set sp (.lst ((stops ++ [Stop.mk fl m off on]).map eStop))) := by
  have hrc := recv_ref hs .append (.inl rfl)
  have hap := app_ref (x := eStop (Stop.mk fl m off on)) hs (by rw [List.length_map]; simp [LIM]; omega)
  have e1 : (stops ++ [Stop.mk fl m off on]).map eStop = stops.map eStop ++ [eStop (Stop.mk fl m off on)] := by simp
  rw [e1]
  have a2 : bin .add false (.tup [eFl fl, eF m]) (.tup [.tup (eNs off), .tup (eNs on)]) st = .ok (eStop (Stop.mk fl m off on)) st := add_tup (by simp [LIM])
  simp only [f_law_traced_s10, evS, evE, evEs, envT]
  simp [hrc, a2, hap]
end
end K05

namespace K05
open AF PySem LF
section
variable (k : Nat) (l : Lf) (cs : List Cl) (n : Int) (a sp c : Nat) (s : Sst) (fl : Flr) (up : Bool) (m e : Form) (st : Store) (x14 x15 x16 x17 x18 x19 x20 x21 : Option D)
theorem ts9 (i h : Nat) (hd : List Nat) (hcs : CsOk cs) (g0 : Good l cs i s) (hc : st[c]? = some (.lst ((toldOf cs s).map eWd))) (hh : st[h]? = some (.lst (eNs hd))) (hch : c ≠ h) (hhd : ∀ p ∈ hd, p ∈ waiting cs s) (nhd : hd.Nodup) :
    evS (kn (k + 2)) f_law_traced_s9 (envT l cs n a sp c fl up m e (some (.ref h)) x15 x16 x17 x18 x19 x20 x21) st =
      .ok .next (envT l cs n a sp c fl up m e (some (.ref h)) x15 x16 x17 x18 x19 x20 (some (.tup [.tup (eNs (offP cs s fl)), .tup (eNs (onP cs fl (l.room - (restP cs s fl).length).toNat hd))])))
        (st.set c (.lst ((tl cs.length (wd2 cs s fl (l.room - (restP cs s fl).length).toNat hd)).map eWd)) ++ [Ob.lst (eNs (onP cs fl (l.room - (restP cs s fl).length).toNat hd))]) := by
  have hw := lw_change k l cs i s fl c h hd st hcs g0 hc hh hch hhd nhd
  simp only [f_law_traced_s9, evS, evE, evEs, envT]
  simp [kn_call, hw, asg]
theorem in_NsR (p : Nat) (r : List Nat) (h : Nat) (hh : st[h]? = some (.lst (eNs r))) : inD st (eN p) (.ref h) = some (r.contains p) := by
  rw [inD_plR st hh rfl (all_Ns 22 r), any_Ns]
theorem ts1 (h : Nat) (hd : List Nat) (hcs : CsOk cs) (hc : st[c]? = some (.lst ((toldOf cs s).map eWd))) (hh : st[h]? = some (.lst (eNs hd))) :
    evS (kn (k + 1)) f_law_traced_s1 (envT l cs n a sp c fl up m e (some (.ref h)) x15 x16 x17 x18 x19 x20 x21) st =
      .ok .next (envT l cs n a sp c fl up m e (some (.ref h)) x15 (some (.lst (eNs (late cs s hd)))) x17 x18 x19 x20 x21) st := by
  have hw := lw_who k (toldOf cs s) .waits c st hc (by simp [toldOf]; have := hcs.1; omega)
  rw [told_waits] at hw
  have hwl := waiting_len (s := s) hcs
  simp only [f_law_traced_s1, evS, evE, evEs, evIt, envT]
  simp [kn_call, show D.str [119, 97, 105, 116, 115] = eWd .waits from rfl, hw, srcOf, wipeE]
  rw [evLc_map eN (fun p => !hd.contains p) eN rfl (waiting cs s) [] (by simp [LIM]; omega) (fun p hq => ⟨_, rfl, by
      simp only [evOc, evE, evEs]
      simp [cmp, in_NsR st p hd h hh], fun _ => rfl⟩)]
  rfl
theorem ts2 (hd : List Nat) (t : Int) (hcs : CsOk cs) (ht : nextMin cs s hd = some t) :
    evS (kn k) f_law_traced_s2 (envT l cs n a sp c fl up m e x14 x15 (some (.lst (eNs (late cs s hd)))) x17 x18 x19 x20 x21) st =
      .ok .next (envT l cs n a sp c fl up (0, t) e x14 x15 (some (.lst (eNs (late cs s hd)))) x17 x18 x19 x20 x21) st := by
  have hlen : (late cs s hd).length ≤ 60 := Nat.le_trans (List.length_filter_le _ _) (by have := waiting_len (s := s) hcs; omega)
  have hi := ints_map (fun p => (cAt cs p).t) (late cs s hd)
  have hlt : ∀ p ∈ late cs s hd, p < cs.length := fun p hp => late_lt hp
  unfold nextMin at ht
  generalize late cs s hd = L at *
  simp only [f_law_traced_s2, evS, evE, evEs, evIt, envT]
  simp [srcOf, wipeE]
  rw [evLc_map eN (fun _ => true) (fun p => D.int (cAt cs p).t) rfl L [] (by simp [LIM]; omega) (fun p hq => ⟨_, rfl, by simp [evOc], fun _ => by
      simp [item_call (hlt p hq)]
      simp [idx, seqOf, lstOf, itemAt, ixI, blt]⟩), filt_true]
  simp [mkL, blt, lstOf, show L.length ≤ LIM from Nat.le_trans hlen (by decide), minD, hi, ht, asg]
/-- does the law's loop go on -/
theorem tcond (hr : ∀ p ∈ s.r, p < cs.length) (hso : s.r.Pairwise (· < ·)) (hc : st[c]? = some (.lst ((toldOf cs s).map eWd))) :
    evE (kn k) (.or (.cmp .isin (.str [119, 97, 105, 116, 115]) (.var 13)) (.cmp .isin (.str [114, 105, 100, 101, 115]) (.var 13))) (envT l cs n a sp c fl up m e x14 x15 x16 x17 x18 x19 x20 x21) st = .ok (.bl (decide (waiting cs s ≠ [] ∨ s.r ≠ []))) st := by
  have h1 := in_told c st .waits (toldOf cs s) hc
  have h2 := in_told c st .rides (toldOf cs s) hc
  rw [told_waits] at h1
  rw [told_rides cs s hso hr] at h2
  simp only [evE, envT]
  simp [show D.str [119, 97, 105, 116, 115] = eWd .waits from rfl, show D.str [114, 105, 100, 101, 115] = eWd .rides from rfl, cmp, h1, h2]
  by_cases z : waiting cs s = [] <;> simp [z]
end
/-- told behind a stop -/
theorem told_stop {l : Lf} {cs : List Cl} {i : Nat} {s : Sst} {n : Int} (g0 : Good l cs i s) (s1 : Sst) (e1 : s1.r = s.r) (e2 : s1.th = s.th) (e3 : s1.m = s.m) (e4 : s1.fl = s.fl) (g : Flr) :
    let m1 := fadd s.m (fmul (way s.fl g n) l.pace)
    let hd := (waiting cs s).filter (heardP cs m1 n)
    let K := (l.room - (restP cs s g).length).toNat
    tl cs.length (wd2 cs s g K hd) = toldOf cs (stopAt l cs s1 g n).1 ∧ (stopAt l cs s1 g n).2.1 = Stop.mk g m1 (offP cs s g) (onP cs g K hd) := by
  have hwt : waiting cs s1 = waiting cs s := by unfold waiting; rw [e1, e2]
  have hon : onP cs g (l.room - (restP cs s g).length).toNat ((waiting cs s).filter (heardP cs (fadd s.m (fmul (way s.fl g n) l.pace)) n)) =
      (((waiting cs s).filter fun p => decide ((cAt cs p).a = g)).filter fun p => decide (0 ≤ worth (thenF cs (fadd s.m (fmul (way s.fl g n) l.pace)) p) n)).take (l.room - (restP cs s g).length).toNat := by
    unfold onP
    rw [List.filter_filter, List.filter_filter]
    congr 1
    apply List.filter_congr
    intro p _
    rw [Bool.and_comm]; rfl
  have hst2 : (stopAt l cs s1 g n).2.1 = Stop.mk g (fadd s.m (fmul (way s.fl g n) l.pace)) (offP cs s g) (onP cs g (l.room - (restP cs s g).length).toNat ((waiting cs s).filter (heardP cs (fadd s.m (fmul (way s.fl g n) l.pace)) n))) := by
    rw [hon]
    simp only [stopAt, e1, e3, e4, hwt]
    rfl
  refine ⟨?_, hst2⟩
  show tl _ _ = tl _ _
  refine tl_congr fun q hq => ?_
  have hr' : (stopAt l cs s1 g n).1.r = sortN (restP cs s g ++ onP cs g (l.room - (restP cs s g).length).toNat ((waiting cs s).filter (heardP cs (fadd s.m (fmul (way s.fl g n) l.pace)) n))) := by
    rw [hon]
    simp only [stopAt, e1, e3, e4, hwt]
    rfl
  have ht' : (stopAt l cs s1 g n).1.th = s.th ++ offP cs s g := by
    simp only [stopAt, e1, e2]
    rfl
  unfold wd2 wdOf
  rw [hr', ht']
  simp only [(sortN_perm _).mem_iff, List.mem_append]
  generalize hO : onP cs g (l.room - (restP cs s g).length).toNat ((waiting cs s).filter (heardP cs (fadd s.m (fmul (way s.fl g n) l.pace)) n)) = O
  by_cases q1 : q ∈ O
  · simp [q1]
  · simp only [q1, if_false, or_false, mem_restP]
    by_cases q2 : q ∈ offP cs s g
    · simp [q2]
    · by_cases q3 : q ∈ s.r
      · simp [q2, q3]
      · simp [q2, q3]
end K05

namespace K05
open AF PySem LF
structure TI (cs : List Cl) (s : Sst) (stops : List Stop) (a sp c i : Nat) (st : Store) : Prop where
  ha : ∃ L, st[a]? = some (.lst L) ∧ L.length ≤ 30 * i
  hs : st[sp]? = some (.lst (stops.map eStop))
  hc : st[c]? = some (.lst ((toldOf cs s).map eWd))
theorem ite_yes {kn : Kn} {c : E} {a b : Ss} {ρ : AF.Env} {st : Store} (h : evE kn c ρ st = .ok (.bl true) st) : evS kn (.ite c a b) ρ st = evSs kn a ρ st := by
  simp only [evS, h]; rfl
theorem ite_no {kn : Kn} {c : E} {a b : Ss} {ρ : AF.Env} {st : Store} (h : evE kn c ρ st = .ok (.bl false) st) : evS kn (.ite c a b) ρ st = evSs kn b ρ st := by
  simp only [evS, h]; rfl
theorem lawForms_len {rl : Rule} {s : Sst} {w : List (Nat × Flr)} {n : Int} : (lawForms rl s w n).length ≤ w.length + 1 := by
  have h := goal_len (s := s) (n := n) rl w
  unfold lawForms
  cases rl <;> simp <;> omega
section
variable (k : Nat) (l : Lf) (cs : List Cl) (n : Int) (a sp c : Nat) (s : Sst) (fl : Flr) (up : Bool) (m e : Form) (st : Store) (x14 x15 x16 x17 x18 x19 x20 x21 : Option D)
theorem all_Ws (r : List (Nat × Flr)) : (r.map eW).all (plD 22) = true := by
  rw [List.all_eq_true]
  intro d hd
  obtain ⟨w, _, rfl⟩ := List.mem_map.mp hd
  have := pl_fl 19 w.2
  simp only [plD, List.all_cons, List.all_nil, Bool.and_true, Bool.true_and] at this ⊢
  exact this
theorem eq_nilW (L : List (Nat × Flr)) : eqD st (.lst (L.map eW)) (.lst []) = some (decide (L = [])) := by
  rw [eqD_pl st (by simpa [plD] using all_Ws L) (by simp [plD])]
  cases L with
  | nil => rfl
  | cons x r => simp [D.beq, D.beqs]
theorem c14 (L : List (Nat × Flr)) : evE (kn k) (.cmp .eq (.var 15) (.lst false .nil)) (envT l cs n a sp c fl up m e x14 (some (.lst (L.map eW))) x16 x17 x18 x19 x20 x21) st = .ok (.bl (decide (L = []))) st := by
  have h := eq_nilW st L
  generalize L.map eW = RW at *
  simp only [evE, evEs, envT]
  simp [cmp, h, mkL]
end
/-- the law's loop, in step with the program's -/
theorem tr_loop (k : Nat) (l : Lf) (cs : List Cl) (n : Int) (a sp c : Nat) (hl : l.ok) (hc : CsOk cs) (hn : 8 ≤ n) (has : a ≠ sp) (hac : a ≠ c) (hsc : sp ≠ c) :
    ∀ (N fuel i : Nat) (s : Sst) (stops : List Stop) (e : Form) (res : List Stop × Form × List Form) (st : Store) (x14 x15 x16 x17 x18 x19 x20 x21 : Option D), N ≤ fuel → i + N ≤ 60 → Good l cs i s → stops.length ≤ i → TI cs s stops a sp c i st → LF.run l cs n N s stops e = some res →
      ∃ s' y14 y15 y16 y17 y18 y19 y20 y21 st', evWhile (evE (kn (k + 4)) (.or (.cmp .isin (.str [119, 97, 105, 116, 115]) (.var 13)) (.cmp .isin (.str [114, 105, 100, 101, 115]) (.var 13)))) (evSs (kn (k + 4)) f_law_traced_b1) fuel (envT l cs n a sp c s.fl s.up s.m e x14 x15 x16 x17 x18 x19 x20 x21) st =
        .ok .next (envT l cs n a sp c (s' : Sst).fl s'.up s'.m res.2.1 y14 y15 y16 y17 y18 y19 y20 y21) st' ∧ st'[sp]? = some (.lst (res.1.map eStop)) ∧ Keep [a, sp, c] st st'
  | 0, _, _, _, _, _, _, _, _, _, _, _, _, _, _, _, _, _, _, _, _, h => by simp [LF.run] at h
  | N + 1, 0, _, _, _, _, _, _, _, _, _, _, _, _, _, _, h, _, _, _, _, _ => by omega
  | N + 1, fuel + 1, i, s, stops, e, res, st, x14, x15, x16, x17, x18, x19, x20, x21, hf, hi, g0, hst, ti, hrun => by
    have hr : ∀ p ∈ s.r, p < cs.length := fun p hp => g0.lt p (List.mem_append_left _ hp)
    have hh : ∀ p ∈ heard cs s n, p < cs.length := fun p hp => (mem_waiting.mp (mem_heard.mp hp).1).1
    have hlen := g0.len hc
    have hhl : (heard cs s n).length ≤ 4 := Nat.le_trans (List.length_filter_le _ _) (waiting_len hc)
    have hm := Small.mono g0.m (show (1000 + 60 * (i : Int)) ≤ 50000 by omega)
    obtain ⟨⟨L, ha, hL⟩, hs, hcc⟩ := ti
    have hcnd := tcond (k + 4) l cs n a sp c s s.fl s.up s.m e st x14 x15 x16 x17 x18 x19 x20 x21 hr g0.so hcc
    have hwl := waiting_len (s := s) hc
    unfold evWhile
    rw [hcnd]
    unfold LF.run turn at hrun
    simp only [wanted_ask] at hrun
    by_cases hgo : waiting cs s ≠ [] ∨ s.r ≠ []
    · rw [decide_eq_true hgo]
      simp only
      -- heard, wanted
      have h12 := ts12 (k + 2) l cs n a sp c s s.fl s.up s.m e st x14 x15 x16 x17 x18 x19 x20 x21 L hc (Small.mono hm (by decide)) hcc ha (by omega)
      have hfeq : (waiting cs s).filter (heardP cs s.m n) = heard cs s n := rfl
      rw [hfeq] at h12
      generalize hA : st.set a (.lst (L ++ (waiting cs s).map fun p => eF (thenF cs s.m p))) ++ [Ob.lst (eNs (heard cs s n))] = stA at *
      have kA : Keep [a] st stA := by rw [← hA]; exact Keep.set.trans (Keep.snoc.mono (by simp))
      have haA : stA[a]? = some (.lst (L ++ (waiting cs s).map fun p => eF (thenF cs s.m p))) := by
        rw [← hA, List.getElem?_append_left (by rw [List.length_set]; exact lt_of ha), List.getElem?_set_self (lt_of ha)]
      have hsA := kA.at hs (by simpa using Ne.symm has)
      have hcA := kA.at hcc (by simpa using Ne.symm hac)
      have hhA : stA[st.length]? = some (.lst (eNs (heard cs s n))) := by rw [← hA]; exact get_last (by rw [List.length_set])
      have h13 := ts13 (k + 2) l cs n a sp c s s.fl s.up s.m e stA x15 x16 x17 x18 x19 x20 x21 st.length (heard cs s n) hr hh g0.so (by omega) (by omega) hc.1 hcA hhA
      rw [show f_law_traced_b1 = .cons f_law_traced_s12 (.cons f_law_traced_s13 (.cons f_law_traced_s14 .nil)) from rfl, ss_next h12, ss_next h13]
      have hc14 := c14 (k + 4) l cs n a sp c s.fl s.up s.m e stA (some (.ref st.length)) x16 x17 x18 x19 x20 x21 (wantedRaw l cs s (heard cs s n))
      cases hw : wanted l cs s (heard cs s n) with
      | nil =>
        have hraw := raw_nil.mp hw
        rw [hw] at hrun
        simp only at hrun
        have hr0 : s.r = [] := by
          unfold wantedRaw at hraw
          split at hraw
          · simp at hraw; exact hraw.1
          · simpa using hraw
        cases ht : nextMin cs (askH cs s) (heard cs s n) with
        | none =>
          exfalso
          have h0 : heard cs s n = [] := by
            unfold wantedRaw at hraw
            rw [if_pos (by rw [hr0]; have := hl.1; simp; omega)] at hraw
            simpa [hr0] using hraw
          have hwn : waiting cs s ≠ [] := by
            rcases hgo with q | q
            · exact q
            · exact absurd hr0 q
          unfold nextMin late at ht
          rw [h0] at ht
          have e1 : ((waiting cs (askH cs s)).filter fun p => !([] : List Nat).contains p) = waiting cs s := by
            show ((waiting cs s).filter fun p => !([] : List Nat).contains p) = waiting cs s
            simp
          rw [e1] at ht
          cases hq : waiting cs s with
          | nil => exact hwn hq
          | cons z zs => rw [hq] at ht; simp [minI] at ht
        | some t =>
          rw [ht] at hrun
          simp only at hrun
          obtain ⟨g1, _, _, _⟩ := wait_good hc g0 ht
          have h1 := ts1 (k + 3) l cs n a sp c s s.fl s.up s.m e stA (some (.lst ((wantedRaw l cs s (heard cs s n)).map eW))) x16 x17 x18 x19 x20 x21 st.length (heard cs s n) hc hcA hhA
          have h2 := ts2 (k + 4) l cs n a sp c s s.fl s.up s.m e stA (some (.ref st.length)) (some (.lst ((wantedRaw l cs s (heard cs s n)).map eW))) x17 x18 x19 x20 x21 (heard cs s n) t hc ht
          have h14 : evSs (kn (k + 4)) (.cons f_law_traced_s14 .nil) (envT l cs n a sp c s.fl s.up s.m e (some (.ref st.length)) (some (.lst ((wantedRaw l cs s (heard cs s n)).map eW))) x16 x17 x18 x19 x20 x21) stA =
              .ok .next (envT l cs n a sp c s.fl s.up (0, t) e (some (.ref st.length)) (some (.lst ((wantedRaw l cs s (heard cs s n)).map eW))) (some (.lst (eNs (late cs s (heard cs s n))))) x17 x18 x19 x20 x21) stA := by
            refine (ss_next (ρ' := _) (st' := stA) (?_ : evS _ f_law_traced_s14 _ stA = _)).trans (by simp only [evSs]; rfl)
            rw [f_law_traced_s14, ite_yes (hc14.trans (by rw [decide_eq_true hraw])), ss_next h1, ss_next h2]
            rfl
          rw [h14]
          simp only
          obtain ⟨s', y14, y15, y16, y17, y18, y19, y20, y21, st', q1, q2, q3⟩ := tr_loop k l cs n a sp c hl hc hn has hac hsc N fuel (i + 1) { askH cs s with m := (0, t) } stops e res stA (some (.ref st.length)) (some (.lst ((wantedRaw l cs s (heard cs s n)).map eW))) (some (.lst (eNs (late cs s (heard cs s n))))) x17 x18 x19 x20 x21 (by omega) (by omega) g1 (by omega) ⟨⟨_, haA, by rw [List.length_append, List.length_map]; omega⟩, hsA, hcA⟩ hrun
          exact ⟨s', y14, y15, y16, y17, y18, y19, y20, y21, st', q1, q2, (kA.mono (by simp)).trans q3⟩
      | cons w0 w =>
        rw [hw] at hrun
        simp only at hrun
        have nd : ((wantedRaw l cs s (heard cs s n)).map (·.1)).Nodup := by
          have h := nd_heard (n := n) g0
          unfold wantedRaw; split
          · simpa [List.map_append, List.map_map, Function.comp_def] using h
          · have := (List.nodup_append.mp h).1
            simpa [List.map_map, Function.comp_def] using this
        have hrl : (wantedRaw l cs s (heard cs s n)).length ≤ 8 := by
          unfold wantedRaw
          split <;> simp <;> omega
        have hrw : ∀ x ∈ wantedRaw l cs s (heard cs s n), x.2.ok := fun x hx => (raw_ok hc hr hh hx).1
        have hmemg := goal_mem (s := s) (n := n) l.rule w0 w
        rw [← hw] at hmemg
        have hws : wanted l cs s (heard cs s n) = sortW (wantedRaw l cs s (heard cs s n)) := rfl
        have hgg : goalOf l.rule (askH cs s) (w0 :: w) n = goalOf l.rule s (wanted l cs s (heard cs s n)) n := by rw [hw]; rfl
        rw [hgg] at hrun
        have hgl := goal_len (s := s) (n := n) l.rule (wanted l cs s (heard cs s n))
        have hwl8 : (wanted l cs s (heard cs s n)).length ≤ 8 := by rw [hws, (sortW_perm _).length_eq]; exact hrl
        have hgok : (goalOf l.rule s (wanted l cs s (heard cs s n)) n).1.ok := by
          obtain ⟨x, hx, ex⟩ := List.mem_map.mp hmemg
          rw [← ex]; exact hrw x (mem_wanted.mp hx)
        have hne : wantedRaw l cs s (heard cs s n) ≠ [] := fun q => by rw [raw_nil.mpr q] at hw; cases hw
        have hlf := lawForms_len (rl := l.rule) (s := s) (w := wanted l cs s (heard cs s n)) (n := n)
        have hsg := stop_good (n := n) hl hc g0 (s1 := askG (askH cs s) (goalOf l.rule s (wanted l cs s (heard cs s n)) n).2) rfl rfl rfl rfl (by have := ask_good hc g0; simp only [askG, List.length_append]; omega) hgok
        have hm1 := mv_small (n := n) hm hl g0.fl hgok
        have hts := told_stop (n := n) g0 (askG (askH cs s) (goalOf l.rule s (wanted l cs s (heard cs s n)) n).2) rfl rfl rfl rfl (goalOf l.rule s (wanted l cs s (heard cs s n)) n).1
        clear hw hgg
        rw [hws] at hts hsg hgok hlf hrun hwl8 hm1
        cases hR : wantedRaw l cs s (heard cs s n) with
        | nil => exact absurd hR hne
        | cons r0 raw =>
          rw [hR] at hc14 nd hrl hrw hts hsg hgok hlf hrun hwl8 hm1
          clear hmemg hws hgl
          have h3 := ts3 k l cs n a sp c s s.m e stA (some (.ref st.length)) x16 x17 x18 x19 x20 x21 r0 raw _ g0.fl hn hrw nd (by omega) haA (by rw [List.length_append, List.length_map]; omega)
          generalize hgf : goalOf l.rule s (sortW (r0 :: raw)) n = gf at *
          obtain ⟨g, fs⟩ := gf
          simp only at *
          generalize hB : stA.set a _ = stB at h3
          have kB : Keep [a] stA stB := by rw [← hB]; exact Keep.set
          have haB : stB[a]? = some (.lst ((L ++ (waiting cs s).map fun p => eF (thenF cs s.m p)) ++ (lawForms l.rule s (sortW (r0 :: raw)) n).map eF)) := by rw [← hB, List.getElem?_set_self (lt_of haA)]
          have hsB := kB.at hsA (by simpa using Ne.symm has)
          have hcB := kB.at hcA (by simpa using Ne.symm hac)
          have h4 := ts4 (k + 2) l cs n a sp c s.fl s.up s.m e stB (some (.ref st.length)) (some (.lst ((r0 :: raw).map eW))) x16 x17 x18 x20 x21 g
          have h5 := ts5 (k + 3) l cs n a sp c s s.fl s.up s.m e stB (some (.ref st.length)) (some (.lst ((r0 :: raw).map eW))) x16 x17 x18 (some (eFl g)) x21 (way s.fl g n) hr g0.so hcB
          have h6 := ts6 (k + 3) l cs n a sp c s.fl s.up s.m (if s.r = [] then fadd e (way s.fl g n) else e) stB (some (.ref st.length)) (some (.lst ((r0 :: raw).map eW))) x16 x17 x18 (some (eF (way s.fl g n))) x21 g g0.fl hgok hn
          have h7 := ts7 (k + 3) l cs n a sp c s.fl (if g ≠ s.fl then decide (0 < worth (far s.fl g) n) else s.up) s.m (if s.r = [] then fadd e (way s.fl g n) else e) stB (some (.ref st.length)) (some (.lst ((r0 :: raw).map eW))) x16 x17 x18 x21 g (way s.fl g n) hl
          generalize hE : (if s.r = [] then fadd e (way s.fl g n) else e) = e' at *
          generalize hU : (if g ≠ s.fl then decide (0 < worth (far s.fl g) n) else s.up) = u' at *
          generalize hM : fadd s.m (fmul (way s.fl g n) l.pace) = m1 at *
          have h8 := ts8 (k + 2) l cs n a sp c s g u' m1 e' stB (some (.ref st.length)) (some (.lst ((r0 :: raw).map eW))) x16 x17 x18 (some (eFl g)) (some (eF (way s.fl g n))) x21 _ hc (Small.mono hm1 (by decide)) hcB haB (by simp only [List.length_append, List.length_map]; omega)
          generalize hhd2 : (waiting cs s).filter (heardP cs m1 n) = hd at *
          have hdm : ∀ p ∈ hd, p ∈ waiting cs s := fun p hp => by rw [← hhd2] at hp; exact (List.mem_filter.mp hp).1
          have hdn : hd.Nodup := by rw [← hhd2]; exact waiting_nodup.filter _
          generalize hC : stB.set a _ ++ [Ob.lst (eNs hd)] = stC at h8
          have kC : Keep [a] stB stC := by rw [← hC]; exact Keep.set.trans (Keep.snoc.mono (by simp))
          have haC : ∃ L2, stC[a]? = some (.lst L2) ∧ L2.length ≤ 30 * (i + 1) := ⟨_, by rw [← hC, List.getElem?_append_left (by rw [List.length_set]; exact lt_of haB), List.getElem?_set_self (lt_of haB)], by simp only [List.length_append, List.length_map]; omega⟩
          have hsC := kC.at hsB (by simpa using Ne.symm has)
          have hcC := kC.at hcB (by simpa using Ne.symm hac)
          have hhC : stC[stB.length]? = some (.lst (eNs hd)) := by rw [← hC]; exact get_last (by rw [List.length_set])
          have h9 := ts9 (k + 2) l cs n a sp c s g u' m1 e' stC (some (.lst ((r0 :: raw).map eW))) x16 x17 x18 (some (eFl g)) (some (eF (way s.fl g n))) x21 i stB.length hd hc g0 hcC hhC (by have := lt_of hcB; omega) hdm hdn
          obtain ⟨ht1, ht2⟩ := hts
          rw [ht1] at h9
          generalize hof : offP cs s g = off at *
          generalize hon : onP cs g (l.room - (restP cs s g).length).toNat hd = on at *
          generalize hD : stC.set c _ ++ [Ob.lst (eNs on)] = stD at h9
          have kD : Keep [c] stC stD := by rw [← hD]; exact Keep.set.trans (Keep.snoc.mono (by simp))
          obtain ⟨L2, haC2, hL2⟩ := haC
          have haD := kD.at haC2 (by simpa using hac)
          have hsD := kD.at hsC (by simpa using hsc)
          have hcD : stD[c]? = some (.lst ((toldOf cs (stopAt l cs (askG (askH cs s) fs) g n).1).map eWd)) := by
            rw [← hD, List.getElem?_append_left (by rw [List.length_set]; exact lt_of hcC), List.getElem?_set_self (lt_of hcC)]
          have h10 := ts10 (k + 4) l cs n a sp c u' m1 e' stD (some (.ref stB.length)) (some (.lst ((r0 :: raw).map eW))) x16 x17 x18 (some (eFl g)) (some (eF (way s.fl g n))) g stops off on hsD (by omega)
          generalize hE2 : stD.set sp _ = stE at h10
          have kE : Keep [sp] stD stE := by rw [← hE2]; exact Keep.set
          have haE := kE.at haD (by simpa using has)
          have hcE := kE.at hcD (by simpa using Ne.symm hsc)
          have hsE : stE[sp]? = some (.lst ((stops ++ [Stop.mk g m1 off on]).map eStop)) := by rw [← hE2, List.getElem?_set_self (lt_of hsD)]
          have h11 := ts11 (k + 3) l cs n a sp c g u' m1 e' stE (some (.ref stB.length)) (some (.lst ((r0 :: raw).map eW))) x16 x17 x18 (some (eFl g)) (some (eF (way s.fl g n))) (some (.tup [.tup (eNs off), .tup (eNs on)])) hl
          have h14 : evSs (kn (k + 4)) (.cons f_law_traced_s14 .nil) (envT l cs n a sp c s.fl s.up s.m e (some (.ref st.length)) (some (.lst ((r0 :: raw).map eW))) x16 x17 x18 x19 x20 x21) stA =
              .ok .next (envT l cs n a sp c g u' (fadd m1 (0, l.halt)) e' (some (.ref stB.length)) (some (.lst ((r0 :: raw).map eW))) x16 x17 x18 (some (eFl g)) (some (eF (way s.fl g n))) (some (.tup [.tup (eNs off), .tup (eNs on)]))) stE := by
            refine (ss_next (ρ' := _) (st' := stE) (?_ : evS _ f_law_traced_s14 _ stA = _)).trans (by simp only [evSs]; rfl)
            rw [f_law_traced_s14, ite_no (hc14.trans (by rw [decide_eq_false (by simp)])), ss_next h3, ss_next h4, ss_next h5, ss_next h6, ss_next h7, ss_next h8, ss_next h9, ss_next h10, ss_next h11]
            rfl
          rw [h14]
          simp only
          rw [ht2] at hrun
          have e1 : (stopAt l cs (askG (askH cs s) fs) g n).1.fl = g := rfl
          have e2 : (stopAt l cs (askG (askH cs s) fs) g n).1.up = u' := hU
          have e3 : (stopAt l cs (askG (askH cs s) fs) g n).1.m = fadd m1 (0, l.halt) := by rw [← hM]; rfl
          have e4 : (if s.r = [] then fadd e (stopAt l cs (askG (askH cs s) fs) g n).2.2 else e) = e' := hE
          rw [e4] at hrun
          obtain ⟨s', y14, y15, y16, y17, y18, y19, y20, y21, st', q1, q2, q3⟩ := tr_loop k l cs n a sp c hl hc hn has hac hsc N fuel (i + 1) (stopAt l cs (askG (askH cs s) fs) g n).1 (stops ++ [Stop.mk g m1 off on]) e' res stE (some (.ref stB.length)) (some (.lst ((r0 :: raw).map eW))) x16 x17 x18 (some (eFl g)) (some (eF (way s.fl g n))) (some (.tup [.tup (eNs off), .tup (eNs on)])) (by omega) (by omega) hsg.1 (by simp; omega) ⟨⟨L2, haE, hL2⟩, hsE, hcE⟩ hrun
          rw [e1, e2, e3] at q1
          refine ⟨s', y14, y15, y16, y17, y18, y19, y20, y21, st', q1, q2, ?_⟩
          exact (((((kA.mono (by simp)).trans (kB.mono (by simp))).trans (kC.mono (by simp))).trans (kD.mono (by simp))).trans (kE.mono (by simp))).trans q3
    · rw [decide_eq_false hgo]
      simp only
      have hwn : waiting cs s = [] := Classical.byContradiction fun q => hgo (.inl q)
      have hr0 : s.r = [] := Classical.byContradiction fun q => hgo (.inr q)
      have hhd : heard cs s n = [] := by unfold heard; rw [hwn]; rfl
      have hw : wanted l cs s (heard cs s n) = [] := by
        rw [raw_nil, hhd]; unfold wantedRaw; rw [hr0]; simp
      have ht : nextMin cs (askH cs s) (heard cs s n) = none := by
        unfold nextMin late
        have e1 : waiting cs (askH cs s) = [] := hwn
        rw [e1]; rfl
      rw [hw] at hrun
      simp only [ht] at hrun
      cases hrun
      exact ⟨s, x14, x15, x16, x17, x18, x19, x20, x21, st, rfl, hs, Keep.refl⟩
end K05

namespace K05
open AF PySem LF
theorem told_first (cs : List Cl) (l : Lf) : (toldOf cs (first0 l)).map eWd = List.replicate cs.length (eWd .waits) := by
  unfold toldOf
  rw [List.map_map, List.eq_replicate_iff]
  refine ⟨by simp, fun b hb => ?_⟩
  obtain ⟨p, _, rfl⟩ := List.mem_map.mp hb
  simp [wdOf, first0]
theorem flat_repl {α : Type} (x : α) : ∀ n : Nat, (List.replicate n [x]).flatten = List.replicate n x
  | 0 => rfl
  | n + 1 => by rw [List.replicate_succ, List.flatten_cons, flat_repl x n]; rfl
theorem ts15 (k : Nat) (l : Lf) (cs : List Cl) (n : Int) (a : Nat) (st : Store) : evS (kn k) f_law_traced_s15 (AF.envOf 22 [eLf l, eCs cs, .int n, .ref a]) st =
    .ok .next [some (eLf l), some (eCs cs), some (.int n), some (.ref a), some (.str (wRule l.rule)), some (.int l.room), some (.int l.halt), some (.int l.pace), some (eFl l.fl), some (.str (wUp l.up)), none, none, none, none, none, none, none, none, none, none, none, none] st := by rfl
theorem ts16 (k : Nat) (l : Lf) (cs : List Cl) (n : Int) (a : Nat) (st : Store) (hc : cs.length ≤ 4) : evS (kn k) f_law_traced_s16 [some (eLf l), some (eCs cs), some (.int n), some (.ref a), some (.str (wRule l.rule)), some (.int l.room), some (.int l.halt), some (.int l.pace), some (eFl l.fl), some (.str (wUp l.up)), none, none, none, none, none, none, none, none, none, none, none, none] st =
    .ok .next (envT l cs n a st.length (st.length + 1) l.fl l.up (0, 0) (0, 0) none none none none none none none none) ((st ++ [Ob.lst []]) ++ [Ob.lst ((toldOf cs (first0 l)).map eWd)]) := by
  have hlen : blt .len false [eCs cs] (st ++ [Ob.lst []]) = .ok (.int cs.length) (st ++ [Ob.lst []]) := by simp [blt, seqOf]
  have hr : ((List.replicate (cs.length : Int).toNat [eWd .waits]).flatten) = (toldOf cs (first0 l)).map eWd := by rw [told_first, Int.toNat_natCast, flat_repl]
  have hm : bin .mul true (.lst [eWd .waits]) (.int cs.length) (st ++ [Ob.lst []]) = .ok (.ref (st.length + 1)) ((st ++ [Ob.lst []]) ++ [Ob.lst ((toldOf cs (first0 l)).map eWd)]) := by
    simp only [bin]
    rw [if_pos ⟨by omega, by omega, by simp⟩, hr]
    simp [mkL, toldOf, LIM]
  simp only [f_law_traced_s16, evS, evE, evEs]
  generalize (toldOf cs (first0 l)).map eWd = W at *
  simp [show D.str [119, 97, 105, 116, 115] = eWd .waits from rfl, mkL, hlen, hm, LIM, asg, asgs, envT]
/-- the law's own story -/
theorem lw_traced (k : Nat) (l : Lf) (cs : List Cl) (n : Int) (a : Nat) (st : Store) (hl : l.ok) (hc : CsOk cs) (hn : 8 ≤ n) (ha : st[a]? = some (.lst [])) {res : List Stop × Form × List Form} (h : LF.run l cs n 18 (first0 l) [] (0, 0) = some res) :
    ∃ st', evCall P (k + 5) i_law_traced [eLf l, eCs cs, .int n, .ref a] st = .ok (.tup [.tup (res.1.map eStop), eF res.2.1]) st' ∧ Keep [a] st st' := by
  rw [call_of (fn := f_law_traced) rfl]
  have hal := lt_of ha
  have k0 : Keep [] st ((st ++ [Ob.lst []]) ++ [Ob.lst ((toldOf cs (first0 l)).map eWd)]) := Keep.snoc.trans Keep.snoc
  have ti : TI cs (first0 l) [] a st.length (st.length + 1) 0 ((st ++ [Ob.lst []]) ++ [Ob.lst ((toldOf cs (first0 l)).map eWd)]) :=
    ⟨⟨[], k0.at ha (by simp), by simp⟩, by rw [List.getElem?_append_left (by simp)]; simp, by rw [get_last (by simp)]⟩
  obtain ⟨s', y14, y15, y16, y17, y18, y19, y20, y21, st', q1, q2, q3⟩ := tr_loop k l cs n a st.length (st.length + 1) hl hc hn (by omega) (by omega) (by omega) 18 100000 0 (first0 l) [] (0, 0) res _ none none none none none none none none (by omega) (by omega) (first_good hl) (by simp) ti h
  refine ⟨st', ?_, ?_⟩
  · refine body_ret (ρ' := envT l cs n a st.length (st.length + 1) s'.fl s'.up s'.m res.2.1 y14 y15 y16 y17 y18 y19 y20 y21) rfl ?_
    rw [show f_law_traced.body = .cons f_law_traced_s15 (.cons f_law_traced_s16 (.cons f_law_traced_s17 (.cons f_law_traced_s18 .nil))) from rfl, show f_law_traced.n = 22 from rfl, ss_next (ts15 (k + 4) l cs n a st), ss_next (ts16 (k + 4) l cs n a st hc.1)]
    have h17 : evS (kn (k + 4)) f_law_traced_s17 (envT l cs n a st.length (st.length + 1) l.fl l.up (0, 0) (0, 0) none none none none none none none none) ((st ++ [Ob.lst []]) ++ [Ob.lst ((toldOf cs (first0 l)).map eWd)]) = .ok .next (envT l cs n a st.length (st.length + 1) s'.fl s'.up s'.m res.2.1 y14 y15 y16 y17 y18 y19 y20 y21) st' := by
      rw [f_law_traced_s17]
      exact q1
    rw [ss_next h17]
    refine ss_ret ?_
    generalize res.1.map eStop = W at *
    simp only [f_law_traced_s18, evS, evE, evEs, envT]
    simp [blt, lstOf, seqOf, q2]
  · refine ⟨Nat.le_trans k0.len q3.len, fun j hj hx => ?_⟩
    rw [q3.get j (by have := k0.len; omega) (by simp at hx ⊢; omega), k0.get j hj (by simp)]
theorem lw_run (k : Nat) (l : Lf) (cs : List Cl) (n : Int) (st : Store) (hl : l.ok) (hc : CsOk cs) (hn : 8 ≤ n) {res : List Stop × Form × List Form} (h : LF.run l cs n 18 (first0 l) [] (0, 0) = some res) :
    ∃ st', evCall P (k + 6) i_law_run [eLf l, eCs cs, .int n] st = .ok (.tup [.tup (res.1.map eStop), eF res.2.1]) st' ∧ Keep [] st st' := by
  rw [call_of (fn := f_law_run) rfl]
  obtain ⟨st', q1, q2⟩ := lw_traced k l cs n st.length (st ++ [Ob.lst []]) hl hc hn (get_last rfl) h
  refine ⟨st', ?_, ?_⟩
  · simp only [callBody, f_law_run, evSs, evS, evE, evEs]
    simp [AF.envOf, mkL, LIM, kn_call, q1]
  · refine ⟨Nat.le_trans (by simp) q2.len, fun j hj hx => ?_⟩
    rw [q2.get j (by simp; omega) (by simp; omega), List.getElem?_append_left hj]
end K05

namespace K05
open AF PySem LF
theorem lr_b1 (k : Nat) (cs : List Cl) (stops : List Stop) (r p : Nat) (acc : List D) (st : Store) (x4 x5 x6 : Option D) (hr : st[r]? = some (.lst acc)) (hacc : acc.length ≤ 1000) (hs : stops.length ≤ 1000) (h1 : ∃ x ∈ stops, p ∈ x.on) (h2 : ∃ x ∈ stops, p ∈ x.off) :
    ∃ y4 y6, evSs (kn k) f_law_rides_b1 [some (eCs cs), some (.tup (stops.map eStop)), some (.ref r), some (eN p), x4, x5, x6] st =
      .ok .next [some (eCs cs), some (.tup (stops.map eStop)), some (.ref r), some (eN p), y4, x5, y6] (st.set r (.lst (acc ++ [eRide (onOf stops p, offOf stops p)]))) := by
  obtain ⟨t1, e1⟩ := on_cons h1
  obtain ⟨t2, e2⟩ := off_cons h2
  refine ⟨some (.lst ((onOf stops p :: t1).map eF)), some (.lst ((offOf stops p :: t2).map eF)), ?_⟩
  have hrc := recv_ref hr .append (.inl rfl)
  have hap := app_ref (x := eRide (onOf stops p, offOf stops p)) hr (by simp [LIM]; omega)
  have ix : ∀ (x : Stop) (st : Store), idx (eStop x) (.int 3) st = .ok (.tup (eNs x.on)) st ∧ idx (eStop x) (.int 2) st = .ok (.tup (eNs x.off)) st ∧ idx (eStop x) (.int 1) st = .ok (eF x.m) st := fun x st => ⟨rfl, rfl, rfl⟩
  have e1' : ([] : List D) ++ (stops.filter fun x => x.on.contains p).map (fun x => eF x.m) = eF (onOf stops p) :: t1.map eF := by
    have := congrArg (List.map eF) e1
    rw [List.map_map] at this
    exact this
  have e2' : ([] : List D) ++ (stops.filter fun x => x.off.contains p).map (fun x => eF x.m) = eF (offOf stops p) :: t2.map eF := by
    have := congrArg (List.map eF) e2
    rw [List.map_map] at this
    exact this
  simp only [f_law_rides_b1, evSs, evS, evE, evEs, evIt]
  simp [srcOf, wipeE]
  rw [evLc_map eStop (fun x => x.on.contains p) (fun x => eF x.m) rfl stops [] (by simp [LIM]; omega) (fun x hx => ⟨_, rfl, by
      simp only [evOc, evE, evEs]
      simp [cmp, in_Ns, (ix x st).1], fun _ => rfl⟩), e1']
  simp [mkL, asg, srcOf, wipeE]
  rw [evLc_map eStop (fun x => x.off.contains p) (fun x => eF x.m) rfl stops [] (by simp [LIM]; omega) (fun x hx => ⟨_, rfl, by
      simp only [evOc, evE, evEs]
      simp [cmp, in_Ns, (ix x st).2.1], fun _ => rfl⟩), e2']
  simp [mkL, asg, idx, seqOf, lstOf, itemAt, ixI, hrc, hap]
theorem set_last {st : Store} {x y : Ob} : (st ++ [x]).set st.length y = st ++ [y] := by
  rw [List.set_append_right _ _ (Nat.le_refl _), Nat.sub_self]; rfl
theorem lw_rides (k : Nat) (cs : List Cl) (stops : List Stop) (st : Store) (hc : cs.length ≤ 4) (hs : stops.length ≤ 1000) (h : ∀ p < cs.length, (∃ x ∈ stops, p ∈ x.on) ∧ ∃ x ∈ stops, p ∈ x.off) :
    evCall P (k + 1) i_law_rides [eCs cs, .tup (stops.map eStop)] st = .ok (.ref st.length) (st ++ [Ob.lst ((ridesF cs stops).map eRide)]) := by
  rw [call_of (fn := f_law_rides) rfl]
  obtain ⟨ρ', st', q1, ⟨y3, y4, y5, y6, q2⟩, q3⟩ := evFor_preS (tg := .name 3) (body := evSs (kn k) f_law_rides_b1) eN
    (fun pre ρ st' => (∃ y3 y4 y5 y6, ρ = [some (eCs cs), some (.tup (stops.map eStop)), some (.ref st.length), y3, y4, y5, y6]) ∧ st' = st ++ [Ob.lst (pre.map fun p => eRide (onOf stops p, offOf stops p))])
    (List.range cs.length) [] [some (eCs cs), some (.tup (stops.map eStop)), some (.ref st.length), none, none, none, none] (st ++ [Ob.lst []]) ⟨⟨_, _, _, _, rfl⟩, rfl⟩ (by
      rintro p x q ρ st2 e ⟨⟨y3, y4, y5, y6, rfl⟩, rfl⟩
      rw [List.nil_append] at e
      have hx := take_rangeR e
      have hlp : p.length ≤ 1000 := by
        have := congrArg List.length e
        simp at this; omega
      obtain ⟨z4, z6, hb⟩ := lr_b1 k cs stops st.length x (p.map fun p => eRide (onOf stops p, offOf stops p)) (st ++ [Ob.lst (p.map fun p => eRide (onOf stops p, offOf stops p))]) y4 y5 y6 (get_last rfl) (by rw [List.length_map]; exact hlp) hs (h x hx).1 (h x hx).2
      exact ⟨_, _, _, rfl, hb, ⟨_, _, _, _, rfl⟩, by rw [set_last, List.map_append]; rfl⟩)
  refine body_ret (ρ' := ρ') rfl ?_
  simp only [f_law_rides]
  have h1 : evS (kn k) (.asg (.name 2) (.lst true .nil)) (AF.envOf 7 [eCs cs, .tup (stops.map eStop)]) st = .ok .next [some (eCs cs), some (.tup (stops.map eStop)), some (.ref st.length), none, none, none, none] (st ++ [Ob.lst []]) := by rfl
  have h2 : evS (kn k) (.for_ (.name 3) (.rng1 (.blt .len false (.cons (.var 0) .nil))) f_law_rides_b1) [some (eCs cs), some (.tup (stops.map eStop)), some (.ref st.length), none, none, none, none] (st ++ [Ob.lst []]) = .ok .next ρ' st' := by
    simp only [evS, evIt, evE, evEs]
    rw [← rngD_range] at q1
    simp [blt, seqOf, okR, show (cs.length : Int) ≤ 1000000 by omega]
    simpa using q1
  rw [ss_next h1, ss_next h2, q2, q3]
  rw [show (ridesF cs stops).map eRide = ([] ++ List.range cs.length).map fun p => eRide (onOf stops p, offOf stops p) by rw [ridesF, List.map_map]; rfl]
  exact ss_ret (by rfl)
end K05

namespace K05
open AF PySem LF
theorem ev_same_to (k : Nat) (f : Form) (n : Int) (st : Store) (hs : Small 100000 f) : evCall P (k + 3) isame_to [eF f, .int n] st = .ok (eO (sameTo f n)) st := by
  have h64 := sm hs (by decide)
  have hg := ev_sign k f n st h64
  have hsm : small64 (sgn (worth f n)) = true := by rcases sgn_cases (worth f n) with ⟨e, _⟩ | ⟨e, _⟩ | ⟨e, _⟩ <;> rw [e] <;> decide
  rw [call_of (fn := fsame_to) rfl]
  rw [show sameTo f n = sameS (sgn (worth f n)) f n from rfl]
  generalize sgn (worth f n) = s at *
  obtain ⟨a, b⟩ := f
  have hm : bin .mul false (.int s) (.int a) st = .ok (.int (s * a)) st := mul_ok hsm
  have hab : ∀ c : Int, blt .abs false [.int c] st = .ok (.int (iabs c)) st := fun c => rfl
  have eqi : ∀ i j : Int, cmp .eq (.int i) (.int j) st = .ok (.bl (decide (i = j))) st := fun i j => by
    simp only [cmp, eq_int]; by_cases h : i = j <;> simp [h]
  have h1 : evS (kn (k + 2)) fsame_to_s1 (AF.envOf 5 [eF (a, b), .int n]) st = .ok .next [some (eF (a, b)), some (.int n), some (.int a), some (.int b), none] st := rfl
  have h2 : evS (kn (k + 2)) fsame_to_s2 [some (eF (a, b)), some (.int n), some (.int a), some (.int b), none] st = .ok .next [some (eF (a, b)), some (.int n), some (.int a), some (.int b), some (.int s)] st :=
    ss_asg (ee_call (ds := [eF (a, b), .int n]) rfl hg) rfl
  have q3 : evE (kn (k + 2)) (.cmp .eq (.var 2) (.int 0)) [some (eF (a, b)), some (.int n), some (.int a), some (.int b), some (.int s)] st = .ok (.bl (decide (a = 0))) st := ee_cmp rfl rfl (eqi _ _)
  have q4 : evE (kn (k + 2)) (.cmp .eq (.var 4) (.int 0)) [some (eF (a, b)), some (.int n), some (.int a), some (.int b), some (.int s)] st = .ok (.bl (decide (s = 0))) st := ee_cmp rfl rfl (eqi _ _)
  have q5 : evE (kn (k + 2)) (.cmp .gt (.bin .mul false (.var 4) (.var 2)) (.int 0)) [some (eF (a, b)), some (.int n), some (.int a), some (.int b), some (.int s)] st = .ok (.bl (decide (0 < s * a))) st := ee_cmp (ee_bin rfl rfl hm) rfl rfl
  have q6 : evE (kn (k + 2)) (.cmp .lt (.bin .mul false (.var 4) (.var 2)) (.int 0)) [some (eF (a, b)), some (.int n), some (.int a), some (.int b), some (.int s)] st = .ok (.bl (decide (s * a < 0))) st := ee_cmp (ee_bin rfl rfl hm) rfl rfl
  have hb : fsame_to.body = .cons fsame_to_s1 (.cons fsame_to_s2 (.cons fsame_to_s3 (.cons fsame_to_s4 (.cons fsame_to_s5 (.cons fsame_to_s6 .nil))))) := rfl
  unfold sameS
  refine body_ret (ρ' := [some (eF (a, b)), some (.int n), some (.int a), some (.int b), some (.int s)]) rfl ?_
  rw [hb, show fsame_to.n = 5 from rfl, ss_next h1, ss_next h2]
  simp only
  by_cases h0 : a = 0
  · rw [if_pos h0]
    rw [decide_eq_true h0] at q3
    exact ss_ret ((ss_if_t q3).trans rfl)
  · rw [if_neg h0]
    rw [decide_eq_false h0] at q3
    rw [ss_next (s := fsame_to_s3) (ss_skip q3)]
    by_cases h1 : s = 0
    · rw [if_pos h1]
      rw [decide_eq_true h1] at q4
      exact ss_ret ((ss_if_t q4).trans rfl)
    · rw [if_neg h1]
      rw [decide_eq_false h1] at q4
      rw [ss_next (s := fsame_to_s4) (ss_skip q4)]
      by_cases h2 : 0 < s * a
      · rw [if_pos h2]
        rw [decide_eq_true h2] at q5
        exact ss_ret ((ss_if_t q5).trans rfl)
      · rw [if_neg h2]
        rw [decide_eq_false h2] at q5
        rw [ss_next (s := fsame_to_s5) (ss_skip q5)]
        by_cases h3 : s * a < 0
        · rw [if_pos h3]
          rw [decide_eq_true h3] at q6
          have hd : bin .fdiv false (.int (iabs b - 1)) (.int (iabs a)) st = .ok (.int ((iabs b - 1) / iabs a)) st := by
            simp only [bin]
            have hia : 0 < iabs a ∧ iabs a < 10 ^ 100 := by
              have := hs.1; have := hs.2.1
              simp only at *
              unfold iabs; split <;> omega
            rw [if_pos hia]
          exact ss_ret (ss_ret' (ee_ite_t q6 (ee_bin (ee_bin (ee_blt rfl (hab b)) rfl rfl) (ee_blt rfl (hab a)) hd)))
        · rw [if_neg h3]
          rw [decide_eq_false h3] at q6
          exact ss_ret (ss_ret' (ee_ite_f q6 rfl))
theorem ints_filter {α : Type} (f : α → Option Int) : ∀ l : List α, ((l.map f).filter fun o => o.isSome).map (fun o => eO o) = (l.filterMap f).map D.int
  | [] => rfl
  | a :: l => by
    simp only [List.map_cons, List.filter_cons, List.filterMap_cons]
    cases h : f a with
    | none => simpa using ints_filter f l
    | some e => simpa [eO] using ints_filter f l
theorem ints_id : ∀ l : List Int, intsOf (l.map D.int) = some l
  | [] => rfl
  | a :: l => by rw [List.map_cons, intsOf, ints_id l]
theorem all_int (k : Nat) (l : List Int) : (l.map D.int).all (plD (k + 1)) = true := pl_map (fun a => rfl) l
theorem ev_until (k : Nat) (fs : List Form) (n : Int) (st : Store) (hs : ∀ f ∈ fs, Small 100000 f) (hl : fs.length ≤ 10000) (m : Bool) (d : D) (hd : d = if m then .lst (fs.map eF) else .tup (fs.map eF)) :
    evCall P (k + 4) iuntil [d, .int n] st = .ok (eO (untilF fs n)) st := by
  have hsrc : srcOf d st = .ok ⟨fs.map eF, []⟩ st := by subst hd; cases m <;> rfl
  rw [call_of (fn := funtil) rfl]
  simp only [callBody, funtil, AF.envOf, evSs, evS, evE, evEs, evIt]
  simp [hsrc, wipeE]
  rw [evLc_map eF (fun _ => true) (fun f => eO (sameTo f n)) rfl fs [] (by simp [LIM]; omega) (fun f hf => ⟨_, rfl, by simp [evOc], fun _ => by
      simp [kn_call, ev_same_to k f n st (hs f hf)]⟩), filt_true]
  simp [mkL, asg, srcOf]
  have hlo : (fs.map fun f => sameTo f n).length ≤ 10000 := by rw [List.length_map]; exact hl
  have hmm : (fs.map fun f => eO (sameTo f n)) = (fs.map fun f => sameTo f n).map eO := by rw [List.map_map]; rfl
  have hfin := ints_filter (fun f => sameTo f n) fs
  rw [show untilF fs n = minI (fs.filterMap fun f => sameTo f n) from rfl]
  have hfl : (fs.filterMap fun f => sameTo f n).length ≤ 10000 := Nat.le_trans (List.length_filterMap_le _ _) hl
  rw [hmm]
  generalize (fs.map fun f => sameTo f n) = L at *
  generalize (fs.filterMap fun f => sameTo f n) = M at *
  rw [evLc_map eO (fun o => o.isSome) eO rfl L [] (by simp [LIM]; omega) (fun o ho => ⟨_, rfl, by
      cases o <;> simp [evOc, evE, eO, cmp, isNon], fun h => by
      cases o with
      | none => cases h
      | some e => simp [eO, blt]⟩)]
  simp only [List.nil_append, hfin]
  have he := empty_eq st (M.map D.int) (all_int 22 M)
  cases M with
  | nil =>
    simp only [List.map_nil] at he
    simp [asg, cmp, he, minI, eO]
  | cons x r =>
    have hi := ints_id (x :: r)
    simp only [List.map_cons] at hi he
    simp [asg, cmp, he, blt, lstOf, minD, hi, minI, eO, show r.length + 1 ≤ LIM from Nat.le_trans hfl (by decide)]
theorem ev_joined {τ : Type} [DecidableEq τ] {enc : τ → D} (henc : EncOk enc) (k : Nat) (rows : List (Row τ)) (st : Store) (hl : rows.length ≤ 100000) :
    evCall P (k + 1) ijoined [.lst (rows.map (eRow enc))] st = .ok (.lst ((joinF rows).map (eRow enc))) st := by
  rw [call_of (fn := fjoined) rfl]
  have jl : ∀ L : List (Row τ), (L.foldl joinStep []).length ≤ L.length := by
    have : ∀ (L : List (Row τ)) (f : List (Row τ)), (L.foldl joinStep f).length ≤ f.length + L.length := by
      intro L
      induction L with
      | nil => intro f; exact Nat.le_refl _
      | cons a L ih =>
        intro f
        rw [List.foldl_cons]
        have h1 := ih (joinStep f a)
        have h2 : (joinStep f a).length ≤ f.length + 1 := by
          unfold joinStep
          split
          · split
            · rename_i x hx _
              have : f ≠ [] := by intro e; rw [e] at hx; cases hx
              have := List.length_pos_iff.mpr this
              rw [List.length_append, List.length_dropLast, List.length_singleton]; omega
            · simp
          · simp
        simp only [List.length_cons]
        omega
    intro L
    have := this L []
    simpa using this
  obtain ⟨ρ', q1, y2, y3, y4, q2⟩ := evFor_pre (gs := []) (tg := .tup [.name 2, .name 3, .name 4]) (body := evSs (kn k) fjoined_b1) (st := st) (eRow enc)
    (fun pre ρ => ∃ y2 y3 y4, ρ = [some (.lst (rows.map (eRow enc))), some (.lst ((pre.foldl joinStep []).map (eRow enc))), y2, y3, y4]) rfl
    rows [] [some (.lst (rows.map (eRow enc))), some (.lst []), none, none, none] ⟨_, _, _, rfl⟩ (by
      rintro p x q ρ e ⟨y2, y3, y4, rfl⟩
      rw [List.nil_append] at e
      have hlp : p.length ≤ 99999 := by
        have := congrArg List.length e
        simp at this; omega
      have hjl := jl p
      obtain ⟨xl, xh, xt⟩ := x
      refine ⟨_, [some (.lst (rows.map (eRow enc))), some (.lst (((p ++ [(xl, xh, xt)]).foldl joinStep []).map (eRow enc))), some (.int xl), some (eO xh), some (enc xt)], rfl, ?_, _, _, _, rfl⟩
      rw [List.foldl_append, List.foldl_cons, List.foldl_nil]
      have hem := empty_eq st ((p.foldl joinStep []).map (eRow enc)) (pl_map (fun a => pl_up 2 (pl_eRow henc a)) _)
      generalize p.foldl joinStep [] = F at *
      clear q e
      rcases List.eq_nil_or_concat F with h | ⟨dl, z, h⟩
      · subst h
        have e1 : joinStep [] (xl, xh, xt) = [(xl, xh, xt)] := rfl
        rw [e1]
        simp only [fjoined_b1, evSs, evS, evE, evEs]
        simp only [List.map_nil] at hem
        simp [cmp, hem, bin, LIM, mkL, asg, eRow]
      · rw [List.concat_eq_append] at h
        subst h
        rw [joinStep_snoc]
        have hne : (decide ((dl ++ [z]).map (eRow enc) = [])) = false := by simp
        rw [hne] at hem
        have hD : dl.length ≤ 99999 := by simp at hjl; omega
        have hX : (dl ++ [z]).map (eRow enc) = dl.map (eRow enc) ++ [eRow enc z] := by simp
        rw [hX] at hem ⊢
        have i1 := itemAt_last (dl.map (eRow enc)) (eRow enc z)
        have c1 := cut_last (dl.map (eRow enc)) (eRow enc z)
        have i2 : idx (.lst (dl.map (eRow enc) ++ [eRow enc z])) (.int (-1)) st = .ok (eRow enc z) st := by
          simp only [idx, seqOf, lstOf, i1]
        have i3 : idx (eRow enc z) (.int 2) st = .ok (enc z.2.2) st := rfl
        have i4 : idx (eRow enc z) (.int 0) st = .ok (.int z.1) st := rfl
        have s1 : slc (.lst (dl.map (eRow enc) ++ [eRow enc z])) none (some (-1)) st = .ok (.lst (dl.map (eRow enc))) st := by
          simp only [slc, lstOf, c1]
        have he := eq_enc henc z.2.2 xt st
        have b1 : bin .add false (.lst (dl.map (eRow enc))) (.lst [.tup [.int z.1, eO xh, enc xt]]) st = .ok (.lst (dl.map (eRow enc) ++ [.tup [.int z.1, eO xh, enc xt]])) st := by
          simp [bin, LIM, mkL, show dl.length ≤ 999999 by omega]
        have b2 : bin .add false (.lst (dl.map (eRow enc) ++ [eRow enc z])) (.lst [.tup [.int xl, eO xh, enc xt]]) st = .ok (.lst (dl.map (eRow enc) ++ [eRow enc z] ++ [.tup [.int xl, eO xh, enc xt]])) st := by
          simp only [bin, mkL]
          rw [if_pos (by simp [LIM]; omega)]; rfl
        have g1 : (dl ++ [(z.1, xh, xt)]).map (eRow enc) = dl.map (eRow enc) ++ [.tup [.int z.1, eO xh, enc xt]] := by rw [List.map_append]; rfl
        have g2 : (dl ++ [z] ++ [(xl, xh, xt)]).map (eRow enc) = dl.map (eRow enc) ++ [eRow enc z] ++ [.tup [.int xl, eO xh, enc xt]] := by rw [List.map_append, hX]; rfl
        generalize dl.map (eRow enc) = W at *
        generalize rows.map (eRow enc) = RW at *
        have cnd : evE (kn k) (.and (.cmp .ne (.var 1) (.lst false .nil)) (.cmp .eq (.idx (.idx (.var 1) (.neg (.int 1))) (.int 2)) (.var 4))) [some (.lst RW), some (.lst (W ++ [eRow enc z])), some (.int xl), some (eO xh), some (enc xt)] st = .ok (.bl (decide (z.2.2 = xt))) st :=
          ee_and_t (ee_cmp (ee_var rfl) (ee_lst es_nil) (cmp_neb hem)) (ee_cmp (ee_idx (ee_idx (ee_var rfl) rfl i2) rfl i3) (ee_var rfl) (cmp_eqb he))
        by_cases hz : z.2.2 = xt
        · rw [decide_eq_true hz] at cnd
          rw [if_pos hz, g1]
          refine ss_last ((ss_if_t cnd).trans (ss_last (ss_asg (ee_bin (ee_slc (ee_var rfl) rfl rfl s1) (ee_lst (es_cons (ee_tup (es_cons (ee_idx (ee_idx (ee_var rfl) rfl i2) rfl i4) (es_cons (ee_var rfl) (es_cons (ee_var rfl) es_nil)))) es_nil)) b1) rfl)))
        · rw [decide_eq_false hz] at cnd
          rw [if_neg hz, g2]
          refine ss_last ((ss_if_f cnd).trans (ss_last (ss_asg (ee_bin (ee_var rfl) (ee_lst (es_cons (ee_tup (es_cons (ee_var rfl) (es_cons (ee_var rfl) (es_cons (ee_var rfl) es_nil)))) es_nil)) b2) rfl))))
  refine body_ret (ρ' := ρ') rfl ?_
  rw [show fjoined.body = .cons (.asg (.name 1) (.lst false .nil)) (.cons (.for_ (.tup [.name 2, .name 3, .name 4]) (.of (.var 0)) fjoined_b1) (.cons (.ret (.var 1)) .nil)) from rfl]
  rw [ss_next (ss_asg (ee_lst es_nil) (show _ = some [some (.lst (rows.map (eRow enc))), some (.lst []), none, none, none] from rfl)), ss_next (ss_for (it_of (ee_var rfl) rfl) q1), q2]
  exact ss_ret (ss_ret' (ee_var rfl))
end K05

namespace K05
open AF PySem LF
theorem cmp_isnot_O (h : Option Int) (st : Store) : cmp .isnot (eO h) .non st = .ok (.bl h.isSome) st := by cases h <;> rfl
theorem cmp_is_O (h : Option Int) (st : Store) : cmp .is_ (eO h) .non st = .ok (.bl h.isNone) st := by cases h <;> rfl
/-- one more, where there is an end -/
def nextO : Option Int → Option Int
  | none => none
  | some e => some (e + 1)
theorem ee_next {kn : Kn} {ρ : AF.Env} {st : Store} {i : Nat} {h : Option Int} (hv : ρ[i]? = some (some (eO h))) : evE kn (.ite (.cmp .is_ (.var i) .non) .non (.bin .add false (.var i) (.int 1))) ρ st = .ok (eO (nextO h)) st := by
  cases h with
  | none => exact ee_ite_t (ee_cmp (ee_var hv) rfl rfl) rfl
  | some e => exact ee_ite_f (ee_cmp (ee_var hv) rfl rfl) (ee_bin (ee_var hv) rfl rfl)
theorem add_row {acc : List D} {d : D} {st : Store} (h : acc.length ≤ 900000) : bin .add false (.lst acc) (.lst [d]) st = .ok (.lst (acc ++ [d])) st := by
  simp only [bin, mkL]
  rw [if_pos (by simp [LIM]; omega)]; rfl
theorem ar_b1 (k : Nat) (l : Lf) (cs : List Cl) (hl : l.ok) (hc : CsOk cs) (st : Store) (n : Int) (acc : List D) (x4 x5 x6 x7 : Option D) (ha : acc.length ≤ 900000) :
    ∃ y4 y5 y6 y7, evSs (kn (k + 6)) fall_runs_b1 [some (eLf l), some (eCs cs), some (.lst acc), some (.int n), x4, x5, x6, x7] st =
      .ok .next [some (eLf l), some (eCs cs), some (.lst (acc ++ [eRow eRun (n, untilF (runF l cs n).2.2 n, ((runF l cs n).1, (runF l cs n).2.1))])), some (eO (nextO (untilF (runF l cs n).2.2 n))), y4, y5, y6, y7] st := by
  have h1 := ev_run k l cs n st hl hc (runF_eq hl hc n)
  have h2 := ev_until (k + 2) (runF l cs n).2.2 n st (fun f hf => ((runF_small hl hc n).2 f hf).mono' (by decide)) (Nat.le_trans (runF_lenA hl hc n) (by decide)) false _ rfl
  generalize runF l cs n = r at *
  obtain ⟨r1, r2, r3⟩ := r
  simp only at h1 h2 ⊢
  generalize untilF r3 n = u at *
  refine ⟨some (eStops r1), some (eF r2), some (.tup (r3.map eF)), some (eO u), ?_⟩
  rw [fall_runs_b1, ss_next (ss_asg (ee_call (ds := [eLf l, eCs cs, .int n]) rfl h1) rfl), ss_next (ss_asg (ee_call (ds := [.tup (r3.map eF), .int n]) rfl h2) rfl)]
  rw [ss_next (ss_asg (ee_bin (ee_var rfl) (ee_lst (es_cons (ee_tup (es_cons (ee_var rfl) (es_cons (ee_var rfl) (es_cons (ee_tup (es_cons (ee_var rfl) (es_cons (ee_var rfl) es_nil))) es_nil)))) es_nil)) (add_row ha)) rfl)]
  exact ss_last (ss_asg (ee_next rfl) rfl)
theorem ar_loop (k : Nat) (l : Lf) (cs : List Cl) (hl : l.ok) (hc : CsOk cs) (st : Store) : ∀ (K fuel : Nat) (n : Int) (acc : List D) (x4 x5 x6 x7 : Option D), 8 ≤ n → 3300 < n + K → K + 2 ≤ fuel → acc.length + K ≤ 800000 →
    ∃ y4 y5 y6 y7, evWhile (evE (kn (k + 6)) (.cmp .isnot (.var 3) .non)) (evSs (kn (k + 6)) fall_runs_b1) fuel [some (eLf l), some (eCs cs), some (.lst acc), some (.int n), x4, x5, x6, x7] st =
      .ok .next [some (eLf l), some (eCs cs), some (.lst (acc ++ (tile (fun n => untilF (runF l cs n).2.2 n) (fun n => ((runF l cs n).1, (runF l cs n).2.1)) none (K + 1) n).map (eRow eRun))), some .non, y4, y5, y6, y7] st
  | K, 0, _, _, _, _, _, _, _, _, h, _ => by omega
  | K, fuel + 1, n, acc, x4, x5, x6, x7, h8, hK, hf, ha => by
    have hB : ∀ f ∈ (runF l cs n).2.2, iabs f.2 ≤ 3300 := fun f hf => iabs_le ((runF_small hl hc n).2 f hf)
    obtain ⟨u1, _⟩ := until_spec (fs := (runF l cs n).2.2) (n := n) (B := 3300) (by omega) hB
    obtain ⟨y4, y5, y6, y7, hb⟩ := ar_b1 k l cs hl hc st n acc x4 x5 x6 x7 (by omega)
    have hcnd : evE (kn (k + 6)) (.cmp .isnot (.var 3) .non) [some (eLf l), some (eCs cs), some (.lst acc), some (.int n), x4, x5, x6, x7] st = .ok (.bl true) st := ee_cmp (ee_var rfl) rfl rfl
    unfold evWhile tile
    rw [hcnd]
    simp only [hb]
    cases hu : untilF (runF l cs n).2.2 n with
    | none =>
      rw [hu] at hb
      have hcn : evE (kn (k + 6)) (.cmp .isnot (.var 3) .non) [some (eLf l), some (eCs cs), some (.lst (acc ++ [eRow eRun (n, none, ((runF l cs n).1, (runF l cs n).2.1))])), some .non, y4, y5, y6, y7] st = .ok (.bl false) st := ee_cmp (ee_var rfl) rfl rfl
      refine ⟨y4, y5, y6, y7, ?_⟩
      cases fuel with
      | zero => omega
      | succ fuel =>
        simp only [nextO, eO]
        unfold evWhile
        rw [hcn]
        rfl
    | some e =>
      obtain ⟨v1, v2⟩ := u1 e hu
      simp only [nextO, eO]
      cases K with
      | zero => simp at hK; omega
      | succ K =>
        obtain ⟨z4, z5, z6, z7, hz⟩ := ar_loop k l cs hl hc st K fuel (e + 1) (acc ++ [eRow eRun (n, some e, ((runF l cs n).1, (runF l cs n).2.1))]) y4 y5 y6 y7 (by omega) (by omega) (by omega) (by simp; omega)
        refine ⟨z4, z5, z6, z7, ?_⟩
        rw [hz, if_neg (by simp)]
        simp
theorem ev_all_runs (k : Nat) (l : Lf) (cs : List Cl) (hl : l.ok) (hc : CsOk cs) (st : Store) :
    evCall P (k + 7) iall_runs [eLf l, eCs cs] st = .ok (.lst ((joinF (runRows l cs)).map (eRow eRun))) st := by
  rw [call_of (fn := fall_runs) rfl]
  obtain ⟨y4, y5, y6, y7, hw⟩ := ar_loop k l cs hl hc st 19999 100000 8 [] none none none none (by omega) (by decide) (by decide) (by decide)
  have hj := ev_joined enc_run (k + 5) (runRows l cs) st (Nat.le_trans (tile_len _ _) (by decide))
  rw [List.nil_append] at hw
  have hrr : tile (fun n => untilF (runF l cs n).2.2 n) (fun n => ((runF l cs n).1, (runF l cs n).2.1)) none (19999 + 1) 8 = runRows l cs := rfl
  rw [hrr] at hw
  generalize runRows l cs = RR at *
  refine body_ret (ρ' := [some (eLf l), some (eCs cs), some (.lst (RR.map (eRow eRun))), some .non, y4, y5, y6, y7]) rfl ?_
  rw [show fall_runs.body = .cons (.asg (.tup [(.name 2), (.name 3)]) (.tup (.cons (.lst false .nil) (.cons (.con 1) .nil)))) (.cons (.whl (.cmp .isnot (.var 3) .non) fall_runs_b1) (.cons (.ret (.call ijoined (.cons (.var 2) .nil))) .nil)) from rfl]
  rw [ss_next (ss_asg (ee_tup (es_cons (ee_lst es_nil) (es_cons (x := .int 8) rfl es_nil))) (show _ = some [some (eLf l), some (eCs cs), some (.lst []), some (.int 8), none, none, none, none] from rfl))]
  rw [ss_next (ss_whl (show evWhile _ _ (kn (k + 6)).fuel _ _ = _ from hw))]
  exact ss_ret (ss_ret' (ee_call (es_cons (ee_var rfl) es_nil) hj))
end K05

namespace K05
open AF PySem LF
theorem ev_all_rides (k : Nat) (l : Lf) (cs : List Cl) (hl : l.ok) (hc : CsOk cs) (st : Store) :
    evCall P (k + 8) iall_rides [eLf l, eCs cs] st = .ok (.lst ((ridesR l cs).map (eRow eRides))) st := by
  rw [call_of (fn := fall_rides) rfl]
  have ha := ev_all_runs k l cs hl hc st
  have hm := runs_mem hl hc
  have hlen := runs_len l cs
  rw [show ridesR l cs = joinF ((joinF (runRows l cs)).map fun r => (r.1, r.2.1, ridesF cs r.2.2.1)) from rfl]
  generalize joinF (runRows l cs) = RR at *
  have hj := ev_joined enc_rides (k + 6) (RR.map fun r => (r.1, r.2.1, ridesF cs r.2.2.1)) st (by rw [List.length_map]; omega)
  simp only [callBody, fall_rides, AF.envOf, evSs, evS, evE, evEs, evIt]
  simp [kn_call, ha, asg, srcOf, wipeE]
  rw [evLc_map (eRow eRun) (fun _ => true) (fun r => eRow eRides (r.1, r.2.1, ridesF cs r.2.2.1)) rfl RR [] (by simp [LIM]; omega) (fun r hr => ⟨_, rfl, by simp [evOc], fun _ => by
      obtain ⟨h8, he⟩ := hm r hr
      have hri := runF_rides hl hc r.1
      rw [he] at hri
      have hrf := ev_ride_forms (k + 6) cs r.2.2.1 st hc.1 (Nat.le_trans hri.1 (by decide)) hri.2
      simp [kn_call, hrf, eRow]⟩), filt_true]
  rw [List.map_map] at hj
  have hg : (RR.map (eRow eRides ∘ fun r => (r.1, r.2.1, ridesF cs r.2.2.1))) = RR.map fun r => eRow eRides (r.1, r.2.1, ridesF cs r.2.2.1) := rfl
  rw [hg] at hj
  simp [mkL, kn_call, hj]
end K05

namespace K05
open AF PySem LF
theorem ev_lesser (k : Nat) (a b : Option Int) (st : Store) : evCall P (k + 1) ilesser_end [eO a, eO b] st = .ok (eO (lesserEnd a b)) st := by
  rw [call_of (fn := flesser_end) rfl]
  cases a with
  | none => rfl
  | some x =>
    cases b with
    | none => rfl
    | some y =>
      refine body_ret (ρ' := [some (.int x), some (.int y)]) rfl ?_
      rw [show flesser_end.body = .cons (.ite (.cmp .is_ (.var 0) .non) (.cons (.ret (.var 1)) .nil) .nil) (.cons (.ret (.ite (.or (.cmp .is_ (.var 1) .non) (.cmp .lt (.var 0) (.var 1))) (.var 0) (.var 1))) .nil) from rfl]
      rw [ss_next (ss_skip (ee_cmp (ee_var rfl) rfl rfl))]
      have h : evE (kn k) (.or (.cmp .is_ (.var 1) .non) (.cmp .lt (.var 0) (.var 1))) (AF.envOf flesser_end.n [eO (some x), eO (some y)]) st = .ok (.bl (decide (x < y))) st := ee_or_f (ee_cmp (ee_var rfl) rfl rfl) (ee_cmp (ee_var rfl) (ee_var rfl) rfl)
      by_cases hxy : x < y
      · rw [decide_eq_true hxy] at h
        rw [show lesserEnd (some x) (some y) = some x from if_pos hxy]
        exact ss_ret (ss_ret' (ee_ite_t h (ee_var rfl)))
      · rw [decide_eq_false hxy] at h
        rw [show lesserEnd (some x) (some y) = some y from if_neg hxy]
        exact ss_ret (ss_ret' (ee_ite_f h (ee_var rfl)))
abbrev eSg (L : List Int) : D := .tup (L.map D.int)
section
variable (k : Nat) (st : Store) (lo : Int) (hi : Option Int) (fs : List Form) (hs : ∀ f ∈ fs, Small 19000 f) (hlen : fs.length ≤ 10000)
include hs hlen
theorem bs_b1 (n : Int) (acc : List D) (x5 x6 : Option D) (ha : acc.length ≤ 900000) :
    ∃ y5, evSs (kn (k + 4)) fby_signs_b1 [some (.int lo), some (eO hi), some (.lst (fs.map eF)), some (.lst acc), some (.int n), x5, x6] st =
      .ok .next [some (.int lo), some (eO hi), some (.lst (fs.map eF)), some (.lst (acc ++ [eRow eSg (n, lesserEnd (untilF fs n) hi, signsL fs n)])), some (eO (nextO (lesserEnd (untilF fs n) hi))), y5, x6] st := by
  have h2 := ev_until k fs n st (fun f hf => (hs f hf).mono' (by decide)) hlen true _ rfl
  have h3 := ev_lesser (k + 3) (untilF fs n) hi st
  have hlc := evLc_map (gs := []) (tg := .name 6) (c := evOc (kn (k + 4)) .none) (e := evE (kn (k + 4)) (.call isign_of (.cons (.var 6) (.cons (.var 4) .nil)))) (ρ := wipeE [some (.int lo), some (eO hi), some (.lst (fs.map eF)), some (.lst acc), some (.int n), some (eO (lesserEnd (untilF fs n) hi)), x6] [6]) (st := st) eF (fun _ => true) (fun f => .int (sgn (worth f n))) rfl fs [] (by simp [LIM]; omega) (fun f hf => ⟨_, rfl, rfl, fun _ => ee_call (es_cons (ee_var rfl) (es_cons (ee_var rfl) es_nil)) (ev_sign (k + 2) f n st (sm (hs f hf) (by decide)))⟩)
  rw [filt_true, List.nil_append] at hlc
  refine ⟨some (eO (lesserEnd (untilF fs n) hi)), ?_⟩
  rw [show signsL fs n = fs.map fun f => sgn (worth f n) from rfl]
  have hsg : eSg (fs.map fun f => sgn (worth f n)) = .tup (fs.map fun f => .int (sgn (worth f n))) := by rw [eSg, List.map_map]; rfl
  rw [eRow, hsg]
  have h1 : evE (kn (k + 4)) (.call ilesser_end (.cons (.call iuntil (.cons (.var 2) (.cons (.var 4) .nil))) (.cons (.var 1) .nil))) [some (.int lo), some (eO hi), some (.lst (fs.map eF)), some (.lst acc), some (.int n), x5, x6] st = .ok (eO (lesserEnd (untilF fs n) hi)) st :=
    ee_call (es_cons (ee_call (es_cons (ee_var rfl) (es_cons (ee_var rfl) es_nil)) h2) (es_cons (ee_var rfl) es_nil)) h3
  generalize lesserEnd (untilF fs n) hi = u at *
  generalize fs.map eF = FE at *
  generalize (fs.map fun f => D.int (sgn (worth f n))) = SG at *
  rw [fby_signs_b1, ss_next (ss_asg h1 rfl)]
  rw [ss_next (ss_asg (ee_bin (ee_var rfl) (ee_lst (es_cons (ee_tup (es_cons (ee_var rfl) (es_cons (ee_var rfl) (es_cons (ee_blt (es_cons (ee_lc (it_of (ee_var rfl) rfl) hlc) es_nil) rfl) es_nil)))) es_nil)) (add_row ha)) rfl)]
  exact ss_last (ss_asg (ee_next rfl) rfl)
theorem bs_cond (n : Option Int) (acc : List D) (x5 x6 : Option D) : evE (kn (k + 4)) (.and (.cmp .isnot (.var 4) .non) (.or (.cmp .is_ (.var 1) .non) (.cmp .le (.var 4) (.var 1)))) [some (.int lo), some (eO hi), some (.lst (fs.map eF)), some (.lst acc), some (eO n), x5, x6] st = .ok (.bl (match n with | none => false | some m => hiLeB m hi)) st := by
  cases n with
  | none => exact ee_and_f (ee_cmp (ee_var rfl) rfl rfl)
  | some m =>
    cases hi with
    | none => exact ee_and_t (ee_cmp (ee_var rfl) rfl rfl) (ee_or_t (ee_cmp (ee_var rfl) rfl rfl))
    | some e => exact ee_and_t (ee_cmp (ee_var rfl) rfl rfl) (ee_or_f (ee_cmp (ee_var rfl) rfl rfl) (ee_cmp (ee_var rfl) (ee_var rfl) rfl))
theorem bs_loop : ∀ (K fuel : Nat) (n : Int) (acc : List D) (x5 x6 : Option D), 8 ≤ n → hiLe n hi → 19000 < n + K → K + 2 ≤ fuel → acc.length + K ≤ 800000 →
    ∃ y4 y5, evWhile (evE (kn (k + 4)) (.and (.cmp .isnot (.var 4) .non) (.or (.cmp .is_ (.var 1) .non) (.cmp .le (.var 4) (.var 1))))) (evSs (kn (k + 4)) fby_signs_b1) fuel [some (.int lo), some (eO hi), some (.lst (fs.map eF)), some (.lst acc), some (.int n), x5, x6] st =
      .ok .next [some (.int lo), some (eO hi), some (.lst (fs.map eF)), some (.lst (acc ++ (tile (fun n => lesserEnd (untilF fs n) hi) (signsL fs) hi (K + 1) n).map (eRow eSg))), y4, y5, x6] st
  | K, 0, _, _, _, _, _, _, _, h, _ => by omega
  | K, fuel + 1, n, acc, x5, x6, h8, hn, hK, hf, ha => by
    have hB : ∀ f ∈ fs, iabs f.2 ≤ 19000 := fun f hf => iabs_le (hs f hf)
    obtain ⟨a1, a2⟩ := (until_tile (fs := fun _ => fs) (hi := hi) (fun n _ => hB)).ok n h8 hn
    obtain ⟨y5, hb⟩ := bs_b1 k st lo hi fs hs hlen n acc x5 x6 (by omega)
    have hc1 := bs_cond k st lo hi fs hs hlen (some n) acc x5 x6
    simp only [hiLeB_iff.mpr hn] at hc1
    have hc2 := fun (u : Option Int) => bs_cond k st lo hi fs hs hlen (nextO u) (acc ++ [eRow eSg (n, u, signsL fs n)]) y5 x6
    unfold evWhile tile
    rw [show eO (some n) = .int n from rfl] at hc1
    rw [hc1]
    simp only [hb]
    generalize hu : lesserEnd (untilF fs n) hi = u at *
    have hc2 := hc2 u
    by_cases he : u = hi
    · refine ⟨some (eO (nextO u)), y5, ?_⟩
      have hfalse : (match nextO u with | none => false | some m => hiLeB m hi) = false := by
        subst he
        cases u with
        | none => rfl
        | some e => simp [nextO, hiLeB]; omega
      rw [hfalse] at hc2
      rw [if_pos he]
      cases fuel with
      | zero => omega
      | succ fuel =>
        unfold evWhile
        rw [hc2]
        rfl
    · rcases a2 with z | ⟨e, e1, e2, e3⟩
      · exact absurd z he
      · subst e1
        have a1 : n ≤ e := a1
        cases K with
        | zero => simp at hK; omega
        | succ K =>
          obtain ⟨z4, z5, hz⟩ := bs_loop K fuel (e + 1) (acc ++ [eRow eSg (n, some e, signsL fs n)]) y5 x6 (by omega) e3 (by omega) (by omega) (by simp; omega)
          refine ⟨z4, z5, ?_⟩
          simp only [nextO, eO] at hz ⊢
          rw [hz, if_neg he]
          simp
theorem ev_by_signs (h8 : 8 ≤ lo) (hl : hiLe lo hi) : evCall P (k + 5) iby_signs [.int lo, eO hi, .lst (fs.map eF)] st = .ok (.lst ((bySigns lo hi fs).map (eRow eSg))) st := by
  rw [call_of (fn := fby_signs) rfl]
  obtain ⟨y4, y5, hw⟩ := bs_loop k st lo hi fs hs hlen 19999 100000 lo [] none none h8 hl (by omega) (by decide) (by decide)
  rw [List.nil_append] at hw
  rw [show tile (fun n => lesserEnd (untilF fs n) hi) (signsL fs) hi (19999 + 1) lo = bySigns lo hi fs from rfl] at hw
  generalize bySigns lo hi fs = BB at *
  refine body_ret (ρ' := [some (.int lo), some (eO hi), some (.lst (fs.map eF)), some (.lst (BB.map (eRow eSg))), y4, y5, none]) rfl ?_
  rw [show fby_signs.body = .cons (.asg (.tup [(.name 3), (.name 4)]) (.tup (.cons (.lst false .nil) (.cons (.var 0) .nil)))) (.cons (.whl (.and (.cmp .isnot (.var 4) .non) (.or (.cmp .is_ (.var 1) .non) (.cmp .le (.var 4) (.var 1)))) fby_signs_b1) (.cons (.ret (.var 3)) .nil)) from rfl]
  rw [ss_next (ss_asg (ee_tup (es_cons (ee_lst es_nil) (es_cons (ee_var rfl) es_nil))) (show _ = some [some (.int lo), some (eO hi), some (.lst (fs.map eF)), some (.lst []), some (.int lo), none, none] from rfl))]
  rw [ss_next (ss_whl (show evWhile _ _ (kn (k + 4)).fuel _ _ = _ from hw))]
  exact ss_ret (ss_ret' (ee_var rfl))
end
end K05

namespace K05
open AF PySem LF
theorem ev_all_pairs (k : Nat) (fs : List Form) (st : Store) (hlen : fs.length ≤ 100) : evCall P (k + 2) iall_pairs [.lst (fs.map eF)] st = .ok (.lst ((allPairs fs).map eF)) st := by
  rw [call_of (fn := fall_pairs) rfl]
  have h := evLc2_map (gs := []) (tg := .name 1) (tg1 := .name 2) (own1 := [2]) (src := evIt (kn (k + 1)) (.of (.var 0))) (e := evE (kn (k + 1)) (.call iless (.cons (.var 1) (.cons (.var 2) .nil)))) (ρ := wipeE (AF.envOf 3 [.lst (fs.map eF)]) [1, 2]) (st := st) eF eF (fun _ => fs) (fun a b => eF (fsub a b)) rfl fs [] (by
      have := pairs_len fs
      have h2 : (fs.flatMap fun _ => fs).length = fs.length * fs.length := by
        rw [← this, allPairs, List.length_flatMap, List.length_flatMap]; simp
      have : fs.length * fs.length ≤ 100 * 100 := Nat.mul_le_mul hlen hlen
      simp only [List.length_nil, LIM]; omega) (fun a ha => ⟨_, rfl, rfl, fun b hb => ⟨_, rfl, ee_call (es_cons (ee_var rfl) (es_cons (ee_var rfl) es_nil)) (ev_less k a b st)⟩⟩)
  rw [List.nil_append, show (fs.flatMap fun x => fs.map fun b => eF (fsub x b)) = (allPairs fs).map eF from by rw [allPairs, List.map_flatMap]; simp only [List.map_map]; rfl] at h
  refine body_ret (ρ' := AF.envOf 3 [.lst (fs.map eF)]) rfl ?_
  rw [show fall_pairs.n = 3 from rfl]
  refine ss_ret (ss_ret' ?_)
  rw [evE, show evIt (kn (k + 1)) (.of (.var 0)) (AF.envOf 3 [.lst (fs.map eF)]) st = .ok ⟨fs.map eF, []⟩ st from rfl]
  simp only [R.bind_ok, h]
  rfl
theorem item_form {fs : List Form} {i : Nat} (h : i < fs.length) (st : Store) : idx (.lst (fs.map eF)) (eN i) st = .ok (eF ((fs[i]?).getD (0, 0))) st := by
  have e : itemAt (fs.map eF) (i : Int) = some (eF ((fs[i]?).getD (0, 0))) := by
    rw [itemAt_nat (by rw [List.length_map]; exact h), List.getElem?_map, List.getElem?_eq_getElem h]; rfl
  simp only [idx, seqOf, lstOf, e]
theorem ev_greatest_of (k : Nat) (fs : List Form) (n : Int) (st : Store) (hne : fs ≠ []) (hs : ∀ f ∈ fs, Small 40000 f) : evCall P (k + 3) igreatest_of [.lst (fs.map eF), .int n] st = .ok (eN (greatestOf fs n)) st := by
  rw [call_of (fn := fgreatest_of) rfl]
  have hpos := List.length_pos_iff.mpr hne
  have hbound : ∀ (L : List (Nat × Form)) (b : Nat), (∀ q ∈ L, q.1 < fs.length) → b < fs.length → L.foldl (gStep fs n) b < fs.length := by
    intro L
    induction L with
    | nil => intro b _ h; exact h
    | cons q L ih =>
      intro b hL hb
      rw [List.foldl_cons]
      refine ih _ (fun z hz => hL z (List.mem_cons_of_mem _ hz)) ?_
      unfold gStep
      split
      · exact hL q List.mem_cons_self
      · exact hb
  obtain ⟨ρ', q1, y3, y4, q2⟩ := evFor_pre (gs := []) (tg := .tup [.name 3, .name 4]) (body := evSs (kn (k + 2)) fgreatest_of_b1) (st := st) (fun q : Nat × Form => D.tup [eN q.1, eF q.2])
    (fun pre ρ => ∃ y3 y4, ρ = [some (.lst (fs.map eF)), some (.int n), some (eN (pre.foldl (gStep fs n) 0)), y3, y4]) rfl
    (enumP 0 fs) [] [some (.lst (fs.map eF)), some (.int n), some (.int 0), none, none] ⟨_, _, rfl⟩ (by
      rintro p x q ρ e ⟨y3, y4, rfl⟩
      rw [List.nil_append] at e
      have hmem : ∀ z ∈ p, z.1 < fs.length := fun z hz => by
        have : z ∈ enumP 0 fs := by rw [e]; exact List.mem_append_left _ hz
        have := (enum_lt this).1; omega
      have hx : x ∈ enumP 0 fs := by rw [e]; simp
      have hb := hbound p 0 hmem hpos
      rw [List.foldl_append, List.foldl_cons, List.foldl_nil]
      generalize p.foldl (gStep fs n) 0 = b at *
      refine ⟨_, [some (.lst (fs.map eF)), some (.int n), some (eN (gStep fs n b x)), some (eN x.1), some (eF x.2)], rfl, ?_, _, _, rfl⟩
      show evSs (kn (k + 2)) fgreatest_of_b1 [some (.lst (fs.map eF)), some (.int n), some (eN b), some (eN x.1), some (eF x.2)] st = _
      have hbm : (fs[b]?).getD (0, 0) ∈ fs := by rw [List.getElem?_eq_getElem hb]; exact List.getElem_mem hb
      have hsm : small64 (fsub x.2 ((fs[b]?).getD (0, 0))).1 = true := sm (sub_small' (hs _ (enum_lt hx).2) (hs _ hbm)) (by decide)
      have h1 := ev_less (k + 1) x.2 ((fs[b]?).getD (0, 0)) st
      have h2 := ev_sign k (fsub x.2 ((fs[b]?).getD (0, 0))) n st hsm
      have hc : evE (kn (k + 2)) (.cmp .gt (.call isign_of (.cons (.call iless (.cons (.var 4) (.cons (.idx (.var 0) (.var 2)) .nil))) (.cons (.var 1) .nil))) (.int 0)) [some (.lst (fs.map eF)), some (.int n), some (eN b), some (eN x.1), some (eF x.2)] st = .ok (.bl (decide (0 < worth (fsub x.2 ((fs[b]?).getD (0, 0))) n))) st := by
        rw [← decide_eq_decide.mpr (sgn_pos _)]
        exact ee_cmp (ee_call (es_cons (ee_call (es_cons (ee_var rfl) (es_cons (ee_idx (ee_var rfl) (ee_var rfl) (item_form hb st)) es_nil)) h1) (es_cons (ee_var rfl) es_nil)) h2) rfl rfl
      unfold gStep
      by_cases hz : 0 < worth (fsub x.2 ((fs[b]?).getD (0, 0))) n
      · rw [decide_eq_true hz] at hc
        rw [if_pos hz]
        exact ss_last ((ss_if_t hc).trans (ss_last (ss_asg (ee_var rfl) rfl)))
      · rw [decide_eq_false hz] at hc
        rw [if_neg hz]
        exact ss_last (ss_skip hc))
  refine body_ret (ρ' := ρ') rfl ?_
  rw [show fgreatest_of.body = .cons (.asg (.name 2) (.int 0)) (.cons (.for_ (.tup [(.name 3), (.name 4)]) (.enum (.var 0)) fgreatest_of_b1) (.cons (.ret (.var 2)) .nil)) from rfl]
  rw [ss_next (ss_asg rfl (show _ = some [some (.lst (fs.map eF)), some (.int n), some (.int 0), none, none] from rfl))]
  rw [← enumD_P eF 0 fs] at q1
  rw [ss_next (ss_for (sr := ⟨enumD 0 (fs.map eF), []⟩) rfl q1), q2]
  exact ss_ret (ss_ret' (ee_var rfl))
end K05

namespace K05
open AF PySem LF
theorem pl_cl (k : Nat) (c : Cl) : plD (k + 3) (eCl c) = true := by
  have h1 : plD (k + 2) (eFl c.a) = true := pl_fl k c.a
  have h2 : plD (k + 2) (eFl c.b) = true := pl_fl k c.b
  rw [eCl, plT (k + 2)]
  simp only [List.all_cons, List.all_nil, h1, h2, show plD (k + 2) (.int c.t) = true from rfl, Bool.and_true]
theorem calls_nil (cs : List Cl) (st : Store) : eqD st (eCs cs) (.tup []) = some (decide (cs = [])) := by
  rw [eqD_pl st ((plT 23 _).trans (pl_map (pl_cl 20) cs)) (by rfl)]
  cases cs with
  | nil => rfl
  | cons a r => simp [D.beq, D.beqs]
theorem mem_offs {L : List (Form × Form)} {f : Form} (h : f ∈ offs L) : ∃ q ∈ L, q.2 = f := List.mem_map.mp h
end K05

namespace K05
open AF PySem LF
theorem ev_wait_forms (k : Nat) (cs : List Cl) (L : List (Form × Form)) (hL : L.length = cs.length) (h4 : cs.length ≤ 4) (st : Store) : evCall P (k + 2) iwait_forms [eCs cs, eRides L] st = .ok (.lst ((waitF cs L).map eF)) st := by
  rw [call_of (fn := fwait_forms) rfl]
  have hlc := evLc_map (gs := []) (tg := .tup [.name 2, .tup [.name 3, .name 4]]) (c := evOc (kn (k + 1)) .none) (e := evE (kn (k + 1)) (.call iless (.cons (.var 4) (.cons (.tup (.cons (.int 0) (.cons (.idx (.idx (.var 0) (.var 2)) (.int 0)) .nil))) .nil)))) (ρ := wipeE (AF.envOf 5 [eCs cs, eRides L]) [2, 3, 4]) (st := st) (fun q : Nat × (Form × Form) => D.tup [eN q.1, eRide q.2]) (fun _ => true) (fun q => eF (fsub q.2.2 (0, (cAt cs q.1).t))) rfl (enumP 0 L) [] (by rw [enumP_len]; simp [LIM]; omega) (fun q hq => ⟨_, rfl, rfl, fun _ => by
      obtain ⟨h1, _⟩ := enum_lt hq
      exact ee_call (es_cons (ee_var rfl) (es_cons (ee_tup (es_cons rfl (es_cons (ee_idx (ee_idx (ee_var rfl) (ee_var rfl) (item_call (by omega) st)) rfl rfl) es_nil))) es_nil)) (ev_less k q.2.2 (0, (cAt cs q.1).t) st)⟩)
  rw [filt_true, List.nil_append, ← enumD_P eRide 0 L, show ((enumP 0 L).map fun q => eF (fsub q.2.2 (0, (cAt cs q.1).t))) = (waitF cs L).map eF from by rw [waitF, List.map_map]; rfl] at hlc
  refine body_ret (ρ' := AF.envOf 5 [eCs cs, eRides L]) rfl ?_
  exact ss_ret (ss_ret' (ee_lc (sr := ⟨enumD 0 (L.map eRide), []⟩) rfl hlc))
section
variable (k : Nat) (l : Lf) (cs : List Cl) (st : Store) (x3 x4 x5 : Option D)
theorem wr_in (fs : List Form) (hne : fs ≠ []) (hs : ∀ f ∈ fs, Small 40000 f) : ∀ (Q : List (Row (List Int))) (acc : List (Row (Nat × Form))) (x7 x8 x9 x10 : Option D), acc.length + Q.length ≤ 900000 → ∃ y7 y8 y9 y10, evFor [] (.tup [.name 7, .name 8, .name 9]) (evSs (kn (k + 8)) flongest_rows_b1) (Q.map (eRow eSg)) [some (eLf l), some (eCs cs), some (.lst (acc.map (eRow eLong))), x3, x4, x5, some (.lst (fs.map eF)), x7, x8, x9, x10] st =
      .ok .next [some (eLf l), some (eCs cs), some (.lst ((acc ++ Q.map fun q => (q.1, q.2.1, longOf fs q.1)).map (eRow eLong))), x3, x4, x5, some (.lst (fs.map eF)), y7, y8, y9, y10] st
  | [], acc, x7, x8, x9, x10, _ => ⟨x7, x8, x9, x10, by simp [evFor, AF.guard]⟩
  | q :: Q, acc, x7, x8, x9, x10, hl => by
    obtain ⟨ql, qh, qt⟩ := q
    simp only [List.length_cons] at hl
    obtain ⟨y7, y8, y9, y10, h⟩ := wr_in fs hne hs Q (acc ++ [(ql, qh, longOf fs ql)]) (some (.int ql)) (some (eO qh)) (some (eSg qt)) (some (eN (greatestOf fs ql))) (by rw [List.length_append, List.length_singleton]; omega)
    refine ⟨y7, y8, y9, y10, ?_⟩
    have hg := ev_greatest_of (k + 5) fs ql st hne hs
    have hi := item_form (greatest_lt ql hne) st
    have hb : evSs (kn (k + 8)) flongest_rows_b1 [some (eLf l), some (eCs cs), some (.lst (acc.map (eRow eLong))), x3, x4, x5, some (.lst (fs.map eF)), some (.int ql), some (eO qh), some (eSg qt), x10] st =
        .ok .next [some (eLf l), some (eCs cs), some (.lst ((acc ++ [(ql, qh, longOf fs ql)]).map (eRow eLong))), x3, x4, x5, some (.lst (fs.map eF)), some (.int ql), some (eO qh), some (eSg qt), some (eN (greatestOf fs ql))] st := by
      have ha := add_row (acc := acc.map (eRow eLong)) (d := .tup [.int ql, eO qh, .tup [eN (greatestOf fs ql), eF (lastOf fs ql)]]) (st := st) (by rw [List.length_map]; omega)
      rw [List.map_append, List.map_singleton, show eRow eLong (ql, qh, longOf fs ql) = .tup [.int ql, eO qh, .tup [eN (greatestOf fs ql), eF (lastOf fs ql)]] from rfl]
      rw [show (fs[greatestOf fs ql]?).getD (0, 0) = lastOf fs ql from rfl] at hi
      generalize acc.map (eRow eLong) = A at *
      generalize lastOf fs ql = lo at *
      generalize greatestOf fs ql = gr at *
      rw [flongest_rows_b1, ss_next (ss_asg (ee_call (es_cons (ee_var rfl) (es_cons (ee_var rfl) es_nil)) hg) (show _ = some [some (eLf l), some (eCs cs), some (.lst A), x3, x4, x5, some (.lst (fs.map eF)), some (.int ql), some (eO qh), some (eSg qt), some (eN gr)] from rfl))]
      exact ss_last (ss_asg (ee_bin (ee_var rfl) (ee_lst (es_cons (ee_tup (es_cons (ee_var rfl) (es_cons (ee_var rfl) (es_cons (ee_tup (es_cons (ee_var rfl) (es_cons (ee_idx (ee_var rfl) (ee_var rfl) hi) es_nil))) es_nil)))) es_nil)) ha) rfl)
    rw [List.map_cons, evFor, if_pos (show AF.guard [] st = true from rfl), show asg (.tup [.name 7, .name 8, .name 9]) (eRow eSg (ql, qh, qt)) [some (eLf l), some (eCs cs), some (.lst (acc.map (eRow eLong))), x3, x4, x5, some (.lst (fs.map eF)), x7, x8, x9, x10] = some [some (eLf l), some (eCs cs), some (.lst (acc.map (eRow eLong))), x3, x4, x5, some (.lst (fs.map eF)), some (.int ql), some (eO qh), some (eSg qt), x10] from rfl]
    simp only [hb]
    rw [h, List.append_assoc]
    rfl
end
theorem ev_longest_rows (k : Nat) (l : Lf) (cs : List Cl) (hl : l.ok) (hc : CsOk cs) (h0 : cs ≠ []) (st : Store) : evCall P (k + 9) ilongest_rows [eLf l, eCs cs] st = .ok (.lst ((longF l cs).map (eRow eLong))) st := by
  rw [call_of (fn := flongest_rows) rfl]
  have hbody : flongest_rows.body = .cons (.asg (.name 2) (.lst false .nil)) (.cons (.for_ (.tup [(.name 3), (.name 4), (.name 5)]) (.of (.call iall_rides (.cons (.var 0) (.cons (.var 1) .nil)))) flongest_rows_b2) (.cons (.ret (.call ijoined (.cons (.var 2) .nil))) .nil)) := rfl
  rw [show longF l cs = joinF (longRaw cs (ridesR l cs)) from rfl]
  have ha := ev_all_rides k l cs hl hc st
  obtain ⟨_, _, hrl⟩ := longRaw_ok hl hc
  have hm := ridesR_mem hl hc
  have hsub := wait_sub hl hc
  generalize ridesR l cs = RR at *
  have hj := ev_joined enc_long (k + 7) (longRaw cs RR) st (by omega)
  have hcut : ∀ (p : List (Row (List (Form × Form)))) x q, RR = p ++ x :: q → (longRaw cs p).length ≤ 6400 := fun p x q e => by
    rw [e, longRaw, List.flatMap_append, List.length_append] at hrl
    unfold longRaw; omega
  obtain ⟨ρ', q1, y3, y4, y5, y6, y7, y8, y9, y10, q2⟩ := evFor_pre (gs := []) (tg := .tup [.name 3, .name 4, .name 5]) (body := evSs (kn (k + 8)) flongest_rows_b2) (st := st) (eRow eRides)
    (fun pre ρ => ∃ y3 y4 y5 y6 y7 y8 y9 y10, ρ = [some (eLf l), some (eCs cs), some (.lst ((longRaw cs pre).map (eRow eLong))), y3, y4, y5, y6, y7, y8, y9, y10]) rfl
    RR [] [some (eLf l), some (eCs cs), some (.lst []), none, none, none, none, none, none, none, none] ⟨_, _, _, _, _, _, _, _, rfl⟩ (by
      rintro p x q ρ e ⟨y3, y4, y5, y6, y7, y8, y9, y10, rfl⟩
      rw [List.nil_append] at e
      have hx : x ∈ RR := by rw [e]; simp
      obtain ⟨m1, m2, m3, m4, m5⟩ := hm x hx
      have hss := hsub x hx
      have hpl := hcut p x q e
      obtain ⟨xl, xh, xt⟩ := x
      simp only at m1 m2 m3 m4 m5 hss
      have hxl : xt.length = cs.length := by rw [m3, ridesF_len]
      have hol : (waitF cs xt).length = cs.length := by rw [waitF_len, hxl]
      have hone : waitF cs xt ≠ [] := fun z => h0 (List.length_eq_zero_iff.mp (by rw [← hol, z]; rfl))
      have hos : ∀ f ∈ waitF cs xt, Small 40000 f := fun f hf => by rw [m3] at hf; exact (waits_small hl hc xl f hf).mono' (by decide)
      have h4 := hc.1
      have hw := ev_wait_forms (k + 6) cs xt hxl h4 st
      have hp := ev_all_pairs (k + 6) (waitF cs xt) st (by omega)
      have hpl2 : (allPairs (waitF cs xt)).length ≤ 10000 := by
        rw [pairs_len, hol]
        exact Nat.le_trans (Nat.mul_le_mul h4 h4) (by decide)
      have hbs := ev_by_signs (k + 3) st xl xh (allPairs (waitF cs xt)) (fun f hf => (hss f hf).mono' (by decide)) hpl2 m1 m2
      obtain ⟨z7, z8, z9, z10, hin⟩ := wr_in k l cs st (some (.int xl)) (some (eO xh)) (some (eRides xt)) (waitF cs xt) hone hos (bySigns xl xh (allPairs (waitF cs xt))) (longRaw cs p) y7 y8 y9 y10 (by have := bySigns_len xl xh (allPairs (waitF cs xt)); omega)
      have hnew : longRaw cs (p ++ [(xl, xh, xt)]) = longRaw cs p ++ (bySigns xl xh (allPairs (waitF cs xt))).map fun q => (q.1, q.2.1, longOf (waitF cs xt) q.1) := by
        rw [longRaw, List.flatMap_append, List.flatMap_cons, List.flatMap_nil, List.append_nil]; rfl
      refine ⟨_, [some (eLf l), some (eCs cs), some (.lst ((longRaw cs (p ++ [(xl, xh, xt)])).map (eRow eLong))), some (.int xl), some (eO xh), some (eRides xt), some (.lst ((waitF cs xt).map eF)), z7, z8, z9, z10], rfl, ?_, _, _, _, _, _, _, _, _, rfl⟩
      show evSs (kn (k + 8)) flongest_rows_b2 [some (eLf l), some (eCs cs), some (.lst ((longRaw cs p).map (eRow eLong))), some (.int xl), some (eO xh), some (eRides xt), y6, y7, y8, y9, y10] st = _
      rw [hnew, flongest_rows_b2, ss_next (ss_asg (ee_call (es_cons (ee_var rfl) (es_cons (ee_var rfl) es_nil)) hw) rfl)]
      exact ss_last (ss_for (it_of (ee_call (es_cons (ee_var rfl) (es_cons (ee_var rfl) (es_cons (ee_call (es_cons (ee_var rfl) es_nil) hp) es_nil))) hbs) rfl) hin))
  rw [List.nil_append] at q2
  refine body_ret (ρ' := ρ') rfl ?_
  rw [hbody, ss_next (ss_asg (ee_lst es_nil) (show _ = some [some (eLf l), some (eCs cs), some (.lst []), none, none, none, none, none, none, none, none] from rfl)), ss_next (ss_for (it_of (ee_call (es_cons (ee_var rfl) (es_cons (ee_var rfl) es_nil)) ha) rfl) q1), q2]
  exact ss_ret (ss_ret' (ee_call (es_cons (ee_var rfl) es_nil) hj))
theorem ev_longest_waits (k : Nat) (l : Lf) (cs : List Cl) (hl : l.ok) (hc : CsOk cs) (st : Store) : evCall P (k + 10) ilongest_waits [eLf l, eCs cs] st = .ok (.lst (if cs = [] then [] else (longF l cs).map (eRowG restLong))) st := by
  rw [call_of (fn := flongest_waits) rfl]
  have hq : evE (kn (k + 9)) (.cmp .eq (.var 1) (.tup .nil)) (AF.envOf flongest_waits.n [eLf l, eCs cs]) st = .ok (.bl (decide (cs = []))) st := ee_cmp (ee_var rfl) (ee_tup es_nil) (cmp_eqb (calls_nil cs st))
  refine body_ret (ρ' := AF.envOf flongest_waits.n [eLf l, eCs cs]) rfl ?_
  rw [show flongest_waits.body = .cons (.expr (.call ineed_plan (.cons (.var 0) (.cons (.var 1) .nil)))) (.cons (.ite (.cmp .eq (.var 1) (.tup .nil)) (.cons (.ret (.lst false .nil)) .nil) .nil) (.cons (.ret (.lc false [2, 3, 4] (.tup [(.name 2), (.name 3), (.name 4)]) (.of (.call ilongest_rows (.cons (.var 0) (.cons (.var 1) .nil)))) .none (.bin .add false (.tup (.cons (.var 2) (.cons (.var 3) .nil))) (.var 4)))) .nil)) from rfl]
  rw [ss_next (ss_expr (ee_call (ds := [eLf l, eCs cs]) rfl (ev_need_plan (k + 3) l cs hl hc st)))]
  by_cases h0 : cs = []
  · rw [decide_eq_true h0] at hq
    rw [if_pos h0]
    exact ss_ret ((ss_if_t hq).trans rfl)
  · rw [decide_eq_false h0] at hq
    rw [if_neg h0, ss_next (ss_skip hq)]
    have hr := ev_longest_rows k l cs hl hc h0 st
    obtain ⟨_, _, hrl⟩ := longRaw_ok hl hc
    have hlen : (longF l cs).length ≤ 6400 := Nat.le_trans (joinF_len _) hrl
    generalize longF l cs = R at *
    have hlc2 := evLc_map (gs := []) (tg := .tup [.name 2, .name 3, .name 4]) (c := evOc (kn (k + 9)) .none) (e := evE (kn (k + 9)) (.bin .add false (.tup (.cons (.var 2) (.cons (.var 3) .nil))) (.var 4))) (ρ := wipeE (AF.envOf flongest_waits.n [eLf l, eCs cs]) [2, 3, 4]) (st := st) (eRow eLong) (fun _ => true) (eRowG restLong) rfl R [] (by simp [LIM]; omega) (fun r hr => ⟨_, rfl, rfl, fun _ => ee_bin (ee_tup (es_cons (ee_var rfl) (es_cons (ee_var rfl) es_nil))) (ee_var rfl) rfl⟩)
    rw [filt_true, List.nil_append] at hlc2
    exact ss_ret (ss_ret' (ee_lc (it_of (ee_call (ds := [eLf l, eCs cs]) rfl hr) rfl) hlc2))
theorem ev_empty_ways (k : Nat) (l : Lf) (cs : List Cl) (hl : l.ok) (hc : CsOk cs) (st : Store) :
    evCall P (k + 8) iempty_ways [eLf l, eCs cs] st = .ok (.lst ((emptyF l cs).map (eRow eF))) st := by
  rw [call_of (fn := fempty_ways) rfl]
  have ha := ev_all_runs k l cs hl hc st
  have hp := ev_need_plan (k + 1) l cs hl hc st
  have hlen := runs_len l cs
  rw [show emptyF l cs = joinF ((joinF (runRows l cs)).map fun r => (r.1, r.2.1, r.2.2.2)) from rfl]
  generalize joinF (runRows l cs) = RR at *
  have hj := ev_joined enc_F (k + 6) (RR.map fun r => (r.1, r.2.1, r.2.2.2)) st (by rw [List.length_map]; omega)
  simp only [callBody, fempty_ways, AF.envOf, evSs, evS, evE, evEs, evIt]
  simp [kn_call, ha, hp, asg, srcOf, wipeE]
  rw [evLc_map (eRow eRun) (fun _ => true) (fun r => eRow eF (r.1, r.2.1, r.2.2.2)) rfl RR [] (by simp [LIM]; omega) (fun r hr => ⟨_, rfl, by simp [evOc], fun _ => by
      simp [eRow]⟩), filt_true]
  rw [List.map_map] at hj
  have hg : (RR.map (eRow eF ∘ fun r => (r.1, r.2.1, r.2.2.2))) = RR.map fun r => eRow eF (r.1, r.2.1, r.2.2.2) := rfl
  rw [hg] at hj
  simp [mkL, kn_call, hj]
end K05

namespace K05
open AF PySem LF
theorem lw_some (k : Nat) (r : Nat) (lo : Int) (hi : Option Int) (st : Store) (hr : Src2 r st) (h8 : 8 ≤ lo) (hlo : hiLe lo hi) (hb : lo ≤ 1000000) (hb2 : ∀ e, hi = some e → e ≤ 1000000) :
    ∃ (ns : List Int) (st' : Store), evCall P (k + 2) i_law_some [.ref r, .int lo, eO hi] st = .ok (.lst (ns.map D.int)) st' ∧ (∀ n ∈ ns, lo ≤ n ∧ hiLe n hi) ∧ ns.length ≤ 4 ∧ Src2 r st' ∧ Keep [r] st st' ∧ st'.length = st.length := by
  rw [call_of (fn := f_law_some) rfl]
  cases hi with
  | none =>
    obtain ⟨i1, s1, a1, a2, a3, a4, a5, a6⟩ := lw_draw k r 999999999999999999999999000000 st hr (by decide) (by decide)
    obtain ⟨i2, s2, b1, b2, b3, b4, b5, b6⟩ := lw_draw k r 200 s1 a4 (by decide) (by decide)
    refine ⟨[lo, lo + i2, lo + i1, 1000000000000000000000000000000], s2, ?_, ?_, by simp, b4, a5.trans b5, by omega⟩
    · have p1 : bin .pow false (.int 10) (.int 30) st = .ok (.int 1000000000000000000000000000000) st := rfl
      have p2 : bin .pow false (.int 10) (.int 6) st = .ok (.int 1000000) st := rfl
      have p4 : bin .pow false (.int 10) (.int 30) s2 = .ok (.int 1000000000000000000000000000000) s2 := rfl
      have p3 : bin .sub false (.int 1000000000000000000000000000000) (.int 1000000) st = .ok (.int 999999999999999999999999000000) st := rfl
      refine body_ret (ρ' := [some (.ref r), some (.int lo), some .non, some (.int (lo + i1))]) rfl ?_
      refine ss_ret ((ss_if_t (ee_cmp (ee_var rfl) rfl rfl)).trans ?_)
      rw [ss_next (ss_asg (ee_bin (ee_var rfl) (ee_call (es_cons (ee_var rfl) (es_cons (ee_bin (ee_bin rfl rfl p1) (ee_bin rfl rfl p2) p3) es_nil)) a1) rfl) (show _ = some [some (.ref r), some (.int lo), some .non, some (.int (lo + i1))] from rfl))]
      exact ss_ret (ss_ret' (ee_lst (es_cons (ee_var rfl) (es_cons (ee_bin (ee_var rfl) (ee_call (es_cons (ee_var rfl) (es_cons rfl es_nil)) b1) rfl) (es_cons (ee_var rfl) (es_cons (ee_bin rfl rfl p4) es_nil))))))
    · intro n hn
      simp only [List.mem_cons, List.not_mem_nil, or_false] at hn
      refine ⟨?_, trivial⟩
      rcases hn with e | e | e | e <;> omega
  | some e =>
    have hlo : lo ≤ e := hlo
    have hb2 := hb2 e rfl
    obtain ⟨i1, s1, a1, a2, a3, a4, a5, a6⟩ := lw_draw k r (e - lo + 1) st hr (by omega) (by omega)
    refine ⟨[lo, e, lo + i1], s1, ?_, ?_, by simp, a4, a5, a6⟩
    · refine body_ret (ρ' := [some (.ref r), some (.int lo), some (.int e), none]) rfl ?_
      rw [show f_law_some.body = .cons (.ite (.cmp .is_ (.var 2) .non) _ .nil) (.cons (.ret (.lst false (.cons (.var 1) (.cons (.var 2) (.cons (.bin .add false (.var 1) (.call i_law_draw (.cons (.var 0) (.cons (.bin .add false (.bin .sub false (.var 2) (.var 1)) (.int 1)) .nil)))) .nil))))) .nil) from rfl]
      rw [ss_next (ss_skip (ee_cmp (ee_var rfl) rfl rfl))]
      exact ss_ret (ss_ret' (ee_lst (es_cons (ee_var rfl) (es_cons (ee_var rfl) (es_cons (ee_bin (ee_var rfl) (ee_call (es_cons (ee_var rfl) (es_cons (ee_bin (ee_bin (ee_var rfl) (ee_var rfl) rfl) rfl rfl) es_nil)) a1) rfl) es_nil)))))
    · intro n hn
      simp only [List.mem_cons, List.not_mem_nil, or_false] at hn
      have : ∀ x : Int, x ≤ e → hiLe x (some e) := fun x h => h
      rcases hn with q | q | q
      · subst q; exact ⟨Int.le_refl _, this _ hlo⟩
      · subst q; exact ⟨hlo, this _ (Int.le_refl _)⟩
      · subst q; exact ⟨by omega, this _ (by omega)⟩
theorem cmp_ltI (a b : Int) (st : Store) : cmp .lt (.int a) (.int b) st = .ok (.bl (decide (a < b))) st := rfl
theorem cmp_neI (a b : Int) (st : Store) : cmp .ne (.int a) (.int b) st = .ok (.bl (!decide (a = b))) st := by
  simp only [cmp, eq_int]; by_cases h : a = b <;> simp [h]
theorem lw_shaped {τ : Type} [DecidableEq τ] {rest : τ → List D} (hrest : EncL rest) {F : Int → τ} {rows : List (Row τ)} (c : Cov F none 8 rows) (ad : Adj rows) (k : Nat) (st : Store) :
    evCall P (k + 1) i_law_shaped [.lst (rows.map (eRowG rest))] st = .ok (.bl true) st := by
  rw [call_of (fn := f_law_shaped) rfl]
  have hz := cov_zip c ad
  obtain ⟨dl, ll, lt, hlast⟩ := c.lastNone
  have hem : eqD st (.lst (rows.map (eRowG rest))) (.lst []) = some false := by
    rw [empty_eq st (rows.map (eRowG rest)) (pl_map (fun a => pl_up 2 (pl_eRowG hrest a)) _), hlast]; simp
  have h0 : ∃ q, rows.map (eRowG rest) = .tup (.int 8 :: q) :: (rows.drop 1).map (eRowG rest) := by
    cases rows with
    | nil => exact c.elim
    | cons x r => obtain ⟨l, h, t⟩ := x; exact ⟨eO h :: rest t, by rw [List.map_cons, eRowG, show l = 8 from c.1]; rfl⟩
  obtain ⟨q0, h0⟩ := h0
  have hl1 : ∃ W, rows.map (eRowG rest) = W ++ [.tup (.int ll :: .non :: rest lt)] := ⟨dl.map (eRowG rest), by rw [hlast, List.map_append]; rfl⟩
  obtain ⟨W, hl1⟩ := hl1
  have hcut : cut (rows.map (eRowG rest)) (some 1) none = (rows.drop 1).map (eRowG rest) := by
    rw [h0]
    have := cut_from (.tup (.int 8 :: q0) :: (rows.drop 1).map (eRowG rest)) (k := 1) (by simp)
    exact this
  have hzip : zipD (rows.map (eRowG rest)) ((rows.drop 1).map (eRowG rest)) = (rows.zip (rows.drop 1)).map fun q => .tup [eRowG rest q.1, eRowG rest q.2] := zipD_zip _ _ _ _
  have i1 : idx (.lst (rows.map (eRowG rest))) (.int 0) st = .ok (.tup (.int 8 :: q0)) st := by
    rw [h0]
    have : itemAt (D.tup (.int 8 :: q0) :: (rows.drop 1).map (eRowG rest)) 0 = some (D.tup (.int 8 :: q0)) := by
      simp only [itemAt, ixI]; rw [if_pos (by decide), if_pos (by simp <;> omega)]; try rfl
    simp only [idx, seqOf, lstOf, this]
  have i2 : ∀ (x : D) (q : List D) st, idx (.tup (x :: q)) (.int 0) st = .ok x st := fun x q st => by
    have : itemAt (x :: q) 0 = some x := by simp only [itemAt, ixI]; rw [if_pos (by decide), if_pos (by simp <;> omega)]; try rfl
    simp only [idx, seqOf, this]
  have i3 : idx (.lst (rows.map (eRowG rest))) (.int (-1)) st = .ok (.tup (.int ll :: .non :: rest lt)) st := by
    rw [hl1]
    simp only [idx, seqOf, lstOf, itemAt_last]
  have i4 : ∀ (x y : D) (q : List D) st, idx (.tup (x :: y :: q)) (.int 1) st = .ok y st := fun x y q st => by
    have : itemAt (x :: y :: q) 1 = some y := by simp only [itemAt, ixI]; rw [if_pos (by decide), if_pos (by simp <;> omega)]; try rfl
    simp only [idx, seqOf, this]
  have c2 : ∀ (x y : D) (q : List D) st, slc (.tup (x :: y :: q)) (some 2) none st = .ok (.tup q) st := fun x y q st => by
    have := cut_from (x :: y :: q) (k := 2) (by simp)
    simp only [slc]
    rw [show (some 2 : Option Int) = some ((2 : Nat) : Int) from rfl, this]; rfl
  obtain ⟨ρ', q1, y1, y2, q2⟩ := evFor_pre (gs := []) (tg := .tup [.name 1, .name 2]) (body := evSs (kn k) f_law_shaped_b1) (st := st) (fun q : Row τ × Row τ => D.tup [eRowG rest q.1, eRowG rest q.2])
    (fun pre ρ => ∃ y1 y2, ρ = [some (.lst (rows.map (eRowG rest))), y1, y2]) rfl
    (rows.zip (rows.drop 1)) [] [some (.lst (rows.map (eRowG rest))), none, none] ⟨_, _, rfl⟩ (by
      rintro p x q ρ e ⟨y1, y2, rfl⟩
      rw [List.nil_append] at e
      obtain ⟨en, w1, w2, w3, w4⟩ := hz x (by rw [e]; simp)
      obtain ⟨⟨l1, g1, t1⟩, ⟨l2, g2, t2⟩⟩ := x
      simp only at w1 w2 w3 w4
      subst w1 w3
      refine ⟨_, [some (.lst (rows.map (eRowG rest))), some (eRowG rest (l1, some en, t1)), some (eRowG rest (en + 1, g2, t2))], rfl, ?_, _, _, rfl⟩
      have heq : eqD st (.tup (rest t1)) (.tup (rest t2)) = some false := by
        rw [eqD_pl st (pl_up 4 (hrest.pl t1)) (pl_up 4 (hrest.pl t2)), hrest.eq]; simp [w4]
      have a1 : evS (kn k) (.ite (.or (.cmp .is_ (.idx (.var 1) (.int 1)) .non) (.or (.cmp .lt (.idx (.var 1) (.int 1)) (.idx (.var 1) (.int 0))) (.cmp .ne (.idx (.var 2) (.int 0)) (.bin .add false (.idx (.var 1) (.int 1)) (.int 1))))) (.cons (.ret (.bl false)) .nil) .nil) [some (.lst (rows.map (eRowG rest))), some (eRowG rest (l1, some en, t1)), some (eRowG rest (en + 1, g2, t2))] st = .ok .next [some (.lst (rows.map (eRowG rest))), some (eRowG rest (l1, some en, t1)), some (eRowG rest (en + 1, g2, t2))] st := by
        have z1 := cmp_ltI en l1 st
        have z2 := cmp_neI (en + 1) (en + 1) st
        rw [decide_eq_false (by omega)] at z1
        rw [decide_eq_true rfl] at z2
        exact ss_skip (ee_or_f (ee_cmp (ee_idx (ee_var rfl) rfl (i4 _ _ _ st)) rfl rfl) (ee_or_f (ee_cmp (ee_idx (ee_var rfl) rfl (i4 _ _ _ st)) (ee_idx (ee_var rfl) rfl (i2 _ _ st)) z1) (ee_cmp (ee_idx (ee_var rfl) rfl (i2 _ _ st)) (ee_bin (ee_idx (ee_var rfl) rfl (i4 _ _ _ st)) rfl rfl) z2)))
      have a2 : evS (kn k) (.ite (.cmp .eq (.slc (.var 1) (.some (.int 2)) .none) (.slc (.var 2) (.some (.int 2)) .none)) (.cons (.ret (.bl false)) .nil) .nil) [some (.lst (rows.map (eRowG rest))), some (eRowG rest (l1, some en, t1)), some (eRowG rest (en + 1, g2, t2))] st = .ok .next [some (.lst (rows.map (eRowG rest))), some (eRowG rest (l1, some en, t1)), some (eRowG rest (en + 1, g2, t2))] st :=
        ss_skip (ee_cmp (ee_slc (ee_var rfl) rfl rfl (c2 _ _ _ st)) (ee_slc (ee_var rfl) rfl rfl (c2 _ _ _ st)) (cmp_eqb heq))
      show evSs (kn k) f_law_shaped_b1 [some (.lst (rows.map (eRowG rest))), some (eRowG rest (l1, some en, t1)), some (eRowG rest (en + 1, g2, t2))] st = _
      rw [f_law_shaped_b1, ss_next a1]
      exact ss_last a2)
  refine body_ret (ρ' := ρ') rfl ?_
  rw [show f_law_shaped.body = .cons (.ite (.or (.not (.isi .list (.var 0))) (.cmp .eq (.var 0) (.lst false .nil))) (.cons (.ret (.bl false)) .nil) .nil) (.cons (.ite (.or (.cmp .ne (.idx (.idx (.var 0) (.int 0)) (.int 0)) (.int 8)) (.cmp .isnot (.idx (.idx (.var 0) (.neg (.int 1))) (.int 1)) .non)) (.cons (.ret (.bl false)) .nil) .nil) (.cons (.for_ (.tup [(.name 1), (.name 2)]) (.zip (.var 0) (.slc (.var 0) (.some (.int 1)) .none)) f_law_shaped_b1) (.cons (.ret (.bl true)) .nil))) from rfl]
  have hs1 : slc (.lst (rows.map (eRowG rest))) (some 1) none st = .ok (.lst ((rows.drop 1).map (eRowG rest))) st := by
    simp only [slc, lstOf, hcut]
  generalize rows.map (eRowG rest) = RM at *
  generalize (rows.drop 1).map (eRowG rest) = RD at *
  have z2 := cmp_neI 8 8 st
  rw [ss_next (ss_skip (ee_or_f (ee_not (v := true) rfl) (ee_cmp (ee_var rfl) (ee_lst es_nil) (cmp_eqb hem))))]
  rw [ss_next (ss_skip (ee_or_f (ee_cmp (ee_idx (ee_idx (ee_var rfl) rfl i1) rfl (i2 _ _ st)) rfl z2) (ee_cmp (ee_idx (ee_idx (ee_var rfl) rfl i3) rfl (i4 _ _ _ st)) rfl rfl)))]
  have hit : evIt (kn k) (.zip (.var 0) (.slc (.var 0) (.some (.int 1)) .none)) (AF.envOf f_law_shaped.n [.lst RM]) st = .ok ⟨zipD RM RD, []⟩ st := by
    rw [evIt, ee_var rfl, R.bind_ok, ee_slc (ee_var rfl) rfl rfl hs1]
    rfl
  rw [← hzip] at q1
  rw [ss_next (ss_for hit q1), q2]
  exact ss_ret (ss_ret' rfl)
end K05

namespace K05
open AF PySem LF
theorem l_run (k : Nat) (l : Lf) (cs : List Cl) (hl : l.ok) (hc : CsOk cs) (n : Int) (h8 : 8 ≤ n) (st : Store) : ∃ st', evCall P (k + 6) i_law_run [eLf l, eCs cs, .int n] st = .ok (.tup [eStops (runF l cs n).1, eF (runF l cs n).2.1]) st' ∧ Keep [] st st' :=
  lw_run k l cs n st hl hc h8 (runF_eq hl hc n)
theorem Src2.keep {r : Nat} {st st' : Store} (h : Src2 r st) (k : Keep [] st st') : Src2 r st' := by
  obtain ⟨a, b, q1, q2⟩ := h
  exact ⟨a, b, k.at q1 (by simp), q2⟩
theorem l_rides (k : Nat) (l : Lf) (cs : List Cl) (hl : l.ok) (hc : CsOk cs) (n : Int) (st : Store) : evCall P (k + 1) i_law_rides [eCs cs, eStops (runF l cs n).1] st = .ok (.ref st.length) (st ++ [Ob.lst ((ridesF cs (runF l cs n).1).map eRide)]) :=
  lw_rides k cs _ st hc.1 (Nat.le_trans (runF_rides hl hc n).1 (by decide)) (runF_rides hl hc n).2
/-- a list of the store, asked at a place -/
theorem item_ref {L : List D} {p : Nat} {d : D} {r : Nat} {st : Store} (hr : st[r]? = some (.lst L)) (h : L[p]? = some d) : idx (.ref r) (eN p) st = .ok d st := by
  have hlt := (List.getElem?_eq_some_iff.mp h).1
  have e : itemAt L (p : Int) = some d := by rw [itemAt_nat hlt, h]
  simp only [idx, seqOf, lstOf, hr, e]
theorem keep_snoc {st s : Store} {x : Ob} (h : Keep [] st s) : Keep [] st (s ++ [x]) := h.trans Keep.snoc
end K05

namespace K05
open AF PySem LF
def wf (cs : List Cl) (q : Nat × (Form × Form)) : Form := fsub q.2.2 (0, (cAt cs q.1).t)
def lStep (cs : List Cl) (n : Int) (s : Option (Int × (Nat × Form))) (q : Nat × (Form × Form)) : Option (Int × (Nat × Form)) := match s with
  | none => some (worth (wf cs q) n, (q.1, wf cs q))
  | some s => if s.1 < worth (wf cs q) n then some (worth (wf cs q) n, (q.1, wf cs q)) else some s
def at0 (fs : List Form) (b : Nat) : Form := (fs[b]?).getD (0, 0)
theorem long_go (cs : List Cl) (fs : List Form) (n : Int) : ∀ (L : List (Form × Form)) (i b : Nat), fs.drop i = (enumP i L).map (wf cs) → (enumP i L).foldl (lStep cs n) (some (worth (at0 fs b) n, (b, at0 fs b))) = (let g := (enumP i ((enumP i L).map (wf cs))).foldl (gStep fs n) b; some (worth (at0 fs g) n, (g, at0 fs g)))
  | [], i, b, _ => rfl
  | a :: L, i, b, hd => by
    have hd' : fs.drop (i + 1) = (enumP (i + 1) L).map (wf cs) := by
      rw [← List.drop_drop, hd]; rfl
    have hfi : at0 fs i = wf cs (i, a) := by
      have : (fs.drop i)[0]? = some (wf cs (i, a)) := by rw [hd]; rfl
      rw [List.getElem?_drop, Nat.add_zero] at this
      rw [at0, this]; rfl
    simp only [enumP, List.map_cons, List.foldl_cons]
    have e1 : lStep cs n (some (worth (at0 fs b) n, (b, at0 fs b))) (i, a) = if 0 < worth (fsub (wf cs (i, a)) (at0 fs b)) n then some (worth (wf cs (i, a)) n, (i, wf cs (i, a))) else some (worth (at0 fs b) n, (b, at0 fs b)) := by
      unfold lStep
      rw [worth_sub]
      simp only
      by_cases hq : worth (at0 fs b) n < worth (wf cs (i, a)) n
      · rw [if_pos hq, if_pos (by omega)]
      · rw [if_neg hq, if_neg (by omega)]
    have e2 : gStep fs n b (i, wf cs (i, a)) = if 0 < worth (fsub (wf cs (i, a)) (at0 fs b)) n then i else b := rfl
    rw [e1, e2]
    by_cases hq : 0 < worth (fsub (wf cs (i, a)) (at0 fs b)) n
    · rw [if_pos hq, if_pos hq, ← hfi]
      exact long_go cs fs n L (i + 1) i hd'
    · rw [if_neg hq, if_neg hq]
      exact long_go cs fs n L (i + 1) b hd'
theorem long_eq (cs : List Cl) (L : List (Form × Form)) (n : Int) (hL : L ≠ []) : (enumP 0 L).foldl (lStep cs n) none = some (worth (lastOf (waitF cs L) n) n, longOf (waitF cs L) n) := by
  cases L with
  | nil => exact absurd rfl hL
  | cons a r =>
    have hfs : waitF cs (a :: r) = wf cs (0, a) :: (enumP 1 r).map (wf cs) := rfl
    have := long_go cs (waitF cs (a :: r)) n r 1 0 (by rw [hfs]; rfl)
    rw [enumP, List.foldl_cons]
    have e0 : lStep cs n none (0, a) = some (worth (at0 (waitF cs (a :: r)) 0) n, (0, at0 (waitF cs (a :: r)) 0)) := rfl
    rw [e0, this]
    have hg : greatestOf (waitF cs (a :: r)) n = (enumP 1 ((enumP 1 r).map (wf cs))).foldl (gStep (waitF cs (a :: r)) n) 0 := by
      unfold greatestOf
      conv => lhs; rw [hfs, enumP, List.foldl_cons]
      rw [← hfs]
      have e2 : gStep (waitF cs (a :: r)) n 0 (0, wf cs (0, a)) = 0 := by unfold gStep; split <;> rfl
      rw [e2]
    unfold longOf lastOf
    rw [hg]
    rfl
def eB : Option (Int × (Nat × Form)) → D
  | none => .non
  | some s => .int s.1
def eDu : Option (Int × (Nat × Form)) → D
  | none => .non
  | some s => eLong s.2
theorem lw_longest (k : Nat) (l : Lf) (cs : List Cl) (hl : l.ok) (hc : CsOk cs) (h0 : cs ≠ []) (n : Int) (st : Store) : ∃ st', evCall P (k + 3) i_law_longest [eCs cs, .int n, eStops (runF l cs n).1] st = .ok (eLong (longOf (waitF cs (ridesF cs (runF l cs n).1)) n)) st' ∧ Keep [] st st' := by
  have hr := l_rides (k + 1) l cs hl hc n st
  have hs := ridesF_small hl hc n
  have hlen := ridesF_len cs (runF l cs n).1
  generalize ridesF cs (runF l cs n).1 = L at *
  have hne : L ≠ [] := fun z => h0 (List.length_eq_zero_iff.mp (by rw [← hlen, z]; rfl))
  have he := long_eq cs L n hne
  refine ⟨st ++ [Ob.lst (L.map eRide)], ?_, Keep.snoc⟩
  obtain ⟨ρ', q1, y5, y6, y7, y8, q2⟩ := evFor_pre (gs := [(st.length, L.map eRide)]) (tg := .tup [.name 5, .tup [.name 6, .name 7]]) (body := evSs (kn (k + 2)) f_law_longest_b1) (st := st ++ [Ob.lst (L.map eRide)]) (fun q : Nat × (Form × Form) => D.tup [eN q.1, eRide q.2])
    (fun pre ρ => ∃ y5 y6 y7 y8, ρ = [some (eCs cs), some (.int n), some (eStops (runF l cs n).1), some (eB (pre.foldl (lStep cs n) none)), some (eDu (pre.foldl (lStep cs n) none)), y5, y6, y7, y8]) (guard1 (get_last rfl))
    (enumP 0 L) [] [some (eCs cs), some (.int n), some (eStops (runF l cs n).1), some .non, some .non, none, none, none, none] ⟨_, _, _, _, rfl⟩ (by
      rintro p x q ρ e ⟨y5, y6, y7, y8, rfl⟩
      rw [List.nil_append] at e
      have hxm : x ∈ enumP 0 L := by rw [e]; simp
      have hx : Small 2200 x.2.2 := (hs _ (enum_lt hxm).2).2
      have hlt : x.1 < cs.length := by have := (enum_lt hxm).1; omega
      rw [List.foldl_append, List.foldl_cons, List.foldl_nil]
      generalize p.foldl (lStep cs n) none = b at *
      generalize eStops (runF l cs n).1 = SE at *
      generalize hS2 : st ++ [Ob.lst (L.map eRide)] = st2 at *
      have hwf : wf cs x = (x.2.2.1, x.2.2.2 - (cAt cs x.1).t) := by unfold wf fsub; simp
      have hw := lw_worth (k + 1) (wf cs x) n st2 (by rw [hwf]; exact small_of hx.1 hx.2.1 (by decide))
      refine ⟨_, [some (eCs cs), some (.int n), some SE, some (eB (lStep cs n b x)), some (eDu (lStep cs n b x)), some (eN x.1), some (eF x.2.1), some (eF x.2.2), some (eF (wf cs x))], rfl, ?_, _, _, _, _, rfl⟩
      show evSs (kn (k + 2)) f_law_longest_b1 [some (eCs cs), some (.int n), some SE, some (eB b), some (eDu b), some (eN x.1), some (eF x.2.1), some (eF x.2.2), y8] st2 = _
      have h1 : evE (kn (k + 2)) (.tup (.cons (.idx (.var 7) (.int 0)) (.cons (.bin .sub false (.idx (.var 7) (.int 1)) (.idx (.idx (.var 0) (.var 5)) (.int 0))) .nil))) [some (eCs cs), some (.int n), some SE, some (eB b), some (eDu b), some (eN x.1), some (eF x.2.1), some (eF x.2.2), y8] st2 = .ok (eF (wf cs x)) st2 := by
        rw [hwf]
        exact ee_tup (es_cons (ee_idx (ee_var rfl) rfl rfl) (es_cons (ee_bin (ee_idx (ee_var rfl) rfl rfl) (ee_idx (ee_idx (ee_var rfl) (ee_var rfl) (item_call hlt st2)) rfl rfl) rfl) es_nil))
      rw [f_law_longest_b1, ss_next (ss_asg h1 (show _ = some [some (eCs cs), some (.int n), some SE, some (eB b), some (eDu b), some (eN x.1), some (eF x.2.1), some (eF x.2.2), some (eF (wf cs x))] from rfl))]
      cases b with
      | none =>
        exact ss_last ((ss_if_t (ee_or_t (ee_cmp (ee_var rfl) rfl rfl))).trans (ss_last (ss_asg (ee_tup (es_cons (ee_call (es_cons (ee_var rfl) (es_cons (ee_var rfl) es_nil)) hw) (es_cons (ee_tup (es_cons (ee_var rfl) (es_cons (ee_var rfl) es_nil))) es_nil))) rfl)))
      | some b =>
        have c2 : evE (kn (k + 2)) (.or (.cmp .is_ (.var 3) .non) (.cmp .gt (.call i_law_worth (.cons (.var 8) (.cons (.var 1) .nil))) (.var 3))) [some (eCs cs), some (.int n), some SE, some (eB (some b)), some (eDu (some b)), some (eN x.1), some (eF x.2.1), some (eF x.2.2), some (eF (wf cs x))] st2 = .ok (.bl (decide (b.1 < worth (wf cs x) n))) st2 :=
          ee_or_f (ee_cmp (ee_var rfl) rfl rfl) (ee_cmp (ee_call (es_cons (ee_var rfl) (es_cons (ee_var rfl) es_nil)) hw) (ee_var rfl) rfl)
        by_cases hq : b.1 < worth (wf cs x) n
        · rw [decide_eq_true hq] at c2
          rw [show lStep cs n (some b) x = some (worth (wf cs x) n, (x.1, wf cs x)) from if_pos hq]
          exact ss_last ((ss_if_t c2).trans (ss_last (ss_asg (ee_tup (es_cons (ee_call (es_cons (ee_var rfl) (es_cons (ee_var rfl) es_nil)) hw) (es_cons (ee_tup (es_cons (ee_var rfl) (es_cons (ee_var rfl) es_nil))) es_nil))) rfl)))
        · rw [decide_eq_false hq] at c2
          rw [show lStep cs n (some b) x = some b from if_neg hq]
          exact ss_last (ss_skip c2))
  rw [call_of (fn := f_law_longest) rfl]
  refine body_ret (ρ' := ρ') rfl ?_
  rw [show f_law_longest.body = .cons (.asg (.tup [(.name 3), (.name 4)]) (.tup (.cons .non (.cons .non .nil)))) (.cons (.for_ (.tup [(.name 5), (.tup [(.name 6), (.name 7)])]) (.enum (.call i_law_rides (.cons (.var 0) (.cons (.var 2) .nil)))) f_law_longest_b1) (.cons (.ret (.var 4)) .nil)) from rfl]
  rw [ss_next (ss_asg rfl (show _ = some [some (eCs cs), some (.int n), some (eStops (runF l cs n).1), some .non, some .non, none, none, none, none] from rfl))]
  rw [← enumD_P eRide 0 L] at q1
  have hit : evIt (kn (k + 2)) (.enum (.call i_law_rides (.cons (.var 0) (.cons (.var 2) .nil)))) [some (eCs cs), some (.int n), some (eStops (runF l cs n).1), some .non, some .non, none, none, none, none] st = .ok ⟨enumD 0 (L.map eRide), [(st.length, L.map eRide)]⟩ (st ++ [Ob.lst (L.map eRide)]) := by
    rw [evIt, ee_call (es_cons (ee_var rfl) (es_cons (ee_var rfl) es_nil)) hr, R.bind_ok]
    simp only [srcOf, get_last rfl, R.bind_ok]
  rw [ss_next (ss_for hit q1), q2, List.nil_append, he]
  exact ss_ret (ss_ret' (ee_var rfl))
def envL (ns : List Int) (x1 x2 x3 x4 x5 x6 x7 x8 x9 x10 x11 x12 x13 x14 : Option D) : AF.Env := [some (.scr ns), x1, x2, x3, x4, x5, x6, x7, x8, x9, x10, x11, x12, x13, x14]
section
variable (ns : List Int) (l : Lf) (cs : List Cl) (hl : l.ok) (hc : CsOk cs) (r : Nat) (x1 x3 x6 x7 x8 x9 x10 x11 x12 x13 x14 : Option D)
include hl hc
theorem wb1 (h0 : cs ≠ []) (q : Nat × Form) (n : Int) (h8 : 8 ≤ n) (hS : longOf (waitF cs (ridesF cs (runF l cs n).1)) n = q) (st : Store) : ∃ y13 st', evSs (kn 29) flaw_b1 (envL ns x1 (some (.ref r)) x3 (some (eLf l)) (some (eCs cs)) x6 x7 x8 x9 (some (eN q.1)) (some (eF q.2)) (some (.int n)) x13 x14) st =
      .ok .next (envL ns x1 (some (.ref r)) x3 (some (eLf l)) (some (eCs cs)) x6 x7 x8 x9 (some (eN q.1)) (some (eF q.2)) (some (.int n)) y13 x14) st' ∧ Keep [] st st' := by
  obtain ⟨s1, h1, h2⟩ := l_run 23 l cs hl hc n h8 st
  obtain ⟨s2, h3, h4⟩ := lw_longest 26 l cs hl hc h0 n s1
  refine ⟨some (eStops (runF l cs n).1), s2, ?_, h2.trans h4⟩
  rw [hS] at h3
  have he := eq_enc enc_long q q s2
  rw [decide_eq_true rfl] at he
  generalize eStops (runF l cs n).1 = SE at *
  have hs1 : evS (kn 29) flaw_s1 (envL ns x1 (some (.ref r)) x3 (some (eLf l)) (some (eCs cs)) x6 x7 x8 x9 (some (eN q.1)) (some (eF q.2)) (some (.int n)) x13 x14) st = .ok .next (envL ns x1 (some (.ref r)) x3 (some (eLf l)) (some (eCs cs)) x6 x7 x8 x9 (some (eN q.1)) (some (eF q.2)) (some (.int n)) (some SE) x14) s1 :=
    ss_asg (ee_idx (ee_call (es_cons (ee_var rfl) (es_cons (ee_var rfl) (es_cons (ee_var rfl) es_nil))) h1) rfl rfl) rfl
  rw [show flaw_b1 = .cons flaw_s1 (.cons flaw_s2 .nil) from rfl, ss_next hs1]
  exact ss_last (ss_skip (ee_cmp (ee_call (es_cons (ee_var rfl) (es_cons (ee_var rfl) (es_cons (ee_var rfl) es_nil))) h3) (ee_tup (es_cons (ee_var rfl) (es_cons (ee_var rfl) es_nil))) (cmp_neb he)))
theorem wb2 (h0 : cs ≠ []) (q : Nat × Form) (lo : Int) (hi : Option Int) (h8 : 8 ≤ lo) (hlo : hiLe lo hi) (hb : lo ≤ 1000000) (hb2 : ∀ e, hi = some e → e ≤ 1000000) (hS : ∀ n, lo ≤ n → hiLe n hi → longOf (waitF cs (ridesF cs (runF l cs n).1)) n = q) (st : Store) (hr : Src2 r st) :
    ∃ y12 y13 st', evSs (kn 29) flaw_b2 (envL ns x1 (some (.ref r)) x3 (some (eLf l)) (some (eCs cs)) x6 x7 (some (.int lo)) (some (eO hi)) (some (eN q.1)) (some (eF q.2)) x12 x13 x14) st =
      .ok .next (envL ns x1 (some (.ref r)) x3 (some (eLf l)) (some (eCs cs)) x6 x7 (some (.int lo)) (some (eO hi)) (some (eN q.1)) (some (eF q.2)) y12 y13 x14) st' ∧ Src2 r st' := by
  obtain ⟨nl, s1, a1, a2, a3, a4, a5, a6⟩ := lw_some 27 r lo hi st hr h8 hlo hb hb2
  obtain ⟨ρ', st', q1, y12, y13, q2, q3⟩ := evFor_preS (tg := .name 12) (body := evSs (kn 29) flaw_b1) D.int
    (fun p ρ s => ∃ y12 y13, ρ = envL ns x1 (some (.ref r)) x3 (some (eLf l)) (some (eCs cs)) x6 x7 (some (.int lo)) (some (eO hi)) (some (eN q.1)) (some (eF q.2)) y12 y13 x14 ∧ Src2 r s)
    nl [] (envL ns x1 (some (.ref r)) x3 (some (eLf l)) (some (eCs cs)) x6 x7 (some (.int lo)) (some (eO hi)) (some (eN q.1)) (some (eF q.2)) x12 x13 x14) s1 ⟨_, _, rfl, a4⟩ (by
      rintro p x qq ρ s e ⟨y12, y13, rfl, hs⟩
      rw [List.nil_append] at e
      obtain ⟨b1, b2⟩ := a2 x (by rw [e]; simp)
      obtain ⟨z13, s2, c1, c2⟩ := wb1 ns l cs hl hc r x1 x3 x6 x7 (some (.int lo)) (some (eO hi)) y13 x14 h0 q x (by omega) (hS x b1 b2) s
      exact ⟨_, _, s2, rfl, c1, _, _, rfl, hs.keep c2⟩)
  refine ⟨y12, y13, st', ?_, q3⟩
  rw [q2] at q1
  exact ss_last (ss_for (it_of (ee_call (es_cons (ee_var rfl) (es_cons (ee_var rfl) (es_cons (ee_var rfl) es_nil))) a1) rfl) q1)
theorem wb3 (f : Form) (n : Int) (h8 : 8 ≤ n) (hS : (runF l cs n).2.1 = f) (st : Store) : ∃ st', evSs (kn 29) flaw_b3 (envL ns x1 (some (.ref r)) x3 (some (eLf l)) (some (eCs cs)) x6 x7 x8 x9 x10 (some (eF f)) (some (.int n)) x13 x14) st =
      .ok .next (envL ns x1 (some (.ref r)) x3 (some (eLf l)) (some (eCs cs)) x6 x7 x8 x9 x10 (some (eF f)) (some (.int n)) x13 x14) st' ∧ Keep [] st st' := by
  obtain ⟨s1, h1, h2⟩ := l_run 23 l cs hl hc n h8 st
  refine ⟨s1, ?_, h2⟩
  rw [hS] at h1
  have he := eq_enc enc_F f f s1
  rw [decide_eq_true rfl] at he
  exact ss_last (ss_skip (ee_cmp (ee_idx (ee_call (es_cons (ee_var rfl) (es_cons (ee_var rfl) (es_cons (ee_var rfl) es_nil))) h1) rfl rfl) (ee_var rfl) (cmp_neb he)))
theorem wb4 (f : Form) (lo : Int) (hi : Option Int) (h8 : 8 ≤ lo) (hlo : hiLe lo hi) (hb : lo ≤ 1000000) (hb2 : ∀ e, hi = some e → e ≤ 1000000) (hS : ∀ n, lo ≤ n → hiLe n hi → (runF l cs n).2.1 = f) (st : Store) (hr : Src2 r st) :
    ∃ y12 st', evSs (kn 29) flaw_b4 (envL ns x1 (some (.ref r)) x3 (some (eLf l)) (some (eCs cs)) x6 x7 (some (.int lo)) (some (eO hi)) x10 (some (eF f)) x12 x13 x14) st =
      .ok .next (envL ns x1 (some (.ref r)) x3 (some (eLf l)) (some (eCs cs)) x6 x7 (some (.int lo)) (some (eO hi)) x10 (some (eF f)) y12 x13 x14) st' ∧ Src2 r st' := by
  obtain ⟨nl, s1, a1, a2, a3, a4, a5, a6⟩ := lw_some 27 r lo hi st hr h8 hlo hb hb2
  obtain ⟨ρ', st', q1, y12, q2, q3⟩ := evFor_preS (tg := .name 12) (body := evSs (kn 29) flaw_b3) D.int
    (fun p ρ s => ∃ y12, ρ = envL ns x1 (some (.ref r)) x3 (some (eLf l)) (some (eCs cs)) x6 x7 (some (.int lo)) (some (eO hi)) x10 (some (eF f)) y12 x13 x14 ∧ Src2 r s)
    nl [] (envL ns x1 (some (.ref r)) x3 (some (eLf l)) (some (eCs cs)) x6 x7 (some (.int lo)) (some (eO hi)) x10 (some (eF f)) x12 x13 x14) s1 ⟨_, rfl, a4⟩ (by
      rintro p x qq ρ s e ⟨y12, rfl, hs⟩
      rw [List.nil_append] at e
      obtain ⟨b1, b2⟩ := a2 x (by rw [e]; simp)
      obtain ⟨s2, c1, c2⟩ := wb3 ns l cs hl hc r x1 x3 x6 x7 (some (.int lo)) (some (eO hi)) x10 x13 x14 f x (by omega) (hS x b1 b2) s
      exact ⟨_, _, s2, rfl, c1, _, rfl, hs.keep c2⟩)
  refine ⟨y12, st', ?_, q3⟩
  rw [q2] at q1
  exact ss_last (ss_for (it_of (ee_call (es_cons (ee_var rfl) (es_cons (ee_var rfl) (es_cons (ee_var rfl) es_nil))) a1) rfl) q1)
end
end K05

namespace K05
open AF PySem LF
theorem fb5 (ns : List Int) (r : Nat) (x1 x3 x4 x5 x6 x7 x8 x9 x10 x11 x12 x13 x14 : Option D) (st : Store) (hr : Src2 r st) :
    ∃ y4 y5 y6 y7 y8 y9 y10 y11 y12 y13 st', evSs (kn 29) flaw_b5 (envL ns x1 (some (.ref r)) x3 x4 x5 x6 x7 x8 x9 x10 x11 x12 x13 x14) st =
      .ok .next (envL ns x1 (some (.ref r)) x3 y4 y5 y6 y7 y8 y9 y10 y11 y12 y13 x14) st' ∧ Src2 r st' := by
  obtain ⟨l, s1, a1, hl, a3, a4, a5⟩ := lw_lift 25 r st hr
  obtain ⟨cs, s2, b1, hc, b3, b4, b5⟩ := lw_calls 25 r s1 a3
  have e1 := ev_longest_waits 19 l cs hl hc s2
  have e2 := ev_empty_ways 21 l cs hl hc s2
  have hcn := calls_nil cs s2
  obtain ⟨hcovL, hadjL, hEL⟩ := longF_ok hl hc
  obtain ⟨hcovE, hadjE, hEE⟩ := emptyF_ok hl hc
  have hshL := lw_shaped enc_restLong hcovL hadjL 28 s2
  have hLW : ∃ W : List (Row (Nat × Form)), (if cs = [] then [] else (longF l cs).map (eRowG restLong)) = W.map (eRowG restLong) ∧ (∀ x ∈ W, cs ≠ [] ∧ x ∈ longF l cs) := by
    by_cases h0 : cs = []
    · exact ⟨[], by rw [if_pos h0]; rfl, fun x hx => by cases hx⟩
    · exact ⟨longF l cs, if_neg h0, fun x hx => ⟨h0, hx⟩⟩
  obtain ⟨W, hW, hWm⟩ := hLW
  have hcond : ∀ ρ : AF.Env, ρ[5]? = some (some (eCs cs)) → ρ[6]? = some (some (.lst (W.map (eRowG restLong)))) → evE (kn 29) (.or (.and (.cmp .eq (.var 5) (.tup .nil)) (.cmp .ne (.var 6) (.lst false .nil))) (.and (.cmp .ne (.var 5) (.tup .nil)) (.not (.call i_law_shaped (.cons (.var 6) .nil))))) ρ s2 = .ok (.bl false) s2 := by
    intro ρ h5 h6
    by_cases h0 : cs = []
    · rw [decide_eq_true h0] at hcn
      rw [if_pos h0] at hW
      rw [← hW] at h6
      have hem := empty_eq s2 [] rfl
      exact ee_or_f (ee_and_t (ee_cmp (ee_var h5) (ee_tup es_nil) (cmp_eqb hcn)) (ee_cmp (ee_var h6) (ee_lst es_nil) (cmp_neb hem))) (ee_and_f (ee_cmp (ee_var h5) (ee_tup es_nil) (cmp_neb hcn)))
    · rw [decide_eq_false h0] at hcn
      rw [if_neg h0] at hW
      rw [← hW] at h6
      exact ee_or_f (ee_and_f (ee_cmp (ee_var h5) (ee_tup es_nil) (cmp_eqb hcn))) (ee_and_t (ee_cmp (ee_var h5) (ee_tup es_nil) (cmp_neb hcn)) (ee_not (v := true) (ee_call (es_cons (ee_var h6) es_nil) hshL)))
  rw [hW] at e1
  have h3 : evS (kn 29) flaw_s3 (envL ns x1 (some (.ref r)) x3 x4 x5 x6 x7 x8 x9 x10 x11 x12 x13 x14) st = .ok .next (envL ns x1 (some (.ref r)) x3 (some (eLf l)) (some (eCs cs)) x6 x7 x8 x9 x10 x11 x12 x13 x14) s2 :=
    ss_asg (ee_tup (es_cons (ee_call (es_cons (ee_var rfl) es_nil) a1) (es_cons (ee_call (es_cons (ee_var rfl) (es_cons rfl es_nil)) b1) es_nil))) rfl
  have h4 : evS (kn 29) flaw_s4 (envL ns x1 (some (.ref r)) x3 (some (eLf l)) (some (eCs cs)) x6 x7 x8 x9 x10 x11 x12 x13 x14) s2 = .ok .next (envL ns x1 (some (.ref r)) x3 (some (eLf l)) (some (eCs cs)) (some (.lst (W.map (eRowG restLong)))) (some (.lst ((emptyF l cs).map (eRow eF)))) x8 x9 x10 x11 x12 x13 x14) s2 :=
    ss_asg (ee_tup (es_cons (ee_call (es_cons (ee_var rfl) (es_cons (ee_var rfl) es_nil)) e1) (es_cons (ee_call (es_cons (ee_var rfl) (es_cons (ee_var rfl) es_nil)) e2) es_nil))) rfl
  have h5 : evS (kn 29) flaw_s5 (envL ns x1 (some (.ref r)) x3 (some (eLf l)) (some (eCs cs)) (some (.lst (W.map (eRowG restLong)))) (some (.lst ((emptyF l cs).map (eRow eF)))) x8 x9 x10 x11 x12 x13 x14) s2 = .ok .next (envL ns x1 (some (.ref r)) x3 (some (eLf l)) (some (eCs cs)) (some (.lst (W.map (eRowG restLong)))) (some (.lst ((emptyF l cs).map (eRow eF)))) x8 x9 x10 x11 x12 x13 x14) s2 :=
    ss_skip (hcond _ rfl rfl)
  obtain ⟨ρ1, s3, q1, y8, y9, y10, y11, y12, y13, q2, q3⟩ := evFor_preS (tg := .tup [.name 8, .name 9, .name 10, .name 11]) (body := evSs (kn 29) flaw_b2) (eRowG restLong)
    (fun p ρ s => ∃ y8 y9 y10 y11 y12 y13, ρ = envL ns x1 (some (.ref r)) x3 (some (eLf l)) (some (eCs cs)) (some (.lst (W.map (eRowG restLong)))) (some (.lst ((emptyF l cs).map (eRow eF)))) y8 y9 y10 y11 y12 y13 x14 ∧ Src2 r s)
    W [] (envL ns x1 (some (.ref r)) x3 (some (eLf l)) (some (eCs cs)) (some (.lst (W.map (eRowG restLong)))) (some (.lst ((emptyF l cs).map (eRow eF)))) x8 x9 x10 x11 x12 x13 x14) s2 ⟨_, _, _, _, _, _, rfl, b3⟩ (by
      rintro p x q ρ s e ⟨y8, y9, y10, y11, y12, y13, rfl, hs⟩
      rw [List.nil_append] at e
      obtain ⟨h0, hx⟩ := hWm x (by rw [e]; simp)
      obtain ⟨b1, b2, b3⟩ := hcovL.mem x hx
      have b4 := hcovL.lowB hEL x hx
      have b5 := hEL x hx
      obtain ⟨xl, xh, xt⟩ := x
      simp only at b1 b2 b3 b4 b5
      obtain ⟨z12, z13, s4, c1, c2⟩ := wb2 ns l cs hl hc r x1 x3 (some (.lst (W.map (eRowG restLong)))) (some (.lst ((emptyF l cs).map (eRow eF)))) y12 y13 x14 h0 xt xl xh b1 b2 (by omega) (fun e he => by have := b5 e he; omega) (fun n n1 n2 => (b3 n n1 n2).1) s hs
      exact ⟨_, _, s4, rfl, c1, _, _, _, _, _, _, rfl, c2⟩)
  have h6 : evS (kn 29) flaw_s6 (envL ns x1 (some (.ref r)) x3 (some (eLf l)) (some (eCs cs)) (some (.lst (W.map (eRowG restLong)))) (some (.lst ((emptyF l cs).map (eRow eF)))) x8 x9 x10 x11 x12 x13 x14) s2 = .ok .next ρ1 s3 := ss_for (it_of (ee_var rfl) rfl) q1
  have hshE := lw_shaped (enc_F.l (fun a => rfl)) hcovE hadjE 28 s3
  rw [show (emptyF l cs).map (eRowG fun a => [eF a]) = (emptyF l cs).map (eRow eF) from rfl] at hshE
  generalize emptyF l cs = R at *
  generalize W.map (eRowG restLong) = WM at *
  have h7 : evS (kn 29) flaw_s7 (envL ns x1 (some (.ref r)) x3 (some (eLf l)) (some (eCs cs)) (some (.lst WM)) (some (.lst (R.map (eRow eF)))) y8 y9 y10 y11 y12 y13 x14) s3 = .ok .next (envL ns x1 (some (.ref r)) x3 (some (eLf l)) (some (eCs cs)) (some (.lst WM)) (some (.lst (R.map (eRow eF)))) y8 y9 y10 y11 y12 y13 x14) s3 :=
    ss_skip (ee_not (v := true) (ee_call (es_cons (ee_var rfl) es_nil) hshE))
  obtain ⟨ρ2, s5, p1, z8, z9, z11, z12, p2, p3⟩ := evFor_preS (tg := .tup [.name 8, .name 9, .name 11]) (body := evSs (kn 29) flaw_b4) (eRow eF)
    (fun p ρ s => ∃ y8 y9 y11 y12, ρ = envL ns x1 (some (.ref r)) x3 (some (eLf l)) (some (eCs cs)) (some (.lst WM)) (some (.lst (R.map (eRow eF)))) y8 y9 y10 y11 y12 y13 x14 ∧ Src2 r s)
    R [] (envL ns x1 (some (.ref r)) x3 (some (eLf l)) (some (eCs cs)) (some (.lst WM)) (some (.lst (R.map (eRow eF)))) y8 y9 y10 y11 y12 y13 x14) s3 ⟨_, _, _, _, rfl, q3⟩ (by
      rintro p x q ρ s e ⟨y8, y9, y11, y12, rfl, hs⟩
      rw [List.nil_append] at e
      have hx : x ∈ R := by rw [e]; simp
      obtain ⟨b1, b2, b3⟩ := hcovE.mem x hx
      have b4 := hcovE.lowB hEE x hx
      have b5 := hEE x hx
      obtain ⟨xl, xh, xt⟩ := x
      simp only at b1 b2 b3 b4 b5
      obtain ⟨z12, s4, c1, c2⟩ := wb4 ns l cs hl hc r x1 x3 (some (.lst WM)) (some (.lst (R.map (eRow eF)))) y10 y12 y13 x14 xt xl xh b1 b2 (by omega) (fun e he => by have := b5 e he; omega) (fun n n1 n2 => (b3 n n1 n2).1) s hs
      exact ⟨_, _, s4, rfl, c1, _, _, _, _, rfl, c2⟩)
  have h8 : evS (kn 29) flaw_s8 (envL ns x1 (some (.ref r)) x3 (some (eLf l)) (some (eCs cs)) (some (.lst WM)) (some (.lst (R.map (eRow eF)))) y8 y9 y10 y11 y12 y13 x14) s3 = .ok .next ρ2 s5 := ss_for (it_of (ee_var rfl) rfl) p1
  have H : evSs (kn 29) flaw_b5 (envL ns x1 (some (.ref r)) x3 x4 x5 x6 x7 x8 x9 x10 x11 x12 x13 x14) st = .ok .next (envL ns x1 (some (.ref r)) x3 (some (eLf l)) (some (eCs cs)) (some (.lst WM)) (some (.lst (R.map (eRow eF)))) z8 z9 y10 z11 z12 y13 x14) s5 := by
    rw [show flaw_b5 = .cons flaw_s3 (.cons flaw_s4 (.cons flaw_s5 (.cons flaw_s6 (.cons flaw_s7 (.cons flaw_s8 .nil))))) from rfl, ss_next h3, ss_next h4, ss_next h5, ss_next h6, q2, ss_next h7, ss_next h8, p2]
    rfl
  exact ⟨_, _, _, _, _, _, _, _, _, _, s5, H, p3⟩
theorem fb6 (ns : List Int) (i : Nat) (x2 x3 x4 x5 x6 x7 x8 x9 x10 x11 x12 x13 x14 : Option D) (st : Store) :
    ∃ y2 y3 y4 y5 y6 y7 y8 y9 y10 y11 y12 y13 st', evSs (kn 29) flaw_b6 (envL ns (some (eN i)) x2 x3 x4 x5 x6 x7 x8 x9 x10 x11 x12 x13 x14) st =
      .ok .next (envL ns (some (eN i)) y2 y3 y4 y5 y6 y7 y8 y9 y10 y11 y12 y13 x14) st' := by
  obtain ⟨a, b, h1, ha, hb, hb2⟩ := lw_source 28 ns i st
  have h9 : evS (kn 29) flaw_s9 (envL ns (some (eN i)) x2 x3 x4 x5 x6 x7 x8 x9 x10 x11 x12 x13 x14) st = .ok .next (envL ns (some (eN i)) (some (.ref st.length)) x3 x4 x5 x6 x7 x8 x9 x10 x11 x12 x13 x14) (st ++ [Ob.lst [.int a, .int b]]) :=
    ss_asg (ee_call (es_cons (ee_var rfl) (es_cons (ee_var rfl) es_nil)) h1) rfl
  obtain ⟨ρ', st', q1, y3, y4, y5, y6, y7, y8, y9, y10, y11, y12, y13, q2, q3⟩ := evFor_preS (tg := .name 3) (body := evSs (kn 29) flaw_b5) eN
    (fun p ρ s => ∃ y3 y4 y5 y6 y7 y8 y9 y10 y11 y12 y13, ρ = envL ns (some (eN i)) (some (.ref st.length)) y3 y4 y5 y6 y7 y8 y9 y10 y11 y12 y13 x14 ∧ Src2 st.length s)
    (List.range 3) [] (envL ns (some (eN i)) (some (.ref st.length)) x3 x4 x5 x6 x7 x8 x9 x10 x11 x12 x13 x14) (st ++ [Ob.lst [.int a, .int b]]) ⟨_, _, _, _, _, _, _, _, _, _, _, rfl, ⟨a, b, get_last rfl, ha, hb, hb2⟩⟩ (by
      rintro p x q ρ s e ⟨y3, y4, y5, y6, y7, y8, y9, y10, y11, y12, y13, rfl, hs⟩
      obtain ⟨z4, z5, z6, z7, z8, z9, z10, z11, z12, z13, s2, b1, b2⟩ := fb5 ns st.length (some (eN i)) (some (eN x)) y4 y5 y6 y7 y8 y9 y10 y11 y12 y13 x14 s hs
      exact ⟨_, _, s2, rfl, b1, _, _, _, _, _, _, _, _, _, _, _, rfl, b2⟩)
  have h10 : evS (kn 29) flaw_s10 (envL ns (some (eN i)) (some (.ref st.length)) x3 x4 x5 x6 x7 x8 x9 x10 x11 x12 x13 x14) (st ++ [Ob.lst [.int a, .int b]]) = .ok .next ρ' st' := by
    refine ss_for (sr := ⟨rngD 0 3, []⟩) rfl ?_
    rw [rngD_range]; exact q1
  refine ⟨_, _, _, _, _, _, _, _, _, _, _, _, st', ((congrArg _ ?_).trans (ss_next h9)).trans (ss_last (h10.trans (by rw [q2])))⟩
  rfl
theorem frounds (ns : List Int) (hn : ns.length ≤ 63) :
    ∃ y1 y2 y3 y4 y5 y6 y7 y8 y9 y10 y11 y12 y13 st', evS (kn 29) flaw_s11 (envL ns none none none none none none none none none none none none none none) [] =
      .ok .next (envL ns y1 y2 y3 y4 y5 y6 y7 y8 y9 y10 y11 y12 y13 none) st' := by
  obtain ⟨ρ', st', q1, y1, y2, y3, y4, y5, y6, y7, y8, y9, y10, y11, y12, y13, q2⟩ := evFor_preS (tg := .name 1) (body := evSs (kn 29) flaw_b6) eN
    (fun p ρ s => ∃ y1 y2 y3 y4 y5 y6 y7 y8 y9 y10 y11 y12 y13, ρ = envL ns y1 y2 y3 y4 y5 y6 y7 y8 y9 y10 y11 y12 y13 none)
    (List.range (1 + (if (8 : Int) < ns.length then (8 : Int) else ns.length)).toNat) [] (envL ns none none none none none none none none none none none none none none) [] ⟨_, _, _, _, _, _, _, _, _, _, _, _, _, rfl⟩ (by
      rintro p x q ρ s e ⟨y1, y2, y3, y4, y5, y6, y7, y8, y9, y10, y11, y12, y13, rfl⟩
      obtain ⟨z2, z3, z4, z5, z6, z7, z8, z9, z10, z11, z12, z13, s2, b1⟩ := fb6 ns x y2 y3 y4 y5 y6 y7 y8 y9 y10 y11 y12 y13 none s
      exact ⟨_, _, s2, rfl, b1, _, _, _, _, _, _, _, _, _, _, _, _, _, rfl⟩)
  refine ⟨y1, y2, y3, y4, y5, y6, y7, y8, y9, y10, y11, y12, y13, st', ?_⟩
  have hk : okR (1 + (if (8 : Int) < ns.length then (8 : Int) else ns.length)) = true := by
    simp only [okR, Bool.and_eq_true, decide_eq_true_eq]
    split <;> omega
  rw [q2, ← rngD_range] at q1
  simp only [flaw_s11, evS, evIt, evE, evEs]
  simp only [envL, List.getElem?_cons_zero, R.bind_ok, blt, bin, hk, if_true]
  exact q1
def xL : Lf := ⟨.first, 1, 2, 1, ⟨false, 0⟩, true⟩
def xC : List Cl := [⟨0, ⟨true, 0⟩, ⟨false, 0⟩⟩, ⟨20, ⟨false, 1⟩, ⟨true, 1⟩⟩]
theorem xL_ok : xL.ok := by unfold Lf.ok xL Flr.ok; decide
theorem xC_ok : CsOk xC := by unfold CsOk xC Cl.ok Flr.ok; simp
theorem x0_ok : CsOk [] := by unfold CsOk; simp
def rhs : S → E
  | .ite (.cmp _ _ b) _ _ => b
  | _ => .non
set_option maxHeartbeats 4000000 in
theorem pure_ (ns : List Int) (h : ns.length ≤ 63) : ∃ st, evCall P 30 ilaw [.scr ns] [] = .ok (.bl true) st := by
  obtain ⟨y1, y2, y3, y4, y5, y6, y7, y8, y9, y10, y11, y12, y13, st, h11⟩ := frounds ns h
  have r1 : (if xC = [] then [] else (longF xL xC).map (eRowG restLong)) = [.tup [.int 8, .int 18, .int 0, .tup [.int 2, .int 0]], .tup [.int 19, .non, .int 1, .tup [.int 3, .int (-18)]]] := by
    have : longF xL xC = [(8, some 18, (0, (2, 0))), (19, none, (1, (3, -18)))] := by decide +kernel
    rw [this]; rfl
  have r2 : (emptyF xL xC).map (eRow eF) = [.tup [.int 8, .non, .tup [.int 1, .int 0]]] := by
    have : emptyF xL xC = [(8, none, (1, 0))] := by decide +kernel
    rw [this]; rfl
  have r3 : (emptyF xL []).map (eRow eF) = [.tup [.int 8, .non, .tup [.int 0, .int 0]]] := by
    have : emptyF xL [] = [(8, none, (0, 0))] := by decide +kernel
    rw [this]; rfl
  have e1 := ev_longest_waits 19 xL xC xL_ok xC_ok st
  have e2 := ev_empty_ways 21 xL xC xL_ok xC_ok st
  have e3 := ev_empty_ways 21 xL [] xL_ok x0_ok st
  rw [r1] at e1
  rw [r2] at e2
  rw [r3] at e3
  clear r1 r2 r3
  generalize hE : envL ns y1 y2 y3 (some (eLf xL)) y5 y6 y7 y8 y9 y10 y11 y12 y13 (some (eCs xC)) = ρ
  have v4 : ρ[4]? = some (some (eLf xL)) := by rw [← hE]; rfl
  have v14 : ρ[14]? = some (some (eCs xC)) := by rw [← hE]; rfl
  have w1 := eq_same (d := .lst [.tup [.int 8, .int 18, .int 0, .tup [.int 2, .int 0]], .tup [.int 19, .non, .int 1, .tup [.int 3, .int (-18)]]]) (by decide) st
  have w2 := eq_same (d := .lst [.tup [.int 8, .non, .tup [.int 1, .int 0]]]) (by decide) st
  have w3 := eq_same (d := .lst [.tup [.int 8, .non, .tup [.int 0, .int 0]]]) (by decide) st
  have l1 : evE (kn 29) (rhs flaw_s13) ρ st = .ok (.lst [.tup [.int 8, .int 18, .int 0, .tup [.int 2, .int 0]], .tup [.int 19, .non, .int 1, .tup [.int 3, .int (-18)]]]) st := by kernel_rfl
  have l2 : evE (kn 29) (.lst false (.cons (.tup (.cons (.int 8) (.cons .non (.cons (.tup (.cons (.int 1) (.cons (.int 0) .nil))) .nil)))) .nil)) ρ st = .ok (.lst [.tup [.int 8, .non, .tup [.int 1, .int 0]]]) st := by kernel_rfl
  have l3 : evE (kn 29) (.lst false (.cons (.tup (.cons (.int 8) (.cons .non (.cons (.tup (.cons (.int 0) (.cons (.int 0) .nil))) .nil)))) .nil)) ρ st = .ok (.lst [.tup [.int 8, .non, .tup [.int 0, .int 0]]]) st := by kernel_rfl
  have h12 : evS (kn 29) flaw_s12 (envL ns y1 y2 y3 y4 y5 y6 y7 y8 y9 y10 y11 y12 y13 none) st = .ok .next ρ st := by rw [← hE]; rfl
  have h13 : evS (kn 29) flaw_s13 ρ st = .ok .next ρ st :=
    ss_skip (ee_cmp (ee_call (es_cons (ee_var v4) (es_cons (ee_var v14) es_nil)) e1) l1 (ne_same w1))
  have h14 : evS (kn 29) flaw_s14 ρ st = .ok (.ret (.bl true)) ρ st :=
    ss_ret' (ee_and_t (ee_cmp (ee_call (es_cons (ee_var v4) (es_cons (ee_var v14) es_nil)) e2) l2 (eq_yes w2)) (ee_cmp (ee_call (ds := [eLf xL, eCs []]) (es_cons (ee_var v4) (es_cons (ee_tup es_nil) es_nil)) e3) l3 (eq_yes w3)))
  refine ⟨st, ?_⟩
  rw [call_of (fn := flaw) rfl]
  refine body_ret (ρ' := ρ) rfl ?_
  rw [show flaw.body = .cons flaw_s11 (.cons flaw_s12 (.cons flaw_s13 (.cons flaw_s14 .nil))) from rfl, show AF.envOf flaw.n [.scr ns] = envL ns none none none none none none none none none none none none none none from rfl, ss_next h11, ss_next h12, ss_next h13]
  exact ss_ret h14
end K05

namespace K05
open AF PySem
abbrev RowK : PySem.W.OpenRow := PySem.W.OpenLaw.row PySem.Challenge.rw_anyfloors_k05_longest_waits_and_empty_wa
def loose : List PySem.Str := List.append (List.filter (fun x : PySem.Str => !(x == (PySem.Str.ofString "law"))) (txt.fns.map (fun e => e.name))) (List.append txt.excs (txt.cons.map (fun c => c.1)))
def ob (s : PySem.W.SharedT) : AlA := txt.obs 4 (HandSHeadRun.getT s)
theorem ob_eq (s : PySem.W.SharedT) : ob s = (txt.hook 4).obs s.abs := obs_eq s
set_option maxHeartbeats 0 in
theorem run (w : World) : HandSHeadRun.RunEq RowK (PySem.W.view RowK.prog [77]) (txt.hook 4) ob 4000 loose w := by
  intro os
  kernel_rfl
end K05
open PySem PySem.W PySem.Calls PyProof.Rows
set_option maxHeartbeats 0
theorem PySem.Challenge.cw_anyfloors_k05_longest_waits_and_empty_wa_holds : PySem.Challenge.rw_anyfloors_k05_longest_waits_and_empty_wa.Holds := by
  w_on; o_law
  refine HandSHeadRun.head_any (r := OpenLaw.row PySem.Challenge.rw_anyfloors_k05_longest_waits_and_empty_wa) (q := view (OpenLaw.row PySem.Challenge.rw_anyfloors_k05_longest_waits_and_empty_wa).prog [77]) (H := K05.txt.hook 4) (ob := K05.ob) (M := 4000) (loose := K05.loose) (d := HandSHeadRun.topDef (OpenLaw.row PySem.Challenge.rw_anyfloors_k05_longest_waits_and_empty_wa).prog 77) (kwd := []) K05.ob_eq
    (by kernel_rfl) (fun s => by kernel_rfl) K05.run (by kernel_rfl) (by kernel_rfl) (by kernel_rfl) (by rfl) (by first | assumption | decide +kernel) (by decide +kernel) ⟨rfl, rfl, rfl, rfl, rfl, by decide +kernel⟩ ?hw ?hc
  case hw => w_witness2
  case hc =>
    exact AF.walk_A (p := K05.txt) (l := PySem.Challenge.rw_anyfloors_k05_longest_waits_and_empty_wa) (n := 63) (k := 30) (li := 66) (le := ⟨"law", ["script", "k", "source", "turn", "lift", "calls", "rows", "ways", "least", "greatest", "person", "form", "n", "stops", "both"], K05.top 77, K05.flaw⟩) rfl (by decide) (by kernel_rfl) ⟨rfl, by decide, by decide⟩ (by kernel_rfl) K05.chk (by kernel_rfl) rfl K05.pure_
