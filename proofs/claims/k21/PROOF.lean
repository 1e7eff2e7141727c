import PyProof.Rows.All
import Wide.All
import OpenK.AllK
import Wide.FinOn
import KE.DataMinMax
import HandS.ForMost
import HandS.Codes
import KE.KIntText
import HandS.Exc
import HandS.TupAny
import HandS.Wide
import HandS.Deep
import HandS.TupLe
import HandS.SetFor
import HandS.IsInst
import HandS.Text
import HandS.SortInts
import KE.SortData
import HandS.RaiseMore
import HandS.CallSlots
import HandS.Zip
import HandS.FStr
import HandS.CallRecv
import HandS.Property
import HandS.Star
import HandS.Small
import KE.KOpsOwn
import OpenK.KOps
import PyProof.Rows.Range3
import HandS.Nested
import HandS.ExcIs
import HandS.TryMany
import KE.KStateDown
import HandS.Ends
import HandS.More
import HandS.Words
import HandS.WordsExc
import HandS.Defaults
import HandS.Head0
import HandS.Head1
import HandS.Head2
import HandS.HeadEnd
import HandS.HeadHook1
import HandS.HeadHook2
import PySem.Challenge.RW_anyfloors_k21_houses_at_every_bound
set_option Elab.async false
set_option linter.all false
set_option maxRecDepth 100000
/-! Core: a small language, its values, its evaluator (plain Lean). -/
namespace AF
open PySem

/-- values: data, the script, a reference into the store, a global def or class, a caught exception -/
inductive D where
  | non | bl (b : Bool) | int (i : Int) | str (x : List Nat) | tup (l : List D) | lst (l : List D)
  | scr (ns : List Int) | ref (n : Nat) | glo (n : Nat) | exn (c : Nat) (fs : List D)
deriving Inhabited
/-- objects of the store -/
inductive Ob where
  | lst (l : List D)
  | ins (c : Nat) (fs : List (Nat × D))
abbrev Store := List Ob
/-- an exception: its class, what it carries -/
structure Ex where
  c : Nat
  fs : List D
inductive R (α : Type) where
  | ok (a : α) (st : Store)
  | exc (x : Ex) (st : Store)
  | bad
def R.bind {α β : Type} (r : R α) (f : α → Store → R β) : R β := match r with
  | .ok a st => f a st
  | .exc x st => .exc x st
  | .bad => .bad
@[simp] theorem R.bind_ok {α β : Type} (a : α) (st : Store) (f : α → Store → R β) : (R.ok a st).bind f = f a st := rfl
@[simp] theorem R.bind_exc {α β : Type} (x : Ex) (st : Store) (f : α → Store → R β) : (R.exc x st : R α).bind f = .exc x st := rfl
@[simp] theorem R.bind_bad {α β : Type} (f : α → Store → R β) : (R.bad : R α).bind f = .bad := rfl
abbrev Env := List (Option D)
inductive Fl where
  | next | brk | cont | ret (d : D)
inductive SR where
  | ok (f : Fl) (ρ : Env) (st : Store)
  | exc (x : Ex) (ρ : Env) (st : Store)
  | bad

/-! ### equality of values as a Bool (of lists that a loop walks) -/
mutual
def D.beq : D → D → Bool
  | .non, .non => true
  | .bl a, .bl b => a == b
  | .int a, .int b => a == b
  | .str a, .str b => a == b
  | .tup a, .tup b => D.beqs a b
  | .lst a, .lst b => D.beqs a b
  | .scr a, .scr b => a == b
  | .ref a, .ref b => a == b
  | .glo a, .glo b => a == b
  | .exn a x, .exn b y => a == b && D.beqs x y
  | _, _ => false
def D.beqs : List D → List D → Bool
  | [], [] => true
  | a :: x, b :: y => D.beq a b && D.beqs x y
  | _, _ => false
end
mutual
theorem D.beq_eq : ∀ {a b : D}, D.beq a b = true → a = b
  | .non, b, h => by cases b <;> simp [D.beq] at h ⊢
  | .bl _, b, h => by cases b <;> simp [D.beq] at h ⊢; exact h
  | .int _, b, h => by cases b <;> simp [D.beq] at h ⊢; exact h
  | .str _, b, h => by cases b <;> simp [D.beq] at h ⊢; exact h
  | .tup x, b, h => by cases b <;> simp [D.beq] at h ⊢; exact D.beqs_eq h
  | .lst x, b, h => by cases b <;> simp [D.beq] at h ⊢; exact D.beqs_eq h
  | .scr _, b, h => by cases b <;> simp [D.beq] at h ⊢; exact h
  | .ref _, b, h => by cases b <;> simp [D.beq] at h ⊢; exact h
  | .glo _, b, h => by cases b <;> simp [D.beq] at h ⊢; exact h
  | .exn _ x, b, h => by cases b <;> simp [D.beq] at h ⊢; exact ⟨h.1, D.beqs_eq h.2⟩
theorem D.beqs_eq : ∀ {a b : List D}, D.beqs a b = true → a = b
  | [], b, h => by cases b <;> simp [D.beqs] at h ⊢
  | x :: r, b, h => by
    cases b with
    | nil => simp [D.beqs] at h
    | cons y s =>
      simp [D.beqs] at h
      rw [D.beq_eq h.1, D.beqs_eq h.2]
end
mutual
theorem D.beq_refl : ∀ a : D, D.beq a a = true
  | .non => rfl
  | .bl b => by simp [D.beq]
  | .int _ => by simp [D.beq]
  | .str _ => by simp [D.beq]
  | .tup x => by simp [D.beq, D.beqs_refl x]
  | .lst x => by simp [D.beq, D.beqs_refl x]
  | .scr _ => by simp [D.beq]
  | .ref _ => by simp [D.beq]
  | .glo _ => by simp [D.beq]
  | .exn _ x => by simp [D.beq, D.beqs_refl x]
theorem D.beqs_refl : ∀ a : List D, D.beqs a a = true
  | [] => rfl
  | x :: r => by simp [D.beqs, D.beq_refl x, D.beqs_refl r]
end

/-! ### data of a value, for == and in -/
def optAll {α β : Type} (f : α → Option β) : List α → Option (List β)
  | [] => some []
  | a :: r => match f a with
    | some b => (match optAll f r with | some s => some (b :: s) | none => none)
    | none => none
def cpsOk (x : List Nat) : Bool := x.all fun c => decide (c < 0x110000)
def toStr (x : List Nat) : Str := ⟨x.toArray⟩
def py (st : Store) : Nat → D → Option PyData
  | 0, _ => none
  | k + 1, d => match d with
    | .non => some .none
    | .bl b => some (.bool b)
    | .int i => some (.int i)
    | .str x => if cpsOk x then some (.str (toStr x)) else none
    | .tup l => (optAll (py st k) l).map .tuple
    | .lst l => (optAll (py st k) l).map .list
    | .ref n => (match st[n]? with
      | some (.lst l) => (optAll (py st k) l).map .list
      | _ => none)
    | _ => none
theorem py_int (st : Store) (k : Nat) (i : Int) : py st (k + 1) (.int i) = some (.int i) := by rw [py]
theorem py_tup (st : Store) (k : Nat) (l : List D) : py st (k + 1) (.tup l) = (optAll (py st k) l).map .tuple := by rw [py]
theorem py_lst (st : Store) (k : Nat) (l : List D) : py st (k + 1) (.lst l) = (optAll (py st k) l).map .list := by rw [py]
theorem py_bl (st : Store) (k : Nat) (b : Bool) : py st (k + 1) (.bl b) = some (.bool b) := by rw [py]
theorem py_non (st : Store) (k : Nat) : py st (k + 1) .non = some .none := by rw [py]
theorem py_str (st : Store) (k : Nat) (x : List Nat) : py st (k + 1) (.str x) = if cpsOk x then some (.str (toStr x)) else none := by rw [py]
def PYN : Nat := 24
abbrev look (st : Store) (d : D) : Option PyData := py st PYN d
def eqD (st : Store) (a b : D) : Option Bool := match look st a, look st b with
  | some p, some q => some (PyData.eqv p q)
  | _, _ => none
/-- one sign in a text -/
def inS : D → D → Option Bool
  | .str [c], .str y => some (decide (c ∈ y))
  | _, _ => none
/-- x in a list or tuple: the items as data -/
def inD (st : Store) (a b : D) : Option Bool := match look st a, look st b with
  | some p, some (.list qs) => some (qs.any fun z => PyData.eqv z p)
  | some p, some (.tuple qs) => some (qs.any fun z => PyData.eqv z p)
  | _, _ => inS a b

/-! ### syntax -/
inductive BO where
  | add | sub | mul | fdiv | mod | pow
inductive CO where
  | eq | ne | lt | le | gt | ge | isin | notin | is_ | isnot
deriving DecidableEq
/-- built-in functions -/
inductive BF where
  | len | int | abs | min | max | sorted | tuple | list | all | any | str | bool
deriving DecidableEq
/-- built-in types for isinstance -/
inductive TY where
  | int | bool | str | tuple | list
deriving DecidableEq
/-- built-in methods -/
inductive BM where
  | append | count | index | join | split
deriving DecidableEq
inductive Tg where
  | name (i : Nat)
  | tup (ts : List Tg)
/-- special methods -/
inductive DU where
  | len | bool | str | eq | item | isin | add | sub | mod | inv | call | iadd | isub
deriving DecidableEq
mutual
inductive E where
  | var (i : Nat)
  | non | bl (b : Bool) | int (i : Int) | str (x : List Nat)
  | con (i : Nat)
  | tup (es : Es) | lst (m : Bool) (es : Es)
  | fst (es : Es)
  | any
  | mk (c g : Nat) (es : Es)
  | mkR (c g r : Nat) (es : Es) (s : Oe)
  | dun (u : DU) (c g : Nat) (a : E) (es : Es)
  | fld (c : Nat) (a : E) (f : Nat)
  | prp (c g : Nat) (a : E) (f : Nat)
  | met (c g : Nat) (a : E) (m : Nat) (es : Es)
  | isC (C : Nat) (a : E)
  | bin (op : BO) (m : Bool) (a b : E)
  | neg (a : E) | not (a : E)
  | and (a b : E) | or (a b : E)
  | cmp (op : CO) (a b : E) | chn (op op' : CO) (a b c : E)
  | ite (c a b : E)
  | idx (a b : E) | slc (a : E) (lo hi : Oe)
  | call (f : Nat) (es : Es)
  | blt (f : BF) (m : Bool) (es : Es)
  | isi (t : TY) (a : E)
  | mth (f : BM) (a : E) (es : Es)
  | lc (m : Bool) (own : List Nat) (tg : Tg) (it : It) (c : Oe) (e : E)
  | lc2 (m : Bool) (own own1 : List Nat) (tg : Tg) (it : It) (tg1 : Tg) (it1 : It) (e : E)
inductive Es where
  | nil | cons (e : E) (es : Es)
inductive Oe where
  | none | some (e : E)
inductive It where
  | of (a : E) | rng1 (a : E) | rng2 (a b : E) | zip (a b : E) | enum (a : E)
end
/-- what an except clause gives back: a text; one of two texts, by the class of what was caught -/
inductive Hr where
  | str (x : List Nat)
  | isx (C : Nat) (tab : List Bool) (x y : List Nat)
/-- an except clause: its class, which classes it catches, its name's slot -/
structure Hd where
  c : Nat
  tab : List Bool
  i : Option Nat
  r : Hr
mutual
inductive S where
  | asg (t : Tg) (e : E)
  | setI (a i e : E)
  | expr (e : E) | ret (e : E) | retN | pass | brk | cont
  | ite (c : E) (a b : Ss)
  | whl (c : E) (a : Ss)
  | for_ (tg : Tg) (it : It) (a : Ss)
  | rais (c : Nat) (es : Es)
  | tryr (a : Ss) (hs : List Hd)
  | any
  | setF (c : Nat) (a : E) (f : Nat) (e : E)
inductive Ss where
  | nil | cons (s : S) (r : Ss)
end

/-! ### operations by values -/
def mkL (m : Bool) (l : List D) (st : Store) : R D := if m then .ok (.ref st.length) (st ++ [.lst l]) else .ok (.lst l) st
/-- a list's items -/
def lstOf (st : Store) : D → Option (List D)
  | .lst l => some l
  | .ref n => (match st[n]? with | some (.lst l) => some l | _ => none)
  | _ => none
def seqOf (st : Store) : D → Option (List D)
  | .tup l => some l
  | d => lstOf st d
def LIM : Nat := 1000000
def small64 (i : Int) : Bool := decide (-(2 ^ 64) < i) && decide (i < 2 ^ 64)
def bin (op : BO) (m : Bool) (a b : D) (st : Store) : R D := match op, a, b with
  | .add, .int i, .int j => .ok (.int (i + j)) st
  | .add, .bl b, .int j => .ok (.int ((if b = true then 1 else 0) + j)) st
  | .add, .str x, .str y => if x.length + y.length ≤ LIM then .ok (.str (x ++ y)) st else .bad
  | .add, .tup x, .tup y => if x.length + y.length ≤ LIM then .ok (.tup (x ++ y)) st else .bad
  | .add, .lst x, .lst y => if x.length + y.length ≤ LIM then mkL m (x ++ y) st else .bad
  | .add, .lst x, .ref q => (match lstOf st (.ref q) with
    | some y => if x.length + y.length ≤ LIM then mkL m (x ++ y) st else .bad
    | none => .bad)
  | .add, .ref p, .lst y => (match lstOf st (.ref p) with
    | some x => if x.length + y.length ≤ LIM then mkL m (x ++ y) st else .bad
    | none => .bad)
  | .add, .ref p, .ref q => (match lstOf st (.ref p), lstOf st (.ref q) with
    | some x, some y => if x.length + y.length ≤ LIM then mkL m (x ++ y) st else .bad
    | _, _ => .bad)
  | .sub, .int i, .int j => .ok (.int (i - j)) st
  | .mul, .int i, .int j => if small64 i || small64 j then .ok (.int (i * j)) st else .bad
  | .mul, .str x, .int k => if 0 ≤ k ∧ k ≤ 1000 ∧ x.length ≤ 1000 then .ok (.str (List.replicate k.toNat x).flatten) st else .bad
  | .mul, .lst x, .int k => if 0 ≤ k ∧ k ≤ 1000 ∧ x.length ≤ 1000 then mkL m (List.replicate k.toNat x).flatten st else .bad
  | .fdiv, .int i, .int j => if 0 < j ∧ j < 10 ^ 100 then .ok (.int (i / j)) st else .bad
  | .mod, .int i, .int j => if 0 < j then .ok (.int (i % j)) st else .bad
  | .pow, .int i, .int j => if 0 ≤ j ∧ j ≤ 1000 ∧ small64 i = true then .ok (.int (i ^ j.toNat)) st else .bad
  | _, _, _ => .bad
def isStr : D → Bool
  | .str _ => true
  | _ => false
def isNon : D → Bool
  | .non => true
  | _ => false
def cmp (op : CO) (a b : D) (st : Store) : R D := match op with
  | .eq => (match eqD st a b with | some r => .ok (.bl r) st | none => .bad)
  | .ne => (match eqD st a b with | some r => .ok (.bl (!r)) st | none => .bad)
  | .lt => (match a, b with | .int i, .int j => .ok (.bl (decide (i < j))) st | _, _ => .bad)
  | .le => (match a, b with | .int i, .int j => .ok (.bl (decide (i ≤ j))) st | _, _ => .bad)
  | .gt => (match a, b with | .int i, .int j => .ok (.bl (decide (j < i))) st | _, _ => .bad)
  | .ge => (match a, b with | .int i, .int j => .ok (.bl (decide (j ≤ i))) st | _, _ => .bad)
  | .isin => (match inD st a b with | some r => .ok (.bl r) st | none => .bad)
  | .notin => (match inD st a b with | some r => .ok (.bl (!r)) st | none => .bad)
  | .is_ => (match b with
    | .non => .ok (.bl (isNon a)) st
    | .bl c => (match a with | .bl d => .ok (.bl (d == c)) st | .non => .ok (.bl false) st | _ => .bad)
    | _ => .bad)
  | .isnot => (match b with
    | .non => .ok (.bl (!isNon a)) st
    | _ => .bad)
/-- the place that an index of any sign means -/
def ixI (n : Nat) (i : Int) : Option Nat := if 0 ≤ i then (if i < n then some i.toNat else none) else if -(n : Int) ≤ i then some (i + n).toNat else none
def itemAt {α : Type} (l : List α) (i : Int) : Option α := match ixI l.length i with
  | some j => l[j]?
  | none => none
def idx (a b : D) (st : Store) : R D := match b with
  | .int i => (match a with
    | .scr ns => (match itemAt ns i with | some v => .ok (.int v) st | none => .bad)
    | .str x => if x.length ≤ LIM then (match itemAt x i with | some c => .ok (.str [c]) st | none => .bad) else .bad
    | _ => (match seqOf st a with
      | some l => (match itemAt l i with | some d => .ok d st | none => .bad)
      | none => .bad))
  | _ => .bad
def cut {α : Type} (xs : List α) (lo hi : Option Int) : List α := (xs.drop (HT.sIx xs.length 0 lo)).take (HT.sIx xs.length xs.length hi - HT.sIx xs.length 0 lo)
def slc (a : D) (lo hi : Option Int) (st : Store) : R D := match a with
  | .tup l => .ok (.tup (cut l lo hi)) st
  | .str x => if x.length ≤ LIM then .ok (.str (cut x lo hi)) st else .bad
  | d => (match lstOf st d with
    | some l => .ok (.lst (cut l lo hi)) st
    | none => .bad)
/-! ints, and pairs that begin with unlike ints, sorted -/
def keyI : D → Option Int
  | .int i => some i
  | .tup (.int i :: _ :: _) => some i
  | _ => none
def intsOf : List D → Option (List Int)
  | [] => some []
  | .int i :: r => (match intsOf r with | some s => some (i :: s) | none => none)
  | _ => none
def insD (k : Int) (d : D) : List (Int × D) → List (Int × D)
  | [] => [(k, d)]
  | (j, e) :: r => if k ≤ j then (k, d) :: (j, e) :: r else (j, e) :: insD k d r
def sortK : List (Int × D) → List (Int × D)
  | [] => []
  | (k, d) :: r => insD k d (sortK r)
/-- pairs (int, anything) -/
def pairsOf : List D → Option (List (Int × D))
  | [] => some []
  | .tup [.int i, d] :: r => (match pairsOf r with | some s => some ((i, d) :: s) | none => none)
  | _ => none
def nodupI : List Int → Bool
  | [] => true
  | a :: r => !r.contains a && nodupI r
def insI (k : Int) : List Int → List Int
  | [] => [k]
  | j :: r => if k ≤ j then k :: j :: r else j :: insI k r
def sortI : List Int → List Int
  | [] => []
  | k :: r => insI k (sortI r)
def sortD (l : List D) : Option (List D) := match intsOf l with
  | some ns => some ((sortI ns).map .int)
  | none => (match pairsOf l with
    | some ps => if nodupI (ps.map (·.1)) then some ((sortK ps).map fun p => .tup [.int p.1, p.2]) else none
    | none => none)
def minI : List Int → Option Int
  | [] => none
  | a :: r => some (r.foldl (fun m x => if x < m then x else m) a)
def minK : List (Int × D) → Option (Int × D)
  | [] => none
  | p :: r => some (r.foldl (fun m x => if x.1 < m.1 then x else m) p)
/-- items that can be compared with one another -/
def alikeB (st : Store) (l : List D) : Bool := match optAll (look st) l with
  | some ps => ps.all fun p => ps.all fun q => PySem.W.alike p q
  | none => false
def minD (st : Store) (l : List D) : Option D := match intsOf l with
  | some ns => (minI ns).map .int
  | none => (match pairsOf l with
    | some ps => if nodupI (ps.map (·.1)) && alikeB st l then (minK ps).map (fun p => .tup [.int p.1, p.2]) else none
    | none => none)
def maxI : List Int → Option Int
  | [] => none
  | a :: r => some (r.foldl (fun m x => if x > m then x else m) a)
def bools : List D → Option (List Bool)
  | [] => some []
  | .bl b :: r => (match bools r with | some s => some (b :: s) | none => none)
  | _ => none
def strsOf : List D → Option (List (List Nat))
  | [] => some []
  | .str x :: r => (match strsOf r with | some s => some (x :: s) | none => none)
  | _ => none
def isiD (t : TY) (a : D) (st : Store) : Option Bool := match a with
  | .non => some false
  | .bl _ => some (match t with | .bool => true | .int => true | _ => false)
  | .int _ => some (match t with | .int => true | _ => false)
  | .str _ => some (match t with | .str => true | _ => false)
  | .tup _ => some (match t with | .tuple => true | _ => false)
  | .lst _ => some (match t with | .list => true | _ => false)
  | .ref n => (match st[n]? with | some (.lst _) => some (match t with | .list => true | _ => false) | _ => none)
  | _ => none
/-- the text of a number that is not too long -/
def strI (i : Int) : List Nat := (Str.ofString (toString i)).cps.toList
def smallT (i : Int) : Bool := decide (-(10 ^ 100) < i) && decide (i < 10 ^ 100)
/-- a value as an f-string writes it -/
def fmtD : D → Option (List Nat)
  | .str x => if x.length ≤ LIM then some x else none
  | .int i => if smallT i = true then some (strI i) else none
  | _ => none
def blt (f : BF) (m : Bool) (xs : List D) (st : Store) : R D := match f, xs with
  | .len, [.scr ns] => .ok (.int ns.length) st
  | .len, [.str x] => if x.length ≤ LIM then .ok (.int x.length) st else .bad
  | .len, [d] => (match seqOf st d with | some l => .ok (.int l.length) st | none => .bad)
  | .int, [.int i] => .ok (.int i) st
  | .int, [.bl b] => .ok (.int (if b then 1 else 0)) st
  | .int, [.str x] => if x.length ≤ 640 then (match PySem.intText? (toStr x) with | some n => .ok (.int n) st | none => .bad) else .bad
  | .str, [.int i] => if smallT i = true then .ok (.str (strI i)) st else .bad
  | .str, [.str x] => .ok (.str x) st
  | .bool, [.bl b] => .ok (.bl b) st
  | .abs, [.int i] => .ok (.int (if i < 0 then -i else i)) st
  | .min, [.int i, .int j] => .ok (.int (if j < i then j else i)) st
  | .max, [.int i, .int j] => .ok (.int (if j > i then j else i)) st
  | .min, [d] => (match lstOf st d with
    | some l => if l.length ≤ LIM then (match minD st l with | some e => .ok e st | none => .bad) else .bad
    | none => .bad)
  | .max, [d] => (match lstOf st d with
    | some l => (match intsOf l with | some ns => (match maxI ns with | some k => .ok (.int k) st | none => .bad) | none => .bad)
    | none => .bad)
  | .sorted, [d] => (match seqOf st d with
    | some l => if l.length ≤ 60 then (match sortD l with | some s => mkL m s st | none => .bad) else .bad
    | none => .bad)
  | .tuple, [.tup l] => .ok (.tup l) st
  | .tuple, [d] => (match lstOf st d with | some l => .ok (.tup l) st | none => .bad)
  | .list, [d] => (match seqOf st d with | some l => mkL m l st | none => .bad)
  | .all, [d] => (match lstOf st d with | some l => (match bools l with | some bs => .ok (.bl (bs.all id)) st | none => .bad) | none => .bad)
  | .any, [d] => (match lstOf st d with | some l => (match bools l with | some bs => .ok (.bl (bs.any id)) st | none => .bad) | none => .bad)
  | _, _ => .bad
def mth (f : BM) (a : D) (xs : List D) (st : Store) : R D := match f, a, xs with
  | .append, .ref n, [d] => (match st[n]? with
    | some (.lst l) => if l.length < LIM then .ok .non (st.set n (.lst (l ++ [d]))) else .bad
    | _ => .bad)
  | .count, d, [x] => (match look st d, look st x with
    | some (.list qs), some p => .ok (.int ((qs.filter fun z => PyData.eqv z p).length : Nat)) st
    | _, _ => .bad)
  | .index, d, [x] => (match look st d, look st x with
    | some (.list qs), some p => (match qs.findIdx? fun z => PyData.eqv z p with
      | some j => .ok (.int (j : Nat)) st
      | none => .bad)
    | _, _ => .bad)
  | .join, .str a, [d] => (match seqOf st d with
    | some l => (match strsOf l with
      | some ys => if (ys.map (·.length)).sum + ys.length * a.length ≤ LIM then .ok (.str (TL.joinL a ys)) st else .bad
      | none => .bad)
    | none => .bad)
  | .split, .str a, [.str b] => if !b.isEmpty && b.all (· < 256) && decide (a.length + 2 ≤ LIM) then .ok (.lst ((TL.spl b 0 [] a).map .str)) st else .bad
  | _, _, _ => .bad
/-- what a method asks of its receiver -/
def recvOk (f : BM) (a : D) (st : Store) : Bool := match f, a with
  | .join, .str _ => true
  | .split, .str _ => true
  | .join, _ => false
  | .split, _ => false
  | _, d => (lstOf st d).isSome
/-- a[i] = v -/
def setI (a i v : D) (st : Store) : R Unit := match a, i with
  | .ref n, .int k => (match st[n]? with
    | some (.lst l) => (match ixI l.length k with
      | some j => .ok () (st.set n (.lst (l.set j v)))
      | none => .bad)
    | _ => .bad)
  | _, _ => .bad

/-! ### targets, loops -/
mutual
def asg : Tg → D → Env → Option Env
  | .name i, d, ρ => if i < ρ.length then some (ρ.set i (some d)) else none
  | .tup ts, d, ρ => (match d with
    | .tup l => asgs ts l ρ
    | _ => none)
def asgs : List Tg → List D → Env → Option Env
  | [], [], ρ => some ρ
  | t :: ts, d :: ds, ρ => (match asg t d ρ with
    | some ρ' => asgs ts ds ρ'
    | none => none)
  | _, _, _ => none
end
/-- a source: its items, the lists of the store that must stay -/
structure Src where
  its : List D
  gs : List (Nat × List D)
def gOne (st : Store) (p : Nat × List D) : Bool := match st[p.1]? with
  | some (.lst l) => D.beqs l p.2
  | _ => false
def guard (gs : List (Nat × List D)) (st : Store) : Bool := gs.all (gOne st)
def evFor (gs : List (Nat × List D)) (tg : Tg) (body : Env → Store → SR) : List D → Env → Store → SR
  | [], ρ, st => if guard gs st then .ok .next ρ st else .bad
  | x :: xs, ρ, st => if guard gs st then (match asg tg x ρ with
      | none => .bad
      | some ρ1 => (match body ρ1 st with
        | .ok .next ρ2 st2 => evFor gs tg body xs ρ2 st2
        | .ok .cont ρ2 st2 => evFor gs tg body xs ρ2 st2
        | .ok .brk ρ2 st2 => .ok .next ρ2 st2
        | .ok (.ret d) ρ2 st2 => .ok (.ret d) ρ2 st2
        | .exc x ρ2 st2 => .exc x ρ2 st2
        | .bad => .bad))
    else .bad
def evWhile (c : Env → Store → R D) (body : Env → Store → SR) : Nat → Env → Store → SR
  | 0, _, _ => .bad
  | k + 1, ρ, st => (match c ρ st with
    | .ok (.bl true) st1 => (match body ρ st1 with
      | .ok .next ρ2 st2 => evWhile c body k ρ2 st2
      | .ok .cont ρ2 st2 => evWhile c body k ρ2 st2
      | .ok .brk ρ2 st2 => .ok .next ρ2 st2
      | .ok (.ret d) ρ2 st2 => .ok (.ret d) ρ2 st2
      | .exc x ρ2 st2 => .exc x ρ2 st2
      | .bad => .bad)
    | .ok (.bl false) st1 => .ok .next ρ st1
    | .ok _ _ => .bad
    | .exc x st1 => .exc x ρ st1
    | .bad => .bad)
/-- the slots forgotten -/
def wipeE (ρ : Env) : List Nat → Env
  | [] => ρ
  | v :: vs => (wipeE ρ vs).set v none
/-- a comprehension's turns: acc is what is made so far -/
def evLc (gs : List (Nat × List D)) (tg : Tg) (c : Env → Store → R D) (e : Env → Store → R D) (ρ : Env) : List D → List D → Store → R (List D)
  | [], acc, st => if guard gs st then .ok acc st else .bad
  | x :: xs, acc, st => if guard gs st then (match asg tg x ρ with
      | none => .bad
      | some ρ1 => (match c ρ1 st with
        | .ok (.bl true) st1 => (match e ρ1 st1 with
          | .ok d st2 => if acc.length < LIM then evLc gs tg c e ρ xs (acc ++ [d]) st2 else .bad
          | _ => .bad)
        | .ok (.bl false) st1 => evLc gs tg c e ρ xs acc st1
        | _ => .bad))
    else .bad
def evLc2 (gs : List (Nat × List D)) (tg : Tg) (src : Env → Store → R Src) (own1 : List Nat) (tg1 : Tg) (e : Env → Store → R D) (ρ : Env) : List D → List D → Store → R (List D)
  | [], acc, st => if guard gs st then .ok acc st else .bad
  | x :: xs, acc, st => if guard gs st then (match asg tg x ρ with
      | none => .bad
      | some ρ1 => (match src ρ1 st with
        | .ok s st1 => (match evLc s.gs tg1 (fun _ st => .ok (.bl true) st) e (wipeE ρ1 own1) s.its acc st1 with
          | .ok acc1 st2 => evLc2 gs tg src own1 tg1 e ρ xs acc1 st2
          | _ => .bad)
        | _ => .bad))
    else .bad
/-! ### the evaluator -/
structure Kn where
  cons : List D
  fuel : Nat
  call : Nat → List D → Store → R D
  call1 : Nat → List D → Store → R D
def insAt (st : Store) : D → Option (Nat × List (Nat × D))
  | .ref n => (match st[n]? with | some (.ins c fs) => some (c, fs) | _ => none)
  | _ => none
def putD (f : Nat) (d : D) : List (Nat × D) → List (Nat × D)
  | [] => [(f, d)]
  | (g, e) :: r => if g = f then (g, d) :: r else (g, e) :: putD f d r
def mkI (kn : Kn) (c g : Nat) (ds : List D) (st : Store) : R D := (kn.call1 g (.ref st.length :: ds) (st ++ [.ins c []])).bind fun r st' => (match r with | .non => .ok (.ref st.length) st' | _ => .bad)
def fldI (c f : Nat) (d : D) (st : Store) : R D := match insAt st d with
  | some (k, fs) => if k == c then (match fs.lookup f with | some x => .ok x st | none => .bad) else .bad
  | none => .bad
/-- an instance of the class c without an attribute m of its own -/
def insOk (c m : Nat) (d : D) (st : Store) : Bool := match insAt st d with
  | some (k, fs) => k == c && (fs.lookup m).isNone
  | none => false
def noExc {α : Type} : R α → R α
  | .exc _ _ => .bad
  | r => r
def isCI (C : Nat) (d : D) (st : Store) : R D := match d with
  | .ref n => (match st[n]? with
    | some (.ins c _) => .ok (.bl (c == C)) st
    | some (.lst _) => .ok (.bl false) st
    | none => .bad)
  | .non => .ok (.bl false) st
  | .bl _ => .ok (.bl false) st
  | .int _ => .ok (.bl false) st
  | .str _ => .ok (.bl false) st
  | .tup _ => .ok (.bl false) st
  | .lst _ => .ok (.bl false) st
  | _ => .bad
def setFI (c f : Nat) (x d : D) (st : Store) : R Unit := match x with
  | .ref n => (match st[n]? with
    | some (.ins k fs) => if k == c && decide (fs.length < 1000) then .ok () (st.set n (.ins k (putD f d fs))) else .bad
    | _ => .bad)
  | _ => .bad
/-- an instance whose first def takes the rest as one tuple -/
def mkRI (kn : Kn) (c g r : Nat) (ds : List D) (st : Store) : R D := if r ≤ ds.length ∧ ds.length ≤ 1000 then (noExc (kn.call1 g (.ref st.length :: (ds.take r ++ [.tup (ds.drop r)])) (st ++ [.ins c []]))).bind fun x st' => (match x with | .non => .ok (.ref st.length) st' | _ => .bad) else .bad
/-- what the special method gives, as its user sees it -/
def dunPost (u : DU) (d : D) (st : Store) : R D := match u, d with
  | .len, .int n => if 0 ≤ n ∧ n < 2 ^ 63 then .ok (.int n) st else .bad
  | .bool, .bl b => .ok (.bl b) st
  | .add, d => .ok d st
  | .call, d => .ok d st
  | _, _ => .bad
def dunArgs (u : DU) (ds : List D) : Bool := match u, ds with
  | .len, [] => true
  | .bool, [] => true
  | .add, [.tup _] => true
  | .call, _ :: _ => true
  | _, _ => false
def insB (c : Nat) (x : D) (st : Store) : Bool := match insAt st x with
  | some (k, _) => k == c
  | none => false
def dunI (kn : Kn) (u : DU) (c g : Nat) (ds : List D) (st : Store) : R D := match ds with
  | x :: r => if insB c x st && dunArgs u r then (noExc (kn.call1 g (x :: r) st)).bind fun d st => dunPost u d st else .bad
  | [] => .bad
def srcOf (d : D) (st : Store) : R Src := match d with
  | .tup l => .ok ⟨l, []⟩ st
  | .lst l => .ok ⟨l, []⟩ st
  | .ref n => (match st[n]? with | some (.lst l) => .ok ⟨l, [(n, l)]⟩ st | _ => .bad)
  | _ => .bad
def enumD : Nat → List D → List D
  | _, [] => []
  | i, d :: r => .tup [.int (i : Nat), d] :: enumD (i + 1) r
def zipD : List D → List D → List D
  | a :: x, b :: y => .tup [a, b] :: zipD x y
  | _, _ => []
def rngD (lo : Int) : Nat → List D
  | 0 => []
  | n + 1 => .int lo :: rngD (lo + 1) n
def okR (i : Int) : Bool := decide (-1000000 ≤ i) && decide (i ≤ 1000000)
def lift (r : R D) (ρ : Env) (k : D → Store → SR) : SR := match r with
  | .ok d st => k d st
  | .exc x st => .exc x ρ st
  | .bad => .bad
@[simp] theorem lift_ok (d : D) (st : Store) (ρ : Env) (k : D → Store → SR) : lift (.ok d st) ρ k = k d st := rfl
@[simp] theorem lift_bad (ρ : Env) (k : D → Store → SR) : lift .bad ρ k = .bad := rfl
@[simp] theorem lift_exc (x : Ex) (st : Store) (ρ : Env) (k : D → Store → SR) : lift (.exc x st) ρ k = .exc x ρ st := rfl
mutual
def evE (kn : Kn) : E → Env → Store → R D
  | .var i, ρ, st => (match ρ[i]? with | some (some d) => .ok d st | _ => .bad)
  | .non, _, st => .ok .non st
  | .bl b, _, st => .ok (.bl b) st
  | .int i, _, st => .ok (.int i) st
  | .str x, _, st => .ok (.str x) st
  | .con i, _, st => (match kn.cons[i]? with | some d => .ok d st | none => .bad)
  | .tup es, ρ, st => (evEs kn es ρ st).bind fun ds st => .ok (.tup ds) st
  | .lst m es, ρ, st => (evEs kn es ρ st).bind fun ds st => mkL m ds st
  | .any, _, _ => .bad
  | .mk c g es, ρ, st => (evEs kn es ρ st).bind fun ds st => mkI kn c g ds st
  | .mkR c g r es s, ρ, st => (evEs kn es ρ st).bind fun ds st => (evSt kn s ρ st).bind fun l st => mkRI kn c g r (ds ++ l) st
  | .dun u c g a es, ρ, st => (evE kn a ρ st).bind fun x st => if insB c x st then (evEs kn es ρ st).bind fun ds st => dunI kn u c g (x :: ds) st else .bad
  | .fld c a f, ρ, st => (evE kn a ρ st).bind fun x st => fldI c f x st
  | .prp c g a f, ρ, st => (evE kn a ρ st).bind fun x st => if insOk c f x st then noExc (kn.call1 g [x] st) else .bad
  | .met c g a m es, ρ, st => (evE kn a ρ st).bind fun x st => if insOk c m x st then (evEs kn es ρ st).bind fun ds st => kn.call g (x :: ds) st else .bad
  | .isC C a, ρ, st => (evE kn a ρ st).bind fun x st => isCI C x st
  | .fst es, ρ, st => (evFs kn es [] ρ st).bind fun x st => .ok (.str x) st
  | .bin op m a b, ρ, st => (evE kn a ρ st).bind fun x st => (evE kn b ρ st).bind fun y st => bin op m x y st
  | .neg a, ρ, st => (evE kn a ρ st).bind fun x st => (match x with | .int i => .ok (.int (-i)) st | _ => .bad)
  | .not a, ρ, st => (evE kn a ρ st).bind fun x st => (match x with | .bl b => .ok (.bl (!b)) st | _ => .bad)
  | .and a b, ρ, st => (evE kn a ρ st).bind fun x st => (match x with | .bl true => evE kn b ρ st | .bl false => .ok (.bl false) st | _ => .bad)
  | .or a b, ρ, st => (evE kn a ρ st).bind fun x st => (match x with | .bl true => .ok (.bl true) st | .bl false => evE kn b ρ st | _ => .bad)
  | .cmp op a b, ρ, st => (evE kn a ρ st).bind fun x st => (evE kn b ρ st).bind fun y st => cmp op x y st
  | .chn op op' a b c, ρ, st => (evE kn a ρ st).bind fun x st => (evE kn b ρ st).bind fun y st => (cmp op x y st).bind fun r st =>
      (match r with | .bl true => (evE kn c ρ st).bind fun z st => cmp op' y z st | .bl false => .ok (.bl false) st | _ => .bad)
  | .ite c a b, ρ, st => (evE kn c ρ st).bind fun x st => (match x with | .bl true => evE kn a ρ st | .bl false => evE kn b ρ st | _ => .bad)
  | .idx a b, ρ, st => (evE kn a ρ st).bind fun x st => (evE kn b ρ st).bind fun y st => idx x y st
  | .slc a lo hi, ρ, st => (evE kn a ρ st).bind fun x st => (evOe kn lo ρ st).bind fun l st => (evOe kn hi ρ st).bind fun h st => slc x l h st
  | .call f es, ρ, st => (evEs kn es ρ st).bind fun ds st => kn.call f ds st
  | .blt f m es, ρ, st => (evEs kn es ρ st).bind fun ds st => blt f m ds st
  | .isi t a, ρ, st => (evE kn a ρ st).bind fun x st => (match isiD t x st with | some b => .ok (.bl b) st | none => .bad)
  | .mth f a es, ρ, st => (evE kn a ρ st).bind fun x st => if recvOk f x st then (evEs kn es ρ st).bind fun ds st => mth f x ds st else .bad
  | .lc m own tg it c e, ρ, st => (evIt kn it ρ st).bind fun s st =>
      (evLc s.gs tg (evOc kn c) (evE kn e) (wipeE ρ own) s.its [] st).bind fun l st => mkL m l st
  | .lc2 m own own1 tg it tg1 it1 e, ρ, st => (evIt kn it ρ st).bind fun s st =>
      (evLc2 s.gs tg (evIt kn it1) own1 tg1 (evE kn e) (wipeE ρ own) s.its [] st).bind fun l st => mkL m l st
def evEs (kn : Kn) : Es → Env → Store → R (List D)
  | .nil, _, st => .ok [] st
  | .cons e es, ρ, st => (evE kn e ρ st).bind fun d st => (evEs kn es ρ st).bind fun ds st => .ok (d :: ds) st
/-- an f-string's parts, one behind the other -/
def evFs (kn : Kn) : Es → List Nat → Env → Store → R (List Nat)
  | .nil, acc, _, st => .ok acc st
  | .cons e es, acc, ρ, st => (evE kn e ρ st).bind fun d st => match fmtD d with
    | some x => if (acc ++ x).length ≤ LIM then evFs kn es (acc ++ x) ρ st else .bad
    | none => .bad
/-- a slice's part: left out, or an int -/
def evOe (kn : Kn) : Oe → Env → Store → R (Option Int)
  | .none, _, st => .ok none st
  | .some e, ρ, st => (evE kn e ρ st).bind fun d st => (match d with | .int i => .ok (some i) st | _ => .bad)
/-- a starred argument's items -/
def evSt (kn : Kn) : Oe → Env → Store → R (List D)
  | .none, _, st => .ok [] st
  | .some e, ρ, st => (evE kn e ρ st).bind fun d st => (match seqOf st d with | some l => .ok l st | none => .bad)
/-- a comprehension's test -/
def evOc (kn : Kn) : Oe → Env → Store → R D
  | .none, _, st => .ok (.bl true) st
  | .some e, ρ, st => evE kn e ρ st
def evIt (kn : Kn) : It → Env → Store → R Src
  | .of a, ρ, st => (evE kn a ρ st).bind fun d st => srcOf d st
  | .rng1 a, ρ, st => (evE kn a ρ st).bind fun d st => (match d with
    | .int j => if okR j then .ok ⟨rngD 0 j.toNat, []⟩ st else .bad
    | _ => .bad)
  | .rng2 a b, ρ, st => (evE kn a ρ st).bind fun x st => (evE kn b ρ st).bind fun y st => (match x, y with
    | .int i, .int j => if okR i && okR j then .ok ⟨rngD i (j - i).toNat, []⟩ st else .bad
    | _, _ => .bad)
  | .zip a b, ρ, st => (evE kn a ρ st).bind fun x st => (evE kn b ρ st).bind fun y st => (match x, y with
    | .tup l, .tup k => .ok ⟨zipD l k, []⟩ st
    | x, y => (match x, y with
      | .tup _, _ => .bad
      | _, .tup _ => .bad
      | x, y => (srcOf x st).bind fun s st => (srcOf y st).bind fun t st => .ok ⟨zipD s.its t.its, s.gs ++ t.gs⟩ st))
  | .enum a, ρ, st => (evE kn a ρ st).bind fun x st => (match x with
    | .tup _ => .bad
    | x => (srcOf x st).bind fun s st => .ok ⟨enumD 0 s.its, s.gs⟩ st)
end
def hdVal (r : Hr) (c : Nat) : Option D := match r with
  | .str x => some (.str x)
  | .isx _ tab x y => (match tab[c]? with
    | some true => some (.str x)
    | some false => some (.str y)
    | none => none)
def offE (i : Option Nat) (ρ : Env) : Env := match i with
  | none => ρ
  | some i => ρ.set i none
def offOk (i : Option Nat) (ρ : Env) : Bool := match i with
  | none => true
  | some i => decide (i < ρ.length)
/-- the clauses, one after the other -/
def tryH : List Hd → Ex → Env → Store → SR
  | [], x, ρ, st => .exc x ρ st
  | h :: r, x, ρ, st => (match h.tab[x.c]? with
    | none => .bad
    | some false => tryH r x ρ st
    | some true => if offOk h.i ρ then (match hdVal h.r x.c with
      | some d => .ok (.ret d) (offE h.i ρ) st
      | none => .bad) else .bad)
mutual
def evS (kn : Kn) : S → Env → Store → SR
  | .asg t e, ρ, st => lift (evE kn e ρ st) ρ fun d st => (match asg t d ρ with | some ρ' => .ok .next ρ' st | none => .bad)
  | .setI a i e, ρ, st => lift (evE kn e ρ st) ρ fun d st => lift (evE kn a ρ st) ρ fun x st => lift (evE kn i ρ st) ρ fun y st =>
      (match setI x y d st with | .ok _ st => .ok .next ρ st | .exc _ _ => .bad | .bad => .bad)
  | .expr e, ρ, st => lift (evE kn e ρ st) ρ fun _ st => .ok .next ρ st
  | .ret e, ρ, st => lift (evE kn e ρ st) ρ fun d st => .ok (.ret d) ρ st
  | .retN, ρ, st => .ok (.ret .non) ρ st
  | .any, _, _ => .bad
  | .setF c a f e, ρ, st => lift (evE kn e ρ st) ρ fun d st => lift (evE kn a ρ st) ρ fun x st =>
      (match setFI c f x d st with | .ok _ st => .ok .next ρ st | .exc _ _ => .bad | .bad => .bad)
  | .pass, ρ, st => .ok .next ρ st
  | .brk, ρ, st => .ok .brk ρ st
  | .cont, ρ, st => .ok .cont ρ st
  | .ite c a b, ρ, st => lift (evE kn c ρ st) ρ fun x st => (match x with | .bl true => evSs kn a ρ st | .bl false => evSs kn b ρ st | _ => .bad)
  | .whl c a, ρ, st => evWhile (evE kn c) (evSs kn a) kn.fuel ρ st
  | .for_ tg it a, ρ, st => (match evIt kn it ρ st with
    | .ok s st => evFor s.gs tg (evSs kn a) s.its ρ st
    | .exc x st => .exc x ρ st
    | .bad => .bad)
  | .rais c es, ρ, st => (match evEs kn es ρ st with
    | .ok _ st => .exc ⟨c, []⟩ ρ st
    | .exc x st => .exc x ρ st
    | .bad => .bad)
  | .tryr a hs, ρ, st => (match evSs kn a ρ st with
    | .exc x ρ1 st1 => tryH hs x ρ1 st1
    | r => r)
def evSs (kn : Kn) : Ss → Env → Store → SR
  | .nil, ρ, st => .ok .next ρ st
  | .cons s r, ρ, st => (match evS kn s ρ st with
    | .ok .next ρ1 st1 => evSs kn r ρ1 st1
    | x => x)
end
/-- a def: how many names, how many parameters, its body -/
structure Fn where
  n : Nat
  ps : Nat
  body : Ss
def envOf (n : Nat) (ds : List D) : Env := ds.map some ++ List.replicate (n - ds.length) none
def callBody (kn : Kn) (f : Fn) (ds : List D) (st : Store) : R D :=
  if ds.length = f.ps then (match evSs kn f.body (envOf f.n ds) st with
    | .ok .next _ st => .ok .non st
    | .ok (.ret d) _ st => .ok d st
    | .exc x _ st => .exc x st
    | _ => .bad)
  else .bad
structure Prog where
  cons : List D
  fns : List Fn
  fuel : Nat
def evCall (P : Prog) : Nat → Nat → List D → Store → R D
  | 0 => fun _ _ _ => .bad
  | k + 1 => fun f ds st => (match P.fns[f]? with
    | some fn => callBody ⟨P.cons, P.fuel, evCall P k, match k with | 0 => fun _ _ _ => .bad | j + 1 => evCall P j⟩ fn ds st
    | none => .bad)
/-- what a def at level k + 1 knows -/
def Prog.kn (P : Prog) (k : Nat) : Kn := ⟨P.cons, P.fuel, evCall P k, evCall P (k - 1)⟩
theorem evCall_zero (P : Prog) (f : Nat) (ds : List D) (st : Store) : evCall P 0 f ds st = .bad := rfl
theorem evCall_succ (P : Prog) (k f : Nat) (ds : List D) (st : Store) : evCall P (k + 1) f ds st = (match P.fns[f]? with
    | some fn => callBody (P.kn k) fn ds st
    | none => .bad) := by
  cases k with
  | zero =>
    rw [evCall.eq_def]
    dsimp only
    cases h : P.fns[f]? <;> rfl
  | succ j =>
    rw [evCall.eq_def]
    dsimp only
    cases h : P.fns[f]? <;> rfl
end AF

/-! Rel: how values and stores of the core stand in the heap; readings. -/
namespace AF
open PySem PySem.Spec PyProof.Rows L2

def MutO : Option HO → Prop
  | some (.lst _) => True
  | some (.ins _ _ _) => True
  | _ => False
theorem MutO.some {o : Option HO} (h : MutO o) : ∃ u, o = some u := by
  cases o with
  | none => exact h.elim
  | some u => exact ⟨u, rfl⟩

/-- what the relation knows of the text: the written part, the addresses of its defs and classes -/
structure Tx where
  K : PySem.W.Frag
  fa : Nat → Addr
  ca : Nat → Addr
  /-- lists that are being made: no value is one of them -/
  gh : List Addr
  /-- where the classes lie; the names of attributes, methods, properties -/
  cl : Nat → Addr
  nm : List Str
  nd : nm.Nodup

/-- a list that is known and stays: the script -/
def SqF (K : PySem.W.Frag) (H : Hp) (a : Addr) (xs : List V) : Prop := (∃ o, H a = some (.frz o (.lst xs))) ∨
  ∃ (o : Obj) (its : Array Value) (n : Nat), K.lookup a = some o ∧ o.cls = .type "list" ∧ o.dict = none ∧ o.data = .seq its n ∧ its.size ≤ sizeLine ∧ Vals xs its.toList
theorem SqF.seq {K : PySem.W.Frag} {H : Hp} {a : Addr} {xs : List V} (h : SqF K H a xs) : SqL K H a xs := by
  rcases h with h | h
  · exact .inl (.inr h)
  · exact .inr h
section
variable (T : Tx) (μ : List Addr) (H : Hp)
mutual
inductive Rep : D → V → Prop where
  | non : Rep .non .non
  | bl (b : Bool) : Rep (.bl b) (.bl b)
  | int (i : Int) : Rep (.int i) (.int i)
  | str (x : List Nat) : Rep (.str x) (.str (toStr x))
  | tup {a : Addr} {xs : List V} {l : List D} : SqT T.K H a xs → Reps l xs → Rep (.tup l) (.ref a)
  | lst {a : Addr} {xs : List V} {l : List D} : H a = some (.lst xs) → (a ∉ μ ∧ a ∉ T.gh) → Reps l xs → Rep (.lst l) (.ref a)
  | scr {a : Addr} {ns : List Int} : SqF T.K H a (ns.map V.int) → Rep (.scr ns) (.ref a)
  | ref {n : Nat} {a : Addr} : μ[n]? = some a → Rep (.ref n) (.ref a)
  | glo (n : Nat) : Rep (.glo n) (.ref (T.fa n))
inductive Reps : List D → List V → Prop where
  | nil : Reps [] []
  | cons {d : D} {v : V} {l : List D} {xs : List V} : Rep d v → Reps l xs → Reps (d :: l) (v :: xs)
end
/-- attributes -/
inductive FsR : List (Nat × D) → List (Str × V) → Prop where
  | nil : FsR [] []
  | cons {i : Nat} {x : Str} {d : D} {v : V} {fs : List (Nat × D)} {xs : List (Str × V)} : T.nm[i]? = some x → Rep T μ H d v → FsR fs xs → FsR ((i, d) :: fs) ((x, v) :: xs)
end
/-- an object of the store at its address -/
def ObRel (T : Tx) (μ : List Addr) (H : Hp) (a : Addr) : Ob → Prop
  | .lst l => ∃ xs, H a = some (.lst xs) ∧ Reps T μ H l xs
  | .ins c fs => ∃ dx xs, H a = some (.ins (T.cl c) dx xs) ∧ H dx = some (.own a) ∧ FsR T μ H fs xs
structure Rel (T : Tx) (μ : List Addr) (st : Store) (H : Hp) : Prop where
  len : μ.length = st.length
  inj : ∀ (i j : Nat) (a : Addr), μ[i]? = some a → μ[j]? = some a → i = j
  obj : ∀ (n : Nat) (o : Ob), st[n]? = some o → ∃ a, μ[n]? = some a ∧ ObRel T μ H a o
  gh : ∀ a ∈ T.gh, a ∉ μ ∧ ∃ xs, H a = some (.lst xs)
structure Ext (μ : List Addr) (H : Hp) (μ' : List Addr) (H' : Hp) : Prop where
  pre : ∃ t, μ' = μ ++ t ∧ ∀ a ∈ t, H a = none
  keep : ∀ a o, H a = some o → a ∉ μ → H' a = some o
  mut0 : ∀ a ∈ μ, MutO (H a)
  mut1 : ∀ a ∈ μ', MutO (H' a)

section
variable {T : Tx} {μ μ' μ1 μ2 : List Addr} {H H' H1 H2 : Hp} {st st' : Store}
theorem ObRel.mut {a : Addr} {o : Ob} (h : ObRel T μ H a o) : MutO (H a) := by
  cases o with
  | lst l => obtain ⟨xs, e, _⟩ := h; rw [e]; trivial
  | ins c fs => obtain ⟨dx, xs, e, _⟩ := h; rw [e]; trivial
theorem Rel.mut (R : Rel T μ st H) : ∀ a ∈ μ, MutO (H a) := fun a ha => by
  obtain ⟨i, hi, e⟩ := List.mem_iff_getElem.mp ha
  have e2 : μ[i]? = some a := by rw [List.getElem?_eq_getElem hi, e]
  have hi2 : i < st.length := by rw [← R.len]; exact hi
  obtain ⟨b, hb, hr⟩ := R.obj i _ (List.getElem?_eq_getElem hi2)
  rw [e2] at hb; cases hb
  exact hr.mut
theorem Ext.refl (R : Rel T μ st H) : Ext μ H μ H := ⟨⟨[], by simp, by simp⟩, fun _ _ e _ => e, R.mut, R.mut⟩
theorem Ext.trans (a : Ext μ H μ1 H1) (b : Ext μ1 H1 μ2 H2) : Ext μ H μ2 H2 := by
  obtain ⟨t, rfl, ht⟩ := a.pre
  obtain ⟨t2, rfl, ht2⟩ := b.pre
  refine ⟨⟨t ++ t2, by simp, fun c hc => ?_⟩, fun c o e hc => ?_, a.mut0, b.mut1⟩
  · rcases List.mem_append.mp hc with hc | hc
    · exact ht c hc
    · cases q : H c with
      | none => rfl
      | some o =>
        by_cases hm : c ∈ μ
        · obtain ⟨u, hu⟩ := (a.mut1 c (List.mem_append_left _ hm)).some
          rw [ht2 c hc] at hu; cases hu
        · have := a.keep c o q hm
          rw [ht2 c hc] at this; cases this
  · refine b.keep c o (a.keep c o e hc) fun hm => ?_
    rcases List.mem_append.mp hm with hm | hm
    · exact hc hm
    · rw [ht c hm] at e; cases e
theorem Ext.notin (x : Ext μ H μ' H') {a : Addr} {o : HO} (e : H a = some o) (h : a ∉ μ) : a ∉ μ' := by
  obtain ⟨t, rfl, ht⟩ := x.pre
  intro hm
  rcases List.mem_append.mp hm with hm | hm
  · exact h hm
  · rw [ht a hm] at e; cases e
theorem Ext.get (x : Ext μ H μ' H') {n : Nat} {a : Addr} (e : μ[n]? = some a) : μ'[n]? = some a := by
  obtain ⟨t, rfl, ht⟩ := x.pre
  rw [List.getElem?_append_left (List.getElem?_eq_some_iff.mp e).1]; exact e
theorem Ext.stay (x : Ext μ H μ' H') {a : Addr} {o : HO} (e : H a = some o) (hm : ¬ MutO (some o)) : H' a = some o :=
  x.keep a o e fun h => hm (by rw [← e]; exact x.mut0 a h)
theorem Ext.tup (x : Ext μ H μ' H') {a : Addr} {xs : List V} (h : SqT T.K H a xs) : SqT T.K H' a xs := by
  rcases h with (h | ⟨o, h⟩) | h
  · exact .inl (.inl (x.stay h fun z => z))
  · exact .inl (.inr ⟨o, x.stay h fun z => z⟩)
  · exact .inr h
theorem Ext.sqf (x : Ext μ H μ' H') {a : Addr} {xs : List V} (h : SqF T.K H a xs) : SqF T.K H' a xs := by
  rcases h with ⟨o, h⟩ | h
  · exact .inl ⟨o, x.stay h fun z => z⟩
  · exact .inr h
mutual
theorem Rep.mono (x : Ext μ H μ' H') : ∀ {d : D} {v : V}, Rep T μ H d v → Rep T μ' H' d v
  | _, _, .non => .non
  | _, _, .bl b => .bl b
  | _, _, .int i => .int i
  | _, _, .str s => .str s
  | _, _, .tup h r => .tup (x.tup h) (Reps.mono x r)
  | _, _, .lst h n r => .lst (x.keep _ _ h n.1) ⟨x.notin h n.1, n.2⟩ (Reps.mono x r)
  | _, _, .scr h => .scr (x.sqf h)
  | _, _, .ref h => .ref (x.get h)
  | _, _, .glo n => .glo n
theorem Reps.mono (x : Ext μ H μ' H') : ∀ {l : List D} {xs : List V}, Reps T μ H l xs → Reps T μ' H' l xs
  | _, _, .nil => .nil
  | _, _, .cons a r => .cons (Rep.mono x a) (Reps.mono x r)
end
theorem FsR.mono (x : Ext μ H μ' H') : ∀ {fs : List (Nat × D)} {xs : List (Str × V)}, FsR T μ H fs xs → FsR T μ' H' fs xs
  | _, _, .nil => .nil
  | _, _, .cons h a r => .cons h (a.mono x) (FsR.mono x r)
theorem FsR.imp {T T' : Tx} {μ μ' : List Addr} {H H' : Hp} (hn : T'.nm = T.nm) (k : ∀ d v, Rep T μ H d v → Rep T' μ' H' d v) : ∀ {fs : List (Nat × D)} {xs : List (Str × V)}, FsR T μ H fs xs → FsR T' μ' H' fs xs
  | _, _, .nil => .nil
  | _, _, .cons h a r => .cons (by rw [hn]; exact h) (k _ _ a) (FsR.imp hn k r)
theorem FsR.length : ∀ {fs : List (Nat × D)} {xs : List (Str × V)}, FsR T μ H fs xs → xs.length = fs.length
  | _, _, .nil => rfl
  | _, _, .cons h a r => by simp [FsR.length r]
theorem Tx.nm_inj (T : Tx) {i j : Nat} {x : Str} (h1 : T.nm[i]? = some x) (h2 : T.nm[j]? = some x) : i = j :=
  (List.getElem?_inj (List.getElem?_eq_some_iff.mp h1).1 T.nd).mp (h1.trans h2.symm)
theorem FsR.get {f : Nat} {x : Str} (hx : T.nm[f]? = some x) : ∀ {fs : List (Nat × D)} {xs : List (Str × V)} {d : D}, FsR T μ H fs xs → fs.lookup f = some d → ∃ v, xs.lookup x = some v ∧ Rep T μ H d v
  | _, _, _, .nil, e => by cases e
  | _, _, d, .cons (i := i) (x := y) (d := d0) (v := v0) h a r, e => by
    by_cases z : f = i
    · subst z
      rw [hx] at h
      cases h
      simp only [List.lookup, beq_self_eq_true] at e ⊢
      cases e
      exact ⟨_, rfl, a⟩
    · have zb : (f == i) = false := by simpa using z
      have zx : (x == y) = false := by
        rw [beq_eq_false_iff_ne]
        intro w
        subst w
        exact z (T.nm_inj hx h)
      simp only [List.lookup, zb, zx] at e ⊢
      exact FsR.get hx r e
theorem FsR.no {f : Nat} {x : Str} (hx : T.nm[f]? = some x) : ∀ {fs : List (Nat × D)} {xs : List (Str × V)}, FsR T μ H fs xs → fs.lookup f = none → xs.lookup x = none
  | _, _, .nil, e => rfl
  | _, _, .cons (i := i) (x := y) h a r, e => by
    by_cases z : f = i
    · subst z
      simp [List.lookup] at e
    · have zb : (f == i) = false := by simpa using z
      have zx : (x == y) = false := by
        rw [beq_eq_false_iff_ne]
        intro w
        subst w
        exact z (T.nm_inj hx h)
      simp only [List.lookup, zb, zx] at e ⊢
      exact FsR.no hx r e
theorem FsR.put {f : Nat} {x : Str} {d : D} {v : V} (hx : T.nm[f]? = some x) (hv : Rep T μ H d v) : ∀ {fs : List (Nat × D)} {xs : List (Str × V)}, FsR T μ H fs xs → FsR T μ H (putD f d fs) (putF x v xs)
  | _, _, .nil => .cons hx hv .nil
  | _, _, .cons (i := i) (x := y) h a r => by
    by_cases z : i = f
    · subst z
      rw [hx] at h
      cases h
      simp only [putD, putF, if_true]
      exact .cons hx hv r
    · have zx : ¬ y = x := by
        intro w
        subst w
        exact z (T.nm_inj h hx)
      simp only [putD, putF, if_neg z, if_neg zx]
      exact .cons h a (FsR.put hx hv r)
end
end AF

/-! Rel2: new objects, stores; readings of the core; how they compose. -/
namespace AF
open PySem PySem.Spec PyProof.Rows L2
section
variable {T : Tx} {μ μ' μ1 μ2 : List Addr} {H H' H1 H2 : Hp} {st st' : Store}
/-- a new object that the store does not hold -/
theorem Ext.new (R : Rel T μ st H) {p : Addr} {o : HO} (hp : H p = none) : Ext μ H μ (upd H p o) := by
  have ne : ∀ a u, H a = some u → a ≠ p := fun a u e z => by rw [z, hp] at e; cases e
  refine ⟨⟨[], by simp, by simp⟩, fun a u e _ => by rw [upd_ne (ne a u e)]; exact e, R.mut, fun a ha => ?_⟩
  obtain ⟨u, hu⟩ := (R.mut a ha).some
  rw [upd_ne (ne a u hu)]; exact R.mut a ha
theorem ObRel.mono (x : Ext μ H μ' H') {a : Addr} {o : Ob} (hk : H' a = H a) (h : ObRel T μ H a o) : ObRel T μ' H' a o := by
  cases o with
  | lst l => obtain ⟨xs, e, r⟩ := h; exact ⟨xs, hk.trans e, r.mono x⟩
  | ins c fs => obtain ⟨dx, xs, e, o, r⟩ := h; exact ⟨dx, xs, hk.trans e, x.stay o (fun z => z), r.mono x⟩
theorem Rel.new (R : Rel T μ st H) {p : Addr} {o : HO} (hp : H p = none) : Rel T μ st (upd H p o) := by
  refine ⟨R.len, R.inj, fun n ob e => ?_, fun a ha => ⟨(R.gh a ha).1, let ⟨o, e⟩ := (R.gh a ha).2; ⟨o, by rw [upd_ne (fun z => by rw [z, hp] at e; cases e)]; exact e⟩⟩⟩
  obtain ⟨a, ha, r⟩ := R.obj n ob e
  obtain ⟨u, hu⟩ := r.mut.some
  exact ⟨a, ha, r.mono (Ext.new R hp) (upd_ne fun z => by rw [z, hp] at hu; cases hu)⟩
/-- a new object that the store holds -/
theorem Ext.newM (R : Rel T μ st H) {p : Addr} {o : HO} (hp : H p = none) (hm : MutO (some o)) : Ext μ H (μ ++ [p]) (upd H p o) := by
  obtain ⟨_, k, m0, m1⟩ := Ext.new (o := o) R hp
  refine ⟨⟨[p], rfl, by simpa using hp⟩, k, m0, fun a ha => ?_⟩
  rcases List.mem_append.mp ha with ha | ha
  · exact m1 a ha
  · have e : a = p := by simpa using ha
    subst e; rw [upd_same]; exact hm
theorem Rel.newM (R : Rel T μ st H) {p : Addr} {o : HO} {ob : Ob} (hp : H p = none) (hm : MutO (some o)) (h : ObRel T (μ ++ [p]) (upd H p o) p ob) : Rel T (μ ++ [p]) (st ++ [ob]) (upd H p o) := by
  have np : p ∉ μ := fun hm => by obtain ⟨u, hu⟩ := (R.mut p hm).some; rw [hp] at hu; cases hu
  refine ⟨by simp [R.len], fun i j a hi hj => ?_, fun n ob' e => ?_, fun a ha => ?_⟩
  · by_cases h1 : i < μ.length <;> by_cases h2 : j < μ.length
    · rw [List.getElem?_append_left h1] at hi; rw [List.getElem?_append_left h2] at hj
      exact R.inj i j a hi hj
    · rw [List.getElem?_append_left h1] at hi; rw [List.getElem?_append_right (by omega)] at hj
      have : a = p := by
        have := List.mem_of_getElem? hj
        simpa using this
      subst this; exact absurd (List.mem_of_getElem? hi) np
    · rw [List.getElem?_append_right (by omega)] at hi; rw [List.getElem?_append_left h2] at hj
      have : a = p := by
        have := List.mem_of_getElem? hi
        simpa using this
      subst this; exact absurd (List.mem_of_getElem? hj) np
    · rw [List.getElem?_append_right (by omega)] at hi hj
      have e1 := (List.getElem?_eq_some_iff.mp hi).1
      have e2 := (List.getElem?_eq_some_iff.mp hj).1
      simp only [List.length_singleton] at e1 e2
      omega
  · by_cases h1 : n < st.length
    · rw [List.getElem?_append_left h1] at e
      obtain ⟨a, ha, r⟩ := R.obj n ob' e
      obtain ⟨u, hu⟩ := r.mut.some
      exact ⟨a, by rw [List.getElem?_append_left (by rw [R.len]; exact h1)]; exact ha, r.mono (Ext.newM R hp hm) (upd_ne fun z => by rw [z, hp] at hu; cases hu)⟩
    · rw [List.getElem?_append_right (by omega)] at e
      have e1 := (List.getElem?_eq_some_iff.mp e).1
      simp only [List.length_singleton] at e1
      have hn : n = st.length := by omega
      subst hn
      simp at e; subst e
      refine ⟨p, ?_, h⟩
      rw [← R.len]; simp
  · obtain ⟨g1, o, g2⟩ := R.gh a ha
    have z : a ≠ p := fun z => by rw [z, hp] at g2; cases g2
    exact ⟨by simp [g1, z], o, by rw [upd_ne z]; exact g2⟩
/-- an object of the store is changed -/
theorem Ext.set (R : Rel T μ st H) {n : Nat} {a : Addr} {o : HO} (ha : μ[n]? = some a) (hm : MutO (some o)) : Ext μ H μ (upd H a o) := by
  have ham := List.mem_of_getElem? ha
  refine ⟨⟨[], by simp, by simp⟩, fun b u e hb => by rw [upd_ne (fun z : b = a => hb (by rw [z]; exact ham))]; exact e, R.mut, fun b hb => ?_⟩
  by_cases z : b = a
  · subst z; rw [upd_same]; exact hm
  · rw [upd_ne z]; exact R.mut b hb
theorem Rel.set (R : Rel T μ st H) {n : Nat} {a : Addr} {o : HO} {ob : Ob} (ha : μ[n]? = some a) (hm : MutO (some o)) (h : ObRel T μ (upd H a o) a ob) : Rel T μ (st.set n ob) (upd H a o) := by
  refine ⟨by rw [List.length_set]; exact R.len, R.inj, fun k ob' e => ?_, fun b hb => ⟨(R.gh b hb).1, let ⟨o, e⟩ := (R.gh b hb).2; ⟨o, by rw [upd_ne (fun z : b = a => (R.gh b hb).1 (by rw [z]; exact List.mem_of_getElem? ha))]; exact e⟩⟩⟩
  by_cases hk : k = n
  · subst hk
    have hl : k < st.length := by have := (List.getElem?_eq_some_iff.mp ha).1; rw [R.len] at this; exact this
    rw [List.getElem?_set_self hl] at e; cases e
    exact ⟨a, ha, h⟩
  · rw [List.getElem?_set_ne (Ne.symm hk)] at e
    obtain ⟨b, hb, r⟩ := R.obj k ob' e
    exact ⟨b, hb, r.mono (Ext.set R ha hm) (upd_ne fun z => hk (R.inj k n a (z ▸ hb) ha))⟩
/-- a list of the store -/
theorem Rel.lst (R : Rel T μ st H) {n : Nat} {l : List D} (e : st[n]? = some (.lst l)) : ∃ a xs, μ[n]? = some a ∧ H a = some (.lst xs) ∧ Reps T μ H l xs := by
  obtain ⟨a, ha, xs, h1, h2⟩ := R.obj n _ e
  exact ⟨a, xs, ha, h1, h2⟩
theorem Reps.length : ∀ {l : List D} {xs : List V}, Reps T μ H l xs → xs.length = l.length
  | _, _, .nil => rfl
  | _, _, .cons _ r => by simp [Reps.length r]
theorem Reps.append : ∀ {l k : List D} {xs ys : List V}, Reps T μ H l xs → Reps T μ H k ys → Reps T μ H (l ++ k) (xs ++ ys)
  | _, _, _, _, .nil, s => s
  | _, _, _, _, .cons a r, s => .cons a (Reps.append r s)
theorem Reps.get : ∀ {l : List D} {xs : List V} {i : Nat} {d : D}, Reps T μ H l xs → l[i]? = some d → ∃ v, xs[i]? = some v ∧ Rep T μ H d v
  | _, _, _, _, .nil, e => by simp at e
  | _, _, 0, _, .cons a _, e => by simp at e; subst e; exact ⟨_, by simp, a⟩
  | _, _, i + 1, _, .cons _ r, e => by
    obtain ⟨v, h1, h2⟩ := Reps.get (i := i) r (by simpa using e)
    exact ⟨v, by simpa using h1, h2⟩
theorem Reps.take : ∀ {l : List D} {xs : List V} (n : Nat), Reps T μ H l xs → Reps T μ H (l.take n) (xs.take n)
  | _, _, 0, _ => by simp; exact .nil
  | _, _, _ + 1, .nil => .nil
  | _, _, n + 1, .cons a r => .cons a (Reps.take n r)
theorem Reps.drop : ∀ {l : List D} {xs : List V} (n : Nat), Reps T μ H l xs → Reps T μ H (l.drop n) (xs.drop n)
  | _, _, 0, r => r
  | _, _, _ + 1, .nil => .nil
  | _, _, n + 1, .cons _ r => Reps.drop n r
theorem Reps.set {d : D} {v : V} (h : Rep T μ H d v) : ∀ {l : List D} {xs : List V} (i : Nat), Reps T μ H l xs → Reps T μ H (l.set i d) (xs.set i v)
  | _, _, _, .nil => .nil
  | _, _, 0, .cons _ r => .cons h r
  | _, _, i + 1, .cons a r => .cons a (Reps.set h i r)
theorem Reps.rep {l : List D} {xs : List V} (h : Reps T μ H l xs) : ∀ k : Nat, Reps T μ H (List.replicate k l).flatten (List.replicate k xs).flatten
  | 0 => .nil
  | k + 1 => by
    rw [List.replicate_succ, List.replicate_succ, List.flatten_cons, List.flatten_cons]
    exact Reps.append h (Reps.rep h k)
end

/-! ### environments -/
structure REnv (T : Tx) (μ : List Addr) (H : Hp) (ρ : Env) (σ : L2.St) : Prop where
  len : ρ.length = σ.length
  get : ∀ (i : Nat) (d : D), ρ[i]? = some (some d) → ∃ v, σ[i]? = some (some v) ∧ Rep T μ H d v
section
variable {T : Tx} {μ μ' : List Addr} {H H' : Hp} {st : Store} {ρ : Env} {σ : L2.St}
theorem REnv.mono (x : Ext μ H μ' H') (e : REnv T μ H ρ σ) : REnv T μ' H' ρ σ :=
  ⟨e.len, fun i d h => let ⟨v, h1, h2⟩ := e.get i d h; ⟨v, h1, h2.mono x⟩⟩
theorem REnv.set (e : REnv T μ H ρ σ) {i : Nat} {d : D} {v : V} (h : Rep T μ H d v) (hi : i < ρ.length) : REnv T μ H (ρ.set i (some d)) (σ.set i (some v)) := by
  refine ⟨by simp [e.len], fun j d' hj => ?_⟩
  by_cases z : j = i
  · subst z
    rw [List.getElem?_set_self hi] at hj
    have hd : d = d' := by injection hj with hj; injection hj
    subst hd
    exact ⟨v, List.getElem?_set_self (by rw [← e.len]; exact hi), h⟩
  · rw [List.getElem?_set_ne (Ne.symm z)] at hj
    obtain ⟨w, h1, h2⟩ := e.get j d' hj
    exact ⟨w, by rw [List.getElem?_set_ne (Ne.symm z)]; exact h1, h2⟩
theorem REnv.drop1 (e : REnv T μ H ρ σ) (i : Nat) : REnv T μ H (ρ.set i none) (σ.set i none) := by
  refine ⟨by simp [e.len], fun j d' hj => ?_⟩
  by_cases z : j = i
  · subst z
    by_cases hl : j < ρ.length
    · rw [List.getElem?_set_self hl] at hj; cases hj
    · rw [List.getElem?_eq_none (by simpa using hl)] at hj; cases hj
  · rw [List.getElem?_set_ne (Ne.symm z)] at hj
    obtain ⟨w, h1, h2⟩ := e.get j d' hj
    exact ⟨w, by rw [List.getElem?_set_ne (Ne.symm z)]; exact h1, h2⟩
theorem REnv.wipe (e : REnv T μ H ρ σ) : ∀ vs : List Nat, REnv T μ H (wipeE ρ vs) (wipe σ vs)
  | [] => e
  | v :: vs => (REnv.wipe e vs).drop1 v
theorem REnv.envOf {n : Nat} {ds : List D} {vs : List V} (r : Reps T μ H ds vs) {N : List Str} (hn : n = N.length) : REnv T μ H (envOf n ds) (L2.start N vs) := by
  subst hn
  unfold AF.envOf L2.start
  refine ⟨by simp [r.length], fun i d h => ?_⟩
  by_cases hi : i < ds.length
  · rw [List.getElem?_append_left (by simpa using hi), List.getElem?_map] at h
    cases e : ds[i]? with
    | none => rw [e] at h; cases h
    | some d' =>
      rw [e] at h
      have : d' = d := by simpa using h
      subst this
      obtain ⟨v, h1, h2⟩ := r.get e
      exact ⟨v, by rw [List.getElem?_append_left (by simpa [r.length] using hi), List.getElem?_map, h1]; rfl, h2⟩
  · rw [List.getElem?_append_right (by simpa using hi), List.getElem?_replicate] at h
    split at h <;> cases h
end

/-! ### readings -/
/-- how an exception lies -/
def ExRel (T : Tx) (μ : List Addr) (H : Hp) (x : Ex) (cls : Value) (dx : Option Addr) : Prop := cls = .ref (T.ca x.c) ∧ x.fs = [] ∧ dx = none
def Aft {α β : Type} (T : Tx) (W : WX) (σ : L2.St) (RA : List Addr → Hp → α → β → Prop) (r : R α) (μ : List Addr) (H : Hp) (Q : β → Hp → Prop) : Prop := match r with
  | .ok d st' => ∀ μ' H' v, Ext μ H μ' H' → Rel T μ' st' H' → RA μ' H' d v → Q v H'
  | .exc x st' => ∀ μ' H' cls dx, Ext μ H μ' H' → Rel T μ' st' H' → ExRel T μ' H' x cls dx → W cls dx σ H'
  | .bad => False
/-- as Aft, no exception -/
def AftV {α β : Type} (T : Tx) (RA : List Addr → Hp → α → β → Prop) (r : R α) (μ : List Addr) (H : Hp) (Q : β → Hp → Prop) : Prop := match r with
  | .ok d st' => ∀ μ' H' v, Ext μ H μ' H' → Rel T μ' st' H' → RA μ' H' d v → Q v H'
  | _ => False
abbrev RepT (T : Tx) : List Addr → Hp → D → V → Prop := fun μ H d v => Rep T μ H d v
abbrev RepsT (T : Tx) : List Addr → Hp → List D → List V → Prop := fun μ H d v => Reps T μ H d v
abbrev REq {α : Type} : List Addr → Hp → α → α → Prop := fun _ _ a b => a = b
section
variable {T : Tx} {W : WX} {σ : L2.St} {α β γ δ : Type} {μ μ' : List Addr} {H H' : Hp} {st : Store}
theorem Aft.shift {RA : List Addr → Hp → α → β → Prop} {r : R α} {Q : β → Hp → Prop} (h : Aft T W σ RA r μ H Q) (x : Ext μ H μ' H') : Aft T W σ RA r μ' H' Q := by
  cases r with
  | ok d st' => exact fun μ2 H2 v e R P => h μ2 H2 v (x.trans e) R P
  | exc y st' => exact fun μ2 H2 c d e R P => h μ2 H2 c d (x.trans e) R P
  | bad => exact h
theorem Aft.mono {RA : List Addr → Hp → α → β → Prop} {r : R α} {Q Q' : β → Hp → Prop} (h : Aft T W σ RA r μ H Q) (k : ∀ v H', Q v H' → Q' v H') : Aft T W σ RA r μ H Q' := by
  cases r with
  | ok d st' => exact fun μ2 H2 v e R P => k _ _ (h μ2 H2 v e R P)
  | exc y st' => exact h
  | bad => exact h
/-- what is known behind the first step -/
theorem Aft.bind {RA : List Addr → Hp → α → β → Prop} {RB : List Addr → Hp → γ → δ → Prop} {r : R α} {f : α → Store → R γ} {Q : δ → Hp → Prop} (h : Aft T W σ RB (r.bind f) μ H Q) :
    Aft T W σ RA r μ H fun v H1 => ∃ μ1 d st1, r = .ok d st1 ∧ Ext μ H μ1 H1 ∧ Rel T μ1 st1 H1 ∧ RA μ1 H1 d v ∧ Aft T W σ RB (f d st1) μ1 H1 Q := by
  cases r with
  | ok d st' => exact fun μ2 H2 v e R P => ⟨μ2, d, st', rfl, e, R, P, Aft.shift h e⟩
  | exc y st' => exact h
  | bad => exact h
theorem Aft.ok {RA : List Addr → Hp → α → β → Prop} {a : α} {Q : β → Hp → Prop} {v : β} (h : Aft T W σ RA (.ok a st) μ H Q) (R : Rel T μ st H) (P : RA μ H a v) : Q v H := h μ H v (Ext.refl R) R P
theorem Aft.v {RA : List Addr → Hp → α → β → Prop} {r : R α} {Q : β → Hp → Prop} (h : Aft T W σ RA r μ H Q) (n : ∀ x s, r ≠ .exc x s) : AftV T RA r μ H Q := by
  cases r with
  | ok d st' => exact h
  | exc y st' => exact absurd rfl (n y st')
  | bad => exact h
theorem AftV.ok {RA : List Addr → Hp → α → β → Prop} {a : α} {Q : β → Hp → Prop} {v : β} (h : AftV T RA (.ok a st) μ H Q) (R : Rel T μ st H) (P : RA μ H a v) : Q v H := h μ H v (Ext.refl R) R P
end

def rdE (T : Tx) (W : WX) (ev : Env → Store → R D) : TE := fun σ H Q => ∃ μ ρ st, Rel T μ st H ∧ REnv T μ H ρ σ ∧ Aft T W σ (RepT T) (ev ρ st) μ H Q
/-- a value as a test -/
def asB : R D → R Bool
  | .ok (.bl b) st => .ok b st
  | .ok _ _ => .bad
  | .exc x st => .exc x st
  | .bad => .bad
def rdT (T : Tx) (W : WX) (ev : Env → Store → R D) : TT := fun σ H Q => ∃ μ ρ st, Rel T μ st H ∧ REnv T μ H ρ σ ∧ Aft T W σ REq (asB (ev ρ st)) μ H Q
def rdA (T : Tx) (W : WX) (ev : Env → Store → R (List D)) : TA := fun σ H Q => ∃ μ ρ st, Rel T μ st H ∧ REnv T μ H ρ σ ∧ Aft T W σ (RepsT T) (ev ρ st) μ H Q
theorem PE.weak {X : Cx} {e : Expr} {t t' : TE} (h : PE X e t) (k : ∀ σ H Q, t' σ H Q → t σ H Q) : PE X e t' := ⟨fun pins s σ H Q I q => h.run pins s σ H Q I (k σ H Q q)⟩
theorem PT.weak {X : Cx} {e : Expr} {t t' : TT} (h : PT X e t) (k : ∀ σ H Q, t' σ H Q → t σ H Q) : PT X e t' := ⟨fun pins s σ H Q I q => h.run pins s σ H Q I (k σ H Q q)⟩
theorem PW.weak {X : Cx} {e : Expr} {t t' : TT} (h : PW X e t) (k : ∀ σ H Q, t' σ H Q → t σ H Q) : PW X e t' := ⟨fun wh pins s σ H Q I q => h.run wh pins s σ H Q I (k σ H Q q)⟩
theorem PA.weak {X : Cx} {e : List Expr} {t t' : TA} (h : PA X e t) (k : ∀ σ H Q, t' σ H Q → t σ H Q) : PA X e t' := ⟨fun pos pins s σ H Q I q => h.run pos pins s σ H Q I (k σ H Q q)⟩
theorem PS.weak {X : Cx} {e : Stmt} {t t' : TS} (h : PS X e t) (k : ∀ D σ H, t' D σ H → t D σ H) : PS X e t' := ⟨fun pins s σ H D I q => h.run pins s σ H D I (k D σ H q)⟩
theorem PSs.weak {X : Cx} {e : List Stmt} {t t' : TS} (h : PSs X e t) (k : ∀ D σ H, t' D σ H → t D σ H) : PSs X e t' := ⟨fun pins s σ H D I q => h.run pins s σ H D I (k D σ H q)⟩
theorem PG.weak {X : Cx} {e : Expr} {t t' : TG} (h : PG X e t) (k : ∀ v σ H Q, t' v σ H Q → t v σ H Q) : PG X e t' := ⟨fun pins s σ H v u Q I r q => h.run pins s σ H v u Q I r (k v σ H Q q)⟩
theorem PI.weak {X : Cx} {tg e : Expr} {t t' : TI} (h : PI X tg e t) (k : ∀ σ H Q, t' σ H Q → t σ H Q) : PI X tg e t' := ⟨fun pins s σ H R I q => h.run pins s σ H R I (k σ H R q)⟩
theorem PO.weak {X : Cx} {e : Option Expr} {t t' : TO} (h : PO X e t) (k : ∀ σ H Q, t' σ H Q → t σ H Q) : PO X e t' := ⟨fun pins s σ H Q I q => h.run pins s σ H Q I (k σ H Q q)⟩
end AF

/-! Ops: the operations by values. -/
namespace AF
open PySem PySem.Spec PyProof.Rows L2
section
variable {T : Tx} {μ : List Addr} {H : Hp} {st : Store}
theorem optAll_dp {f : D → Option PyData} {n : Nat} : ∀ {l : List D} {xs : List V} {ps : List PyData}, optAll f l = some ps → Reps T μ H l xs →
    (∀ d v p, f d = some p → Rep T μ H d v → Dp T.K H v p ∧ p.canLay0 = true ∧ p.depth ≤ n) → DpAll T.K H xs ps ∧ PyData.canLayAll0 ps = true ∧ PyData.depthAll ps ≤ n
  | [], _, ps, e, r, k => by
    cases r
    simp [optAll] at e; subst e
    exact ⟨.nil, by simp [PyData.canLayAll0], by simp [PyData.depthAll]⟩
  | d :: l, _, ps, e, r, k => by
    cases r with
    | cons a r =>
      simp only [optAll] at e
      cases e1 : f d with
      | none => rw [e1] at e; cases e
      | some p =>
        rw [e1] at e
        cases e2 : optAll f l with
        | none => rw [e2] at e; cases e
        | some s =>
          rw [e2] at e
          have e3 : p :: s = ps := by simpa using e
          subst e3
          obtain ⟨h1, h2, h3⟩ := k d _ p e1 a
          obtain ⟨g1, g2, g3⟩ := optAll_dp e2 r k
          exact ⟨.cons h1 g1, by simp [PyData.canLayAll0, h2, g2], by simp only [PyData.depthAll]; omega⟩
theorem strOk_of {x : List Nat} (h : cpsOk x = true) : PyData.strOk (toStr x) = true := by
  unfold PyData.strOk toStr
  unfold cpsOk at h
  simpa using h
theorem py_dp (R : Rel T μ st H) : ∀ (k : Nat) (d : D) (v : V) (p : PyData), py st k d = some p → Rep T μ H d v → Dp T.K H v p ∧ p.canLay0 = true ∧ p.depth ≤ k
  | 0, _, _, _, e, _ => by cases e
  | k + 1, d, v, p, e, r => by
    have ih := py_dp R k
    cases r with
    | non => simp [py] at e; subst e; exact ⟨.non, by simp [PyData.canLay0], by simp [PyData.depth]⟩
    | bl b => simp [py] at e; subst e; exact ⟨.bl b, by simp [PyData.canLay0], by simp [PyData.depth]⟩
    | int i => simp [py] at e; subst e; exact ⟨.int i, by simp [PyData.canLay0], by simp [PyData.depth]⟩
    | str x =>
      simp only [py] at e
      split at e
      · rename_i hc
        have : PyData.str (toStr x) = p := by simpa using e
        subst this
        exact ⟨.str _, by simp [PyData.canLay0, strOk_of hc], by simp [PyData.depth]⟩
      · cases e
    | tup h rs =>
      simp only [py] at e
      cases e1 : optAll (py st k) _ with
      | none => rw [e1] at e; cases e
      | some ps =>
        rw [e1] at e
        have : PyData.tuple ps = p := by simpa using e
        subst this
        obtain ⟨h1, h2, h3⟩ := optAll_dp e1 rs fun d v p e r => ih d v p e r
        exact ⟨.tup h h1, by simp only [PyData.canLay0]; exact h2, by simp only [PyData.depth]; omega⟩
    | lst h n rs =>
      simp only [py] at e
      cases e1 : optAll (py st k) _ with
      | none => rw [e1] at e; cases e
      | some ps =>
        rw [e1] at e
        have : PyData.list ps = p := by simpa using e
        subst this
        obtain ⟨h1, h2, h3⟩ := optAll_dp e1 rs fun d v p e r => ih d v p e r
        exact ⟨.lst (SqL.of h) h1, by simp only [PyData.canLay0]; exact h2, by simp only [PyData.depth]; omega⟩
    | scr h => simp [py] at e
    | @ref n a hn =>
      simp only [py] at e
      cases e0 : st[n]? with
      | none => rw [e0] at e; cases e
      | some o =>
        rw [e0] at e
        cases o with
        | ins c fs => cases e
        | lst l =>
          dsimp only at e
          cases e1 : optAll (py st k) l with
          | none => rw [e1] at e; cases e
          | some ps =>
            rw [e1] at e
            have : PyData.list ps = p := by simpa using e
            subst this
            obtain ⟨b, xs, hb, hx, rs⟩ := R.lst e0
            rw [hn] at hb; cases hb
            obtain ⟨h1, h2, h3⟩ := optAll_dp e1 rs fun d v p e r => ih d v p e r
            exact ⟨.lst (SqL.of hx) h1, by simp only [PyData.canLay0]; exact h2, by simp only [PyData.depth]; omega⟩
    | glo n => simp [py] at e
theorem look_dp (R : Rel T μ st H) {d : D} {v : V} {p : PyData} (e : look st d = some p) (r : Rep T μ H d v) : Dp T.K H v p ∧ SeqAt.shaped p = true := by
  obtain ⟨h1, h2, h3⟩ := py_dp R PYN d v p e r
  refine ⟨h1, ?_⟩
  unfold SeqAt.shaped
  rw [Bool.and_eq_true]
  exact ⟨h2, decide_eq_true (Nat.le_trans h3 (by decide))⟩
end

/-! ### rules by values -/
section
variable (T : Tx)
/-- two values in, what f makes of them -/
def rB (f : D → D → Store → R D) : R2 := fun x y H Q => ∃ μ st a b, Rel T μ st H ∧ Rep T μ H a x ∧ Rep T μ H b y ∧ AftV T (RepT T) (f a b st) μ H Q
def rU (f : D → Store → R D) : V → Hp → VK → Prop := fun x H Q => ∃ μ st a, Rel T μ st H ∧ Rep T μ H a x ∧ AftV T (RepT T) (f a st) μ H Q
def rL (f : List D → Store → R D) : List V → Hp → VK → Prop := fun xs H Q => ∃ μ st ds, Rel T μ st H ∧ Reps T μ H ds xs ∧ AftV T (RepT T) (f ds st) μ H Q
def rM (f : D → List D → Store → R D) : V → List V → Hp → VK → Prop := fun x xs H Q => ∃ μ st a ds, Rel T μ st H ∧ Rep T μ H a x ∧ Reps T μ H ds xs ∧ AftV T (RepT T) (f a ds st) μ H Q
end
section
variable {T : Tx} {μ : List Addr} {H : Hp} {st : Store}
theorem limS : LIM ≤ sizeLine := by rw [sizeLine_eq]; decide
/-- a new list, kept by the store or not -/
theorem mkL_new {m : Bool} {l : List D} {xs : List V} {Q : VK} (h : AftV T (RepT T) (mkL m l st) μ H Q) (R : Rel T μ st H) (r : Reps T μ H l xs) : ∀ p, H p = none → Q (.ref p) (upd H p (.lst xs)) := by
  intro p hp
  have np : p ∉ μ := fun hm => by obtain ⟨u, hu⟩ := (R.mut p hm).some; rw [hp] at hu; cases hu
  cases m with
  | false => exact h μ _ _ (Ext.new R hp) (R.new hp) (.lst upd_same ⟨np, fun hg => by obtain ⟨_, o, e⟩ := R.gh p hg; rw [hp] at e; cases e⟩ (r.mono (Ext.new R hp)))
  | true =>
    have x : Ext μ H (μ ++ [p]) (upd H p (.lst xs)) := Ext.newM R hp trivial
    refine h (μ ++ [p]) _ _ x (R.newM hp trivial ⟨xs, upd_same, r.mono x⟩) (.ref ?_)
    rw [← R.len]; simp
theorem tup_new {l : List D} {xs : List V} {Q : VK} (h : AftV T (RepT T) (.ok (.tup l) st) μ H Q) (R : Rel T μ st H) (r : Reps T μ H l xs) : ∀ p, H p = none → Q (.ref p) (upd H p (.tup xs)) := fun p hp =>
  h μ _ _ (Ext.new R hp) (R.new hp) (.tup (SqT.of upd_same) (r.mono (Ext.new R hp)))
theorem Reps.nil_iff {l : List D} {xs : List V} (r : Reps T μ H l xs) : xs = [] ↔ l = [] := by
  cases r with
  | nil => simp
  | cons _ _ => simp
/-- a list's items in the heap -/
theorem lstOf_at (R : Rel T μ st H) {d : D} {v : V} {l : List D} (e : lstOf st d = some l) (r : Rep T μ H d v) : ∃ a xs, v = .ref a ∧ H a = some (.lst xs) ∧ Reps T μ H l xs := by
  cases r with
  | lst h n rs => simp [lstOf] at e; subst e; exact ⟨_, _, rfl, h, rs⟩
  | @ref n a hn =>
    simp only [lstOf] at e
    cases e0 : st[n]? with
    | none => rw [e0] at e; cases e
    | some o =>
      rw [e0] at e
      cases o with
      | ins c fs => cases e
      | lst k =>
        have : k = l := by simpa using e
        subst this
        obtain ⟨b, xs, hb, hx, rs⟩ := R.lst e0
        rw [hn] at hb; cases hb
        exact ⟨a, xs, rfl, hx, rs⟩
  | _ => simp [lstOf] at e
theorem seqOf_at (R : Rel T μ st H) {d : D} {v : V} {l : List D} (e : seqOf st d = some l) (r : Rep T μ H d v) : ∃ a xs, v = .ref a ∧ (SqL T.K H a xs ∨ SqT T.K H a xs) ∧ Reps T μ H l xs := by
  cases r with
  | tup h rs => simp [seqOf] at e; subst e; exact ⟨_, _, rfl, .inr h, rs⟩
  | lst h n rs =>
    obtain ⟨a, xs, h1, h2, h3⟩ := lstOf_at R (d := .lst _) (by simpa [seqOf] using e) (.lst h n rs)
    exact ⟨a, xs, h1, .inl (SqL.of h2), h3⟩
  | ref hn =>
    obtain ⟨a, xs, h1, h2, h3⟩ := lstOf_at R (d := .ref _) (by simpa [seqOf] using e) (.ref hn)
    exact ⟨a, xs, h1, .inl (SqL.of h2), h3⟩
  | _ => simp [seqOf, lstOf] at e
end
theorem toStr_append (x y : List Nat) : toStr x ++ toStr y = toStr (x ++ y) := by
  show (⟨_ ++ _⟩ : Str) = ⟨_⟩
  simp [toStr]
theorem small64_ok {i : Int} (h : small64 i = true) : -(2 ^ 64) < i ∧ i < 2 ^ 64 := by
  unfold small64 at h
  rw [Bool.and_eq_true, decide_eq_true_eq, decide_eq_true_eq] at h
  exact h
theorem op_isN_bl {X : Cx} : OpR X (compareOp .Is) (fun x y H Q => ∃ b, x = .non ∧ y = .bl b ∧ Q (.bl false) H) := by
  intro pins s σ H x y v u Q I rx ry h
  obtain ⟨b, rfl, rfl, q⟩ := h
  cases (show v = Value.none from rx)
  cases (show u = Value.bool b from ry)
  exact wpAny_is_other rfl (fun z => nomatch z) ⟨.bl false, H, I, rfl, q⟩
section
variable {T : Tx} {X : Cx} (hK : X.K = T.K)
include hK
theorem op_addW {m : Bool} : OpR X (binaryOp .Add) (rB T (bin .add m)) := by
  intro pins s σ H x y v u Q I rx ry ⟨μ, st, a, b, R, ra, rb, h⟩
  have lst_add : ∀ {l k : List D}, lstOf st a = some l → lstOf st b = some k → l.length + k.length ≤ LIM → AftV T (RepT T) (mkL m (l ++ k) st) μ H Q → wpAny (model X.prog X.w) X.A (binaryOp .Add v u) (EP X pins σ Q) X.xe s := fun h1 h2 hl h => by
    obtain ⟨p, xs, e1, g1, r1⟩ := lstOf_at R h1 ra
    obtain ⟨q, ys, e2, g2, r2⟩ := lstOf_at R h2 rb
    refine op_cat pins s σ H x y v u Q I rx ry ⟨_, _, _, _, e1, e2, g1, g2, ?_, mkL_new h R (r1.append r2)⟩
    rw [r1.length, r2.length]; exact Nat.le_trans hl limS
  have e1 := ra
  have e2 := rb
  cases ra <;> cases rb <;> simp only [bin] at h <;> first | exact h.elim | skip
  · obtain ⟨t, rfl⟩ := ry
    cases rx
    exact PySem.IntBool.add_bool_int ⟨.int _, H, I.tok _, ⟨_, rfl⟩, h.ok R (.int _)⟩
  · exact op_add pins s σ H _ _ v u Q I rx ry ⟨_, _, rfl, rfl, h.ok R (.int _)⟩
  · split at h
    · rename_i hl
      refine op_add_str pins s σ H _ _ v u Q I rx ry ⟨_, _, rfl, rfl, ?_, ?_⟩
      · simp only [toStr, Str.length, List.size_toArray]; exact Nat.le_trans hl limS
      · rw [toStr_append]; exact h.ok R (.str _)
    · exact h.elim
  · rename_i h1 r1 _ _ _ h2 r2
    split at h
    · rename_i hl
      refine op_catA pins s σ H _ _ v u Q I rx ry ⟨_, _, _, _, rfl, rfl, by rw [hK]; exact h1, by rw [hK]; exact h2, ?_, fun z => ?_, fun z z2 => ?_, fun _ _ => tup_new h R (r1.append r2)⟩
      · rw [r1.length, r2.length]; exact Nat.le_trans hl limS
      · have := r1.nil_iff.mp z; subst this
        exact h.ok R e2
      · have := r2.nil_iff.mp z2; subst this
        rw [List.append_nil] at h
        exact h.ok R e1
    · exact h.elim
  · split at h
    · exact lst_add rfl rfl (by assumption) h
    · exact h.elim
  · split at h
    · split at h
      · exact lst_add rfl (by assumption) (by assumption) h
      · exact h.elim
    · exact h.elim
  · split at h
    · split at h
      · exact lst_add (by assumption) rfl (by assumption) h
      · exact h.elim
    · exact h.elim
  · split at h
    · split at h
      · exact lst_add (by assumption) (by assumption) (by assumption) h
      · exact h.elim
    · exact h.elim
theorem op_subW {m : Bool} : OpR X (binaryOp .Sub) (rB T (bin .sub m)) := by
  intro pins s σ H x y v u Q I rx ry ⟨μ, st, a, b, R, ra, rb, h⟩
  cases ra <;> cases rb <;> simp only [bin] at h <;> first | exact h.elim | skip
  exact op_sub pins s σ H _ _ v u Q I rx ry ⟨_, _, rfl, rfl, h.ok R (.int _)⟩
omit hK in
theorem foldl_repN (x : List Nat) : ∀ (k : Nat) (acc : List Nat), List.foldl (fun x1 x2 => x1 ++ x2) acc.toArray (List.replicate k x.toArray) = (acc ++ (List.replicate k x).flatten).toArray
  | 0, acc => by simp
  | k + 1, acc => by
    have e : acc.toArray ++ x.toArray = (acc ++ x).toArray := by simp
    have e2 : (acc ++ x) ++ (List.replicate k x).flatten = acc ++ (List.replicate (k + 1) x).flatten := by
      rw [List.replicate_succ, List.flatten_cons, List.append_assoc]
    rw [List.replicate_succ, List.foldl_cons, e, foldl_repN x k, e2]
omit hK in
theorem mul_strW {x : List Nat} {k : Int} {t t' : Tok} {pins : List (Addr × Obj)} {s : Shared} {σ : L2.St} {Q : VK} (I : Inv X pins σ H s) (h0 : 0 ≤ k) (h9 : k ≤ 1000) (hl : x.length ≤ 1000) (q : Q (.str (toStr (List.replicate k.toNat x).flatten)) H) :
    wpAny (model X.prog X.w) X.A (binaryOp .Mult (.str (toStr x) t) (.int k t')) (EP X pins σ Q) X.xe s := by
  have hlx : (toStr x).length = x.length := by simp [toStr, Str.length]
  have hkn : k.toNat ≤ 1000 := by omega
  have hm : x.length * k.toNat ≤ 1000 * 1000 := Nat.mul_le_mul hl hkn
  have hsz : x.length * k.toNat ≤ sizeLine := Nat.le_trans hm (by rw [sizeLine_eq]; decide)
  refine PySem.P.mul_str ?_ ?_ ?_ ?_
  · have h1 : ¬ k < -(2 ^ 63 : Int) := by omega
    have h2 : ¬ k ≥ 2 ^ 63 := by omega
    rw [decide_eq_false h1, decide_eq_false h2]; rfl
  · intro h1 _ z
    have hk : 0 < k := by omega
    have : ((toStr x).length : Int) ≤ (2 ^ 63 - 1) / k := by
      rw [Int.le_ediv_iff_mul_le hk, hlx]
      have e : (k : Int) = (k.toNat : Int) := by omega
      have : (x.length : Int) * (k.toNat : Int) ≤ 1000 * 1000 := by exact_mod_cast hm
      rw [e]; omega
    omega
  · intro _ _
    rw [hlx]
    exact decide_eq_false (by omega)
  · by_cases h1 : k < 1
    · rw [if_pos h1]
      have : k.toNat = 0 := by omega
      rw [this] at q
      exact ⟨by decide, .str _, H, I.tok _, ⟨_, rfl⟩, q⟩
    · rw [if_neg h1]
      have f := foldl_repN x k.toNat []
      rw [List.nil_append] at f
      have f : List.foldl (fun x1 x2 => x1 ++ x2) #[] (List.replicate k.toNat (toStr x).cps) = ((List.replicate k.toNat x).flatten).toArray := f
      by_cases h2 : (k == 1 || (toStr x).length == 0) = true
      · rw [if_pos h2]
        refine ⟨.str _, H, I, ⟨t, rfl⟩, ?_⟩
        have : (List.replicate k.toNat x).flatten = x := by
          rw [Bool.or_eq_true, beq_iff_eq, beq_iff_eq, hlx] at h2
          rcases h2 with h2 | h2
          · subst h2; simp
          · have := List.length_eq_zero_iff.mp h2
            subst this; simp
        rw [this] at q; exact q
      · rw [if_neg h2, f]
        refine ⟨?_, .str _, H, I.tok _, ⟨_, rfl⟩, q⟩
        have hfl : (List.replicate k.toNat x).flatten.length = k.toNat * x.length := by simp [List.length_flatten]
        simp only [Str.length, List.size_toArray]
        rw [hfl, Nat.mul_comm]; exact hsz
theorem op_mulW' {m : Bool} : OpR X (binaryOp .Mult) (rB T (bin .mul m)) := by
  intro pins s σ H x y v u Q I rx ry ⟨μ, st, a, b, R, ra, rb, h⟩
  have e1 := ra
  cases ra <;> cases rb <;> simp only [bin] at h <;> first | exact h.elim | skip
  · split at h
    · rename_i hs
      rw [Bool.or_eq_true] at hs
      exact op_mul pins s σ H _ _ v u Q I rx ry ⟨_, _, rfl, rfl, hs.imp small64_ok small64_ok, h.ok R (.int _)⟩
    · exact h.elim
  · rename_i x k
    split at h
    · rename_i hs
      obtain ⟨h0, h9, hl⟩ := hs
      obtain ⟨t, rfl⟩ := rx
      obtain ⟨t', rfl⟩ := ry
      exact mul_strW I h0 h9 hl (h.ok R (.str _))
    · exact h.elim
  · rename_i h1 _ r1 k
    split at h
    · rename_i hs
      obtain ⟨h0, h9, hl⟩ := hs
      have hk : k.toNat ≤ 1000 := by omega
      refine op_rep pins s σ H _ _ v u Q I rx ry ⟨_, k, _, rfl, rfl, h1, by omega, by omega, ?_, mkL_new h R (r1.rep _)⟩
      rw [r1.length, sizeLine_eq]
      exact Nat.le_trans (Nat.mul_le_mul hl hk) (by decide)
    · exact h.elim
theorem op_fdivW' {m : Bool} : OpR X (binaryOp .FloorDiv) (rB T (bin .fdiv m)) := by
  intro pins s σ H x y v u Q I rx ry ⟨μ, st, a, b, R, ra, rb, h⟩
  cases ra <;> cases rb <;> simp only [bin] at h <;> first | exact h.elim | skip
  split at h
  · rename_i hs
    obtain ⟨h0, h9⟩ := hs
    refine op_fdivW pins s σ H _ _ v u Q I rx ry ⟨_, _, rfl, rfl, wide_div (b := 9000) h0 ?_ (by decide) (by decide), h.ok R (.int _)⟩
    have e : (10 ^ 100 : Nat) < 2 ^ 9000 := by decide +kernel
    have e2 : ((10 ^ 100 : Nat) : Int) = (10 : Int) ^ 100 := by norm_cast
    omega
  · exact h.elim
theorem op_modW' {m : Bool} : OpR X (binaryOp .Mod) (rB T (bin .mod m)) := by
  intro pins s σ H x y v u Q I rx ry ⟨μ, st, a, b, R, ra, rb, h⟩
  cases ra <;> cases rb <;> simp only [bin] at h <;> first | exact h.elim | skip
  split at h
  · exact op_mod pins s σ H _ _ v u Q I rx ry ⟨_, _, rfl, rfl, by assumption, h.ok R (.int _)⟩
  · exact h.elim
theorem op_powW' {m : Bool} : OpR X (binaryOp .Pow) (rB T (bin .pow m)) := by
  intro pins s σ H x y v u Q I rx ry ⟨μ, st, a, b, R, ra, rb, h⟩
  cases ra <;> cases rb <;> simp only [bin] at h <;> first | exact h.elim | skip
  split at h
  · rename_i hs
    obtain ⟨h0, h9, h3⟩ := hs
    have := small64_ok h3
    exact op_pow pins s σ H _ _ v u Q I rx ry ⟨_, _, rfl, rfl, ⟨h0, by omega, by omega⟩, h.ok R (.int _)⟩
  · exact h.elim

/-! ### comparisons -/
theorem op_eqW (hu : X.A.units + 64 < cLine) : OpR X (compareOp .Eq) (rB T (cmp .eq)) := by
  intro pins s σ H x y v u Q I rx ry ⟨μ, st, a, b, R, ra, rb, h⟩
  simp only [cmp, eqD] at h
  cases e1 : look st a with
  | none => rw [e1] at h; exact h.elim
  | some p =>
    cases e2 : look st b with
    | none => rw [e1, e2] at h; exact h.elim
    | some q =>
      rw [e1, e2] at h
      obtain ⟨d1, s1⟩ := look_dp R e1 ra
      obtain ⟨d2, s2⟩ := look_dp R e2 rb
      exact op_eqD hu pins s σ H x y v u Q I rx ry ⟨p, q, by rw [hK]; exact d1, by rw [hK]; exact d2, s1, s2, h.ok R (.bl _)⟩
theorem op_neW (hu : X.A.units + 64 < cLine) : OpR X (compareOp .NotEq) (rB T (cmp .ne)) := by
  intro pins s σ H x y v u Q I rx ry ⟨μ, st, a, b, R, ra, rb, h⟩
  simp only [cmp, eqD] at h
  cases e1 : look st a with
  | none => rw [e1] at h; exact h.elim
  | some p =>
    cases e2 : look st b with
    | none => rw [e1, e2] at h; exact h.elim
    | some q =>
      rw [e1, e2] at h
      obtain ⟨d1, s1⟩ := look_dp R e1 ra
      obtain ⟨d2, s2⟩ := look_dp R e2 rb
      exact op_neD hu pins s σ H x y v u Q I rx ry ⟨p, q, by rw [hK]; exact d1, by rw [hK]; exact d2, s1, s2, h.ok R (.bl _)⟩
theorem op_ltW : OpR X (compareOp .Lt) (rB T (cmp .lt)) := by
  intro pins s σ H x y v u Q I rx ry ⟨μ, st, a, b, R, ra, rb, h⟩
  cases ra <;> cases rb <;> simp only [cmp] at h <;> first | exact h.elim | skip
  exact op_lt pins s σ H _ _ v u Q I rx ry ⟨_, _, rfl, rfl, h.ok R (.bl _)⟩
theorem op_leW : OpR X (compareOp .LtE) (rB T (cmp .le)) := by
  intro pins s σ H x y v u Q I rx ry ⟨μ, st, a, b, R, ra, rb, h⟩
  cases ra <;> cases rb <;> simp only [cmp] at h <;> first | exact h.elim | skip
  exact op_le pins s σ H _ _ v u Q I rx ry ⟨_, _, rfl, rfl, h.ok R (.bl _)⟩
theorem op_gtW : OpR X (compareOp .Gt) (rB T (cmp .gt)) := by
  intro pins s σ H x y v u Q I rx ry ⟨μ, st, a, b, R, ra, rb, h⟩
  cases ra <;> cases rb <;> simp only [cmp] at h <;> first | exact h.elim | skip
  exact op_gt pins s σ H _ _ v u Q I rx ry ⟨_, _, rfl, rfl, h.ok R (.bl _)⟩
theorem op_geW : OpR X (compareOp .GtE) (rB T (cmp .ge)) := by
  intro pins s σ H x y v u Q I rx ry ⟨μ, st, a, b, R, ra, rb, h⟩
  cases ra <;> cases rb <;> simp only [cmp] at h <;> first | exact h.elim | skip
  exact op_ge pins s σ H _ _ v u Q I rx ry ⟨_, _, rfl, rfl, h.ok R (.bl _)⟩
omit hK in
theorem inS_some {a b : D} {r : Bool} (e : inS a b = some r) : ∃ c y, a = .str [c] ∧ b = .str y ∧ r = decide (c ∈ y) := by
  unfold inS at e
  split at e
  · cases e; exact ⟨_, _, rfl, rfl, rfl⟩
  · cases e
omit hK in
theorem inD_some {st : Store} {a b : D} {r : Bool} (e : inD st a b = some r) : (∃ p qs, look st a = some p ∧ (look st b = some (.list qs) ∨ look st b = some (.tuple qs)) ∧ r = qs.any fun z => PyData.eqv z p) ∨ ∃ c y, a = .str [c] ∧ b = .str y ∧ r = decide (c ∈ y) := by
  unfold inD at e
  split at e
  · rename_i p qs e1 e2
    cases e; exact .inl ⟨p, qs, e1, .inl e2, rfl⟩
  · rename_i p qs e1 e2
    cases e; exact .inl ⟨p, qs, e1, .inr e2, rfl⟩
  · exact .inr (inS_some e)
theorem op_inW (hu : X.A.units + 65 < cLine) : OpR X (compareOp .In) (rB T (cmp .isin)) := by
  intro pins s σ H x y v u Q I rx ry ⟨μ, st, a, b, R, ra, rb, h⟩
  simp only [cmp] at h
  cases e : inD st a b with
  | none => rw [e] at h; exact h.elim
  | some r =>
    rw [e] at h
    rcases inD_some e with ⟨p, qs, e1, e2, rfl⟩ | ⟨c, z, rfl, rfl, rfl⟩
    · obtain ⟨d1, s1⟩ := look_dp R e1 ra
      rw [← hK] at d1
      rcases e2 with e2 | e2
      · obtain ⟨d2, s2⟩ := look_dp R e2 rb
        rw [← hK] at d2
        exact op_inD hu pins s σ H x y v u Q I rx ry ⟨p, qs, d1, d2, s1, s2, h.ok R (.bl _)⟩
      · obtain ⟨d2, s2⟩ := look_dp R e2 rb
        rw [← hK] at d2
        obtain ⟨as, r1⟩ := Dp.reads I p x v d1 rx
        obtain ⟨bs, r2⟩ := Dp.reads I (.tuple qs) y u d2 ry
        exact SeqAt.in_tuple_reads r2 r1 (SeqAt.canLay_of_shaped s2) (SeqAt.canLay_of_shaped s1) (room_in_shaped s1 hu) ⟨.bl _, H, I, rfl, h.ok R (.bl _)⟩
    · cases ra; cases rb
      exact op_in_sign pins s σ H _ _ v u Q I rx ry ⟨c, toStr z, rfl, rfl, h.ok R (.bl _)⟩
theorem op_ninW (hu : X.A.units + 65 < cLine) : OpR X (compareOp .NotIn) (rB T (cmp .notin)) := by
  intro pins s σ H x y v u Q I rx ry ⟨μ, st, a, b, R, ra, rb, h⟩
  simp only [cmp] at h
  cases e : inD st a b with
  | none => rw [e] at h; exact h.elim
  | some r =>
    rw [e] at h
    rcases inD_some e with ⟨p, qs, e1, e2, rfl⟩ | ⟨c, z, rfl, rfl, rfl⟩
    · obtain ⟨d1, s1⟩ := look_dp R e1 ra
      rw [← hK] at d1
      rcases e2 with e2 | e2
      · obtain ⟨d2, s2⟩ := look_dp R e2 rb
        rw [← hK] at d2
        exact op_notInD hu pins s σ H x y v u Q I rx ry ⟨p, qs, d1, d2, s1, s2, h.ok R (.bl _)⟩
      · obtain ⟨d2, s2⟩ := look_dp R e2 rb
        rw [← hK] at d2
        obtain ⟨as, r1⟩ := Dp.reads I p x v d1 rx
        obtain ⟨bs, r2⟩ := Dp.reads I (.tuple qs) y u d2 ry
        exact SeqAt.notIn_tuple_reads r2 r1 (SeqAt.canLay_of_shaped s2) (SeqAt.canLay_of_shaped s1) (room_in_shaped s1 hu) ⟨.bl _, H, I, rfl, h.ok R (.bl _)⟩
    · cases ra; cases rb
      exact op_notIn_sign pins s σ H _ _ v u Q I rx ry ⟨c, toStr z, rfl, rfl, h.ok R (.bl _)⟩
theorem op_isW : OpR X (compareOp .Is) (rB T (cmp .is_)) := by
  intro pins s σ H x y v u Q I rx ry ⟨μ, st, a, b, R, ra, rb, h⟩
  cases rb <;> simp only [cmp] at h <;> first | exact h.elim | skip
  · refine op_isN pins s σ H _ _ v u Q I rx ry ⟨rfl, ?_⟩
    have e : decide (x = V.non) = isNon a := by cases ra <;> rfl
    rw [e]; exact h.ok R (.bl _)
  · rename_i c
    cases ra <;> first | exact h.elim | skip
    · refine op_isN_bl pins s σ H _ _ v u Q I rx ry ⟨c, rfl, rfl, h.ok R (.bl _)⟩
    · rename_i d
      refine op_is_bl pins s σ H _ _ v u Q I rx ry ⟨_, _, rfl, rfl, ?_⟩
      have e : decide (d = c) = (d == c) := by cases d <;> cases c <;> rfl
      rw [e]; exact h.ok R (.bl _)
theorem op_isntW : OpR X (compareOp .IsNot) (rB T (cmp .isnot)) := by
  intro pins s σ H x y v u Q I rx ry ⟨μ, st, a, b, R, ra, rb, h⟩
  cases rb <;> simp only [cmp] at h <;> first | exact h.elim | skip
  refine op_notN pins s σ H _ _ v u Q I rx ry ⟨rfl, ?_⟩
  have e : (!decide (x = V.non)) = (!isNon a) := by cases ra <;> rfl
  rw [e]; exact h.ok R (.bl _)
end
end AF

/-! Ops2: items, slices, built-in functions and methods by values. -/
namespace AF
open PySem PySem.Spec PyProof.Rows L2
theorem itemAt_atI {α : Type} (l : List α) (i : Int) : itemAt l i = atI l i := by
  unfold itemAt atI
  show (match ixN l.length i with | some j => l[j]? | none => none) = _
  cases ixN l.length i <;> rfl
section
variable {T : Tx} {μ : List Addr} {H : Hp} {st : Store}
theorem Reps.atI {l : List D} {xs : List V} {i : Int} {d : D} (r : Reps T μ H l xs) (e : itemAt l i = some d) : ∃ v, atI xs i = some v ∧ Rep T μ H d v := by
  rw [itemAt_atI] at e
  unfold L2.atI at e ⊢
  rw [r.length]
  cases q : ixN l.length i with
  | none => rw [q] at e; cases e
  | some j => rw [q] at e; exact r.get e
theorem Reps.cut {l : List D} {xs : List V} (r : Reps T μ H l xs) (lo hi : Option Int) : Reps T μ H (AF.cut l lo hi) (cutV xs lo hi) := by
  unfold AF.cut cutV
  rw [r.length]
  exact (r.drop _).take _
theorem cut_whole {α : Type} {l : List α} {lo hi : Option Int} (h : HT.sIx l.length 0 lo = 0 ∧ HT.sIx l.length l.length hi = l.length) : AF.cut l lo hi = l := by
  unfold AF.cut
  rw [h.1, h.2]
  simp
theorem Reps.ints : ∀ {l : List D} {xs : List V} {ns : List Int}, Reps T μ H l xs → intsOf l = some ns → xs = ns.map V.int
  | _, _, _, .nil, e => by simp [intsOf] at e; subst e; rfl
  | d :: l, _, ns, .cons a r, e => by
    cases a <;> simp only [intsOf] at e <;> first | (cases e; done) | skip
    rename_i z
    cases q : intsOf l with
    | none => rw [q] at e; cases e
    | some s =>
      rw [q] at e
      have e2 : z :: s = ns := by simpa using e
      subst e2
      rw [List.map_cons, ← Reps.ints r q]
theorem Reps.of_ints : ∀ (ns : List Int), Reps T μ H (ns.map D.int) (ns.map V.int)
  | [] => .nil
  | n :: ns => .cons (.int n) (Reps.of_ints ns)
theorem Reps.bools : ∀ {l : List D} {xs : List V} {bs : List Bool}, Reps T μ H l xs → bools l = some bs → xs = bs.map V.bl
  | _, _, _, .nil, e => by simp [AF.bools] at e; subst e; rfl
  | d :: l, _, bs, .cons a r, e => by
    cases a <;> simp only [AF.bools] at e <;> first | (cases e; done) | skip
    rename_i z
    cases q : AF.bools l with
    | none => rw [q] at e; cases e
    | some s =>
      rw [q] at e
      have e2 : z :: s = bs := by simpa using e
      subst e2
      rw [List.map_cons, ← Reps.bools r q]
end
section
variable {T : Tx} {X : Cx} (hK : X.K = T.K)
include hK
theorem ix_W : IxR X (rB T idx) := by
  intro value slice pins s σ H x y v u Q I rx ry ⟨μ, st, a, b, R, ra, rb, h⟩ hs
  cases rb <;> simp only [idx] at h <;> first | exact h.elim | skip
  rename_i i
  have sq : ∀ {l : List D}, seqOf st a = some l → (AftV T (RepT T) (match itemAt l i with | some d => .ok d st | none => .bad) μ H Q) → wpAny (model X.prog X.w) X.A (subscriptTail value slice v u) (EP X pins σ Q) X.xe s := fun {l} e h => by
    obtain ⟨p, xs, rfl, hx, r⟩ := seqOf_at R e ra
    cases q : itemAt l i with
    | none => rw [q] at h; exact h.elim
    | some d =>
      rw [q] at h
      obtain ⟨w', h1, h2⟩ := r.atI q
      rw [← hK] at hx
      rcases hx with hx | hx
      · exact ix_list value slice pins s σ H _ _ v u Q I rx ry ⟨p, xs, i, w', rfl, rfl, hx, h1, h.ok R h2⟩ hs
      · exact ix_tup value slice pins s σ H _ _ v u Q I rx ry ⟨p, xs, i, w', rfl, rfl, hx, h1, h.ok R h2⟩ hs
  have ra' := ra
  cases ra with
  | str x =>
    dsimp only at h
    split at h
    · rename_i hl
      cases q : itemAt x i with
      | none => rw [q] at h; exact h.elim
      | some c =>
        rw [q] at h
        refine ix_str value slice pins s σ H _ _ v u Q I rx ry ⟨toStr x, i, c, rfl, rfl, ?_, ?_, ?_⟩ hs
        · simp only [toStr, Str.length, List.size_toArray]; exact Nat.le_trans hl limS
        · rw [← itemAt_atI]; simpa [toStr] using q
        · exact h.ok R (.str [c])
    · exact h.elim
  | @scr a ns hf =>
    dsimp only at h
    cases q : itemAt ns i with
    | none => rw [q] at h; exact h.elim
    | some k =>
      rw [q] at h
      refine ix_list value slice pins s σ H _ _ v u Q I rx ry ⟨a, ns.map V.int, i, .int k, rfl, rfl, by rw [hK]; exact hf.seq, ?_, h.ok R (.int k)⟩ hs
      rw [itemAt_atI] at q
      unfold atI at q ⊢
      rw [List.length_map]
      cases q2 : ixN ns.length i with
      | none => rw [q2] at q; cases q
      | some j =>
        rw [q2] at q
        have q3 : ns[j]? = some k := q
        show (ns.map V.int)[j]? = some (V.int k)
        rw [List.getElem?_map, q3]; rfl
  | tup h1 h2 => exact sq rfl h
  | lst h1 h2 h3 => exact sq rfl h
  | ref h1 =>
    dsimp only at h
    split at h
    · exact sq (by assumption) h
    · exact h.elim
  | _ => simp only [seqOf, lstOf] at h; exact h.elim
/-- a slice's reading by values -/
def rSl (T : Tx) : V → Option Int → Option Int → Hp → VK → Prop := fun x lo hi H Q => ∃ μ st a, Rel T μ st H ∧ Rep T μ H a x ∧ AftV T (RepT T) (slc a lo hi st) μ H Q
theorem sl_W : SlR X (rSl T) := by
  intro pins s σ H x v vl vu lo hi sl Q I rx hs pl pu ⟨μ, st, a, R, ra, h⟩
  have ls : ∀ {l : List D}, lstOf st a = some l → AftV T (RepT T) (.ok (.lst (cut l lo hi)) st) μ H Q → ∃ T' id, typeLookup (.type T') "__getitem__" = pure (some (.builtin id)) ∧ s.TypeIs v T' ∧ wpAny (model X.prog X.w) X.A (getItem v (.ref sl)) (EP X pins σ Q) X.xe s := fun {l} e h => by
    obtain ⟨p, xs, rfl, hx, r⟩ := lstOf_at R e ra
    refine sl_list pins s σ H _ v vl vu lo hi sl Q I rx hs pl pu ⟨p, xs, rfl, SqL.of hx, ?_⟩
    exact mkL_new (m := false) h R (r.cut lo hi)
  have ra' := ra
  cases ra with
  | @tup a xs l h1 r =>
    simp only [slc] at h
    refine sl_tupA pins s σ H _ v vl vu lo hi sl Q I rx hs pl pu ⟨a, xs, rfl, by rw [hK]; exact h1, fun z => ?_, fun _ => tup_new h R (r.cut lo hi)⟩
    rw [r.length] at z
    rw [cut_whole z] at h
    exact h.ok R ra'
  | lst h1 h2 h3 =>
    simp only [slc, lstOf] at h
    exact ls rfl h
  | str x =>
    simp only [slc] at h
    split at h
    · rename_i hl
      have hlx : (toStr x).length = x.length := by simp [toStr, Str.length]
      refine sl_str pins s σ H _ v vl vu lo hi sl Q I rx hs pl pu ⟨toStr x, rfl, by rw [hlx]; exact Nat.le_trans hl limS, ?_⟩
      have e : cutS (toStr x) lo hi = toStr (cut x lo hi) := by
        unfold cutS cut
        rw [hlx]
        rfl
      rw [e]
      exact h.ok R (.str _)
    · exact h.elim
  | ref h1 =>
    simp only [slc] at h
    split at h
    · exact ls (by assumption) h
    · exact h.elim
  | _ => simp only [slc, lstOf] at h; exact h.elim
theorem set_W : PSet X (fun o i v H Q => ∃ μ st a b c, Rel T μ st H ∧ Rep T μ H a o ∧ Rep T μ H b i ∧ Rep T μ H c v ∧ AftV T (fun _ _ (_ : Unit) (_ : Unit) => True) (setI a b c st) μ H fun _ H' => Q H') := by
  intro pins s σ H o i v ov iv u Q I ro ri rv ⟨μ, st, a, b, c, R, ra, rb, rc, h⟩
  cases ra <;> cases rb <;> simp only [setI] at h <;> first | exact h.elim | skip
  rename_i n p hn k
  cases e0 : st[n]? with
  | none => rw [e0] at h; exact h.elim
  | some ob =>
    rw [e0] at h
    cases ob with
    | ins c fs => exact h.elim
    | lst l =>
      dsimp only at h
      cases e1 : ixI l.length k with
      | none => rw [e1] at h; exact h.elim
      | some j =>
        rw [e1] at h
        obtain ⟨q, xs, hq, hx, rs⟩ := R.lst e0
        rw [hn] at hq; cases hq
        refine set_list pins s σ H _ _ v ov iv u Q I ro ri rv ⟨p, xs, k, j, rfl, rfl, hx, by rw [rs.length]; exact e1, ?_⟩
        have x : Ext μ H μ (upd H p (.lst (xs.set j v))) := Ext.set R hn trivial
        exact h μ _ () x (R.set hn trivial ⟨_, upd_same, (rs.mono x).set (rc.mono x) j⟩) trivial
theorem un_negW : UnR X (unaryOp .USub) (rU T fun a st => match a with | .int i => .ok (.int (-i)) st | _ => .bad) := by
  intro pins s σ H x v Q I rx ⟨μ, st, a, R, ra, h⟩
  cases ra <;> first | exact h.elim | skip
  exact un_neg pins s σ H _ v Q I rx ⟨_, rfl, h.ok R (.int _)⟩
end
end AF

set_option maxHeartbeats 4000000
/-! Sort: sorted and min of lists and tuples of ints, of pairs that begin with unlike ints. -/
namespace AF
open PySem PyProof.Rows Srt SrtO
section
variable {prog : Program} {w : World} {A : Around} {E : Value → Shared → Prop} {s : Shared}
/-- the items of a list or tuple collected -/
theorem collect_lt {l : Addr} {o : Obj} {c : String} {vs : List Value} {n : Nat} {Q : List Value → Shared → Prop} (hc2 : c = "list" ∨ c = "tuple") (ho : s.heap.get? l = some o) (hc : o.cls = .type c) (hd : o.data = .seq vs.toArray n)
    (h : Q vs { s with heap := (s.heap.push (seqObj "list" #[] 0)).update s.heap.objs.size (Obj.mapSeq (· ++ vs.toArray)) }) (hsz : vs.length ≤ sizeLine) :
    wpAny (model prog w) A (collect (.ref l)) Q E s := by
  unfold collect
  refine wpAny_bind (wpAny_runValue (codeAny_builtin entry_proto_collect' ?_))
  show wpAny _ _ (newList [] >>= fun x => again (.builtin "list.__iadd__" ⟨[x, .ref l], []⟩)) _ _ s
  refine wpAny_bind (wpAny_newList (wpAny_pure ⟨Code.quiet_builtin _ (by decide +kernel), codeAny_builtin entry_list_iadd' ?_⟩))
  show wpAny _ A.in1 (Builtin.List.listExtendWith (.ref s.heap.objs.size) (.ref l) (.ref s.heap.objs.size)) _ _ { s with heap := s.heap.push (seqObj "list" #[] 0) }
  unfold Builtin.List.listExtendWith
  have ho' : (s.heap.push (seqObj "list" #[] 0)).get? l = some o := Heap.get?_push_of_some _ ho
  have hnew : (s.heap.push (seqObj "list" #[] 0)).get? s.heap.objs.size = some (seqObj "list" #[] 0) := Heap.get?_push_size _ rfl
  refine wpAny_bind (wpAny_typeOf (T := c) ⟨o, ho', hc⟩ ?_)
  rw [if_pos (by rcases hc2 with e | e <;> subst e <;> simp)]
  refine wpAny_bind (listItems_at ho' hd (wpAny_bind (listItems_at hnew rfl ?_)))
  rw [if_neg (by simp)]
  refine wpAny_bind (listUpdate_at hnew rfl ?_ (Nat.zero_le _) (by simp only [Array.size_append, List.size_toArray]; simp; omega))
  refine wpAny_pure ?_
  have hfin : ((s.heap.push (seqObj "list" #[] 0)).update s.heap.objs.size (Obj.mapSeq (· ++ vs.toArray))).get? s.heap.objs.size = some (seqObj "list" (#[] ++ vs.toArray) _) := get?_update_seq hnew _
  show wpAny (model prog w) A (load s.heap.objs.size >>= fun o => match o.data with | .seq xs _ => pure xs.toList | _ => unsupported "internal:collect") Q E _
  refine wpAny_bind (wpAny_load hfin ?_)
  show wpAny _ _ (pure ((#[] : Array Value) ++ vs.toArray).toList) Q E _
  have e : ((#[] : Array Value) ++ vs.toArray).toList = vs := by simp
  rw [e]
  exact wpAny_pure h
theorem sorted_lt {l : Addr} {o : Obj} {c : String} {vs : List Value} {n : Nat} {ltv : Value → Value → Bool} {Q : Value → Shared → Prop} (hc2 : c = "list" ∨ c = "tuple") (ho : s.heap.get? l = some o) (hc : o.cls = .type c) (hd : o.data = .seq vs.toArray n) (O : Swo ltv) (hz : vs.length ≤ sizeLine)
    (hS : 2 ≤ vs.length → ∀ (h₁ : Heap) (a : Addr), h₁.get? a = some (seqObj "list" vs.toArray 0) → (∀ b o, s.heap.get? b = some o → b ≠ a ∧ h₁.get? b = some o) → SortableO prog w A.in1.in1 { s with heap := h₁ } a vs ltv)
    (h : ∀ out : List Value, Srtd ltv out → Stb ltv out vs → Q (.ref (s.heap.objs.size + 1)) { s with heap := sortedAll s.heap vs out.toArray }) :
    wpAny (model prog w) A (call (.builtin "sorted") [.ref l]) Q E s := by
  refine Calls.call_function_entry kind_sorted plain_sorted entry_sorted (args_sorted1 _) ?_
  unfold Builtin.«sorted»
  refine wpAny_bind (m := checkCount "sorted" 1 1 _) (wpAny_pure (wpAny_bind (collect_lt hc2 ho hc hd ?_ hz)))
  refine wpAny_bind (wpAny_newList ?_ hz)
  obtain ⟨h1, e1⟩ : ∃ h1, h1 = (s.heap.push (seqObj "list" #[] 0)).update s.heap.objs.size (Obj.mapSeq (· ++ vs.toArray)) := ⟨_, rfl⟩
  have hsz : h1.objs.size = s.heap.objs.size + 1 := by rw [e1, Heap.size_update, size_push']
  have k1 : ∀ b u, s.heap.get? b = some u → h1.get? b = some u := fun b u q => by
    rw [e1, Heap.get?_update_ne _ _ _ _ (Nat.ne_of_lt (Heap.lt_size q))]
    exact Heap.get?_push_of_some _ q
  have hoL : (h1.push (seqObj "list" vs.toArray 0)).get? (s.heap.objs.size + 1) = some (seqObj "list" vs.toArray 0) := by
    rw [← hsz]; exact Heap.get?_push_size _ rfl
  have keep : ∀ b u, s.heap.get? b = some u → b ≠ s.heap.objs.size + 1 ∧ (h1.push (seqObj "list" vs.toArray 0)).get? b = some u := fun b u q =>
    ⟨Nat.ne_of_lt (Nat.lt_succ_of_lt (Heap.lt_size q)), Heap.get?_push_of_some _ (k1 b u q)⟩
  rw [← e1]
  show wpAny _ _ _ _ _ { s with heap := h1.push (seqObj "list" vs.toArray 0) }
  rw [hsz]
  refine wpAny_bind (wpAny_holding (wpAny_call_entry slot_list_sort ⟨_, hoL, rfl⟩ entry_list_sort (list_sort_ord O hoL hz (fun h2 => hS h2 _ _ hoL keep) fun out hs hb => ⟨_, rfl, ?_⟩) (args_list_sort _)))
  refine wpAny_pure ⟨_, rfl, ?_⟩
  have q := h out hs hb
  unfold sortedAll at q
  rw [← e1] at q
  exact q
/-! ### pairs that begin with unlike ints -/
/-- v is a tuple (k, y) -/
def KeyV (h : Heap) (v : Value) (k : Int) : Prop := ∃ a o t y n, v = .ref a ∧ h.get? a = some o ∧ o.cls = .type "tuple" ∧ o.data = .seq #[.int k t, y] n
theorem KeyV.keeps {h h' : Heap} {v : Value} {k : Int} (x : KeyV h v k) (kp : ∀ b o, h.get? b = some o → o.cls = .type "tuple" → h'.get? b = some o) : KeyV h' v k := by
  obtain ⟨a, o, t, y, n, e, ho, hc, hd⟩ := x
  exact ⟨a, o, t, y, n, e, kp a o ho hc, hc, hd⟩
theorem KeyV.inj {h : Heap} {v : Value} {k k' : Int} (x : KeyV h v k) (x' : KeyV h v k') : k = k' := by
  obtain ⟨a, o, t, y, n, e, ho, hc, hd⟩ := x
  obtain ⟨a', o', t', y', n', e', ho', hc', hd'⟩ := x'
  rw [e] at e'; cases e'
  rw [ho] at ho'; cases ho'
  rw [hd] at hd'
  injection hd' with h1 _
  simp at h1
  exact h1.1.1
open Classical in
noncomputable def kvOf (h : Heap) (v : Value) : Int := if e : ∃ k, KeyV h v k then e.choose else 0
theorem kvOf_eq {h : Heap} {v : Value} {k : Int} (x : KeyV h v k) : kvOf h v = k := by
  unfold kvOf
  have e : ∃ k, KeyV h v k := ⟨k, x⟩
  rw [dif_pos e]
  exact e.choose_spec.inj x
theorem swo_key (k : Value → Int) : Swo fun v u => decide (k v < k u) := by
  refine ⟨fun x y h => ?_, fun x y z h1 h2 => ?_⟩
  · have a : k x < k y := of_decide_eq_true h
    exact decide_eq_false (by omega)
  · have a : ¬ k y < k x := of_decide_eq_false h1
    have b : ¬ k z < k y := of_decide_eq_false h2
    exact decide_eq_false (by omega)
/-- one < of two of them -/
theorem key_lt {k : Value → Int} {v u : Value} (h1 : KeyV s.heap v (k v)) (h2 : KeyV s.heap u (k u)) (inj : k v = k u → v = u) {Q : Bool → Shared → Prop} (q : Q (decide (k v < k u)) s) :
    wpAny (model prog w) A (keyLt' (tuples' true) v u) Q (fun _ _ => False) s := by
  generalize hx : k v = x at *
  generalize hy : k u = y at *
  obtain ⟨a, o, t, b, n, rfl, ho, hc, hd⟩ := h1
  obtain ⟨a', o', t', b', n', rfl, ho', hc', hd'⟩ := h2
  refine PySem.W.kat_lt ho hd ho' hd' ?_
  show PySem.W.KatLex prog w A true (decide (2 < 2)) Q [(.int x t, .int y t'), (b, b')] 0 s
  refine PySem.W.kat_cons (SeqAt.EqAt.int_int x t y t' prog w _ _ (PySem.W.kat_go (fun e1 => ?_) fun e1 => ?_))
  · have ex : x = y := by simpa using e1
    have ea := inj ex
    injection ea with ea
    subst ea
    rw [ho] at ho'; cases ho'
    rw [hd] at hd'
    injection hd' with h1 _
    have eb : b = b' := by simp at h1; exact h1.2
    subst eb
    refine PySem.W.kat_yes (PySem.W.kat_cons (SeqAt.EqAt.same b prog w _ _ (PySem.W.kat_yes (PySem.W.kat_nil ?_))))
    have e2 : decide (x < y) = decide (2 < 2) := by rw [ex]; simp
    rw [← e2]; exact q
  · exact PySem.W.kat_no (oneLt_int q)
theorem firsts_key {h : Heap} {k : Value → Int} : ∀ {vs : List Value}, (∀ v ∈ vs, KeyV h v (k v)) → ∃ fs : List Value, PySem.W.KatTups h vs fs ∧ fs.length = vs.length ∧ ∀ f ∈ fs, ∃ x t, f = Value.int x t
  | [], _ => ⟨[], .nil, rfl, fun _ hm => by cases hm⟩
  | v :: vs, hp => by
    obtain ⟨fs, h1, h2, h3⟩ := firsts_key (vs := vs) fun u hm => hp u (List.mem_cons_of_mem _ hm)
    obtain ⟨a, o, t, y, n, e, ho, hc, hd⟩ := hp v List.mem_cons_self
    refine ⟨.int (k v) t :: fs, ?_, by simp [h2], fun f hm => ?_⟩
    · generalize k v = x at *
      subst e
      exact .cons ho hc hd rfl h1
    · rcases List.mem_cons.mp hm with e2 | hm
      · exact ⟨_, t, e2⟩
      · exact h3 f hm
theorem keys_sortable {a : Addr} {vs : List Value} {k : Value → Int} (h0 : 0 < vs.length) (hp : ∀ v ∈ vs, KeyV s.heap v (k v)) (inj : ∀ v ∈ vs, ∀ u ∈ vs, k v = k u → v = u) (ha : ∀ o, s.heap.get? a = some o → o.cls ≠ .type "tuple") :
    SortableO prog w A s a vs fun v u => decide (k v < k u) := by
  intro h' keep
  have hp' : ∀ v ∈ vs, KeyV h' v (k v) := fun v hm => (hp v hm).keeps fun b o e c => keep b o (fun z => by subst z; exact ha o e c) e
  obtain ⟨fs, h1, h2, h3⟩ := firsts_key hp'
  refine ⟨tuples' true, fun Q E hq => PySem.W.kat_kind (T := .type "int") h1 (by omega) (fun f hm => ?_) (by rfl) ?_, fun p q hm hm' => ?_⟩
  · obtain ⟨x, t, rfl⟩ := h3 f hm
    exact PySem.W.Looks.now
  · have e : (Value.type "int" != Value.type "tuple") = true := by decide +kernel
    rw [e]; exact hq
  · exact key_lt (s := { s with heap := h' }) (hp' _ hm) (hp' _ hm') (inj _ hm _ hm') ⟨rfl, rfl⟩
end
end AF

set_option maxHeartbeats 2000000
/-! Ops3: sorted, min, max and the other built-in functions by values. -/
namespace AF
open PySem PySem.Spec PyProof.Rows L2
theorem lift_perm {α β : Type} {G : α → β → Prop} {out vs : List β} (p : out.Perm vs) : ∀ {l : List α}, Paired G l vs → ∃ l', l'.Perm l ∧ Paired G l' out := by
  induction p with
  | nil => intro l r; cases r; exact ⟨[], .refl _, .nil⟩
  | cons x _ ih =>
    intro l r
    cases r with
    | cons h t =>
      obtain ⟨l', h1, h2⟩ := ih t
      exact ⟨_ :: l', h1.cons _, .cons h h2⟩
  | swap x y k =>
    intro l r
    cases r with
    | cons h t =>
      cases t with
      | cons h2 t2 => exact ⟨_ :: _ :: _, .swap _ _ _, .cons h2 (.cons h t2)⟩
  | trans _ _ ih1 ih2 =>
    intro l r
    obtain ⟨l1, a1, b1⟩ := ih2 r
    obtain ⟨l2, a2, b2⟩ := ih1 b1
    exact ⟨l2, a2.trans a1, b2⟩
/-! ### the core's own sorting -/
theorem insI_perm (k : Int) : ∀ l : List Int, (insI k l).Perm (k :: l)
  | [] => .refl _
  | j :: r => by
    unfold insI
    split
    · exact .refl _
    · exact (List.Perm.cons j (insI_perm k r)).trans (.swap k j r)
theorem sortI_perm : ∀ l : List Int, (sortI l).Perm l
  | [] => .refl _
  | k :: r => (insI_perm k _).trans ((sortI_perm r).cons k)
theorem insI_sorted (k : Int) : ∀ {l : List Int}, l.Pairwise (· ≤ ·) → (insI k l).Pairwise (· ≤ ·)
  | [], _ => by simp [insI]
  | j :: r, h => by
    unfold insI
    split
    · rename_i hk
      refine List.pairwise_cons.mpr ⟨fun x hx => ?_, h⟩
      rcases List.mem_cons.mp hx with rfl | hx
      · exact hk
      · exact Int.le_trans hk ((List.pairwise_cons.mp h).1 x hx)
    · rename_i hk
      obtain ⟨h1, h2⟩ := List.pairwise_cons.mp h
      refine List.pairwise_cons.mpr ⟨fun x hx => ?_, insI_sorted k h2⟩
      rcases List.mem_cons.mp ((insI_perm k r).mem_iff.mp hx) with rfl | hx
      · omega
      · exact h1 x hx
theorem sortI_sorted : ∀ l : List Int, (sortI l).Pairwise (· ≤ ·)
  | [] => .nil
  | k :: r => insI_sorted k (sortI_sorted r)
theorem sortI_eq {a l : List Int} (p : a.Perm l) (h : a.Pairwise (· ≤ ·)) : a = sortI l :=
  List.Perm.eq_of_pairwise (le := fun x y : Int => x ≤ y) (fun _ _ _ _ h1 h2 => Int.le_antisymm h1 h2) h (sortI_sorted l) (p.trans (sortI_perm l).symm)
theorem insD_perm (k : Int) (d : D) : ∀ l : List (Int × D), (insD k d l).Perm ((k, d) :: l)
  | [] => .refl _
  | (j, e) :: r => by
    unfold insD
    split
    · exact .refl _
    · exact (List.Perm.cons _ (insD_perm k d r)).trans (.swap _ _ r)
theorem sortK_perm : ∀ l : List (Int × D), (sortK l).Perm l
  | [] => .refl _
  | (k, d) :: r => (insD_perm k d _).trans ((sortK_perm r).cons _)
theorem insD_sorted (k : Int) (d : D) : ∀ {l : List (Int × D)}, l.Pairwise (fun x y => x.1 ≤ y.1) → (insD k d l).Pairwise (fun x y => x.1 ≤ y.1)
  | [], _ => by simp [insD]
  | (j, e) :: r, h => by
    unfold insD
    split
    · rename_i hk
      refine List.pairwise_cons.mpr ⟨fun x hx => ?_, h⟩
      rcases List.mem_cons.mp hx with rfl | hx
      · exact hk
      · exact Int.le_trans hk ((List.pairwise_cons.mp h).1 x hx)
    · rename_i hk
      obtain ⟨h1, h2⟩ := List.pairwise_cons.mp h
      refine List.pairwise_cons.mpr ⟨fun x hx => ?_, insD_sorted k d h2⟩
      rcases List.mem_cons.mp ((insD_perm k d r).mem_iff.mp hx) with rfl | hx
      · show j ≤ k; omega
      · exact h1 x hx
theorem sortK_sorted : ∀ l : List (Int × D), (sortK l).Pairwise (fun x y => x.1 ≤ y.1)
  | [] => .nil
  | (k, d) :: r => insD_sorted k d (sortK_sorted r)
theorem nodupI_ok : ∀ {l : List Int}, nodupI l = true → l.Nodup
  | [], _ => .nil
  | a :: r, h => by
    simp only [nodupI, Bool.and_eq_true, Bool.not_eq_true', List.contains_eq_mem, decide_eq_false_iff_not] at h
    exact List.nodup_cons.mpr ⟨h.1, nodupI_ok h.2⟩
abbrev mkP (p : Int × D) : D := .tup [.int p.1, p.2]
theorem pairsOf_eq : ∀ {l : List D} {ps : List (Int × D)}, AF.pairsOf l = some ps → l = ps.map mkP
  | [], ps, e => by simp [AF.pairsOf] at e; subst e; rfl
  | d :: r, ps, e => by
    unfold AF.pairsOf at e
    split at e
    · rename_i q1 q2
      cases q2
    · rename_i q i d' r' e1
      injection e1 with e2 e3
      subst e2 e3
      split at e
      · rename_i s hs
        have e3 : (i, d') :: s = ps := by simpa using e
        subst e3
        rw [List.map_cons, ← pairsOf_eq hs]
      · cases e
    · cases e
theorem key_unique {ps : List (Int × D)} (nd : (ps.map (·.1)).Nodup) {p q : Int × D} (hp : p ∈ ps) (hq : q ∈ ps) (e : p.1 = q.1) : p = q := by
  obtain ⟨i, hi, rfl⟩ := List.mem_iff_getElem.mp hp
  obtain ⟨j, hj, rfl⟩ := List.mem_iff_getElem.mp hq
  have hij : i = j := by
    refine (List.getElem_inj (h₀ := by simpa using hi) (h₁ := by simpa using hj) nd).mp ?_
    simpa using e
  subst hij; rfl
theorem sortK_eq {a ps : List (Int × D)} (p : a.Perm ps) (h : a.Pairwise (fun x y => x.1 ≤ y.1)) (nd : (ps.map (·.1)).Nodup) : a = sortK ps :=
  List.Perm.eq_of_pairwise (le := fun x y : Int × D => x.1 ≤ y.1) (fun x y hx hy h1 h2 => key_unique nd (p.mem_iff.mp hx) ((sortK_perm ps).mem_iff.mp hy) (Int.le_antisymm h1 h2)) h (sortK_sorted ps) (p.trans (sortK_perm ps).symm)
section
variable {T : Tx} {μ : List Addr} {H : Hp} {st : Store} {X : Cx} {pins : List (Addr × Obj)} {σ : L2.St} {s : Shared}
/-- D's item at a value: a pair with its key -/
def GP (T : Tx) (μ : List Addr) (H : Hp) (h : Heap) (d : D) (v : Value) : Prop := ∃ x i y, Rep T μ H d x ∧ RelV x v ∧ d = .tup [.int i, y] ∧ KeyV h v i
theorem gp_of (hK : X.K = T.K) (I : Inv X pins σ H s) : ∀ {ps : List (Int × D)} {xs : List V} {vs : List Value}, Reps T μ H (ps.map mkP) xs → Vals xs vs → Paired (GP T μ H s.heap) (ps.map mkP) vs
  | [], _, _, .nil, .nil => .nil
  | p :: ps, _, _, .cons a r, .cons b t => by
    refine .cons ?_ (gp_of hK I r t)
    have a' := a
    cases a with
    | tup h rs =>
      cases rs with
      | cons r1 rs =>
        cases r1
        cases rs with
        | cons r2 rs =>
          cases rs
          cases b
          obtain ⟨its, rv, ⟨o, ho, hc, n, hd⟩, _⟩ := I.tuple (by rw [hK]; exact h)
          cases rv with
          | cons q1 rv =>
            cases rv with
            | cons q2 rv =>
              cases rv
              obtain ⟨t', rfl⟩ := q1
              exact ⟨_, p.1, p.2, a', rfl, rfl, _, o, t', _, n, rfl, ho, hc, hd⟩
theorem gp_keys {h : Heap} : ∀ {ps : List (Int × D)} {vs : List Value}, Paired (GP T μ H h) (ps.map mkP) vs → ∀ v ∈ vs, ∃ p ∈ ps, KeyV h v p.1
  | [], _, .nil, v, hv => by cases hv
  | p :: ps, _, .cons a r, v, hv => by
    rcases List.mem_cons.mp hv with rfl | hv
    · obtain ⟨x, i, y, _, _, e, k⟩ := a
      have e1 : p.1 = i := by simp at e; exact e.1
      exact ⟨p, List.mem_cons_self, by rw [e1]; exact k⟩
    · obtain ⟨q, hq, k⟩ := gp_keys r v hv
      exact ⟨q, List.mem_cons_of_mem _ hq, k⟩
theorem gp_inj {h : Heap} : ∀ {ps : List (Int × D)} {vs : List Value}, Paired (GP T μ H h) (ps.map mkP) vs → (ps.map (·.1)).Nodup → ∀ v ∈ vs, ∀ u ∈ vs, kvOf h v = kvOf h u → v = u
  | [], _, .nil, _, v, hv, _, _, _ => by cases hv
  | p :: ps, _, .cons (b := v0) a r, nd, v, hv, u, hu, e => by
    obtain ⟨nd1, nd2⟩ := List.nodup_cons.mp (by simpa using nd : ((p.1 :: ps.map (·.1)).Nodup))
    have k0 : KeyV h v0 p.1 := by
      obtain ⟨x, i, y, _, _, e, k⟩ := a
      have e1 : p.1 = i := by simp at e; exact e.1
      rw [e1]; exact k
    have no : ∀ u ∈ _, kvOf h u ≠ p.1 := fun u (hu : u ∈ _) e2 => by
      obtain ⟨q, hq, k⟩ := gp_keys r u hu
      rw [kvOf_eq k] at e2
      exact nd1 (List.mem_map.mpr ⟨q, hq, e2⟩)
    rcases List.mem_cons.mp hv with hv1 | hv1 <;> rcases List.mem_cons.mp hu with hu1 | hu1
    · rw [hv1, hu1]
    · rw [hv1, kvOf_eq k0] at e; exact absurd e.symm (no u hu1)
    · rw [hu1, kvOf_eq k0] at e; exact absurd e (no v hv1)
    · exact gp_inj r nd2 v hv1 u hu1 e
theorem paired_map : ∀ ps : List (Int × D), Paired (fun (p : Int × D) (d : D) => d = mkP p) ps (ps.map mkP)
  | [] => .nil
  | _ :: ps => .cons rfl (paired_map ps)
theorem paired_eq : ∀ {ps : List (Int × D)} {l : List D}, Paired (fun (p : Int × D) (d : D) => d = mkP p) ps l → l = ps.map mkP
  | _, _, .nil => rfl
  | _, _, .cons a r => by rw [a, paired_eq r, List.map_cons]
/-- the sorted values are those of the core's sorted pairs -/
theorem gp_sorted {h : Heap} {ps : List (Int × D)} {vs out : List Value} (g : Paired (GP T μ H h) (ps.map mkP) vs) (nd : (ps.map (·.1)).Nodup) (p : out.Perm vs) (hs : out.Pairwise fun x y => decide (kvOf h y < kvOf h x) = false) :
    ∃ xs', Reps T μ H ((sortK ps).map mkP) xs' ∧ Vals xs' out := by
  obtain ⟨l', hp, g'⟩ := lift_perm p g
  obtain ⟨qs, hq, rfl⟩ : ∃ qs : List (Int × D), qs.Perm ps ∧ l' = qs.map mkP := by
    obtain ⟨qs, h1, h2⟩ := lift_perm (G := fun (p : Int × D) (d : D) => d = mkP p) hp (l := ps) (paired_map ps)
    exact ⟨qs, h1, paired_eq h2⟩
  have sorted : ∀ {qs : List (Int × D)} {out : List Value}, Paired (GP T μ H h) (qs.map mkP) out → out.Pairwise (fun x y => decide (kvOf h y < kvOf h x) = false) → qs.Pairwise fun x y => x.1 ≤ y.1 := by
    intro qs
    induction qs with
    | nil => intro out _ _; exact .nil
    | cons q qs ih =>
      intro out g hs
      cases g with
      | cons a r =>
        obtain ⟨h1, h2⟩ := List.pairwise_cons.mp hs
        refine List.pairwise_cons.mpr ⟨fun q' hq' => ?_, ih r h2⟩
        have find : ∀ {qs : List (Int × D)} {out : List Value}, Paired (GP T μ H h) (qs.map mkP) out → q' ∈ qs → ∃ u ∈ out, KeyV h u q'.1 := by
          intro qs
          induction qs with
          | nil => intro out _ hm; cases hm
          | cons z qs ih2 =>
            intro out g hm
            cases g with
            | cons a r =>
              rcases List.mem_cons.mp hm with rfl | hm
              · obtain ⟨x, i, y, _, _, e, k⟩ := a
                have e1 : q'.1 = i := by simp at e; exact e.1
                exact ⟨_, List.mem_cons_self, by rw [e1]; exact k⟩
              · obtain ⟨u, hu, k⟩ := ih2 r hm
                exact ⟨u, List.mem_cons_of_mem _ hu, k⟩
        obtain ⟨u, hu, k⟩ := find r hq'
        have h3 := h1 u hu
        obtain ⟨x, i, y, _, _, e, k0⟩ := a
        have e1 : q.1 = i := by simp at e; exact e.1
        rw [kvOf_eq k, kvOf_eq k0, decide_eq_false_iff_not] at h3
        omega
  have e := sortK_eq hq (sorted g' hs) nd
  rw [← e]
  have build : ∀ {qs : List D} {out : List Value}, Paired (GP T μ H h) qs out → ∃ xs', Reps T μ H qs xs' ∧ Vals xs' out := by
    intro qs
    induction qs with
    | nil => intro out g; cases g; exact ⟨[], .nil, .nil⟩
    | cons q qs ih =>
      intro out g
      cases g with
      | cons a r =>
        obtain ⟨xs', h1, h2⟩ := ih r
        obtain ⟨x, i, y, ra, rb, _, _⟩ := a
        exact ⟨x :: xs', .cons ra h1, .cons rb h2⟩
  exact build g'
/-- sorted(l): what the core says -/
theorem call_sortedW (hK : X.K = T.K) {m : Bool} {d : D} {x : V} {u : Value} {l so : List D} {Q : VK} (I : Inv X pins σ H s) (R : Rel T μ st H) (ra : Rep T μ H d x) (rx : RelV x u) (e : seqOf st d = some l) (hl : l.length ≤ 60) (es : sortD l = some so)
    (h : AftV T (RepT T) (mkL m so st) μ H Q) : wpAny (model X.prog X.w) X.A (call (.builtin "sorted") [u]) (EP X pins σ Q) X.xe s := by
  obtain ⟨p, xs, rfl, hx, r⟩ := seqOf_at R e ra
  cases rx
  have look : ∃ (its : List Value) (c : String) (o : Obj) (n : Nat), Vals xs its ∧ (c = "list" ∨ c = "tuple") ∧ s.heap.get? p = some o ∧ o.cls = .type c ∧ o.data = .seq its.toArray n ∧ xs.length ≤ sizeLine := by
    rcases hx with hx | hx
    · obtain ⟨its, rv, ⟨o, n, ho, hc, _, hd⟩, hz⟩ := I.list (by rw [hK]; exact hx)
      exact ⟨its, "list", o, n, rv, .inl rfl, ho, hc, hd, hz⟩
    · obtain ⟨its, rv, ⟨o, ho, hc, n, hd⟩, hz⟩ := I.tuple (by rw [hK]; exact hx)
      exact ⟨its, "tuple", o, n, rv, .inr rfl, ho, hc, hd, hz⟩
  obtain ⟨its, c, o, n, rv, hc2, ho, hc, hd, hz⟩ := look
  have hlen := rv.length
  have fin : ∀ (out : List Value) (xs' : List V), Reps T μ H so xs' → Vals xs' out → xs'.length ≤ sizeLine → EP X pins σ Q (.ref (s.heap.objs.size + 1)) { s with heap := PyProof.Rows.sortedAll s.heap its out.toArray } := fun out xs' r' v' hz' => by
    obtain ⟨ep, he'⟩ := PyProof.Rows.sortedAll_at s.heap its out.toArray
    refine ⟨.ref _, upd H (s.heap.objs.size + 1) (.lst xs'), I.laid (t' := s.toks) (fun _ _ => PyProof.Rows.sortedAll_old) (Nat.le_succ _) ⟨hz', out, ep, v', by simpa using he'⟩, rfl, mkL_new h R r' _ (I.hok.fresh (Nat.le_succ _))⟩
  unfold sortD at es
  cases e1 : intsOf l with
  | some ns =>
    rw [e1] at es
    have eso : (sortI ns).map D.int = so := by simpa using es
    subst eso
    have exs := r.ints e1
    subst exs
    have hi : IntsAre its ns := intsAre_of rv
    refine sorted_lt hc2 ho hc hd SrtO.swo_int (by rw [← hlen]; exact hz) (fun h2 h₁ a' _ _ => SrtO.ints_sortable hi h2) fun out h1 h2 => ?_
    obtain ⟨k1, k2, k3⟩ := SrtO.ints_out hi h1 h2
    have e3 := sortI_eq k2 k3
    rw [e3] at k1
    refine fin out ((sortI ns).map V.int) (Reps.of_ints _) (vals_of_ints k1) ?_
    rw [List.length_map, (sortI_perm ns).length_eq, ← List.length_map (f := V.int)]; exact hz
  | none =>
    rw [e1] at es
    dsimp only at es
    cases e2 : AF.pairsOf l with
    | none => rw [e2] at es; cases es
    | some ps =>
      rw [e2] at es
      dsimp only at es
      split at es
      · rename_i hnd
        have eso : (sortK ps).map mkP = so := by simpa using es
        subst eso
        have el := pairsOf_eq e2
        subst el
        have nd := nodupI_ok hnd
        have g := gp_of hK I r rv
        have hkey : ∀ v ∈ its, KeyV s.heap v (kvOf s.heap v) := fun v hv => by
          obtain ⟨q, _, k⟩ := gp_keys g v hv
          rw [kvOf_eq k]; exact k
        refine sorted_lt hc2 ho hc hd (swo_key (kvOf s.heap)) (by rw [← hlen]; exact hz) (fun h2 h₁ a' ha' kp => ?_) fun out h1 h2 => ?_
        · refine keys_sortable (by omega) (fun v hv => (hkey v hv).keeps fun b o e _ => (kp b o e).2) (gp_inj g nd) fun o e => ?_
          rw [show ({ s with heap := h₁ } : Shared).heap = h₁ from rfl, ha'] at e
          cases e
          simp
        · obtain ⟨xs', r', v'⟩ := gp_sorted g nd h2.perm h1
          refine fin out xs' r' v' ?_
          rw [r'.length, List.length_map, (sortK_perm ps).length_eq, ← List.length_map (f := mkP), ← r.length]; exact hz
      · cases es
end
end AF

set_option maxHeartbeats 2000000
/-! Ops4: min, max, the other built-in functions and methods by values. -/
namespace AF
open PySem PySem.Spec PyProof.Rows L2
theorem foldl_min : ∀ (r : List Int) (a : Int), r.foldl (fun m x => if x < m then x else m) a ∈ a :: r ∧ ∀ y ∈ a :: r, r.foldl (fun m x => if x < m then x else m) a ≤ y
  | [], a => ⟨by simp, fun y hy => by have : y = a := by simpa using hy
                                      subst this; exact Int.le_refl _⟩
  | b :: r, a => by
    rw [List.foldl_cons]
    by_cases h : b < a
    · rw [if_pos h]
      obtain ⟨h1, h2⟩ := foldl_min r b
      refine ⟨List.mem_cons_of_mem _ h1, fun y hy => ?_⟩
      rcases List.mem_cons.mp hy with rfl | hy
      · have := h2 b List.mem_cons_self; omega
      · exact h2 y hy
    · rw [if_neg h]
      obtain ⟨h1, h2⟩ := foldl_min r a
      refine ⟨?_, fun y hy => ?_⟩
      · rcases List.mem_cons.mp h1 with e | h1
        · rw [e]; exact List.mem_cons_self
        · exact List.mem_cons_of_mem _ (List.mem_cons_of_mem _ h1)
      · rcases List.mem_cons.mp hy with rfl | hy
        · exact h2 _ List.mem_cons_self
        · rcases List.mem_cons.mp hy with rfl | hy
          · have := h2 a List.mem_cons_self; omega
          · exact h2 y (List.mem_cons_of_mem _ hy)
theorem foldl_max : ∀ (r : List Int) (a : Int), r.foldl (fun m x => if x > m then x else m) a ∈ a :: r ∧ ∀ y ∈ a :: r, y ≤ r.foldl (fun m x => if x > m then x else m) a
  | [], a => ⟨by simp, fun y hy => by have : y = a := by simpa using hy
                                      subst this; exact Int.le_refl _⟩
  | b :: r, a => by
    rw [List.foldl_cons]
    by_cases h : b > a
    · rw [if_pos h]
      obtain ⟨h1, h2⟩ := foldl_max r b
      refine ⟨List.mem_cons_of_mem _ h1, fun y hy => ?_⟩
      rcases List.mem_cons.mp hy with rfl | hy
      · have := h2 b List.mem_cons_self; omega
      · exact h2 y hy
    · rw [if_neg h]
      obtain ⟨h1, h2⟩ := foldl_max r a
      refine ⟨?_, fun y hy => ?_⟩
      · rcases List.mem_cons.mp h1 with e | h1
        · rw [e]; exact List.mem_cons_self
        · exact List.mem_cons_of_mem _ (List.mem_cons_of_mem _ h1)
      · rcases List.mem_cons.mp hy with rfl | hy
        · exact h2 _ List.mem_cons_self
        · rcases List.mem_cons.mp hy with rfl | hy
          · have := h2 a List.mem_cons_self; omega
          · exact h2 y (List.mem_cons_of_mem _ hy)
theorem minI_is {ns : List Int} {k m : Int} (e : minI ns = some k) (h1 : m ∈ ns) (h2 : ∀ y, y ∈ ns → m ≤ y) : m = k := by
  cases ns with
  | nil => cases e
  | cons a r =>
    have e2 : r.foldl (fun m x => if x < m then x else m) a = k := by simpa [minI] using e
    obtain ⟨h3, h4⟩ := foldl_min r a
    rw [e2] at h3 h4
    exact Int.le_antisymm (h2 k h3) (h4 m h1)
theorem maxI_is {ns : List Int} {k m : Int} (e : maxI ns = some k) (h1 : m ∈ ns) (h2 : ∀ y, y ∈ ns → y ≤ m) : m = k := by
  cases ns with
  | nil => cases e
  | cons a r =>
    have e2 : r.foldl (fun m x => if x > m then x else m) a = k := by simpa [maxI] using e
    obtain ⟨h3, h4⟩ := foldl_max r a
    rw [e2] at h3 h4
    exact Int.le_antisymm (h4 m h1) (h2 k h3)
/-- the data of pairs: their first parts compared -/
theorem dataLt_int (i j : Int) : PySem.W.dataLt (.int i) (.int j) = decide (i < j) := by
  unfold PySem.W.dataLt
  simp only [PySem.W.keyToks]
  unfold PyProof.Rows.lexLt PyProof.Rows.lexLt
  show (decide (i < j) || (!decide (j < i) && false)) = decide (i < j)
  simp
theorem dataLt_fst {i j : Int} {p q : PyData} (h : i ≠ j) (a : PySem.W.alike p q = true) : PySem.W.dataLt (.tuple [.int i, p]) (.tuple [.int j, q]) = decide (i < j) := by
  rw [PySem.W.dataLt_pair (by simp [PySem.W.alike]) a, dataLt_int]
  have e : PyData.eqv (.int i) (.int j) = false := by simp [PyData.eqv, h]
  rw [if_neg (by rw [e]; simp)]
section
variable {T : Tx} {μ : List Addr} {H : Hp} {st : Store} {X : Cx} {pins : List (Addr × Obj)} {σ : L2.St} {s : Shared}
/-- the data of pairs, item by item -/
inductive PD (st : Store) : List (Int × D) → List PyData → Prop where
  | nil : PD st [] []
  | cons {p : Int × D} {q : PyData} {ps : List (Int × D)} {qs : List PyData} : PD st ps qs → PD st (p :: ps) (.tuple [.int p.1, q] :: qs)
theorem pd_of : ∀ {ps : List (Int × D)} {qs : List PyData}, optAll (look st) (ps.map mkP) = some qs → PD st ps qs
  | [], qs, e => by simp [optAll] at e; subst e; exact .nil
  | p :: ps, qs, e => by
    simp only [List.map_cons, optAll] at e
    cases e1 : look st (mkP p) with
    | none => rw [e1] at e; cases e
    | some a =>
      rw [e1] at e
      dsimp only at e
      cases e2 : optAll (look st) (ps.map mkP) with
      | none => rw [e2] at e; cases e
      | some b =>
        rw [e2] at e
        have e3 : a :: b = qs := by simpa using e
        subst e3
        obtain ⟨q, rfl⟩ : ∃ q, a = .tuple [.int p.1, q] := by
          have e5 : (match py st 23 p.2 with | some q => some (PyData.tuple [.int p.1, q]) | none => none) = some a := by
            rw [← e1]
            show _ = py st (23 + 1) (.tup [.int p.1, p.2])
            rw [py_tup]
            unfold optAll optAll optAll
            rw [show py st 23 (.int p.1) = some (.int p.1) from py_int st 22 p.1]
            cases py st 23 p.2 <;> rfl
          cases e4 : py st 23 p.2 with
          | none => rw [e4] at e5; cases e5
          | some q => rw [e4] at e5; exact ⟨q, (Option.some.inj e5).symm⟩
        exact .cons (pd_of e2)
theorem PD.mem : ∀ {ps : List (Int × D)} {qs : List PyData}, PD st ps qs → ∀ q ∈ qs, ∃ p ∈ ps, ∃ r, q = .tuple [.int p.1, r]
  | _, _, .nil, q, h => by cases h
  | _, _, .cons (p := p) (q := q0) t, q, h => by
    rcases List.mem_cons.mp h with rfl | h
    · exact ⟨p, List.mem_cons_self, q0, rfl⟩
    · obtain ⟨p', hp, r, e⟩ := PD.mem t q h
      exact ⟨p', List.mem_cons_of_mem _ hp, r, e⟩
/-- the least of pairs, the least of their data -/
theorem PD.min {P : List (Int × D)} {G : List PyData} (nd : (P.map (·.1)).Nodup) (al : ∀ x ∈ G, ∀ y ∈ G, PySem.W.alike x y = true) : ∀ {ps : List (Int × D)} {qs : List PyData}, PD st ps qs → (∀ p ∈ ps, p ∈ P) → (∀ q ∈ qs, q ∈ G) →
    ∀ (p : Int × D) (q : PyData), p ∈ P → .tuple [.int p.1, q] ∈ G → ps.foldl (fun m x => if x.1 < m.1 then x else m) p ∈ P ∧
      ∃ q', PySem.W.minD (.tuple [.int p.1, q]) qs = .tuple [.int (ps.foldl (fun m x => if x.1 < m.1 then x else m) p).1, q']
  | _, _, .nil, _, _, p, q, hp, _ => ⟨hp, q, rfl⟩
  | _, _, .cons (p := a) (q := b) t, h1, h2, p, q, hp, hq => by
    have ha := h1 a List.mem_cons_self
    have hb := h2 _ List.mem_cons_self
    have h1' := fun p hp => h1 p (List.mem_cons_of_mem _ hp)
    have h2' := fun q hq => h2 q (List.mem_cons_of_mem _ hq)
    rw [List.foldl_cons]
    have step : ∀ qs, PySem.W.minD (.tuple [.int p.1, q]) (.tuple [.int a.1, b] :: qs) = PySem.W.minD (if PySem.W.dataLt (.tuple [.int a.1, b]) (.tuple [.int p.1, q]) = true then .tuple [.int a.1, b] else .tuple [.int p.1, q]) qs := fun qs => rfl
    rw [step]
    have halike : PySem.W.alike b q = true := by
      have := al _ hb _ hq
      simp only [PySem.W.alike, PySem.W.alikeAll, Bool.and_eq_true] at this
      exact this.2.1
    by_cases e : a.1 = p.1
    · have eap := key_unique nd ha hp e
      subst eap
      rw [if_neg (Int.lt_irrefl _)]
      by_cases hd : PySem.W.dataLt (.tuple [.int a.1, b]) (.tuple [.int a.1, q]) = true
      · rw [if_pos hd]; exact PD.min nd al t h1' h2' a b ha hb
      · rw [if_neg hd]; exact PD.min nd al t h1' h2' a q ha hq
    · rw [dataLt_fst e halike]
      by_cases hl : a.1 < p.1
      · rw [if_pos hl, if_pos (decide_eq_true hl)]; exact PD.min nd al t h1' h2' a b ha hb
      · rw [if_neg hl, if_neg (by simp [hl])]; exact PD.min nd al t h1' h2' p q hp hq
end
end AF

set_option maxHeartbeats 2000000
/-! Ops5: the built-in functions and methods by values. -/
namespace AF
open PySem PySem.Spec PyProof.Rows L2
theorem reads_int {h : Heap} {v : Value} {d : PyData} {as : List Addr} (r : Reads h v d as) {i j : Int} {t : Tok} (e1 : v = .int i t) (e2 : d = .int j) : i = j := by
  cases r <;> simp_all
section
variable {T : Tx} {μ : List Addr} {H : Hp} {st : Store} {X : Cx} {pins : List (Addr × Obj)} {σ : L2.St} {s : Shared}
theorem call_minW (hK : X.K = T.K) (hc : X.calm = true) (hu : X.A.units + 65 < cLine) {d e : D} {x : V} {u : Value} {l : List D} {Q : VK} (I : Inv X pins σ H s) (R : Rel T μ st H) (ra : Rep T μ H d x) (rx : RelV x u) (el : lstOf st d = some l)
    (em : minD st l = some e) (h : AftV T (RepT T) (.ok e st) μ H Q) : wpAny (model X.prog X.w) X.A (call (.builtin "min") [u]) (EP X pins σ Q) X.xe s := by
  obtain ⟨p, xs, rfl, hx, r⟩ := lstOf_at R el ra
  unfold minD at em
  cases e1 : intsOf l with
  | some ns =>
    rw [e1] at em
    dsimp only at em
    have exs := r.ints e1
    subst exs
    cases e2 : minI ns with
    | none => rw [e2] at em; cases em
    | some k =>
      rw [e2] at em
      have e3 : D.int k = e := by simpa using em
      subst e3
      refine cr_min hc pins s σ H [.ref p] [u] Q I (.cons rx .nil) ⟨p, ns, rfl, SqL.of hx, ?_, fun m h1 h2 => ?_⟩
      · cases ns with
        | nil => cases e2
        | cons _ _ => simp
      · rw [minI_is e2 h1 h2]; exact h.ok R (.int k)
  | none =>
    rw [e1] at em
    dsimp only at em
    cases e2 : AF.pairsOf l with
    | none => rw [e2] at em; cases em
    | some ps =>
      rw [e2] at em
      dsimp only at em
      split at em
      · rename_i hcond
        rw [Bool.and_eq_true] at hcond
        obtain ⟨hnd, hal⟩ := hcond
        have nd := nodupI_ok hnd
        have ell := pairsOf_eq e2
        subst ell
        unfold alikeB at hal
        cases e4 : optAll (look st) (ps.map mkP) with
        | none => rw [e4] at hal; cases hal
        | some qs =>
          rw [e4] at hal
          have al : ∀ x ∈ qs, ∀ y ∈ qs, PySem.W.alike x y = true := fun x hx y hy => List.all_eq_true.mp (List.all_eq_true.mp hal x hx) y hy
          obtain ⟨hd, hlay, hdep⟩ := optAll_dp e4 r fun d v p e r => py_dp R PYN d v p e r
          rw [← hK] at hd
          cases ps with
          | nil => simp [minK] at em
          | cons p0 ps =>
            have ee : mkP (ps.foldl (fun m x => if x.1 < m.1 then x else m) p0) = e := by simpa [minK] using em
            have pd := pd_of e4
            cases pd with
            | cons pd =>
              rename_i q0 qs
              obtain ⟨hb, q', hmin⟩ := PD.min (P := p0 :: ps) nd al pd (fun p hp => List.mem_cons_of_mem _ hp) (fun q hq => List.mem_cons_of_mem _ hq) p0 q0 List.mem_cons_self List.mem_cons_self
              cases rx
              obtain ⟨its, rv, ⟨o, n, ho, hc2, _, hdt⟩, hz⟩ := I.list (SqL.of hx)
              obtain ⟨as, hr⟩ := Dp.readsAll I _ _ its hd rv
              refine PySem.W.min_list_data (I.ok.hd hc) ⟨o, ho, hc2, n, hdt⟩ (by simpa using hr) ⟨al, fun x hx => ?_⟩ ?_ fun i v h' tk bs hv hrd hk => ?_
              · obtain ⟨p', _, r', e'⟩ := (PD.cons pd : PD st (p0 :: ps) (.tuple [.int p0.1, q0] :: qs)).mem x hx
                rw [e']; exact fun z => by cases z
              · have h24 : PYN = 24 := rfl
                omega
              · -- the value found is an item whose data begin with the least key
                have hv' : its[i]? = some v := by simpa using hv
                obtain ⟨x', hx', rx'⟩ : ∃ x', xs[i]? = some x' ∧ RelV x' v := by
                  have hlt : i < xs.length := by rw [rv.length]; exact (List.getElem?_eq_some_iff.mp hv').1
                  obtain ⟨w', h1, h2⟩ := rv.get (List.getElem?_eq_getElem hlt)
                  rw [hv'] at h1; cases h1
                  exact ⟨_, List.getElem?_eq_getElem hlt, h2⟩
                obtain ⟨pi, hpi⟩ : ∃ pi, (p0 :: ps)[i]? = some pi := by
                  have hlt : i < (p0 :: ps).length := by
                    have h1 := (List.getElem?_eq_some_iff.mp hx').1
                    rw [r.length, List.length_map] at h1; exact h1
                  exact ⟨_, List.getElem?_eq_getElem hlt⟩
                obtain ⟨x2, h3, h4⟩ := r.get (d := mkP pi) (i := i) (by rw [List.getElem?_map, hpi]; rfl)
                rw [hx'] at h3; cases h3
                have k1 : KeyV s.heap v pi.1 := by
                  have g := gp_of hK I r rv
                  have go : ∀ {ps : List (Int × D)} {vs : List Value} {i : Nat} {pi : Int × D} {v : Value}, Paired (GP T μ H s.heap) (ps.map mkP) vs → ps[i]? = some pi → vs[i]? = some v → KeyV s.heap v pi.1 := by
                    intro ps
                    induction ps with
                    | nil => intro vs i pi v g e; simp at e
                    | cons a ps ih =>
                      intro vs i pi v g e1 e2
                      cases g with
                      | cons a1 r1 =>
                        cases i with
                        | zero =>
                          simp at e1 e2
                          subst e1 e2
                          obtain ⟨x, i, y, _, _, e, k⟩ := a1
                          have e1 : a.1 = i := by simp at e; exact e.1
                          rw [e1]; exact k
                        | succ i => exact ih r1 (by simpa using e1) (by simpa using e2)
                  exact go g hpi hv'
                have k2 : pi.1 = (ps.foldl (fun m x => if x.1 < m.1 then x else m) p0).1 := by
                  rw [hmin] at hrd
                  have k1' := k1.keeps fun b o e _ => hk b o e
                  obtain ⟨a, o2, t, y, n2, rfl, ho2, hc3, hd2⟩ := k1'
                  cases hrd with
                  | tuple g1 g2 g3 g4 =>
                    rw [ho2] at g1; cases g1
                    rw [hd2] at g3
                    injection g3 with g5 _
                    subst g5
                    cases g4 with
                    | cons g6 g7 => exact reads_int g6 rfl rfl
                have e7 := key_unique nd (List.mem_of_getElem? hpi) hb k2
                subst e7
                rw [ee] at h4
                exact ⟨x', H, I.kept (t' := tk) hk, rx', h.ok R h4⟩
      · cases em
end
end AF

set_option maxHeartbeats 2000000
/-! Ops6: all built-in functions and methods by values. -/
namespace AF
open PySem PySem.Spec PyProof.Rows L2
def bfVal : BF → Value
  | .len => .builtin "len" | .int => .type "int" | .abs => .builtin "abs" | .min => .builtin "min" | .max => .builtin "max" | .sorted => .builtin "sorted"
  | .tuple => .type "tuple" | .list => .type "list" | .all => .builtin "all" | .any => .builtin "any" | .str => .type "str" | .bool => .type "bool"
section
variable {T : Tx} {X : Cx} (hK : X.K = T.K)
include hK
omit hK in
theorem smallT_ok {i : Int} (h : smallT i = true) : i.natAbs.log2 < 1920 := by
  simp only [smallT, Bool.and_eq_true, decide_eq_true_eq] at h
  by_cases z : i.natAbs = 0
  · rw [z]; decide
  · rw [Nat.log2_lt z]
    have h1 : i.natAbs < 10 ^ 100 := by omega
    exact Nat.lt_trans h1 (by decide)
omit hK in
theorem reps_strsOf {μ : List Addr} {H : Hp} : ∀ {l : List D} {xs : List V} {ys : List (List Nat)}, Reps T μ H l xs → strsOf l = some ys → xs = (ys.map toStr).map V.str
  | [], _, _, .nil, e => by simp [strsOf] at e; subst e; rfl
  | d :: l, _, ys, .cons a r, e => by
    cases a <;> simp only [strsOf] at e <;> first | (cases e; done) | skip
    cases e2 : strsOf l with
    | none => rw [e2] at e; cases e
    | some zs =>
      rw [e2] at e
      cases e
      rw [reps_strsOf r e2]; rfl
omit hK in
theorem reps_of_strs {μ : List Addr} {H : Hp} : ∀ ys : List (List Nat), Reps T μ H (ys.map .str) ((ys.map toStr).map V.str)
  | [] => .nil
  | _ :: ys => .cons (.str _) (reps_of_strs ys)
theorem call_bltW (hc : X.calm = true) (hu : X.A.units + 65 < cLine) (f : BF) (m : Bool) : CallR X (bfVal f) (rL T (blt f m)) := by
  intro pins s σ H xs us Q I rv ⟨μ, st, ds, R, r, h⟩
  cases r with
  | nil => cases f <;> exact h.elim
  | @cons d v l ys ra rr =>
    cases rr with
    | nil =>
      obtain ⟨u, rfl, rx⟩ := vals1 rv
      cases f with
      | len =>
        have sq : ∀ {l : List D}, seqOf st d = some l → AftV T (RepT T) (.ok (.int l.length) st) μ H Q → wpAny (model X.prog X.w) X.A (call (bfVal .len) [u]) (EP X pins σ Q) X.xe s := fun {l} e h => by
          obtain ⟨p, xs, rfl, hx, r⟩ := seqOf_at R e ra
          rw [← hK] at hx
          refine call_len_seq pins s σ H _ _ Q I rv ⟨p, xs, rfl, hx, ?_⟩
          rw [r.length]; exact h.ok R (.int _)
        cases ra with
        | scr hf =>
          simp only [blt] at h
          refine call_len_seq pins s σ H _ _ Q I rv ⟨_, _, rfl, .inl (by rw [hK]; exact hf.seq), ?_⟩
          rw [List.length_map]; exact h.ok R (.int _)
        | str x =>
          simp only [blt] at h
          split at h
          · rename_i hl
            refine call_len_str pins s σ H _ _ Q I rv ⟨toStr x, rfl, ?_, ?_⟩
            · simp only [toStr, Str.length, List.size_toArray]; exact Nat.le_trans hl limS
            · have e : (toStr x).length = x.length := by simp [toStr, Str.length]
              rw [e]; exact h.ok R (.int _)
          · exact h.elim
        | tup h1 h2 => simp only [blt, seqOf] at h; exact sq rfl h
        | lst h1 h2 h3 => simp only [blt, seqOf, lstOf] at h; exact sq rfl h
        | ref h1 =>
          simp only [blt] at h
          split at h
          · exact sq (by assumption) h
          · exact h.elim
        | _ => simp only [blt, seqOf, lstOf] at h; exact h.elim
      | int =>
        cases ra <;> simp only [blt] at h <;> first | exact h.elim | skip
        · exact call_int1 pins s σ H _ _ Q I rv (.inr ⟨_, rfl, h.ok R (.int _)⟩)
        · exact call_int1 pins s σ H _ _ Q I rv (.inl ⟨_, rfl, h.ok R (.int _)⟩)
        · rename_i x
          split at h
          · rename_i hl
            cases e : PySem.intText? (toStr x) with
            | none => rw [e] at h; exact h.elim
            | some n =>
              rw [e] at h
              exact call_int_str pins s σ H _ _ Q I rv ⟨toStr x, n, rfl, e, by simpa [toStr, Str.length] using hl, h.ok R (.int _)⟩
          · exact h.elim
      | abs =>
        cases ra <;> simp only [blt] at h <;> first | exact h.elim | skip
        exact call_abs pins s σ H _ _ Q I rv ⟨_, rfl, h.ok R (.int _)⟩
      | min =>
        have e0 : blt .min m [d] st = (match lstOf st d with | some l => if l.length ≤ LIM then (match minD st l with | some e => .ok e st | none => .bad) else .bad | none => .bad) := by cases ra <;> rfl
        rw [e0] at h
        cases e1 : lstOf st d with
        | none => rw [e1] at h; exact h.elim
        | some l =>
          rw [e1] at h
          dsimp only at h
          split at h
          · cases e2 : minD st l with
            | none => rw [e2] at h; exact h.elim
            | some e => rw [e2] at h; exact call_minW hK hc hu I R ra rx e1 e2 h
          · exact h.elim
      | max =>
        have e0 : blt .max m [d] st = (match lstOf st d with | some l => (match intsOf l with | some ns => (match maxI ns with | some k => .ok (.int k) st | none => .bad) | none => .bad) | none => .bad) := by cases ra <;> rfl
        rw [e0] at h
        cases e1 : lstOf st d with
        | none => rw [e1] at h; exact h.elim
        | some l =>
          rw [e1] at h
          dsimp only at h
          cases e2 : intsOf l with
          | none => rw [e2] at h; exact h.elim
          | some ns =>
            rw [e2] at h
            dsimp only at h
            cases e3 : maxI ns with
            | none => rw [e3] at h; exact h.elim
            | some k =>
              rw [e3] at h
              obtain ⟨p, xs, rfl, hx, r⟩ := lstOf_at R e1 ra
              have exs := r.ints e2
              subst exs
              refine cr_max hc pins s σ H _ _ Q I rv ⟨p, ns, rfl, SqL.of hx, ?_, fun m h1 h2 => ?_⟩
              · cases ns with
                | nil => cases e3
                | cons _ _ => simp
              · rw [maxI_is e3 h1 h2]; exact h.ok R (.int k)
      | sorted =>
        have e0 : blt .sorted m [d] st = (match seqOf st d with | some l => if l.length ≤ 60 then (match sortD l with | some s => mkL m s st | none => .bad) else .bad | none => .bad) := by cases ra <;> rfl
        rw [e0] at h
        cases e1 : seqOf st d with
        | none => rw [e1] at h; exact h.elim
        | some l =>
          rw [e1] at h
          dsimp only at h
          split at h
          · rename_i hl
            cases e2 : sortD l with
            | none => rw [e2] at h; exact h.elim
            | some e => rw [e2] at h; exact call_sortedW hK I R ra rx e1 hl e2 h
          · exact h.elim
      | tuple =>
        have ls : ∀ {l : List D}, lstOf st d = some l → AftV T (RepT T) (.ok (.tup l) st) μ H Q → wpAny (model X.prog X.w) X.A (call (bfVal .tuple) [u]) (EP X pins σ Q) X.xe s := fun {l} e h => by
          obtain ⟨p, xs, rfl, hx, r⟩ := lstOf_at R e ra
          exact call_tuple_of pins s σ H _ _ Q I rv ⟨p, xs, rfl, .inl ⟨SqL.of hx, tup_new h R r⟩⟩
        have ra' := ra
        cases ra with
        | tup h1 h2 =>
          simp only [blt] at h
          exact call_tuple_of pins s σ H _ _ Q I rv ⟨_, _, rfl, .inr ⟨by rw [hK]; exact h1, h.ok R ra'⟩⟩
        | lst h1 h2 h3 => simp only [blt, lstOf] at h; exact ls rfl h
        | ref h1 =>
          simp only [blt] at h
          split at h
          · exact ls (by assumption) h
          · exact h.elim
        | _ => simp only [blt, lstOf] at h; exact h.elim
      | list =>
        have e0 : blt .list m [d] st = (match seqOf st d with | some l => mkL m l st | none => .bad) := by cases ra <;> rfl
        rw [e0] at h
        cases e1 : seqOf st d with
        | none => rw [e1] at h; exact h.elim
        | some l =>
          rw [e1] at h
          obtain ⟨p, xs, rfl, hx, r⟩ := seqOf_at R e1 ra
          rw [← hK] at hx
          exact call_list_of pins s σ H _ _ Q I rv ⟨p, xs, rfl, hx, mkL_new h R r⟩
      | all =>
        have e0 : blt .all m [d] st = (match lstOf st d with | some l => (match bools l with | some bs => .ok (.bl (bs.all id)) st | none => .bad) | none => .bad) := by cases ra <;> rfl
        rw [e0] at h
        cases e1 : lstOf st d with
        | none => rw [e1] at h; exact h.elim
        | some l =>
          rw [e1] at h
          dsimp only at h
          cases e2 : bools l with
          | none => rw [e2] at h; exact h.elim
          | some bs =>
            rw [e2] at h
            obtain ⟨p, xs, rfl, hx, r⟩ := lstOf_at R e1 ra
            have exs := r.bools e2
            subst exs
            exact cr_all hc pins s σ H _ _ Q I rv ⟨p, bs, rfl, SqL.of hx, h.ok R (.bl _)⟩
      | any =>
        have e0 : blt .any m [d] st = (match lstOf st d with | some l => (match bools l with | some bs => .ok (.bl (bs.any id)) st | none => .bad) | none => .bad) := by cases ra <;> rfl
        rw [e0] at h
        cases e1 : lstOf st d with
        | none => rw [e1] at h; exact h.elim
        | some l =>
          rw [e1] at h
          dsimp only at h
          cases e2 : bools l with
          | none => rw [e2] at h; exact h.elim
          | some bs =>
            rw [e2] at h
            obtain ⟨p, xs, rfl, hx, r⟩ := lstOf_at R e1 ra
            have exs := r.bools e2
            subst exs
            exact cr_any hc pins s σ H _ _ Q I rv ⟨p, bs, rfl, SqL.of hx, h.ok R (.bl _)⟩
      | str =>
        cases ra <;> simp only [blt] at h <;> first | exact h.elim | skip
        · rename_i i
          split at h
          · rename_i hs
            refine call_str_int pins s σ H _ _ Q I rv ⟨i, rfl, smallT_ok hs, ?_⟩
            have e : toStr (strI i) = Str.ofString (toString i) := by simp [toStr, strI]
            have := h.ok R (.str (strI i))
            rw [e] at this
            exact this
          · exact h.elim
        · exact SkE.call_str_str pins s σ H _ _ Q I rv ⟨_, rfl, h.ok R (.str _)⟩
      | bool =>
        cases ra <;> simp only [blt] at h <;> first | exact h.elim | skip
        exact call_bool1 pins s σ H _ _ Q I rv (.inr ⟨_, rfl, h.ok R (.bl _)⟩)
    | @cons d2 v2 l ys ra2 rr =>
      cases rr with
      | nil =>
        cases f <;> first | (simp only [blt] at h; exact h.elim) | skip
        · cases ra <;> cases ra2 <;> simp only [blt] at h <;> first | exact h.elim | skip
          exact call_min2 hc pins s σ H _ _ Q I rv ⟨_, _, rfl, h.ok R (.int _)⟩
        · cases ra <;> cases ra2 <;> simp only [blt] at h <;> first | exact h.elim | skip
          exact call_max2 hc pins s σ H _ _ Q I rv ⟨_, _, rfl, h.ok R (.int _)⟩
      | cons _ _ => cases f <;> cases ra <;> cases ra2 <;> simp only [blt] at h <;> exact h.elim
end
def tyName : TY → String
  | .int => "int" | .bool => "bool" | .str => "str" | .tuple => "tuple" | .list => "list"
section
variable {T : Tx} {X : Cx} (hK : X.K = T.K)
include hK
/-- isinstance by values -/
theorem call_isiW (t : TY) : CallR X (.builtin "isinstance") (fun xs H Q => ∃ x, xs = [x, .ty (tyName t)] ∧ rU T (fun a st => match isiD t a st with | some b => .ok (.bl b) st | none => .bad) x H Q) := by
  intro pins s σ H xs us Q I rv ⟨x, ex, μ, st, a, R, ra, h⟩
  subst ex
  have go : ∀ {n : String} {b : Bool}, TyX X.K H x (.type n) → kitB n (tyName t) = some b → AftV T (RepT T) (.ok (.bl b) st) μ H Q → wpAny (model X.prog X.w) X.A (call (.builtin "isinstance") us) (EP X pins σ Q) X.xe s := fun {n b} ty e h =>
    call_isi pins s σ H _ us Q I rv ⟨x, _, _, _, b, rfl, .ty _, ty, kit_ty e, h.ok R (.bl b)⟩
  cases ra with
  | non => exact go (.base .non) (by cases t <;> decide +kernel) h
  | bl b => cases t <;> exact go (.base (.bl b)) (by decide +kernel) h
  | int i => cases t <;> exact go (.base (.int i)) (by decide +kernel) h
  | str y => cases t <;> exact go (.base (.str _)) (by decide +kernel) h
  | @tup a ys l h1 r =>
    have ty : TyX X.K H (.ref a) (.type "tuple") := by
      rw [hK]
      rcases h1 with (h1 | ⟨o, h1⟩) | ⟨o, its, n, h1, h2, _⟩
      · exact .base (.tup h1)
      · exact .fTuple h1
      · exact .kTuple h1 h2
    cases t <;> exact go ty (by decide +kernel) h
  | lst h1 h2 h3 => cases t <;> exact go (.base (.lst h1)) (by decide +kernel) h
  | scr hf => exact h.elim
  | @ref n a hn =>
    simp only [isiD] at h
    cases e0 : st[n]? with
    | none => rw [e0] at h; exact h.elim
    | some o =>
      rw [e0] at h
      cases o with
      | ins c fs => exact h.elim
      | lst l =>
        obtain ⟨b, xs, hb, hx, rs⟩ := R.lst e0
        rw [hn] at hb; cases hb
        cases t <;> exact go (.base (.lst hx)) (by decide +kernel) h
  | glo n => exact h.elim
end
def bmName : BM → Str
  | .append => "append" | .count => "count" | .index => "index" | .join => "join" | .split => "split"
def bmTy : BM → String
  | .append => "list" | .count => "list" | .index => "list" | .join => "str" | .split => "str"
def bmId : BM → String
  | .append => "list.append" | .count => "list.count" | .index => "list.index" | .join => "str.join" | .split => "str.split"
section
variable {T : Tx} {X : Cx} (hK : X.K = T.K)
include hK
theorem findIdx_spec {α : Type} {p : α → Bool} : ∀ {l : List α} {j : Nat}, l.findIdx? p = some j → ∃ z, l[j]? = some z ∧ p z = true ∧ ∀ (m : Nat) z', m < j → l[m]? = some z' → p z' = false := by
  intro l j e
  obtain ⟨h1, h2, h3⟩ := List.findIdx?_eq_some_iff_getElem.mp e
  refine ⟨l[j], List.getElem?_eq_getElem h1, h2, fun m z' hm hz => ?_⟩
  obtain ⟨h4, h5⟩ := List.getElem?_eq_some_iff.mp hz
  have := h3 m hm
  rw [h5] at this
  simpa using this
/-- the data of a list that is counted or searched -/
theorem look_list {μ : List Addr} {H : Hp} {st : Store} (R : Rel T μ st H) {d : D} {v : V} {qs : List PyData} (e : look st d = some (.list qs)) (r : Rep T μ H d v) : ∃ a xs, v = .ref a ∧ SqL T.K H a xs ∧ DpAll T.K H xs qs ∧ SeqAt.shaped (.list qs) = true := by
  obtain ⟨h1, h2⟩ := look_dp R e r
  cases h1 with
  | lst hs ha => exact ⟨_, _, rfl, hs, ha, h2⟩
theorem mt_W (hu : X.A.units + 65 < cLine) (f : BM) : MtR X (bmId f) (rM T (mth f)) := by
  intro pins s σ H x xs v us Q I rx rxs ⟨μ, st, d, ds, R, ra, rr, h⟩
  cases f with
  | append =>
    cases ra <;> simp only [mth] at h <;> first | exact h.elim | skip
    rename_i n p hn
    cases rr with
    | nil => exact h.elim
    | @cons d1 v1 l1 ys1 r1 rr =>
      cases rr with
      | cons _ _ => exact h.elim
      | nil =>
        dsimp only at h
        cases e0 : st[n]? with
        | none => rw [e0] at h; exact h.elim
        | some o =>
          rw [e0] at h
          cases o with
          | ins c fs => exact h.elim
          | lst l =>
            dsimp only at h
            split at h
            · rename_i hl
              obtain ⟨q, ys, hq, hx, rs⟩ := R.lst e0
              rw [hn] at hq; cases hq
              refine mt_append pins s σ H _ _ v us Q I rx rxs ⟨p, ys, _, rfl, rfl, hx, ?_, ?_⟩
              · rw [rs.length]; exact Nat.lt_of_lt_of_le hl limS
              · have xt : Ext μ H μ (upd H p (.lst (ys ++ [v1]))) := Ext.set R hn trivial
                exact h μ _ .non xt (R.set hn trivial ⟨_, upd_same, (rs.mono xt).append (.cons (r1.mono xt) .nil)⟩) .non
            · exact h.elim
  | count =>
    cases rr with
    | nil => exact h.elim
    | cons r1 rr =>
      cases rr with
      | cons _ _ => exact h.elim
      | nil =>
        simp only [mth] at h
        cases e1 : look st d with
        | none => rw [e1] at h; exact h.elim
        | some q =>
          rw [e1] at h
          cases q <;> first | exact h.elim | skip
          rename_i qs
          cases e2 : look st _ with
          | none => rw [e2] at h; exact h.elim
          | some p =>
            rw [e2] at h
            obtain ⟨a, ys, rfl, hs, hda, sl⟩ := look_list hK R e1 ra
            obtain ⟨hd, sd⟩ := look_dp R e2 r1
            rw [← hK] at hs hda hd
            obtain ⟨u, rfl, ru⟩ := rxs.one
            cases rx
            obtain ⟨as, k1⟩ := Dp.reads I p _ u hd ru
            have hxs : PyData.canLayAll0 qs = true := SeqAt.canLay_of_shaped sl
            have hroom := room_in_shaped (xs := qs) sd hu
            obtain ⟨its, rv, ⟨o, n, ho, hc, hdn, hdt⟩, hlen⟩ := I.list hs
            obtain ⟨cls, dd, data, sls⟩ := o
            simp only at hc hdt
            subst hc hdt
            obtain ⟨bs, k2⟩ := Dp.readsAll I qs _ its hda rv
            have hmap : its.map (SeqAt.readOf s.heap) = qs := SeqAt.readsAll_map qs its bs hxs k2
            refine call_meets PySem.F.slot_list_count ⟨_, ho, rfl⟩ PySem.F.entry_list_count (PySem.F.args_list_count_2 _ _)
              (SeqAt.list_countAt a its.toArray n dd sls u fun y => PyData.eqv (SeqAt.readOf s.heap y) p) ⟨ho, SeqAt.items_eqAt (vs := its.toArray) (by simpa using k2) k1 hxs (SeqAt.canLay_of_shaped sd) hroom, ?_⟩
            refine ⟨.int ((qs.filter fun z => PyData.eqv z p).length : Nat), H, I.tok _, ⟨s.toks, ?_⟩, h.ok R (.int _)⟩
            have ec : its.toArray.toList.countP (fun y => PyData.eqv (SeqAt.readOf s.heap y) p) = (qs.filter fun z => PyData.eqv z p).length := by
              rw [← hmap, ← List.countP_eq_length_filter, List.countP_map]
              rfl
            rw [ec]
  | index =>
    cases rr with
    | nil => exact h.elim
    | cons r1 rr =>
      cases rr with
      | cons _ _ => exact h.elim
      | nil =>
        simp only [mth] at h
        cases e1 : look st d with
        | none => rw [e1] at h; exact h.elim
        | some q =>
          rw [e1] at h
          cases q <;> first | exact h.elim | skip
          rename_i qs
          cases e2 : look st _ with
          | none => rw [e2] at h; exact h.elim
          | some p =>
            rw [e2] at h
            dsimp only at h
            cases e3 : qs.findIdx? (fun z => PyData.eqv z p) with
            | none => rw [e3] at h; exact h.elim
            | some j =>
              rw [e3] at h
              obtain ⟨a, ys, rfl, hs, hda, sl⟩ := look_list hK R e1 ra
              obtain ⟨hd, sd⟩ := look_dp R e2 r1
              obtain ⟨z, h1, h2, h3⟩ := findIdx_spec hK e3
              rw [← hK] at hs hda hd
              exact mt_indexD hu pins s σ H _ _ v us Q I rx rxs ⟨a, _, p, qs, j, z, rfl, rfl, .lst hs hda, hd, sl, sd, h1, h2, h3, h.ok R (.int _)⟩
  | join =>
    cases ra <;> simp only [mth] at h <;> first | exact h.elim | skip
    rename_i a
    cases rr with
    | nil => exact h.elim
    | @cons d1 v1 l1 ys1 r1 rr =>
      cases rr with
      | cons _ _ => exact h.elim
      | nil =>
        dsimp only at h
        cases e1 : seqOf st d1 with
        | none => rw [e1] at h; exact h.elim
        | some l =>
          rw [e1] at h
          dsimp only at h
          cases e2 : strsOf l with
          | none => rw [e2] at h; exact h.elim
          | some ys =>
            rw [e2] at h
            dsimp only at h
            split at h
            · rename_i hz
              obtain ⟨p, xs, rfl, hx, r⟩ := seqOf_at R e1 r1
              have ex := reps_strsOf r e2
              subst ex
              rw [← hK] at hx
              have el : ∀ ys : List (List Nat), (ys.map toStr).map (·.length) = ys.map (·.length) := fun ys => by simp [List.map_map, Function.comp_def, toStr, Str.length]
              refine mt_join pins s σ H _ _ v us Q I rx rxs ⟨toStr a, p, ys.map toStr, rfl, rfl, hx, ?_, ?_⟩
              · rw [el, List.length_map]
                have : (toStr a).length = a.length := by simp [toStr, Str.length]
                rw [this]
                exact Nat.le_trans hz (by decide)
              · have e : Txt.join (toStr a) (ys.map toStr) = toStr (TL.joinL a ys) := SX.join_S a ys
                rw [e]
                exact h.ok R (.str _)
            · exact h.elim
  | split =>
    cases ra <;> simp only [mth] at h <;> first | exact h.elim | skip
    rename_i a
    cases rr with
    | nil => exact h.elim
    | @cons d1 v1 l1 ys1 r1 rr =>
      cases rr with
      | cons _ _ => cases r1 <;> exact h.elim
      | nil =>
        cases r1 <;> first | exact h.elim | skip
        rename_i b
        dsimp only at h
        split at h
        · rename_i hs
          simp only [Bool.and_eq_true, Bool.not_eq_true', decide_eq_true_eq] at hs
          obtain ⟨⟨h1, h2⟩, h3⟩ := hs
          have hb : b ≠ [] := fun z => by rw [z] at h1; cases h1
          have e : Txt.split (toStr a) (toStr b) = (TL.spl b 0 [] a).map toStr := SX.split_S hb h2
          have la : (toStr a).length = a.length := by simp [toStr, Str.length]
          have lb : (toStr b).length = b.length := by simp [toStr, Str.length]
          refine mt_split pins s σ H _ _ v us Q I rx rxs ⟨toStr a, toStr b, rfl, rfl, ?_, ?_, ?_⟩
          · rw [lb]
            exact beq_eq_false_iff_ne.mpr fun z => hb (List.length_eq_zero_iff.mp z)
          · rw [la]; exact Nat.le_trans h3 limS
          · rw [e]
            have rs : Reps T μ H ((TL.spl b 0 [] a).map .str) (((TL.spl b 0 [] a).map toStr).map V.str) := reps_of_strs _
            intro p hp
            exact mkL_new (m := false) h R rs p hp
        · exact h.elim
end
end AF

/-! Chk: which program text a core text stands for. -/
namespace AF
open PySem PySem.Spec PyProof.Rows L2

/-- what the checker knows: the defs, the exception classes, the constants by name; the slots' names, the scope that runs; the block whose cells are its own -/
structure G where
  fns : List (Option Str × Nat)
  excs : List Str
  cons : List Str
  N : List Str
  sc : Scope
  blk : Option Scope
  par : List (Option Nat)
  ask : List Nat
  /-- the names of classes, attributes and methods -/
  nm : List Str := []
  /-- class, its name, its first def, how many parameters -/
  mks : List (Nat × Str × Nat × Nat) := []
  /-- class, method's name, def, how many parameters -/
  mths : List (Nat × Nat × Nat × Nat) := []
  /-- class, property's name, def -/
  prps : List (Nat × Nat × Nat) := []
  /-- class, its name, its first def, how many arguments ahead of the rest -/
  mkrs : List (Nat × Str × Nat × Nat) := []
  /-- special method, class, def, how many parameters -/
  duns : List (DU × Nat × Nat × Nat) := []
  /-- class, attribute -/
  flds : List (Nat × Nat) := []
/-- an own class below another one -/
def subOf (par : List (Option Nat)) (c C : Nat) : Bool := c == C || (match par[c]? with
  | some (some p) => p == C
  | _ => false)
def tabOf (par : List (Option Nat)) (n C : Nat) : List Bool := (List.range n).map fun c => subOf par c C
def G.fnOk (g : G) (x : Str) : Bool := match g.blk with
  | none => true
  | some s => s.names.lookup x == some .cell
def isVis : Option NameKind → Bool
  | some .local => true
  | some .cell => true
  | some .free => true
  | _ => false
def isGl : Option NameKind → Bool
  | some .globalImplicit => true
  | _ => false
def isLocal : Option NameKind → Bool
  | some .local => true
  | _ => false
def isCell : Option NameKind → Bool
  | some .cell => true
  | _ => false
def nmOk (g : G) (i : Nat) (x : Str) : Bool := decide (g.N[i]? = some x) && isVis (g.sc.names.lookup x) && !(x == ("__debug__" : Str)) && !(x == ("__classdict__" : Str))
def glOk (g : G) (x : Str) : Bool := isGl (g.sc.names.lookup x) && !(x == ("__debug__" : Str))
def tgOk (g : G) (i : Nat) (x : Str) : Bool := decide (g.N[i]? = some x) && (isLocal (g.sc.names.lookup x) || (isCell (g.sc.names.lookup x) && g.fnOk x))
def boM : BO → Operator → Bool
  | .add, .Add => true
  | .sub, .Sub => true
  | .mul, .Mult => true
  | .fdiv, .FloorDiv => true
  | .mod, .Mod => true
  | .pow, .Pow => true
  | _, _ => false
def coM : CO → CmpOp → Bool
  | .eq, .Eq => true
  | .ne, .NotEq => true
  | .lt, .Lt => true
  | .le, .LtE => true
  | .gt, .Gt => true
  | .ge, .GtE => true
  | .isin, .In => true
  | .notin, .NotIn => true
  | .is_, .Is => true
  | .isnot, .IsNot => true
  | _, _ => false
def isIf : Expr → Bool
  | .IfExp .. => true
  | _ => false
def isStar : Expr → Bool
  | .Starred .. => true
  | _ => false
def isSet : Expr → Bool
  | .Set .. => true
  | _ => false
def isSlice : Expr → Bool
  | .Slice .. => true
  | _ => false
def isCallE : Expr → Bool
  | .Call .. => true
  | _ => false
def isBO : Expr → Bool
  | .BoolOp .. => true
  | _ => false
def isComp : Expr → Bool
  | .ListComp .. => true
  | .SetComp .. => true
  | .DictComp .. => true
  | _ => false
def bfStr : BF → Str
  | .len => "len" | .int => "int" | .abs => "abs" | .min => "min" | .max => "max" | .sorted => "sorted" | .tuple => "tuple" | .list => "list" | .all => "all" | .any => "any" | .str => "str" | .bool => "bool"
def tyStr : TY → Str
  | .int => "int" | .bool => "bool" | .str => "str" | .tuple => "tuple" | .list => "list"
def Es.len : Es → Nat
  | .nil => 0
  | .cons _ r => r.len + 1
/-- the block's own names by their slots -/
def ownOf (N : List Str) (own : List Nat) : List (Str × Nat) := own.map fun i => ((N[i]?).getD "", i)
mutual
def chkT (g : G) : Tg → Expr → Bool
  | .name i, .Name x _ => tgOk g i x
  | .tup ts, .Tuple xs _ _ => chkTs g ts xs
  | _, _ => false
def chkTs (g : G) : List Tg → List Expr → Bool
  | [], [] => true
  | t :: ts, x :: xs => chkT g t x && !isStar x && chkTs g ts xs
  | _, _ => false
end

mutual
def tgI : Tg → List Nat
  | .name i => [i]
  | .tup ts => tgIs ts
def tgIs : List Tg → List Nat
  | [] => []
  | t :: ts => tgI t ++ tgIs ts
end
def subB (a b : List Nat) : Bool := a.all fun i => b.contains i
def G.inB (g : G) (scope : Scope) : G := { g with sc := relS scope g.sc, blk := some scope }
def isTupE : Expr → Bool
  | .Tuple .. => true
  | _ => false
def qVar (g : G) (i : Nat) : Expr → Bool
  | .Name x _ => nmOk g i x
  | _ => false
def qNon : Expr → Bool
  | .Constant .none _ _ => true
  | _ => false
def qBl (b : Bool) : Expr → Bool
  | .Constant (.bool c) _ _ => b == c
  | _ => false
def qInt (i : Int) : Expr → Bool
  | .Constant (.int j) _ _ => decide (i = j)
  | _ => false
def qStr (x : List Nat) : Expr → Bool
  | .Constant (.str y) _ _ => decide (toStr x = y)
  | _ => false
def qCon (g : G) (i : Nat) : Expr → Bool
  | .Name x _ => decide (g.cons[i]? = some x) && glOk g x
  | _ => false
def qTup (n : Nat) (es : List Expr → Bool) : Expr → Bool
  | .Tuple xs _ _ => es xs && decide (n ≤ 1000)
  | _ => false
/-- what is not reached -/
def qAny : Expr → Bool
  | .ListComp .. => false
  | _ => true
def qFst (es : List Expr → Bool) : Expr → Bool
  | .JoinedStr (v1 :: v2 :: rest) _ => es (v1 :: v2 :: rest)
  | _ => false
/-- a part of an f-string: a text, or a value -/
def qPart (g : G → Expr → Bool) (s : Option (List Nat)) (gg : G) : Expr → Bool
  | .Constant (.str x) _ _ => (match s with | some y => decide (x = toStr y) && decide (y.length ≤ LIM) | none => false)
  | .FormattedValue e k none _ => decide (k = -1) && g gg e
  | _ => false
def strOfE : E → Option (List Nat)
  | .str x => some x
  | _ => none
def qLst (n : Nat) (es : List Expr → Bool) : Expr → Bool
  | .List xs _ => es xs && decide (n ≤ 1000)
  | _ => false
def qBin (op : BO) (a b : Expr → Bool) : Expr → Bool
  | .BinOp x o y _ => boM op o && a x && b y
  | _ => false
def qNeg (a : Expr → Bool) : Expr → Bool
  | .UnaryOp .USub x _ => a x
  | _ => false
def qNot (a : Expr → Bool) : Expr → Bool
  | .UnaryOp .Not x _ => a x && !isIf x
  | _ => false
def qBo (o : BoolOp) (a b : Expr → Bool) : Expr → Bool
  | .BoolOp o' (x :: y :: rest) p => decide (o' = o) && a x && !isIf x && (match rest with
    | [] => b y && !isIf y
    | z :: zs => isBO (.BoolOp o (y :: z :: zs) p) && b (.BoolOp o (y :: z :: zs) p))
  | _ => false
def qCmp (op : CO) (a b : Expr → Bool) : Expr → Bool
  | .Compare x [o] [y] _ => coM op o && a x && b y && !isSet y
  | _ => false
def qChn (op op' : CO) (a b c : Expr → Bool) : Expr → Bool
  | .Compare x [o, o'] [y, z] _ => coM op o && coM op' o' && a x && b y && c z && !isSet z
  | _ => false
def qIte (c a b : Expr → Bool) : Expr → Bool
  | .IfExp t x y _ => c t && !isIf t && a x && b y
  | _ => false
def qIdx (a b : Expr → Bool) : Expr → Bool
  | .Subscript x y _ => a x && b y && !isSlice y
  | _ => false
def qSlc (a : Expr → Bool) (lo hi : Option Expr → Bool) : Expr → Bool
  | .Subscript x (.Slice l h none _) _ => a x && lo l && hi h
  | _ => false
def qCall (g : G) (f n : Nat) (es : List Expr → Bool) : Expr → Bool
  | .Call (.Name x _) xs [] _ => decide (g.fns[f]? = some (some x, n)) && glOk g x && es xs
  | _ => false
def qBlt (g : G) (f : BF) (es : List Expr → Bool) : Expr → Bool
  | .Call (.Name x _) (y :: ys) [] _ => decide (x = bfStr f) && glOk g x && es (y :: ys)
  | _ => false
def qIsi (g : G) (t : TY) (a : Expr → Bool) : Expr → Bool
  | .Call (.Name f _) [y, .Name x _] [] _ => decide (f = "isinstance") && glOk g f && decide (x = tyStr t) && glOk g x && a y && !isStar y
  | _ => false
def qMth (f : BM) (a : Expr → Bool) (n : Nat) (es : List Expr → Bool) : Expr → Bool
  | .Call (.Attribute o name apos) (y :: ys) [] cpos => decide (name = bmName f) && (apos.endLine == cpos.line) && a o && !isCallE o && es (y :: ys) && decide (n < 20)
  | _ => false
def qLc (g : G) (own : List Nat) (tg : Tg) (it : Expr → Expr → Bool) (c : G → List Expr → Bool) (e : G → Expr → Bool) : Expr → Bool
  | .ListComp elt [⟨t, i, ifs, 0⟩] scope _ => it t i && blkC g.N g.sc scope (ownOf g.N own) && subB (tgI tg) own && chkT (g.inB scope) tg t && c (g.inB scope) ifs && e (g.inB scope) elt && !isSet i
  | _ => false
def qLc2 (g : G) (own own1 : List Nat) (tg : Tg) (it : Expr → Expr → Bool) (tg1 : Tg) (it1 : G → Expr → Expr → Bool) (e : G → Expr → Bool) : Expr → Bool
  | .ListComp elt [⟨t, i, [], 0⟩, ⟨t1, i1, [], 0⟩] scope _ => it t i && blkC g.N g.sc scope (ownOf g.N own) && subB (tgI tg) own && subB own1 own && subB (tgI tg1) own1 && chkT (g.inB scope) tg t && chkT (g.inB scope) tg1 t1 && it1 (g.inB scope) t1 i1 && e (g.inB scope) elt && !isSet i && !isSet i1
  | _ => false
def qRng1 (g : G) (a : Expr → Bool) : Expr → Bool
  | .Call (.Name f _) [x] [] _ => decide (f = "range") && glOk g f && a x && !isStar x
  | _ => false
def qRng2 (g : G) (a b : Expr → Bool) : Expr → Bool
  | .Call (.Name f _) [x, y] [] _ => decide (f = "range") && glOk g f && a x && !isStar x && b y && !isStar y
  | _ => false
def qZip (g : G) (a b : Expr → Bool) : Expr → Bool
  | .Call (.Name f _) [x, y] [] _ => decide (f = "zip") && glOk g f && a x && !isStar x && b y && !isStar y
  | _ => false
def qEnum (g : G) (a : Expr → Bool) : Expr → Bool
  | .Call (.Name f _) [x] [] _ => decide (f = "enumerate") && glOk g f && a x && !isStar x
  | _ => false
def qMk (g : G) (c f n : Nat) (es : List Expr → Bool) : Expr → Bool
  | .Call (.Name x _) xs [] _ => g.mks.contains (c, x, f, n + 1) && glOk g x && es xs
  | _ => false
def qMkR (g : G) (c f r n : Nat) (es s : List Expr → Bool) : Expr → Bool
  | .Call (.Name x _) (y :: ys) [] _ => g.mkrs.contains (c, x, f, r) && glOk g x && decide (0 < n) && es ((y :: ys).take n) && s ((y :: ys).drop n)
  | _ => false
def qDun (g : G) (u : DU) (c f n : Nat) (a : Expr → Bool) (es : List Expr → Bool) : Expr → Bool
  | .Call (.Name x p) (y :: ys) [] _ => g.duns.contains (u, c, f, n + 1) && (match u with
    | .len => decide (x = "len") && glOk g x && ys.isEmpty && a y && !isStar y && es []
    | .bool => decide (x = "bool") && glOk g x && ys.isEmpty && a y && !isStar y && es []
    | .call => a (.Name x p) && es (y :: ys)
    | _ => false)
  | .BinOp x .Add y _ => g.duns.contains (u, c, f, n + 1) && (match u with
    | .add => a x && es [y]
    | _ => false)
  | _ => false
def qFld (g : G) (c f : Nat) (a : Expr → Bool) : Expr → Bool
  | .Attribute o name _ => g.flds.contains (c, f) && decide (g.nm[f]? = some name) && a o && !isCallE o
  | _ => false
def qPrp (g : G) (c d f : Nat) (a : Expr → Bool) : Expr → Bool
  | .Attribute o name _ => g.prps.contains (c, f, d) && decide (g.nm[f]? = some name) && a o && !isCallE o
  | _ => false
def qMet (g : G) (c d m n : Nat) (a : Expr → Bool) (es : List Expr → Bool) : Expr → Bool
  | .Call (.Attribute o name apos) xs [] cpos => g.mths.contains (c, m, d, n + 1) && decide (g.nm[m]? = some name) && a o && !isCallE o && es xs && (apos.endLine == cpos.line) && decide (n < 20)
  | _ => false
mutual
def chkE : E → G → Expr → Bool
  | .var i, g, c => qVar g i c
  | .non, _, c => qNon c
  | .bl b, _, c => qBl b c
  | .int i, _, c => qInt i c
  | .str x, _, c => qStr x c
  | .con i, g, c => qCon g i c
  | .tup es, g, c => qTup es.len (chkEs es g) c
  | .lst _ es, g, c => qLst es.len (chkEs es g) c
  | .any, _, c => qAny c
  | .mk k f es, g, c => qMk g k f es.len (chkEs es g) c
  | .mkR k f r es s, g, c => qMkR g k f r es.len (chkEs es g) (chkSt s g) c
  | .dun u k f a es, g, c => qDun g u k f es.len (chkE a g) (chkEs es g) c
  | .fld k a f, g, c => qFld g k f (chkE a g) c
  | .prp k d a f, g, c => qPrp g k d f (chkE a g) c
  | .met k d a m es, g, c => qMet g k d m es.len (chkE a g) (chkEs es g) c
  | .isC _ _, _, _ => false
  | .fst es, g, c => qFst (chkFs es g) c
  | .bin op _ a b, g, c => qBin op (chkE a g) (chkE b g) c
  | .neg a, g, c => qNeg (chkE a g) c
  | .not a, g, c => qNot (chkE a g) c
  | .and a b, g, c => qBo .And (chkE a g) (chkE b g) c
  | .or a b, g, c => qBo .Or (chkE a g) (chkE b g) c
  | .cmp op a b, g, c => qCmp op (chkE a g) (chkE b g) c
  | .chn op op' a b d, g, c => qChn op op' (chkE a g) (chkE b g) (chkE d g) c
  | .ite t a b, g, c => qIte (chkE t g) (chkE a g) (chkE b g) c
  | .idx a b, g, c => qIdx (chkE a g) (chkE b g) c
  | .slc a lo hi, g, c => qSlc (chkE a g) (chkOe lo g) (chkOe hi g) c
  | .call f es, g, c => qCall g f es.len (chkEs es g) c
  | .blt f _ es, g, c => qBlt g f (chkEs es g) c
  | .isi t a, g, c => qIsi g t (chkE a g) c
  | .mth f a es, g, c => qMth f (chkE a g) es.len (chkEs es g) c
  | .lc _ own tg it d e, g, c => qLc g own tg (chkIt it g) (chkOc d) (chkE e) c
  | .lc2 _ own own1 tg it tg1 it1 e, g, c => qLc2 g own own1 tg (chkIt it g) tg1 (chkIt it1) (chkE e) c
def chkEs : Es → G → List Expr → Bool
  | .nil, _, xs => xs.isEmpty
  | .cons e es, g, xs => match xs with
    | x :: xs => chkE e g x && !isStar x && chkEs es g xs
    | [] => false
def chkFs : Es → G → List Expr → Bool
  | .nil, _, xs => xs.isEmpty
  | .cons e es, g, xs => match xs with
    | x :: xs => qPart (chkE e) (strOfE e) g x && chkFs es g xs
    | [] => false
def chkOe : Oe → G → Option Expr → Bool
  | .none, _, x => x.isNone
  | .some e, g, x => match x with
    | some x => chkE e g x
    | none => false
/-- a starred argument -/
def chkSt : Oe → G → List Expr → Bool
  | .none, _, xs => xs.isEmpty
  | .some e, g, xs => match xs with
    | [.Starred x _] => chkE e g x
    | _ => false
/-- a comprehension's tests -/
def chkOc : Oe → G → List Expr → Bool
  | .none, _, x => x.isEmpty
  | .some e, g, x => match x with
    | [x] => chkE e g x && !isIf x
    | _ => false
/-- a source, its target as written -/
def chkIt : It → G → Expr → Expr → Bool
  | .of a, g, _, x => chkE a g x && !isSet x
  | .rng1 a, g, _, x => qRng1 g (chkE a g) x
  | .rng2 a b, g, _, x => qRng2 g (chkE a g) (chkE b g) x
  | .zip a b, g, t, x => isTupE t && qZip g (chkE a g) (chkE b g) x
  | .enum a, g, t, x => isTupE t && qEnum g (chkE a g) x
end
/-- the names that a tuple of names at once stores from the right -/
def swapP (sc : Scope) (ts vs : List Expr) : Option (List Str) :=
  if !(ts.length == 2 || ts.length == 3) || vs.length != ts.length then none
  else if vs.any fun | .Starred .. => true | _ => false then none
  else
    let line := (ts.head?.map (·.pos.line)).getD 0
    let names := ts.filterMap fun
      | .Name id pos => if sc.names.lookup id == some .local && pos.line == line then some id else none
      | _ => none
    if names.length != ts.length || names.eraseDups.length != names.length then none
    else if vs.all (foldedForSure 8) then none
    else some names
def swapBad (vs : List Expr) : Bool := vs.all (constantsAlone 8) && !vs.all (foldedForSure 8)
/-- a comprehension's value goes to a name's slot ahead of the block's end -/
def swLc (sc : Scope) (y : Str) (py : Pos) (scope : Scope) (pos : Pos) : Bool :=
  sc.names.lookup y == some .local && py.line == pos.line && !(scope.names.any fun (n, k) => n == y && (k == .local || k == .cell))
def chkTup2 (g : G) (t : Tg) (x : Expr) : Bool := chkT g t x
/-- names at once: (stored from the right) or not at all so -/
def qAsgT (g : G) (ts : List Tg) (e : Expr → Bool) : Stmt → Bool
  | .Assign [.Tuple xs kt pt] v _ => chkTs g ts xs && e v && !isComp v && (match v with
      | .Tuple vs _ _ => !swapBad vs && (match swapP g.sc xs vs with | none => true | some _ => false)
      | _ => true)
  | _ => false
def qSw (g : G) (ts : List Tg) (n : Nat) (es : List Expr → Bool) : Stmt → Bool
  | .Assign [.Tuple [.Name x px, .Name y py] kt pt] (.Tuple vs k2 pt2) _ => es vs && !swapBad vs && decide (swapP g.sc [.Name x px, .Name y py] vs = some [x, y]) && decide (n = 2) && (match ts with
      | [.name i, .name j] => decide (i ≠ j) && decide (g.N[i]? = some x) && decide (g.N[j]? = some y) && isLocal (g.sc.names.lookup x) && isLocal (g.sc.names.lookup y)
      | _ => false)
  | .Assign [.Tuple [.Name x px, .Name y py, .Name z pz] kt pt] (.Tuple vs k2 pt2) _ => es vs && !swapBad vs && decide (swapP g.sc [.Name x px, .Name y py, .Name z pz] vs = some [x, y, z]) && decide (n = 3) && (match ts with
      | [.name i, .name j, .name k] => decide (i ≠ j) && decide (i ≠ k) && decide (j ≠ k) && decide (g.N[i]? = some x) && decide (g.N[j]? = some y) && decide (g.N[k]? = some z) && isLocal (g.sc.names.lookup x) && isLocal (g.sc.names.lookup y) && isLocal (g.sc.names.lookup z)
      | _ => false)
  | _ => false
def isLc : E → Bool
  | .lc .. => true
  | .lc2 .. => true
  | _ => false
def qAsgN (g : G) (i : Nat) (e : Expr → Bool) : Stmt → Bool
  | .Assign [.Name x p] v _ => tgOk g i x && e v && (match v with
      | .ListComp _ _ scope pos => if swLc g.sc x p scope pos then isLocal (g.sc.names.lookup x) else true
      | .SetComp .. => false
      | .DictComp .. => false
      | _ => true)
  | _ => false
def qSetI (a i e : Expr → Bool) : Stmt → Bool
  | .Assign [.Subscript x y _] v _ => e v && a x && i y && !isSlice y && !isComp v
  | _ => false
def qSetF (g : G) (k f : Nat) (a e : Expr → Bool) : Stmt → Bool
  | .Assign [.Attribute o name _] v _ => g.flds.contains (k, f) && decide (g.nm[f]? = some name) && a o && e v && !isCallE o && !isComp v
  | _ => false
def qExpr (e : Expr → Bool) : Stmt → Bool
  | .Expr x _ => e x && !isComp x
  | _ => false
def qRet (e : Expr → Bool) : Stmt → Bool
  | .Return (some x) _ => e x
  | _ => false
def qRetN : Stmt → Bool
  | .Return none _ => true
  | _ => false
def qPass : Stmt → Bool
  | .Pass _ => true
  | _ => false
def qBrk : Stmt → Bool
  | .Break _ => true
  | _ => false
def qCont : Stmt → Bool
  | .Continue _ => true
  | _ => false
def qIf (c : Expr → Bool) (a b : List Stmt → Bool) : Stmt → Bool
  | .If t x y _ => c t && !isIf t && a x && b y
  | _ => false
def qWhl (c : Expr → Bool) (a : List Stmt → Bool) : Stmt → Bool
  | .While t x [] _ => c t && !isIf t && a x
  | _ => false
def qFor (g : G) (tg : Tg) (it : Expr → Expr → Bool) (a : List Stmt → Bool) : Stmt → Bool
  | .For t i x [] _ => it t i && chkT g tg t && a x && !isSet i
  | _ => false
def qRais (g : G) (c n : Nat) : Stmt → Bool
  | .Raise (some (.Call (.Name x _) [.Constant (.str _) _ _] [] _)) none _ => decide (g.excs[c]? = some x) && glOk g x && decide (n = 0)
  | _ => false
def qHrS (x : List Nat) : Expr → Bool
  | .Constant (.str s) _ _ => decide (s = toStr x)
  | _ => false
def nmI (g : G) (n : Option Str) (i : Option Nat) (m : Str) : Bool := match n, i with
  | some n, some i => decide (m = n) && nmOk g i n
  | _, _ => false
def qHrI (g : G) (n : Option Str) (i : Option Nat) (C : Nat) (tab : List Bool) (x y : List Nat) : Expr → Bool
  | .IfExp (.Call (.Name f _) [.Name m _, .Name z _] [] _) (.Constant (.str s) _ _) (.Constant (.str t) _ _) _ =>
    decide (f = "isinstance") && glOk g f && nmI g n i m && decide (g.excs[C]? = some z) && glOk g z && decide (tab = tabOf g.par g.excs.length C) && g.ask.contains C && decide (s = toStr x) && decide (t = toStr y)
  | _ => false
def qHr (g : G) (n : Option Str) (i : Option Nat) : Hr → Expr → Bool
  | .str x => qHrS x
  | .isx C tab x y => qHrI g n i C tab x y
def qHd (g : G) (h : Hd) : ExceptHandler → Bool
  | .ExceptHandler (some (.Name x _)) n [.Return (some e) _] _ => decide (g.excs[h.c]? = some x) && glOk g x && decide (h.tab = tabOf g.par g.excs.length h.c) && g.ask.contains h.c && (match n, h.i with
      | none, none => true
      | some n, some i => decide (g.N[i]? = some n) && isLocal (g.sc.names.lookup n)
      | _, _ => false) && qHr g n h.i h.r e
  | _ => false
def qHds (g : G) : List Hd → List ExceptHandler → Bool
  | [], [] => true
  | h :: r, x :: xs => qHd g h x && qHds g r xs
  | _, _ => false
def qTry (a : List Stmt → Bool) (hs : List ExceptHandler → Bool) : Stmt → Bool
  | .Try b (h :: hds) [] [] _ => a b && hs (h :: hds)
  | _ => false
def esOf : E → Option Es
  | .tup es => some es
  | _ => none
mutual
def chkS : S → G → Stmt → Bool
  | .asg t e, g, c => (match t with
    | .name i => qAsgN g i (chkE e g) c
    | .tup ts => qAsgT g ts (chkE e g) c || (match e with
      | .tup es => qSw g ts es.len (chkEs es g) c
      | _ => false))
  | .setI a i e, g, c => qSetI (chkE a g) (chkE i g) (chkE e g) c
  | .expr e, g, c => qExpr (chkE e g) c
  | .ret e, g, c => qRet (chkE e g) c
  | .retN, _, c => qRetN c
  | .pass, _, c => qPass c
  | .any, _, _ => true
  | .setF k a f e, g, c => qSetF g k f (chkE a g) (chkE e g) c
  | .brk, _, c => qBrk c
  | .cont, _, c => qCont c
  | .ite t a b, g, c => qIf (chkE t g) (chkSs a g) (chkSs b g) c
  | .whl t a, g, c => qWhl (chkE t g) (chkSs a g) c
  | .for_ tg it a, g, c => qFor g tg (chkIt it g) (chkSs a g) c
  | .rais x es, g, c => qRais g x es.len c
  | .tryr a hs, g, c => qTry (chkSs a g) (qHds g hs) c
def chkSs : Ss → G → List Stmt → Bool
  | .nil, _, c => c.isEmpty
  | .cons s r, g, c => match c with
    | x :: xs => chkS s g x && chkSs r g xs
    | [] => false
end
end AF

/-! Snd1: the expressions, one step each. -/
namespace AF
open PySem PySem.Spec PyProof.Rows L2

theorem mkL_ne {m : Bool} {l : List D} {st : Store} {x : Ex} {s : Store} : mkL m l st ≠ .exc x s := by
  unfold mkL; split <;> simp
theorem bin_ne {op : BO} {m : Bool} {a b : D} {st : Store} (x : Ex) (s : Store) : bin op m a b st ≠ .exc x s := by
  unfold bin
  repeat' split
  all_goals first | exact mkL_ne | simp
theorem cmp_ne {op : CO} {a b : D} {st : Store} (x : Ex) (s : Store) : cmp op a b st ≠ .exc x s := by
  unfold cmp
  repeat' split
  all_goals simp
theorem idx_ne {a b : D} {st : Store} (x : Ex) (s : Store) : idx a b st ≠ .exc x s := by
  unfold idx
  repeat' split
  all_goals simp
theorem slc_ne {a : D} {lo hi : Option Int} {st : Store} (x : Ex) (s : Store) : slc a lo hi st ≠ .exc x s := by
  unfold slc
  repeat' split
  all_goals simp
theorem blt_ne {f : BF} {m : Bool} {xs : List D} {st : Store} (x : Ex) (s : Store) : blt f m xs st ≠ .exc x s := by
  unfold blt
  repeat' split
  all_goals first | exact mkL_ne | simp
theorem mth_ne {f : BM} {a : D} {xs : List D} {st : Store} (x : Ex) (s : Store) : mth f a xs st ≠ .exc x s := by
  unfold mth
  repeat' split
  all_goals simp
theorem setI_ne {a i v : D} {st : Store} (x : Ex) (s : Store) : setI a i v st ≠ .exc x s := by
  unfold setI
  repeat' split
  all_goals simp
theorem srcOf_ne {d : D} {st : Store} (x : Ex) (s : Store) : srcOf d st ≠ .exc x s := by
  unfold srcOf
  repeat' split
  all_goals simp

section
variable {T : Tx} {W : WX} {σ : L2.St} {α β γ δ : Type} {μ μ' : List Addr} {H H' : Hp} {st : Store}
/-- a test leads on -/
theorem Aft.test {RB : List Addr → Hp → γ → δ → Prop} {r : R D} {f g : Store → R γ} {Q : δ → Hp → Prop}
    (h : Aft T W σ RB (r.bind fun x st => match x with | .bl true => f st | .bl false => g st | _ => .bad) μ H Q) :
    Aft T W σ REq (asB r) μ H fun b H1 => ∃ μ1 st1, Ext μ H μ1 H1 ∧ Rel T μ1 st1 H1 ∧ Aft T W σ RB (if b = true then f st1 else g st1) μ1 H1 Q := by
  cases r with
  | ok d s1 =>
    cases d with
    | bl b =>
      cases b with
      | true => exact fun μ2 H2 v e R P => by subst P; exact ⟨μ2, s1, e, R, Aft.shift h e⟩
      | false => exact fun μ2 H2 v e R P => by subst P; exact ⟨μ2, s1, e, R, Aft.shift h e⟩
    | _ => exact h.elim
  | exc y s1 => exact h
  | bad => exact h
/-- .. as a value -/
theorem Aft.testV {RB : List Addr → Hp → γ → δ → Prop} {r : R D} {f g : Store → R γ} {Q : δ → Hp → Prop}
    (h : Aft T W σ RB (r.bind fun x st => match x with | .bl true => f st | .bl false => g st | _ => .bad) μ H Q) :
    Aft T W σ (RepT T) r μ H fun v H1 => ∃ b μ1 st1, v = .bl b ∧ Ext μ H μ1 H1 ∧ Rel T μ1 st1 H1 ∧ Aft T W σ RB (if b = true then f st1 else g st1) μ1 H1 Q := by
  cases r with
  | ok d s1 =>
    cases d with
    | bl b =>
      cases b with
      | true => exact fun μ2 H2 v e R P => by cases P; exact ⟨true, μ2, s1, rfl, e, R, Aft.shift h e⟩
      | false => exact fun μ2 H2 v e R P => by cases P; exact ⟨false, μ2, s1, rfl, e, R, Aft.shift h e⟩
    | _ => exact h.elim
  | exc y s1 => exact h
  | bad => exact h
theorem asB_bind {r : R α} {f : α → Store → R D} : asB (r.bind f) = r.bind fun a st => asB (f a st) := by
  cases r <;> rfl
/-- a value that is a bool, as a test -/
theorem Aft.asB {r : R D} {Q : Bool → Hp → Prop} (h : Aft T W σ REq (asB r) μ H Q) : Aft T W σ (RepT T) r μ H fun v H1 => ∃ b, v = .bl b ∧ Q b H1 := by
  cases r with
  | ok d s1 =>
    cases d with
    | bl b => exact fun μ2 H2 v e R P => by cases P; exact ⟨b, rfl, h μ2 H2 b e R rfl⟩
    | _ => exact h.elim
  | exc y s1 => exact h
  | bad => exact h
end

section
variable {X : Cx} {T : Tx} {W : WX} {kn : Kn} {pos : Pos} {x y z : Expr} {a b c : E}
theorem sE_var {i : Nat} {n : Str} (hN : X.N[i]? = some n) (hv : Vis X.env.scope n) (hd : (n == ("__debug__" : Str)) = false) (hcd : (n == ("__classdict__" : Str)) = false) : PE X (.Name n pos) (rdE T W (evE kn (.var i))) :=
  PE.weak (pe_var hN hv hd hcd) fun σ H Q ⟨μ, ρ, st, R, re, A⟩ => by
    simp only [evE] at A
    cases e : ρ[i]? with
    | none => rw [e] at A; exact A.elim
    | some o =>
      cases o with
      | none => rw [e] at A; exact A.elim
      | some d =>
        rw [e] at A
        obtain ⟨v, h1, h2⟩ := re.get i d e
        exact ⟨v, h1, A.ok R h2⟩
theorem sE_non {j} : PE X (.Constant .none j pos) (rdE T W (evE kn .non)) := PE.weak pe_non fun σ H Q ⟨μ, ρ, st, R, re, A⟩ => by simp only [evE] at A; exact A.ok R .non
theorem sE_bl {j} {b : Bool} : PE X (.Constant (.bool b) j pos) (rdE T W (evE kn (.bl b))) := PE.weak pe_bl fun σ H Q ⟨μ, ρ, st, R, re, A⟩ => by simp only [evE] at A; exact A.ok R (.bl b)
theorem sE_int {j} {i : Int} : PE X (.Constant (.int i) j pos) (rdE T W (evE kn (.int i))) := PE.weak pe_int fun σ H Q ⟨μ, ρ, st, R, re, A⟩ => by simp only [evE] at A; exact A.ok R (.int i)
theorem sE_str {j} {s : List Nat} : PE X (.Constant (.str (toStr s)) j pos) (rdE T W (evE kn (.str s))) := PE.weak pe_str fun σ H Q ⟨μ, ρ, st, R, re, A⟩ => by simp only [evE] at A; exact A.ok R (.str s)
theorem sE_bin {o : Operator} {op : BO} {m : Bool} (ho : OpR X (binaryOp o) (rB T (bin op m))) (ha : PE X x (rdE T W (evE kn a))) (hb : PE X y (rdE T W (evE kn b))) : PE X (.BinOp x o y pos) (rdE T W (evE kn (.bin op m a b))) :=
  PE.weak (pe_op ho ha hb) fun σ H Q ⟨μ, ρ, st, R, re, A⟩ => by
    simp only [evE] at A
    exact ⟨μ, ρ, st, R, re, A.bind.mono fun v H1 ⟨μ1, d, st1, _, x1, R1, P1, A1⟩ => ⟨μ1, ρ, st1, R1, re.mono x1, A1.bind.mono fun w H2 ⟨μ2, d2, st2, _, x2, R2, P2, A2⟩ =>
      ⟨μ2, st2, d, d2, R2, P1.mono x2, P2, A2.v bin_ne⟩⟩⟩
theorem sE_neg (ho : UnR X (unaryOp .USub) (rU T fun a st => match a with | .int i => .ok (.int (-i)) st | _ => .bad)) (ha : PE X x (rdE T W (evE kn a))) : PE X (.UnaryOp .USub x pos) (rdE T W (evE kn (.neg a))) :=
  PE.weak (pe_un ho ha) fun σ H Q ⟨μ, ρ, st, R, re, A⟩ => by
    simp only [evE] at A
    exact ⟨μ, ρ, st, R, re, A.bind.mono fun v H1 ⟨μ1, d, st1, _, x1, R1, P1, A1⟩ => ⟨μ1, st1, d, R1, P1, A1.v fun _ _ => by split <;> simp⟩⟩
theorem sE_idx (ho : IxR X (rB T idx)) (hs : PlainIx y) (ha : PE X x (rdE T W (evE kn a))) (hb : PE X y (rdE T W (evE kn b))) : PE X (.Subscript x y pos) (rdE T W (evE kn (.idx a b))) :=
  PE.weak (pe_ix ho ha hb hs) fun σ H Q ⟨μ, ρ, st, R, re, A⟩ => by
    simp only [evE] at A
    exact ⟨μ, ρ, st, R, re, A.bind.mono fun v H1 ⟨μ1, d, st1, _, x1, R1, P1, A1⟩ => ⟨μ1, ρ, st1, R1, re.mono x1, A1.bind.mono fun w H2 ⟨μ2, d2, st2, _, x2, R2, P2, A2⟩ =>
      ⟨μ2, st2, d, d2, R2, P1.mono x2, P2, A2.v idx_ne⟩⟩⟩
theorem sE_cmp {o : CmpOp} {op : CO} (ho : OpR X (compareOp o) (rB T (cmp op))) (hm : behindInMarks o y = false) (ha : PE X x (rdE T W (evE kn a))) (hb : PE X y (rdE T W (evE kn b))) : PE X (.Compare x [o] [y] pos) (rdE T W (evE kn (.cmp op a b))) :=
  PE.weak (pe_cmpR ho ha hb hm) fun σ H Q ⟨μ, ρ, st, R, re, A⟩ => by
    simp only [evE] at A
    exact ⟨μ, ρ, st, R, re, A.bind.mono fun v H1 ⟨μ1, d, st1, _, x1, R1, P1, A1⟩ => ⟨μ1, ρ, st1, R1, re.mono x1, A1.bind.mono fun w H2 ⟨μ2, d2, st2, _, x2, R2, P2, A2⟩ =>
      ⟨μ2, st2, d, d2, R2, P1.mono x2, P2, A2.v cmp_ne⟩⟩⟩
theorem sT_cmp {o : CmpOp} {op : CO} (ho : OpR X (compareOp o) (rB T (cmp op))) (hm : behindInMarks o y = false) (ha : PE X x (rdE T W (evE kn a))) (hb : PE X y (rdE T W (evE kn b))) : PT X (.Compare x [o] [y] pos) (rdT T W (evE kn (.cmp op a b))) :=
  PT.weak (pt_cmpR ho ha hb hm) fun σ H Q ⟨μ, ρ, st, R, re, A⟩ => by
    have A := A.asB
    simp only [evE] at A
    exact ⟨μ, ρ, st, R, re, A.bind.mono fun v H1 ⟨μ1, d, st1, _, x1, R1, P1, A1⟩ => ⟨μ1, ρ, st1, R1, re.mono x1, A1.bind.mono fun w H2 ⟨μ2, d2, st2, _, x2, R2, P2, A2⟩ =>
      ⟨μ2, st2, d, d2, R2, P1.mono x2, P2, A2.v cmp_ne⟩⟩⟩
/-- a plain expression as a test -/
theorem sT_val {e : E} (h : PE X x (rdE T W (evE kn e))) (he : ∀ whole, isTrue x X.env whole = (do let v ← whole; standAt x.pos; holding [v] (truthy v))) : PT X x (rdT T W (evE kn e)) :=
  PT.weak (pt_val h he) fun σ H Q ⟨μ, ρ, st, R, re, A⟩ => ⟨μ, ρ, st, R, re, A.asB⟩
theorem sE_not (ha : PE X x (rdE T W (evE kn a))) : PE X (.UnaryOp .Not x pos) (rdE T W (evE kn (.not a))) :=
  PE.weak (pe_not ha) fun σ H Q ⟨μ, ρ, st, R, re, A⟩ => by
    simp only [evE] at A
    refine ⟨μ, ρ, st, R, re, A.bind.mono fun v H1 ⟨μ1, d, st1, _, x1, R1, P1, A1⟩ => ?_⟩
    cases P1 with
    | bl b => exact ⟨b, rfl, A1.ok R1 (.bl _)⟩
    | _ => exact A1.elim
theorem sT_not (ha : PT X x (rdT T W (evE kn a))) : PT X (.UnaryOp .Not x pos) (rdT T W (evE kn (.not a))) :=
  PT.weak (pt_not ha) fun σ H Q ⟨μ, ρ, st, R, re, A⟩ => by
    simp only [evE, asB_bind] at A
    refine ⟨μ, ρ, st, R, re, ?_⟩
    cases e : evE kn a ρ st with
    | ok d s1 =>
      rw [e] at A
      cases d with
      | bl b => exact fun μ2 H2 v ex R2 P => by subst P; exact A μ2 H2 _ ex R2 rfl
      | _ => exact A.elim
    | exc y s1 => rw [e] at A; exact A
    | bad => rw [e] at A; exact A
theorem sE_ite (hc : PT X x (rdT T W (evE kn c))) (ha : PE X y (rdE T W (evE kn a))) (hb : PE X z (rdE T W (evE kn b))) : PE X (.IfExp x y z pos) (rdE T W (evE kn (.ite c a b))) :=
  PE.weak (pe_ifExp hc ha hb) fun σ H Q ⟨μ, ρ, st, R, re, A⟩ => by
    simp only [evE] at A
    refine ⟨μ, ρ, st, R, re, (Aft.test (f := fun st => evE kn a ρ st) (g := fun st => evE kn b ρ st) A).mono fun b H1 ⟨μ1, st1, x1, R1, A1⟩ => ?_⟩
    cases b with
    | true => exact ⟨μ1, ρ, st1, R1, re.mono x1, A1⟩
    | false => exact ⟨μ1, ρ, st1, R1, re.mono x1, A1⟩
/-! and, or -/
variable {rest : List Expr}
theorem sE_and1 (ha : PE X x (rdE T W (evE kn a))) (hb : PE X (.BoolOp .And (y :: rest) pos) (rdE T W (evE kn b))) : PE X (.BoolOp .And (x :: y :: rest) pos) (rdE T W (evE kn (.and a b))) :=
  PE.weak (pe_and ha hb) fun σ H Q ⟨μ, ρ, st, R, re, A⟩ => by
    simp only [evE] at A
    refine ⟨μ, ρ, st, R, re, (Aft.testV (f := fun st => evE kn b ρ st) (g := fun st => .ok (.bl false) st) A).mono fun v H1 ⟨b, μ1, st1, e, x1, R1, A1⟩ => ⟨b, e, ?_⟩⟩
    cases b with
    | true => exact ⟨μ1, ρ, st1, R1, re.mono x1, A1⟩
    | false => exact A1.ok R1 (.bl false)
theorem sE_or1 (ha : PE X x (rdE T W (evE kn a))) (hb : PE X (.BoolOp .Or (y :: rest) pos) (rdE T W (evE kn b))) : PE X (.BoolOp .Or (x :: y :: rest) pos) (rdE T W (evE kn (.or a b))) :=
  PE.weak (pe_or ha hb) fun σ H Q ⟨μ, ρ, st, R, re, A⟩ => by
    simp only [evE] at A
    refine ⟨μ, ρ, st, R, re, (Aft.testV (f := fun st => .ok (.bl true) st) (g := fun st => evE kn b ρ st) A).mono fun v H1 ⟨b, μ1, st1, e, x1, R1, A1⟩ => ⟨b, e, ?_⟩⟩
    cases b with
    | true => exact A1.ok R1 (.bl true)
    | false => exact ⟨μ1, ρ, st1, R1, re.mono x1, A1⟩
theorem asB_test {r : R D} {f g : Store → R D} : asB (r.bind fun x st => match x with | .bl true => f st | .bl false => g st | _ => .bad) = r.bind fun x st => match x with | .bl true => asB (f st) | .bl false => asB (g st) | _ => .bad := by
  rw [asB_bind]
  congr 1
  funext d s
  split <;> rfl
theorem sW_and1 (ha : PT X x (rdT T W (evE kn a))) (hb : PW X (.BoolOp .And (y :: rest) pos) (rdT T W (evE kn b))) : PW X (.BoolOp .And (x :: y :: rest) pos) (rdT T W (evE kn (.and a b))) :=
  PW.weak (pw_and ha hb) fun σ H Q ⟨μ, ρ, st, R, re, A⟩ => by
    simp only [evE] at A
    have A := (asB_test (r := evE kn a ρ st) (f := fun st => evE kn b ρ st) (g := fun st => .ok (.bl false) st)) ▸ A
    refine ⟨μ, ρ, st, R, re, (Aft.test (f := fun st => asB (evE kn b ρ st)) (g := fun st => asB (.ok (.bl false) st)) A).mono fun b H1 ⟨μ1, st1, x1, R1, A1⟩ => ?_⟩
    cases b with
    | true => exact ⟨μ1, ρ, st1, R1, re.mono x1, A1⟩
    | false => exact A1 μ1 H1 false (Ext.refl R1) R1 rfl
theorem sW_or1 (ha : PT X x (rdT T W (evE kn a))) (hb : PW X (.BoolOp .Or (y :: rest) pos) (rdT T W (evE kn b))) : PW X (.BoolOp .Or (x :: y :: rest) pos) (rdT T W (evE kn (.or a b))) :=
  PW.weak (pw_or ha hb) fun σ H Q ⟨μ, ρ, st, R, re, A⟩ => by
    simp only [evE] at A
    have A := (asB_test (r := evE kn a ρ st) (f := fun st => .ok (.bl true) st) (g := fun st => evE kn b ρ st)) ▸ A
    refine ⟨μ, ρ, st, R, re, (Aft.test (f := fun st => asB (.ok (.bl true) st)) (g := fun st => asB (evE kn b ρ st)) A).mono fun b H1 ⟨μ1, st1, x1, R1, A1⟩ => ?_⟩
    cases b with
    | true => exact A1 μ1 H1 true (Ext.refl R1) R1 rfl
    | false => exact ⟨μ1, ρ, st1, R1, re.mono x1, A1⟩
end
end AF

/-! Snd2: arguments, displays, calls, methods, slices, chains. -/
namespace AF
open PySem PySem.Spec PyProof.Rows L2

theorem star_cons {e : Expr} {es : List Expr} {env : PySem.Env} (h : isStar e = false) : starEach (e :: es) env = (false, eval e env) :: starEach es env := by
  cases e <;> first | rfl | (simp [isStar] at h)
def noStars : List Expr → Bool
  | [] => true
  | e :: es => !isStar e && noStars es
theorem star_all {env : PySem.Env} {pos : Pos} : ∀ {es : List Expr}, noStars es = true → (backTo pos (starEach es env)).any (·.1) = false
  | [], _ => rfl
  | e :: es, h => by
    simp only [noStars, Bool.and_eq_true, Bool.not_eq_true'] at h
    rw [star_cons h.1]
    show (false || (backTo pos (starEach es env)).any (·.1)) = false
    rw [star_all h.2]; rfl
theorem star_allN {env : PySem.Env} {pos : Pos} : ∀ {es : List Expr}, noStars es = true → (backTo pos (starEach es env)).all (fun x => !x.1) = true
  | [], _ => rfl
  | e :: es, h => by
    simp only [noStars, Bool.and_eq_true, Bool.not_eq_true'] at h
    rw [star_cons h.1]
    show (true && (backTo pos (starEach es env)).all (fun x => !x.1)) = true
    rw [star_allN h.2]; rfl
theorem chkEs_stars {g : G} : ∀ {es : Es} {xs : List Expr}, chkEs es g xs = true → noStars xs = true ∧ xs.length = es.len
  | .nil, [], _ => ⟨rfl, rfl⟩
  | .nil, _ :: _, h => by simp [chkEs] at h
  | .cons _ _, [], h => by simp [chkEs] at h
  | .cons e es, x :: xs, h => by
    simp only [chkEs, Bool.and_eq_true, Bool.not_eq_true'] at h
    obtain ⟨h1, h2⟩ := chkEs_stars h.2
    exact ⟨by simp [noStars, h.1.2, h1], by simp [Es.len, h2]⟩
theorem evEs_len {kn : Kn} {ρ : Env} : ∀ {es : Es} {st st' : Store} {ds : List D}, evEs kn es ρ st = .ok ds st' → ds.length = es.len
  | .nil, st, st', ds, h => by simp only [evEs] at h; cases h; rfl
  | .cons e es, st, st', ds, h => by
    simp only [evEs] at h
    cases h1 : evE kn e ρ st with
    | ok d s1 =>
      rw [h1] at h
      simp only [R.bind_ok] at h
      cases h2 : evEs kn es ρ s1 with
      | ok r s2 =>
        rw [h2] at h
        simp only [R.bind_ok] at h
        cases h
        simp [Es.len, evEs_len h2]
      | exc _ _ => rw [h2] at h; cases h
      | bad => rw [h2] at h; cases h
    | exc _ _ => rw [h1] at h; cases h
    | bad => rw [h1] at h; cases h

/-- a def's promise, by what the core's def does -/
def Tx.with (T : Tx) (gh : List Addr) : Tx := { T with gh := gh }
def spF (T : Tx) (n : Nat) (ev : List D → Store → R D) : Sp := fun vs H Q E => vs.length = n ∧ ∃ gh μ ds st, Rel (T.with gh) μ st H ∧ Reps (T.with gh) μ H ds vs ∧ Aft (T.with gh) (fun c d _ H' => E c d H') [] (RepT (T.with gh)) (ev ds st) μ H Q

section
variable {X : Cx} {T : Tx} {W : WX} {kn : Kn} {pos : Pos} {x y z : Expr} {a b c : E} {xs : List Expr} {es : Es}
theorem sA_nil : PA X [] (rdA T W (evEs kn .nil)) := PA.weak pa_nil fun σ H Q ⟨μ, ρ, st, R, re, A⟩ => by simp only [evEs] at A; exact A.ok R .nil
theorem sA_cons (hs : isStar x = false) (ha : PE X x (rdE T W (evE kn a))) (hr : PA X xs (rdA T W (evEs kn es))) : PA X (x :: xs) (rdA T W (evEs kn (.cons a es))) :=
  PA.weak (pa_cons ha hr (star_cons hs)) fun σ H Q ⟨μ, ρ, st, R, re, A⟩ => by
    simp only [evEs] at A
    exact ⟨μ, ρ, st, R, re, A.bind.mono fun v H1 ⟨μ1, d, st1, _, x1, R1, P1, A1⟩ => ⟨μ1, ρ, st1, R1, re.mono x1, A1.bind.mono fun vs H2 ⟨μ2, ds, st2, _, x2, R2, P2, A2⟩ =>
      A2.ok R2 (.cons (P1.mono x2) P2)⟩⟩
theorem es_line {n : Nat} (h : n ≤ 1000) : n ≤ sizeLine := Nat.le_trans h (by rw [sizeLine_eq]; decide)
theorem sE_tup {k} (hl : es.len ≤ 1000) (h : PA X xs (rdA T W (evEs kn es))) : PE X (.Tuple xs k pos) (rdE T W (evE kn (.tup es))) :=
  PE.weak (pe_tup h) fun σ H Q ⟨μ, ρ, st, R, re, A⟩ => by
    simp only [evE] at A
    exact ⟨μ, ρ, st, R, re, A.bind.mono fun vs H1 ⟨μ1, ds, st1, e, x1, R1, P1, A1⟩ => ⟨by rw [P1.length, evEs_len e]; exact es_line hl, tup_new (A1.v fun _ _ => by simp) R1 P1⟩⟩
theorem sE_lst {m : Bool} (hl : es.len ≤ 1000) (h : PA X xs (rdA T W (evEs kn es))) : PE X (.List xs pos) (rdE T W (evE kn (.lst m es))) :=
  PE.weak (pe_lst h) fun σ H Q ⟨μ, ρ, st, R, re, A⟩ => by
    simp only [evE] at A
    exact ⟨μ, ρ, st, R, re, A.bind.mono fun vs H1 ⟨μ1, ds, st1, e, x1, R1, P1, A1⟩ => ⟨by rw [P1.length, evEs_len e]; exact es_line hl, mkL_new (A1.v fun _ _ => mkL_ne) R1 P1⟩⟩
/-! f-strings -/
abbrev RStr : List Addr → Hp → List Nat → Str → Prop := fun _ _ x s => s = toStr x
def FsOk (T : Tx) (W : WX) (kn : Kn) (X : Cx) (es : Es) (xs : List Expr) : Prop := ∃ ts, PJ X xs ts ∧ ∀ (acc : List Nat) (σ : L2.St) (H : Hp) (Q : Str → Hp → Prop),
  (∃ μ ρ st, Rel T μ st H ∧ REnv T μ H ρ σ ∧ Aft T W σ RStr (evFs kn es acc ρ st) μ H Q) → tJs ts (toStr acc) σ H Q
theorem fs_nil : FsOk T W kn X .nil [] := ⟨[], .nil, fun acc σ H Q ⟨μ, ρ, st, R, re, A⟩ => by
  simp only [evFs] at A
  exact A.ok R rfl⟩
theorem toStr_len (x : List Nat) : (toStr x).length = x.length := by simp [toStr, Str.length]
theorem fs_len {acc x : List Nat} (h : (acc ++ x).length ≤ LIM) : (toStr acc ++ toStr x).length ≤ sizeLine := by
  rw [toStr_append, toStr_len]; exact Nat.le_trans h limS
theorem fs_str {y : List Nat} {j : Nat} {p : Pos} (h : FsOk T W kn X es xs) : FsOk T W kn X (.cons (.str y) es) (.Constant (.str (toStr y)) j p :: xs) := by
  obtain ⟨ts, pj, k⟩ := h
  refine ⟨_, .cons pe_str pj, fun acc σ H Q ⟨μ, ρ, st, R, re, A⟩ => ?_⟩
  simp only [evFs, evE, AF.R.bind_ok, fmtD] at A
  split at A
  · rename_i x e
    split at e
    · cases e
      split at A
      · rename_i hl
        refine ⟨toStr y, rfl, fs_len hl, ?_⟩
        rw [toStr_append]
        exact k _ σ H Q ⟨μ, ρ, st, R, re, A⟩
      · exact A.elim
    · cases e
  · exact A.elim
theorem fs_val {x : Expr} {p : Pos} (ha : PE X x (rdE T W (evE kn a))) (h : FsOk T W kn X es xs) : FsOk T W kn X (.cons a es) (.FormattedValue x (-1) none p :: xs) := by
  obtain ⟨ts, pj, k⟩ := h
  refine ⟨_, .cons (pe_fmt ha) pj, fun acc σ H Q ⟨μ, ρ, st, R, re, A⟩ => ?_⟩
  simp only [evFs] at A
  refine ⟨μ, ρ, st, R, re, A.bind.mono fun v H1 ⟨μ1, d, st1, _, x1, R1, P1, A1⟩ => ?_⟩
  cases P1 with
  | int i =>
    simp only [fmtD] at A1
    split at A1
    · rename_i z e
      split at e
      · rename_i hs
        cases e
        split at A1
        · rename_i hl
          refine .inr ⟨i, rfl, smallT_ok hs, ?_⟩
          have e : Str.ofString (toString i) = toStr (strI i) := by simp [toStr, strI]
          refine ⟨toStr (strI i), by rw [← e], fs_len hl, ?_⟩
          rw [toStr_append]
          exact k _ σ H1 Q ⟨μ1, ρ, st1, R1, re.mono x1, A1⟩
        · exact A1.elim
      · cases e
    · exact A1.elim
  | str y =>
    simp only [fmtD] at A1
    split at A1
    · rename_i z e
      split at e
      · rename_i hs
        cases e
        split at A1
        · rename_i hl
          refine .inl ⟨toStr y, rfl, by rw [toStr_len]; exact Nat.le_trans hs limS, toStr y, rfl, fs_len hl, ?_⟩
          rw [toStr_append]
          exact k _ σ H1 Q ⟨μ1, ρ, st1, R1, re.mono x1, A1⟩
        · exact A1.elim
      · cases e
    · exact A1.elim
  | _ => simp only [fmtD] at A1; exact A1.elim
theorem sE_fst {v1 v2 : Expr} {rest : List Expr} (h : FsOk T W kn X es (v1 :: v2 :: rest)) : PE X (.JoinedStr (v1 :: v2 :: rest) pos) (rdE T W (evE kn (.fst es))) := by
  obtain ⟨ts, pj, k⟩ := h
  refine PE.weak (pe_joined pj) fun σ H Q ⟨μ, ρ, st, R, re, A⟩ => ?_
  simp only [evE] at A
  refine k [] σ H _ ⟨μ, ρ, st, R, re, A.bind.mono fun v H1 ⟨μ1, d, st1, _, x1, R1, P1, A1⟩ => ?_⟩
  rw [P1]
  exact A1.ok R1 (.str d)
/-- a call of a def -/
theorem sE_call {k n f : Nat} {nm : Str} {p : Pos} {fd : FuncData} {ps : List Str} (F : FnOk X.prog X.w X.K X.mg X.base (L2.CX X.prog X.w) k (T.fa f) fd ps (spF T n (kn.call f))) (hr : Room k X.A) (hg : Gl X nm) (hm : X.mg nm = some (.ref (T.fa f)))
    (hk : PySem.W.keepIn X.K (.ref (T.fa f)) = true) (hb : Binds X.K fd ps []) (tk : Takes X W) (hn : es.len = n) (hxs : xs.length = es.len) (hst : noStars xs = true) (ha : PA X xs (rdA T W (evEs kn es))) (hdb : (nm == ("__debug__" : Str)) = false) :
    PE X (.Call (.Name nm p) xs [] pos) (rdE T W (evE kn (.call f es))) := by
  have hx : ∀ σ, PassesAt (L2.CX X.prog X.w) X σ (WE W σ) := passAt tk
  have go : PE X (.Call (.Name nm p) xs [] pos) (tCallS (spF T n (kn.call f)) (WE W) (rdA T W (evEs kn es))) := by
    cases xs with
    | nil =>
      refine ⟨fun pins s σ H Q I h => ?_⟩
      refine wpAny_Call_Name_kw (ld_glob I hg hm ?_ hdb)
      refine PySem.W.callWith_K0 I.kIn hk ?_
      have en : es = .nil := by cases es with | nil => rfl | cons _ _ => simp [Es.len] at hxs
      subst en
      obtain ⟨μ, ρ, st, R, re, A⟩ := h
      simp only [evEs] at A
      exact run_fnS (us := []) F hr hb (hx σ) I .nil (A.ok R .nil)
    | cons e0 r0 =>
      simp only [noStars, Bool.and_eq_true, Bool.not_eq_true'] at hst
      exact pe_callS F hr hg hm hk hb hx ha hdb (star_cons hst.1) (star_all hst.2)
  refine PE.weak go fun σ H Q ⟨μ, ρ, st, R, re, A⟩ => ?_
  simp only [evE] at A
  exact ⟨μ, ρ, st, R, re, A.bind.mono fun vs H1 ⟨μ1, ds, st1, e, x1, R1, P1, A1⟩ => ⟨by rw [P1.length, evEs_len e]; exact hn, T.gh, μ1, ds, st1, R1, P1, A1⟩⟩
theorem boot_bf (f : BF) : bootBuiltins (bfStr f) = some (bfVal f) := by cases f <;> decide +kernel
theorem bf_name (f : BF) : bfStr f ≠ "__name__" ∧ (bfStr f == ("__debug__" : Str)) = false := by cases f <;> exact ⟨by decide +kernel, by decide +kernel⟩
theorem sE_blt {f : BF} {m : Bool} {p : Pos} (hc : CallR X (bfVal f) (rL T (blt f m))) (hg : Gl X (bfStr f)) (hm : X.mg (bfStr f) = none) (hs : isStar x = false) (hst : noStars xs = true) (ha : PA X (x :: xs) (rdA T W (evEs kn es))) :
    PE X (.Call (.Name (bfStr f) p) (x :: xs) [] pos) (rdE T W (evE kn (.blt f m es))) := by
  have go : PE X (.Call (.Name (bfStr f) p) (x :: xs) [] pos) (tCB (rL T (blt f m)) (rdA T W (evEs kn es))) := by
    have hv := boot_bf f
    obtain ⟨n1, n2⟩ := bf_name f
    cases f <;> first
      | exact pe_callB hc hg hm hv ha n1 n2 (star_cons hs) (star_all hst)
      | exact pe_callTy hc hg hm hv ha n1 n2 (star_cons hs) (star_all hst)
  refine PE.weak go fun σ H Q ⟨μ, ρ, st, R, re, A⟩ => ?_
  simp only [evE] at A
  exact ⟨μ, ρ, st, R, re, A.bind.mono fun vs H1 ⟨μ1, ds, st1, e, x1, R1, P1, A1⟩ => ⟨μ1, st1, ds, R1, P1, A1.v blt_ne⟩⟩
theorem boot_ty (t : TY) : bootBuiltins (tyStr t) = some (.type (tyName t)) := by cases t <;> decide +kernel
theorem ty_name (t : TY) : tyStr t ≠ "__name__" ∧ (tyStr t == ("__debug__" : Str)) = false := by cases t <;> exact ⟨by decide +kernel, by decide +kernel⟩
theorem sE_isi {t : TY} {p p2 : Pos} (hK : X.K = T.K) (hg : Gl X "isinstance") (hm : X.mg "isinstance" = none) (hg2 : Gl X (tyStr t)) (hm2 : X.mg (tyStr t) = none) (hs : isStar x = false) (ha : PE X x (rdE T W (evE kn a))) :
    PE X (.Call (.Name "isinstance" p) [x, .Name (tyStr t) p2] [] pos) (rdE T W (evE kn (.isi t a))) := by
  obtain ⟨n1, n2⟩ := ty_name t
  have hT : PE X (.Name (tyStr t) p2) (tC (.ty (tyName t))) := pe_bltn hg2 hm2 (boot_ty t) rfl n1 n2
  refine PE.weak (pe_callB (call_isiW hK t) hg hm boot_isinstance (pa_cons ha (pa_cons hT pa_nil) (star_cons hs)) (by decide) (by decide) (star_cons hs) rfl) fun σ H Q ⟨μ, ρ, st, R, re, A⟩ => ?_
  simp only [evE] at A
  exact ⟨μ, ρ, st, R, re, A.bind.mono fun v H1 ⟨μ1, d, st1, _, x1, R1, P1, A1⟩ => ⟨v, rfl, μ1, st1, d, R1, P1, A1.v fun _ _ => by split <;> simp⟩⟩
theorem sE_mth {f : BM} {apos : Pos} (hK : X.K = T.K) (hm : MtR X (bmId f) (rM T (mth f))) (ho : PE X x (rdE T W (evE kn a))) (hc : isCallE x = false) (hs : isStar y = false) (hst : noStars xs = true) (hln : xs.length < 20) (hline : (apos.endLine == pos.line) = true)
    (ha : PA X (y :: xs) (rdA T W (evEs kn es))) : PE X (.Call (.Attribute x (bmName f) apos) (y :: xs) [] pos) (rdE T W (evE kn (.mth f a es))) := by
  have hbase : attributeBase x (bmName f) X.env (eval x X.env) = eval x X.env := by cases x <;> first | rfl | (simp [isCallE] at hc)
  have hfew : ((backTo pos (starEach (y :: xs) X.env)).all (fun x => !x.1) && (backToKw pos (keywordEach [] X.env)).all (fun x => x.1.isSome) && decide ((y :: xs).length + ([] : List Keyword).length + (if ([] : List Keyword).isEmpty then 0 else 1) < 30)) = true := by
    rw [star_allN (by simp [noStars, hs, hst])]
    simp [backToKw, keywordEach]; omega
  have go : PE X (.Call (.Attribute x (bmName f) apos) (y :: xs) [] pos) (tBM X.K (bmTy f) (rM T (mth f)) (rdE T W (evE kn a)) (rdA T W (evEs kn es))) := by
    cases f with
    | append => exact pe_bm F.plainAttrs_list F.slot_list_append F.type_list_append hm ho ha hbase hfew hline (star_cons hs) (star_all hst)
    | count => exact pe_bm F.plainAttrs_list F.slot_list_count F.type_list_count hm ho ha hbase hfew hline (star_cons hs) (star_all hst)
    | index => exact pe_bm F.plainAttrs_list F.slot_list_index F.type_list_index hm ho ha hbase hfew hline (star_cons hs) (star_all hst)
    | join => exact pe_bm F.plainAttrs_str F.slot_str_join F.type_str_join hm ho ha hbase hfew hline (star_cons hs) (star_all hst)
    | split => exact pe_bm F.plainAttrs_str F.slot_str_split F.type_str_split hm ho ha hbase hfew hline (star_cons hs) (star_all hst)
  refine PE.weak go fun σ H Q ⟨μ, ρ, st, R, re, A⟩ => ?_
  simp only [evE] at A
  refine ⟨μ, ρ, st, R, re, A.bind.mono fun v H1 ⟨μ1, d, st1, _, x1, R1, P1, A1⟩ => ?_⟩
  split at A1
  · rename_i hr
    refine ⟨?_, μ1, ρ, st1, R1, re.mono x1, A1.bind.mono fun vs H2 ⟨μ2, ds, st2, _, x2, R2, P2, A2⟩ => ⟨μ2, st2, d, ds, R2, P1.mono x2, P2, A2.v mth_ne⟩⟩
    have ls : (lstOf st1 d).isSome = true → tyV X.K "list" v H1 := fun h => by
      obtain ⟨l, hl⟩ := Option.isSome_iff_exists.mp h
      obtain ⟨p, ys, rfl, h1, _⟩ := lstOf_at R1 hl P1
      exact .inl ⟨rfl, ys, SqL.of h1⟩
    cases f with
    | append => exact ls hr
    | count => exact ls hr
    | index => exact ls hr
    | join =>
      cases P1 <;> first | rfl | (simp [recvOk] at hr)
    | split =>
      cases P1 <;> first | rfl | (simp [recvOk] at hr)
  · exact A1.elim
/-! slices, chains -/
variable {lo hi : Option Expr} {l h : Oe} {p2 : Pos}
def rdO (T : Tx) (W : WX) (ev : Env → Store → R (Option Int)) : TO := fun σ H Q => ∃ μ ρ st, Rel T μ st H ∧ REnv T μ H ρ σ ∧ Aft T W σ REq (ev ρ st) μ H Q
theorem sO_none : PO X none (rdO T W (evOe kn .none)) := PO.weak po_none fun σ H Q ⟨μ, ρ, st, R, re, A⟩ => by simp only [evOe] at A; exact A.ok R rfl
theorem sO_some (ha : PE X x (rdE T W (evE kn a))) : PO X (some x) (rdO T W (evOe kn (.some a))) :=
  PO.weak (po_some ha) fun σ H Q ⟨μ, ρ, st, R, re, A⟩ => by
    simp only [evOe] at A
    refine ⟨μ, ρ, st, R, re, A.bind.mono fun v H1 ⟨μ1, d, st1, _, x1, R1, P1, A1⟩ => ?_⟩
    cases P1 with
    | int i => exact ⟨i, rfl, A1.ok R1 rfl⟩
    | _ => exact A1.elim
theorem sE_slc (hs : SlR X (rSl T)) (ha : PE X x (rdE T W (evE kn a))) (hl : PO X lo (rdO T W (evOe kn l))) (hh : PO X hi (rdO T W (evOe kn h))) : PE X (.Subscript x (.Slice lo hi none p2) pos) (rdE T W (evE kn (.slc a l h))) :=
  PE.weak (pe_slice hs ha hl hh) fun σ H Q ⟨μ, ρ, st, R, re, A⟩ => by
    simp only [evE] at A
    exact ⟨μ, ρ, st, R, re, A.bind.mono fun v H1 ⟨μ1, d, st1, _, x1, R1, P1, A1⟩ => ⟨μ1, ρ, st1, R1, re.mono x1, A1.bind.mono fun o H2 ⟨μ2, o2, st2, _, x2, R2, P2, A2⟩ =>
      ⟨μ2, ρ, st2, R2, (re.mono x1).mono x2, A2.bind.mono fun u H3 ⟨μ3, u3, st3, _, x3, R3, P3, A3⟩ => by subst P2 P3; exact ⟨μ3, st3, d, R3, (P1.mono x2).mono x3, A3.v slc_ne⟩⟩⟩⟩
theorem cmp_bl {op : CO} {a b d : D} {st s : Store} (h : cmp op a b st = .ok d s) : ∃ k, d = .bl k := by
  unfold cmp at h
  repeat' split at h
  all_goals first | (cases h; done) | (cases h; exact ⟨_, rfl⟩)
theorem chn_weak {op op' : CO} {σ : L2.St} {H : Hp} {Q : VK} (h : rdE T W (evE kn (.chn op op' a b c)) σ H Q) : tChain (rB T (cmp op)) (rB T (cmp op')) (rdE T W (evE kn a)) (rdE T W (evE kn b)) (rdE T W (evE kn c)) σ H Q := by
  obtain ⟨μ, ρ, st, R, re, A⟩ := h
  simp only [evE] at A
  refine ⟨μ, ρ, st, R, re, A.bind.mono fun v H1 ⟨μ1, d, st1, _, x1, R1, P1, A1⟩ => ⟨μ1, ρ, st1, R1, re.mono x1, A1.bind.mono fun w H2 ⟨μ2, d2, st2, _, x2, R2, P2, A2⟩ =>
    ⟨μ2, st2, d, d2, R2, P1.mono x2, P2, ?_⟩⟩⟩
  refine ((Aft.testV (f := fun st => (evE kn c ρ st).bind fun z st => cmp op' d2 z st) (g := fun st => .ok (.bl false) st) A2).mono fun v H3 ⟨k, μ3, st3, e, x3, R3, A3⟩ => ⟨k, e, ?_⟩).v cmp_ne
  cases k with
  | true => exact ⟨μ3, ρ, st3, R3, ((re.mono x1).mono x2).mono x3, A3.bind.mono fun u H4 ⟨μ4, d4, st4, _, x4, R4, P4, A4⟩ => ⟨μ4, st4, d2, d4, R4, (P2.mono x3).mono x4, P4, A4.v cmp_ne⟩⟩
  | false => exact A3.ok R3 (.bl false)
theorem sE_chn {o o' : CmpOp} {op op' : CO} (ho : OpR X (compareOp o) (rB T (cmp op))) (ho' : OpR X (compareOp o') (rB T (cmp op'))) (hm : lastMarks [o, o'] [y, z] = false) (ha : PE X x (rdE T W (evE kn a))) (hb : PE X y (rdE T W (evE kn b))) (hc : PE X z (rdE T W (evE kn c))) :
    PE X (.Compare x [o, o'] [y, z] pos) (rdE T W (evE kn (.chn op op' a b c))) := PE.weak (pe_chain ho ho' ha hb hc hm) fun σ H Q => chn_weak
theorem sT_chn {o o' : CmpOp} {op op' : CO} (ho : OpR X (compareOp o) (rB T (cmp op))) (ho' : OpR X (compareOp o') (rB T (cmp op'))) (hm : lastMarks [o, o'] [y, z] = false) (ha : PE X x (rdE T W (evE kn a))) (hb : PE X y (rdE T W (evE kn b))) (hc : PE X z (rdE T W (evE kn c))) :
    PT X (.Compare x [o, o'] [y, z] pos) (rdT T W (evE kn (.chn op op' a b c))) := PT.weak (pt_chain ho ho' ha hb hc hm) fun σ H Q ⟨μ, ρ, st, R, re, A⟩ => chn_weak ⟨μ, ρ, st, R, re, A.asB⟩
end
end AF

/-! Snd3: what loops walk over. -/
namespace AF
open PySem PySem.Spec PyProof.Rows L2

section
variable {T : Tx} {μ μ0 : List Addr} {H H0 : Hp} {gh : List Addr}
/-- lists that are being made later are no value so far -/
def GhOk (T : Tx) (H0 : Hp) (gh : List Addr) : Prop := ∀ a ∈ gh, a ∈ T.gh ∨ H0 a = none
mutual
theorem Rep.toGh (h : GhOk T H gh) : ∀ {d : D} {v : V}, Rep T μ H d v → Rep (T.with gh) μ H d v
  | _, _, .non => .non
  | _, _, .bl b => .bl b
  | _, _, .int i => .int i
  | _, _, .str s => .str s
  | _, _, .tup q r => .tup q (Reps.toGh h r)
  | _, _, .lst q n r => .lst q ⟨n.1, fun hm => (h _ hm).elim n.2 fun z => by rw [q] at z; cases z⟩ (Reps.toGh h r)
  | _, _, .scr q => .scr q
  | _, _, .ref q => .ref q
  | _, _, .glo n => .glo (T := T.with gh) n
theorem Reps.toGh (h : GhOk T H gh) : ∀ {l : List D} {xs : List V}, Reps T μ H l xs → Reps (T.with gh) μ H l xs
  | _, _, .nil => .nil
  | _, _, .cons a r => .cons (Rep.toGh h a) (Reps.toGh h r)
end
mutual
theorem Rep.unGh (h : ∀ a ∈ gh, a ∈ T.gh) : ∀ {d : D} {v : V}, Rep T μ H d v → Rep (T.with gh) μ H d v
  | _, _, .non => .non
  | _, _, .bl b => .bl b
  | _, _, .int i => .int i
  | _, _, .str s => .str s
  | _, _, .tup q r => .tup q (Reps.unGh h r)
  | _, _, .lst q n r => .lst q ⟨n.1, fun hm => n.2 (h _ hm)⟩ (Reps.unGh h r)
  | _, _, .scr q => .scr q
  | _, _, .ref q => .ref q
  | _, _, .glo n => .glo (T := T.with gh) n
theorem Reps.unGh (h : ∀ a ∈ gh, a ∈ T.gh) : ∀ {l : List D} {xs : List V}, Reps T μ H l xs → Reps (T.with gh) μ H l xs
  | _, _, .nil => .nil
  | _, _, .cons a r => .cons (Rep.unGh h a) (Reps.unGh h r)
end
/-- the heap without the lists that are being made -/
def hide (G : List Addr) (H : Hp) : Hp := fun a => if a ∈ G then none else H a
theorem hide_some {G : List Addr} {H : Hp} {a : Addr} {o : HO} : hide G H a = some o ↔ a ∉ G ∧ H a = some o := by
  unfold hide; split <;> simp_all
mutual
theorem Rep.hid (h : ∀ a ∈ T.gh, ∃ xs, H a = some (.lst xs)) : ∀ {d : D} {v : V}, Rep T μ H d v → Rep T μ (hide T.gh H) d v
  | _, _, .non => .non
  | _, _, .bl b => .bl b
  | _, _, .int i => .int i
  | _, _, .str s => .str s
  | _, _, .tup (a := a) q r => .tup (by
      rcases q with (q | ⟨o, q⟩) | q
      · exact .inl (.inl (hide_some.mpr ⟨fun hm => (by obtain ⟨xs, e⟩ := h a hm; rw [e] at q; cases q), q⟩))
      · exact .inl (.inr ⟨o, hide_some.mpr ⟨fun hm => (by obtain ⟨xs, e⟩ := h a hm; rw [e] at q; cases q), q⟩⟩)
      · exact .inr q) (Reps.hid h r)
  | _, _, .lst q n r => .lst (hide_some.mpr ⟨n.2, q⟩) n (Reps.hid h r)
  | _, _, .scr (a := a) q => .scr (by
      rcases q with ⟨o, q⟩ | q
      · exact .inl ⟨o, hide_some.mpr ⟨fun hm => (by obtain ⟨xs, e⟩ := h a hm; rw [e] at q; cases q), q⟩⟩
      · exact .inr q)
  | _, _, .ref q => .ref q
  | _, _, .glo n => .glo n
theorem Reps.hid (h : ∀ a ∈ T.gh, ∃ xs, H a = some (.lst xs)) : ∀ {l : List D} {xs : List V}, Reps T μ H l xs → Reps T μ (hide T.gh H) l xs
  | _, _, .nil => .nil
  | _, _, .cons a r => .cons (Rep.hid h a) (Reps.hid h r)
end
theorem Rel.ghl {st : Store} (R : Rel T μ st H) : ∀ a ∈ T.gh, ∃ xs, H a = some (.lst xs) := fun a ha => (R.gh a ha).2
theorem hide_tup {K : PySem.W.Frag} {a : Addr} {xs : List V} (h : ∀ a ∈ T.gh, ∃ xs, H a = some (.lst xs)) (q : SqT K H a xs) : SqT K (hide T.gh H) a xs := by
  rcases q with (q | ⟨o, q⟩) | q
  · exact .inl (.inl (hide_some.mpr ⟨fun hm => (by obtain ⟨xs, e⟩ := h a hm; rw [e] at q; cases q), q⟩))
  · exact .inl (.inr ⟨o, hide_some.mpr ⟨fun hm => (by obtain ⟨xs, e⟩ := h a hm; rw [e] at q; cases q), q⟩⟩)
  · exact .inr q
theorem GhOk.hid (h : GhOk T H gh) : GhOk T (hide T.gh H) gh := fun a ha => (h a ha).elim .inl fun z => by
  by_cases hm : a ∈ T.gh
  · exact .inl hm
  · exact .inr (by unfold hide; rw [if_neg hm]; exact z)
/-- a list's items at any later time -/
def LsRel (T : Tx) (μ0 : List Addr) (H0 : Hp) (s : Src) (a : Addr) : Prop :=
  ∀ gh μ st H, GhOk T H0 gh → Ext μ0 (hide T.gh H0) μ H → Rel (T.with gh) μ st H → guard s.gs st = true → ∃ xs, H a = some (.lst xs) ∧ Reps (T.with gh) μ H s.its xs
theorem srcOf_ls {d : D} {v : V} {st st' : Store} {s : Src} (R : Rel T μ st H) (r : Rep T μ H d v) (e : srcOf d st = .ok s st') (nt : ∀ l, d ≠ .tup l) : st' = st ∧ ∃ a, v = .ref a ∧ (∃ xs, H a = some (.lst xs)) ∧ LsRel T μ H s a := by
  cases r with
  | tup _ _ => exact absurd rfl (nt _)
  | @lst a xs l h n rs =>
    simp only [srcOf] at e; cases e
    exact ⟨rfl, a, rfl, ⟨xs, h⟩, fun gh μ2 st2 H2 hg x _ _ => ⟨xs, x.keep _ _ (hide_some.mpr ⟨n.2, h⟩) n.1, ((rs.hid R.ghl).toGh hg.hid).mono x⟩⟩
  | @ref n a hn =>
    simp only [srcOf] at e
    cases e0 : st[n]? with
    | none => rw [e0] at e; cases e
    | some o =>
      rw [e0] at e
      cases o with
      | ins c fs => cases e
      | lst l =>
        cases e
        obtain ⟨b, xs, hb, hx, _⟩ := R.lst e0
        rw [hn] at hb; cases hb
        refine ⟨rfl, a, rfl, ⟨xs, hx⟩, fun gh μ2 st2 H2 hg x R2 hgd => ?_⟩
        have g1 : gOne st2 (n, l) = true := by simpa [guard] using hgd
        unfold gOne at g1
        split at g1
        · rename_i k hk
          have := D.beqs_eq g1
          subst this
          obtain ⟨b, ys, hb, hy, rs⟩ := R2.lst hk
          rw [x.get hn] at hb; cases hb
          exact ⟨ys, hy, rs⟩
        · cases g1
  | _ => simp only [srcOf] at e; cases e
/-- a source's items at any later time, by how the loop turns -/
def SrcRel (T : Tx) (μ0 : List Addr) (H0 : Hp) (s : Src) (J : L2.It) : Prop :=
  ∀ gh μ st H, GhOk T H0 gh → Ext μ0 (hide T.gh H0) μ H → Rel (T.with gh) μ st H → guard s.gs st = true → ∀ i,
    (i < s.its.length → J.go i H ∧ ∀ x H', J.yld i H x H' → ∃ d, s.its[i]? = some d ∧ Ext μ H μ H' ∧ Rel (T.with gh) μ st H' ∧ Rep (T.with gh) μ H' d x ∧ ∀ a o, H a = some o → H' a = some o) ∧ (s.its.length ≤ i → J.stop i H)
theorem LsRel.src {s : Src} {a : Addr} (h : LsRel T μ0 H0 s a) {K : PySem.W.Frag} (hK : K = T.K) : SrcRel T μ0 H0 s (Itl K a) := by
  subst hK
  intro gh μ st H hg x R gd i
  obtain ⟨xs, hx, rs⟩ := h gh μ st H hg x R gd
  have hl := rs.length
  refine ⟨fun hi => ?_, fun hi => ⟨xs, SqL.of hx, by omega⟩⟩
  obtain ⟨v, h1, h2⟩ := rs.get (List.getElem?_eq_getElem hi)
  exact ⟨⟨xs, v, SqL.of hx, h1⟩, fun y H' ⟨e, q⟩ => by
    have := q xs (SqL.of hx)
    rw [h1] at this; cases this; subst e
    exact ⟨_, List.getElem?_eq_getElem hi, Ext.refl R, R, h2, fun _ _ e => e⟩⟩
theorem src_tup {st0 : Store} {l : List D} {a : Addr} {xs : List V} {K : PySem.W.Frag} (R0 : Rel T μ0 st0 H0) (hK : K = T.K) (hs : SqT T.K H0 a xs) (rs : Reps T μ0 H0 l xs) : SrcRel T μ0 H0 ⟨l, []⟩ (Itt K a) := by
  subst hK
  intro gh μ st H hg x R gd i
  have hs2 : SqT T.K H a xs := x.tup (hide_tup R0.ghl hs)
  have rs2 := ((rs.hid R0.ghl).toGh hg.hid).mono x
  have hl := rs2.length
  refine ⟨fun hi => ?_, fun hi => ⟨xs, hs2, by simp at hi; omega⟩⟩
  obtain ⟨v, h1, h2⟩ := rs2.get (List.getElem?_eq_getElem hi)
  exact ⟨⟨xs, v, hs2, h1⟩, fun y H' ⟨e, q⟩ => by
    have := q xs hs2
    rw [h1] at this; cases this; subst e
    exact ⟨_, List.getElem?_eq_getElem hi, Ext.refl R, R, h2, fun _ _ e => e⟩⟩
theorem rngD_get : ∀ (n : Nat) (lo : Int) (i : Nat), i < n → (rngD lo n)[i]? = some (.int (lo + i))
  | n + 1, lo, 0, _ => by simp [rngD]
  | n + 1, lo, i + 1, h => by
    simp only [rngD, List.getElem?_cons_succ]
    rw [rngD_get n (lo + 1) i (by omega)]
    congr 2; omega
theorem rngD_len : ∀ (n : Nat) (lo : Int), (rngD lo n).length = n
  | 0, _ => rfl
  | n + 1, lo => by simp [rngD, rngD_len n]
theorem src_rng (lo : Int) (n : Nat) : SrcRel T μ0 H0 ⟨rngD lo n, []⟩ (Itr lo n) := by
  intro gh μ st H hg x R gd i
  simp only [rngD_len]
  refine ⟨fun hi => ⟨hi, fun y H' ⟨e, q⟩ => ?_⟩, fun hi => hi⟩
  subst e q
  exact ⟨_, rngD_get n lo i hi, Ext.refl R, R, .int _, fun _ _ e => e⟩
theorem zipD_get : ∀ {l k : List D} {i : Nat} {a b : D}, l[i]? = some a → k[i]? = some b → (zipD l k)[i]? = some (.tup [a, b])
  | [], _, _, _, _, h, _ => by simp at h
  | _ :: _, [], _, _, _, _, h => by simp at h
  | a :: l, b :: k, 0, _, _, h1, h2 => by simp at h1 h2; subst h1 h2; simp [zipD]
  | a :: l, b :: k, i + 1, _, _, h1, h2 => by
    simp only [zipD, List.getElem?_cons_succ] at h1 h2 ⊢
    exact zipD_get h1 h2
theorem zipD_len : ∀ l k : List D, (zipD l k).length = min l.length k.length
  | [], _ => by simp [zipD]
  | _ :: _, [] => by simp [zipD]
  | _ :: l, _ :: k => by simp [zipD, zipD_len l k]
theorem enumD_get : ∀ {l : List D} {n i : Nat} {a : D}, l[i]? = some a → (enumD n l)[i]? = some (.tup [.int ((n + i : Nat) : Int), a])
  | [], _, _, _, h => by simp at h
  | a :: l, n, 0, _, h => by simp at h; subst h; simp [enumD]
  | a :: l, n, i + 1, _, h => by
    simp only [enumD, List.getElem?_cons_succ] at h ⊢
    rw [enumD_get h]
    congr 5; omega
theorem enumD_len : ∀ (n : Nat) (l : List D), (enumD n l).length = l.length
  | _, [] => rfl
  | n, _ :: l => by simp [enumD, enumD_len (n + 1) l]
/-- a new pair -/
theorem new_pair {st : Store} {p : Addr} {vs : List V} {ds : List D} (R : Rel T μ st H) (hp : H p = none) (rs : Reps T μ H ds vs) : Ext μ H μ (upd H p (.tup vs)) ∧ Rel T μ st (upd H p (.tup vs)) ∧ Rep T μ (upd H p (.tup vs)) (.tup ds) (.ref p) ∧ ∀ a o, H a = some o → upd H p (.tup vs) a = some o :=
  ⟨Ext.new R hp, R.new hp, .tup (SqT.of upd_same) (rs.mono (Ext.new R hp)), fun a o e => by rw [upd_ne (fun z => by rw [z, hp] at e; cases e)]; exact e⟩
theorem guard_app {g g' : List (Nat × List D)} {st : Store} : guard (g ++ g') st = true ↔ guard g st = true ∧ guard g' st = true := by simp [guard]
theorem src_zipL {s t : Src} {a b : Addr} {K : PySem.W.Frag} (hK : K = T.K) (h1 : LsRel T μ0 H0 s a) (h2 : LsRel T μ0 H0 t b) : SrcRel T μ0 H0 ⟨zipD s.its t.its, s.gs ++ t.gs⟩ (Itz K a b) := by
  subst hK
  intro gh μ st H hg x R gd i
  obtain ⟨g1, g2⟩ := guard_app.mp gd
  obtain ⟨xs, hx, rx⟩ := h1 gh μ st H hg x R g1
  obtain ⟨ys, hy, ry⟩ := h2 gh μ st H hg x R g2
  have l1 := rx.length
  have l2 := ry.length
  simp only [zipD_len]
  refine ⟨fun hi => ?_, fun hi => ⟨xs, ys, SqL.of hx, SqL.of hy, by omega⟩⟩
  obtain ⟨v, e1, r1⟩ := rx.get (List.getElem?_eq_getElem (show i < s.its.length by omega))
  obtain ⟨w, e2, r2⟩ := ry.get (List.getElem?_eq_getElem (show i < t.its.length by omega))
  refine ⟨⟨xs, ys, v, w, SqL.of hx, SqL.of hy, e1, e2⟩, ?_⟩
  rintro _ _ ⟨p, x', y', rfl, hp, rfl, q1, q2⟩
  have z1 := q1 xs (SqL.of hx)
  have z2 := q2 ys (SqL.of hy)
  rw [e1] at z1; rw [e2] at z2; cases z1; cases z2
  obtain ⟨n1, n2, n3, n4⟩ := new_pair R hp (.cons r1 (.cons r2 .nil))
  exact ⟨_, zipD_get (List.getElem?_eq_getElem (show i < s.its.length by omega)) (List.getElem?_eq_getElem (show i < t.its.length by omega)), n1, n2, n3, n4⟩
theorem src_zipT {st0 : Store} {l k : List D} {a b : Addr} {xs ys : List V} {K : PySem.W.Frag} (R0 : Rel T μ0 st0 H0) (hK : K = T.K) (hx : SqT T.K H0 a xs) (hy : SqT T.K H0 b ys) (r1 : Reps T μ0 H0 l xs) (r2 : Reps T μ0 H0 k ys) : SrcRel T μ0 H0 ⟨zipD l k, []⟩ (RZ.ItzT K a b) := by
  subst hK
  intro gh μ st H hg x R gd i
  have hx := x.tup (hide_tup R0.ghl hx)
  have hy := x.tup (hide_tup R0.ghl hy)
  have rx := ((r1.hid R0.ghl).toGh hg.hid).mono x
  have ry := ((r2.hid R0.ghl).toGh hg.hid).mono x
  have l1 := rx.length
  have l2 := ry.length
  simp only [zipD_len]
  refine ⟨fun hi => ?_, fun hi => ⟨xs, ys, hx, hy, by omega⟩⟩
  obtain ⟨v, e1, r1⟩ := rx.get (List.getElem?_eq_getElem (show i < l.length by omega))
  obtain ⟨w, e2, r2⟩ := ry.get (List.getElem?_eq_getElem (show i < k.length by omega))
  refine ⟨⟨xs, ys, v, w, hx, hy, e1, e2⟩, ?_⟩
  rintro _ _ ⟨p, x', y', rfl, hp, rfl, q1, q2⟩
  have z1 := q1 xs hx
  have z2 := q2 ys hy
  rw [e1] at z1; rw [e2] at z2; cases z1; cases z2
  obtain ⟨n1, n2, n3, n4⟩ := new_pair R hp (.cons r1 (.cons r2 .nil))
  exact ⟨_, zipD_get (List.getElem?_eq_getElem (show i < l.length by omega)) (List.getElem?_eq_getElem (show i < k.length by omega)), n1, n2, n3, n4⟩
theorem src_enumL {s : Src} {a : Addr} {K : PySem.W.Frag} (hK : K = T.K) (h1 : LsRel T μ0 H0 s a) : SrcRel T μ0 H0 ⟨enumD 0 s.its, s.gs⟩ (Ite K a) := by
  subst hK
  intro gh μ st H hg x R gd i
  obtain ⟨xs, hx, rx⟩ := h1 gh μ st H hg x R gd
  have l1 := rx.length
  simp only [enumD_len]
  refine ⟨fun hi => ?_, fun hi => ⟨xs, SqL.of hx, by omega⟩⟩
  obtain ⟨v, e1, r1⟩ := rx.get (List.getElem?_eq_getElem hi)
  refine ⟨⟨xs, v, SqL.of hx, e1⟩, ?_⟩
  rintro _ _ ⟨p, x', rfl, hp, rfl, q1⟩
  have z1 := q1 xs (SqL.of hx)
  rw [e1] at z1; cases z1
  have hd := enumD_get (n := 0) (List.getElem?_eq_getElem hi)
  rw [Nat.zero_add] at hd
  obtain ⟨n1, n2, n3, n4⟩ := new_pair R hp (.cons (.int (i : Nat)) (.cons r1 .nil))
  exact ⟨_, hd, n1, n2, n3, n4⟩
end

def rdI (T : Tx) (W : WX) (ev : Env → Store → R Src) : TI := fun σ H R' => ∃ μ ρ st, Rel T μ st H ∧ REnv T μ H ρ σ ∧ Aft T W σ (SrcRel T) (ev ρ st) μ H R'
section
variable {X : Cx} {T : Tx} {W : WX} {kn : Kn} {pos : Pos} {tg x y z : Expr} {a b c : E}
def iSeq (K : PySem.W.Frag) (tl : TE) : TI := fun σ H R => tl σ H fun x H1 => ∃ a, x = .ref a ∧ (((∃ xs, SqL K H1 a xs) ∧ R (Itl K a) H1) ∨ ((∃ xs, SqT K H1 a xs) ∧ R (Itt K a) H1))
/-- over a list or a tuple -/
theorem pi_seq {l : Expr} {tl : TE} (hl : PE X l tl) : PI X tg l (iSeq X.K tl) := by
  refine ⟨fun pins s σ H R I h => ?_⟩
  refine thn (hl.run pins s σ H _ I h) fun v s1 ⟨x, H1, I1, r1, q1⟩ => ?_
  obtain ⟨a, e, ⟨⟨xs, hq⟩, q⟩ | ⟨⟨xs, hq⟩, q⟩⟩ := q1
  · subst e
    cases r1
    obtain ⟨its, rv, p, hz⟩ := I1.list hq
    refine wpAny_pyIter_list p.isList ?_
    refine ⟨s1.heap.objs.size, [s1.heap.objs.size], _, _, H1, rfl, I1.kept (t' := s1.toks) fun b o e => Heap.get?_push_of_some _ e, turn_list a _, ⟨_, Heap.get?_push_size _ rfl, rfl, rfl⟩, fun b hb => ?_, q⟩
    have e : b = s1.heap.objs.size := by simpa using hb
    subst e
    exact I1.fpOk (Nat.le_refl _) (I1.hok.fresh (Nat.le_refl _))
  · subst e
    cases r1
    obtain ⟨its, rv, p, hz⟩ := I1.tuple hq
    refine wpAny_pyIter_tuple (show s1.heap.IsTuple a its.toArray from p) ?_
    refine ⟨s1.heap.objs.size, [s1.heap.objs.size], _, _, H1, rfl, I1.kept (t' := s1.toks) fun b o e => Heap.get?_push_of_some _ e, turn_tuple a _, ⟨_, Heap.get?_push_size _ rfl, rfl, rfl⟩, fun b hb => ?_, q⟩
    have e : b = s1.heap.objs.size := by simpa using hb
    subst e
    exact I1.fpOk (Nat.le_refl _) (I1.hok.fresh (Nat.le_refl _))
variable (hK : X.K = T.K)
include hK
theorem sI_of (ha : PE X x (rdE T W (evE kn a))) : PI X tg x (rdI T W (evIt kn (.of a))) :=
  PI.weak (pi_seq ha) fun σ H Q ⟨μ, ρ, st, R, re, A⟩ => by
    simp only [evIt] at A
    refine ⟨μ, ρ, st, R, re, A.bind.mono fun v H1 ⟨μ1, d, st1, _, x1, R1, P1, A1⟩ => ?_⟩
    by_cases ht : ∃ l, d = .tup l
    · obtain ⟨l, rfl⟩ := ht
      cases P1 with
      | @tup a xs _ h rs =>
        simp only [srcOf] at A1
        exact ⟨a, rfl, .inr ⟨⟨xs, by rw [hK]; exact h⟩, A1 μ1 H1 _ (Ext.refl R1) R1 (src_tup R1 hK h rs)⟩⟩
    · cases e : srcOf d st1 with
      | ok s s1 =>
        obtain ⟨e1, a, ev, ⟨xs, hx⟩, ls⟩ := srcOf_ls R1 P1 e fun l z => ht ⟨l, z⟩
        subst e1
        rw [e] at A1
        exact ⟨a, ev, .inl ⟨⟨xs, SqL.of hx⟩, A1 μ1 H1 _ (Ext.refl R1) R1 (ls.src hK)⟩⟩
      | exc y s1 => exact absurd e (srcOf_ne y s1)
      | bad => rw [e] at A1; exact A1.elim
omit hK in
theorem okR_ok {i : Int} (h : okR i = true) : -(2 ^ 62) ≤ i ∧ i < 2 ^ 62 := by
  simp [okR] at h; omega
omit hK in
theorem sI_rng1 {p : Pos} (hg : Gl X "range") (hm : X.mg "range" = none) (hs : isStar x = false) (ha : PE X x (rdE T W (evE kn a))) : PI X tg (.Call (.Name "range" p) [x] [] pos) (rdI T W (evIt kn (.rng1 a))) :=
  PI.weak (pi_range1 hg hm (pa_cons ha pa_nil (star_cons hs)) (star_cons hs)) fun σ H Q ⟨μ, ρ, st, R, re, A⟩ => by
    simp only [evIt] at A
    refine ⟨μ, ρ, st, R, re, A.bind.mono fun v H1 ⟨μ1, d, st1, _, x1, R1, P1, A1⟩ => ?_⟩
    cases P1 with
    | int i =>
      simp only at A1
      split at A1
      · rename_i h
        obtain ⟨h1, h2⟩ := okR_ok h
        exact ⟨i, rfl, h1, h2, A1 μ1 H1 _ (Ext.refl R1) R1 (src_rng 0 _)⟩
      · exact A1.elim
    | _ => exact A1.elim
omit hK in
theorem sI_rng2 {p : Pos} (hg : Gl X "range") (hm : X.mg "range" = none) (hs : isStar x = false) (hs2 : isStar y = false) (ha : PE X x (rdE T W (evE kn a))) (hb : PE X y (rdE T W (evE kn b))) : PI X tg (.Call (.Name "range" p) [x, y] [] pos) (rdI T W (evIt kn (.rng2 a b))) :=
  PI.weak (pi_range2 hg hm (pa_cons ha (pa_cons hb pa_nil (star_cons hs2)) (star_cons hs)) (by rw [star_cons hs, star_cons hs2]; rfl) (by rw [star_cons hs2]; rfl)) fun σ H Q ⟨μ, ρ, st, R, re, A⟩ => by
    simp only [evIt] at A
    refine ⟨μ, ρ, st, R, re, A.bind.mono fun v H1 ⟨μ1, d, st1, _, x1, R1, P1, A1⟩ => ⟨μ1, ρ, st1, R1, re.mono x1, A1.bind.mono fun w H2 ⟨μ2, d2, st2, _, x2, R2, P2, A2⟩ => ?_⟩⟩
    cases P1 with
    | int i =>
      cases P2 with
      | int j =>
        simp only at A2
        split at A2
        · rename_i h
          simp only [Bool.and_eq_true] at h
          obtain ⟨h1, h2⟩ := okR_ok h.1
          obtain ⟨h3, h4⟩ := okR_ok h.2
          exact ⟨i, j, rfl, ⟨h1, h2, h3, h4⟩, A2 μ2 H2 _ (Ext.refl R2) R2 (src_rng i _)⟩
        · exact A2.elim
      | _ => exact A2.elim
    | _ => exact A2.elim
theorem sI_zip {p tpos : Pos} {elts : List Expr} {kk : Nat} (hg : Gl X "zip") (hm : X.mg "zip" = none) (hs : isStar x = false) (hs2 : isStar y = false) (ha : PE X x (rdE T W (evE kn a))) (hb : PE X y (rdE T W (evE kn b))) : PI X (.Tuple elts kk tpos) (.Call (.Name "zip" p) [x, y] [] pos) (rdI T W (evIt kn (.zip a b))) :=
  PI.weak (RZ.pi_zipA hg hm (pa_cons ha (pa_cons hb pa_nil (star_cons hs2)) (star_cons hs)) (star_cons hs) (by rw [star_cons hs2]; rfl)) fun σ H Q ⟨μ, ρ, st, R, re, A⟩ => by
    simp only [evIt] at A
    refine ⟨μ, ρ, st, R, re, A.bind.mono fun v H1 ⟨μ1, d, st1, _, x1, R1, P1, A1⟩ => ⟨μ1, ρ, st1, R1, re.mono x1, A1.bind.mono fun w H2 ⟨μ2, d2, st2, _, x2, R2, P2, A2⟩ => ?_⟩⟩
    have P1 := P1.mono x2
    by_cases h1 : ∃ l, d = .tup l
    · obtain ⟨l, rfl⟩ := h1
      by_cases h2 : ∃ l, d2 = .tup l
      · obtain ⟨k, rfl⟩ := h2
        cases P1 with
        | @tup pa xs _ q1 r1 =>
          cases P2 with
          | @tup pb ys _ q2 r2 => exact ⟨pa, pb, xs, ys, rfl, .inr ⟨by rw [hK]; exact q1, by rw [hK]; exact q2, A2 μ2 H2 _ (Ext.refl R2) R2 (src_zipT R2 hK q1 q2 r1 r2)⟩⟩
      · exfalso
        cases d2 <;> first | exact h2 ⟨_, rfl⟩ | exact A2
    · by_cases h2 : ∃ l, d2 = .tup l
      · exfalso
        obtain ⟨k, rfl⟩ := h2
        cases d <;> first | exact h1 ⟨_, rfl⟩ | exact A2
      · have A2' : Aft T W σ (SrcRel T) ((srcOf d st2).bind fun s st => (srcOf d2 st).bind fun t st => .ok ⟨zipD s.its t.its, s.gs ++ t.gs⟩ st) μ2 H2 Q := by
          cases d <;> first | (exfalso; exact h1 ⟨_, rfl⟩) | (cases d2 <;> first | (exfalso; exact h2 ⟨_, rfl⟩) | exact A2)
        cases e : srcOf d st2 with
        | ok s s1 =>
          obtain ⟨e1, pa, ev, ⟨xs, hx⟩, ls⟩ := srcOf_ls R2 P1 e fun l z => h1 ⟨l, z⟩
          subst e1
          rw [e] at A2'
          simp only [AF.R.bind_ok] at A2'
          cases e' : srcOf d2 s1 with
          | ok t s2 =>
            obtain ⟨e2, pb, ev2, ⟨ys, hy⟩, lt⟩ := srcOf_ls R2 P2 e' fun l z => h2 ⟨l, z⟩
            subst e2
            rw [e'] at A2'
            simp only [AF.R.bind_ok] at A2'
            subst ev ev2
            exact ⟨pa, pb, xs, ys, rfl, .inl ⟨SqL.of hx, SqL.of hy, A2' μ2 H2 _ (Ext.refl R2) R2 (src_zipL hK ls lt)⟩⟩
          | exc y s1 => exact absurd e' (srcOf_ne y s1)
          | bad => rw [e'] at A2'; exact A2'.elim
        | exc y s1 => exact absurd e (srcOf_ne y s1)
        | bad => rw [e] at A2'; exact A2'.elim
theorem sI_enum {p tpos : Pos} {elts : List Expr} {kk : Nat} (hg : Gl X "enumerate") (hm : X.mg "enumerate" = none) (hs : isStar x = false) (ha : PE X x (rdE T W (evE kn a))) : PI X (.Tuple elts kk tpos) (.Call (.Name "enumerate" p) [x] [] pos) (rdI T W (evIt kn (.enum a))) :=
  PI.weak (pi_enum hg hm (pa_cons ha pa_nil (star_cons hs)) (star_cons hs)) fun σ H Q ⟨μ, ρ, st, R, re, A⟩ => by
    simp only [evIt] at A
    refine ⟨μ, ρ, st, R, re, A.bind.mono fun v H1 ⟨μ1, d, st1, _, x1, R1, P1, A1⟩ => ?_⟩
    by_cases h1 : ∃ l, d = .tup l
    · obtain ⟨l, rfl⟩ := h1
      exact A1.elim
    · have A2 : Aft T W σ (SrcRel T) ((srcOf d st1).bind fun s st => .ok ⟨enumD 0 s.its, s.gs⟩ st) μ1 H1 Q := by
        cases d <;> first | (exfalso; exact h1 ⟨_, rfl⟩) | exact A1
      cases e : srcOf d st1 with
      | ok s s1 =>
        obtain ⟨e1, pa, ev, ⟨xs, hx⟩, ls⟩ := srcOf_ls R1 P1 e fun l z => h1 ⟨l, z⟩
        subst e1
        rw [e] at A2
        simp only [AF.R.bind_ok] at A2
        subst ev
        exact ⟨pa, xs, rfl, SqL.of hx, A2 μ1 H1 _ (Ext.refl R1) R1 (src_enumL hK ls)⟩
      | exc y s1 => exact absurd e (srcOf_ne y s1)
      | bad => rw [e] at A2; exact A2.elim
end
end AF

/-! Snd4: targets, comprehensions. -/
namespace AF
open PySem PySem.Spec PyProof.Rows L2

/-! ### targets -/
def Agree (is : List Nat) (σ σ' : L2.St) : Prop := σ'.length = σ.length ∧ ∀ i, i ∉ is → σ'[i]? = σ[i]?
theorem Agree.refl {is : List Nat} {σ : L2.St} : Agree is σ σ := ⟨rfl, fun _ _ => rfl⟩
theorem Agree.wipe {vs : List Nat} {σ σ' : L2.St} (h : Agree vs σ σ') : wipe σ' vs = wipe σ vs := by
  have go : ∀ (ws : List Nat) (i : Nat), (L2.wipe σ' ws)[i]? = if i ∈ ws ∧ i < σ'.length then some none else σ'[i]? := by
    intro ws
    induction ws with
    | nil => intro i; simp [L2.wipe]
    | cons w ws ih =>
      intro i
      unfold L2.wipe
      by_cases hw : i = w
      · subst hw
        by_cases hl : i < σ'.length
        · rw [List.getElem?_set_self (by rw [wipe_length]; exact hl)]
          simp [hl]
        · rw [List.getElem?_eq_none (by rw [List.length_set, wipe_length]; omega)]
          simp [hl]
      · rw [List.getElem?_set_ne (Ne.symm hw), ih i]
        simp [hw]
  have go2 : ∀ (ws : List Nat) (i : Nat), (L2.wipe σ ws)[i]? = if i ∈ ws ∧ i < σ.length then some none else σ[i]? := by
    intro ws
    induction ws with
    | nil => intro i; simp [L2.wipe]
    | cons w ws ih =>
      intro i
      unfold L2.wipe
      by_cases hw : i = w
      · subst hw
        by_cases hl : i < σ.length
        · rw [List.getElem?_set_self (by rw [wipe_length]; exact hl)]
          simp [hl]
        · rw [List.getElem?_eq_none (by rw [List.length_set, wipe_length]; omega)]
          simp [hl]
      · rw [List.getElem?_set_ne (Ne.symm hw), ih i]
        simp [hw]
  apply List.ext_getElem?
  intro i
  rw [go, go2, h.1]
  by_cases hi : i ∈ vs
  · by_cases hl : i < σ.length
    · simp [hi, hl]
    · simp only [hl, and_false, if_false]
      have h1 := h.1
      rw [List.getElem?_eq_none (by omega), List.getElem?_eq_none (by omega)]
  · simp [hi, h.2 i hi]
def rdG (T : Tx) (tg : Tg) : TG := fun v σ H Q => ∃ μ st ρ d ρ', Rel T μ st H ∧ Rep T μ H d v ∧ REnv T μ H ρ σ ∧ asg tg d ρ = some ρ' ∧ ∀ σ', REnv T μ H ρ' σ' → Agree (tgI tg) σ σ' → Q σ' H
def rdGs (T : Tx) (ts : List Tg) : TGs := fun vs σ H Q => ∃ μ st ρ ds ρ', Rel T μ st H ∧ Reps T μ H ds vs ∧ REnv T μ H ρ σ ∧ asgs ts ds ρ = some ρ' ∧ ∀ σ', REnv T μ H ρ' σ' → Agree (tgIs ts) σ σ' → Q σ' H
theorem asgs_len : ∀ {ts : List Tg} {ds : List D} {ρ ρ' : Env}, asgs ts ds ρ = some ρ' → ds.length = ts.length
  | [], [], _, _, _ => rfl
  | [], _ :: _, _, _, h => by simp [asgs] at h
  | _ :: _, [], _, _, h => by simp [asgs] at h
  | t :: ts, d :: ds, ρ, ρ', h => by
    simp only [asgs] at h
    split at h
    · simp [asgs_len h]
    · cases h
theorem PGs.weak {X : Cx} {e : List Expr} {t t' : TGs} (h : PGs X e t) (k : ∀ v σ H Q, t' v σ H Q → t v σ H Q) : PGs X e t' := ⟨fun pins s σ H v u Q I r q => h.run pins s σ H v u Q I r (k v σ H Q q)⟩
theorem PTs.weak {X : Cx} {e : List Expr} {t t' : TT} (h : PTs X e t) (k : ∀ σ H Q, t' σ H Q → t σ H Q) : PTs X e t' := ⟨fun pins s σ H Q I q => h.run pins s σ H Q I (k σ H Q q)⟩
theorem asn_star {es : List Expr} {env : PySem.Env} (h : noStars es = true) : (assignEach es env).findIdx? (·.1) = none ∧ (assignEach es env).length = es.length := by
  induction es with
  | nil => exact ⟨rfl, rfl⟩
  | cons e es ih =>
    simp only [noStars, Bool.and_eq_true, Bool.not_eq_true'] at h
    obtain ⟨h1, h2⟩ := ih h.2
    have e1 : assignEach (e :: es) env = (false, assign e env) :: assignEach es env := by
      cases e <;> first | rfl | (simp [isStar] at h)
    rw [e1]
    refine ⟨?_, by simp [h2]⟩
    rw [List.findIdx?_cons]
    simp [h1]
theorem asn_cons {e : Expr} {es : List Expr} {env : PySem.Env} (h : isStar e = false) : (assignEach (e :: es) env).map (·.2) = assign e env :: (assignEach es env).map (·.2) := by
  cases e <;> first | rfl | (simp [isStar] at h)
theorem chkTs_stars {g : G} : ∀ {ts : List Tg} {xs : List Expr}, chkTs g ts xs = true → noStars xs = true ∧ xs.length = ts.length
  | [], [], _ => ⟨rfl, rfl⟩
  | [], _ :: _, h => by simp [chkTs] at h
  | _ :: _, [], h => by simp [chkTs] at h
  | t :: ts, x :: xs, h => by
    simp only [chkTs, Bool.and_eq_true, Bool.not_eq_true'] at h
    obtain ⟨h1, h2⟩ := chkTs_stars h.2
    exact ⟨by simp [noStars, h.1.2, h1], by simp [h2]⟩
theorem isLocal_ok {k : Option NameKind} (h : isLocal k = true) : k = some .local := by
  unfold isLocal at h; split at h <;> simp_all
theorem isCell_ok {k : Option NameKind} (h : isCell k = true) : k = some .cell := by
  unfold isCell at h; split at h <;> simp_all
theorem isGl_ok {k : Option NameKind} (h : isGl k = true) : k = some .globalImplicit := by
  unfold isGl at h; split at h <;> simp_all
theorem isVis_ok {k : Option NameKind} (h : isVis k = true) : k = some .local ∨ k = some .cell ∨ k = some .free := by
  unfold isVis at h; split at h <;> simp_all
theorem tgOk_ok {g : G} {i : Nat} {x : Str} (h : tgOk g i x = true) : g.N[i]? = some x ∧ Loc g.sc x ∧ (g.fnOk x = true ∨ g.sc.names.lookup x = some .local) := by
  simp only [tgOk, Bool.and_eq_true, Bool.or_eq_true, decide_eq_true_eq] at h
  obtain ⟨h1, h2 | ⟨h2, h3⟩⟩ := h
  · exact ⟨h1, .inl (isLocal_ok h2), .inr (isLocal_ok h2)⟩
  · exact ⟨h1, .inr (isCell_ok h2), .inl h3⟩
section
variable {X : Cx} {T : Tx} {g : G}
theorem sG_name {i : Nat} {x : Str} {pos : Pos} (hN : X.N.Nodup) (hi : X.N[i]? = some x) (hx : Loc X.env.scope x) (hf : X.fn x = true ∨ X.env.scope.names.lookup x = some .local) : PG X (.Name x pos) (rdG T (.name i)) :=
  PG.weak (pg_name hN hi hx hf) fun v σ H Q ⟨μ, st, ρ, d, ρ', R, rp, re, ea, k⟩ => by
    simp only [asg] at ea
    split at ea
    · rename_i hl
      cases ea
      exact k _ (re.set rp hl) ⟨by simp, fun j hj => by rw [List.getElem?_set_ne]; simp [tgI] at hj; omega⟩
    · cases ea
variable (hN : X.N = g.N) (nd : X.N.Nodup) (hsc : X.env.scope = g.sc) (hfn : ∀ x, g.fnOk x = true → X.fn x = true) (hc : X.calm = true) (hK : X.K = T.K)
include hN nd hsc hfn hc hK
mutual
theorem sG : ∀ {t : Tg} {x : Expr}, chkT g t x = true → PG X x (rdG T t)
  | .name i, x, h => by
    cases x <;> simp only [chkT] at h <;> first | (cases h; done) | skip
    obtain ⟨h1, h2, h3⟩ := tgOk_ok h
    exact sG_name nd (by rw [hN]; exact h1) (by rw [hsc]; exact h2) (h3.elim (fun z => .inl (hfn _ z)) fun z => .inr (by rw [hsc]; exact z))
  | .tup ts, x, h => by
    cases x <;> simp only [chkT] at h <;> first | (cases h; done) | skip
    obtain ⟨s1, s2⟩ := chkTs_stars h
    obtain ⟨a1, a2⟩ := asn_star (env := X.env) s1
    refine PG.weak (pg_tup hc (sGs h) (a2.trans s2) a1) fun v σ H Q ⟨μ, st, ρ, d, ρ', R, rp, re, ea, k⟩ => ?_
    cases rp with
    | @tup a xs l q rs =>
      simp only [asg] at ea
      exact ⟨a, xs, rfl, by rw [hK]; exact q, by rw [rs.length]; exact asgs_len ea, μ, st, ρ, l, ρ', R, rs, re, ea, k⟩
    | _ => simp only [asg] at ea; cases ea
theorem sGs : ∀ {ts : List Tg} {xs : List Expr}, chkTs g ts xs = true → PGs X xs (rdGs T ts)
  | [], [], _ => PGs.weak pgs_nil fun vs σ H Q ⟨μ, st, ρ, ds, ρ', R, rs, re, ea, k⟩ => by
    cases rs with
    | nil => simp only [asgs] at ea; cases ea; exact ⟨rfl, k σ re Agree.refl⟩
    | cons _ _ => simp [asgs] at ea
  | [], _ :: _, h => by simp [chkTs] at h
  | _ :: _, [], h => by simp [chkTs] at h
  | t :: ts, x :: xs, h => by
    simp only [chkTs, Bool.and_eq_true, Bool.not_eq_true'] at h
    refine PGs.weak (pgs_cons (sG h.1.1) (sGs h.2) (asn_cons h.1.2)) fun vs σ H Q ⟨μ, st, ρ, ds, ρ', R, rs, re, ea, k⟩ => ?_
    cases rs with
    | nil => simp [asgs] at ea
    | cons r rr =>
      simp only [asgs] at ea
      split at ea
      · rename_i ρ1 e1
        refine ⟨_, _, rfl, μ, st, ρ, _, ρ1, R, r, re, e1, fun σ1 re1 ag1 => ⟨μ, st, ρ1, _, ρ', R, rr, re1, ea, fun σ2 re2 ag2 => k σ2 re2 ⟨ag2.1.trans ag1.1, fun i hi => ?_⟩⟩⟩
        simp only [tgIs, List.mem_append, not_or] at hi
        rw [ag2.2 i hi.2, ag1.2 i hi.1]
      · cases ea
end
end

/-! ### the list that is being made -/
section
variable {T : Tx} {μ μ' : List Addr} {H H' : Hp} {st : Store} {A : Addr}
theorem hide1 {o : HO} (h : H A = none) : hide [A] (upd H A o) = H := by
  funext a
  unfold hide
  by_cases e : a = A
  · subst e; simp [h]
  · rw [if_neg (by simpa using e), upd_ne e]
mutual
theorem Rep.updG (hg : A ∈ T.gh) {xs ys : List V} (hA : H A = some (.lst xs)) : ∀ {d : D} {v : V}, Rep T μ H d v → Rep T μ (upd H A (.lst ys)) d v
  | _, _, .non => .non
  | _, _, .bl b => .bl b
  | _, _, .int i => .int i
  | _, _, .str s => .str s
  | _, _, .tup (a := a) q r => .tup (by
      rcases q with (q | ⟨o, q⟩) | q
      · exact .inl (.inl (by rw [upd_ne (fun z => by rw [z, hA] at q; cases q)]; exact q))
      · exact .inl (.inr ⟨o, by rw [upd_ne (fun z => by rw [z, hA] at q; cases q)]; exact q⟩)
      · exact .inr q) (Reps.updG hg hA r)
  | _, _, .lst (a := a) q n r => .lst (by rw [upd_ne (fun z => n.2 (by rw [z]; exact hg))]; exact q) n (Reps.updG hg hA r)
  | _, _, .scr (a := a) q => .scr (by
      rcases q with ⟨o, q⟩ | q
      · exact .inl ⟨o, by rw [upd_ne (fun z => by rw [z, hA] at q; cases q)]; exact q⟩
      · exact .inr q)
  | _, _, .ref q => .ref q
  | _, _, .glo n => .glo n
theorem Reps.updG (hg : A ∈ T.gh) {xs ys : List V} (hA : H A = some (.lst xs)) : ∀ {l : List D} {vs : List V}, Reps T μ H l vs → Reps T μ (upd H A (.lst ys)) l vs
  | _, _, .nil => .nil
  | _, _, .cons a r => .cons (Rep.updG hg hA a) (Reps.updG hg hA r)
end
theorem Rel.updG (R : Rel T μ st H) (hg : A ∈ T.gh) {xs ys : List V} (hA : H A = some (.lst xs)) : Rel T μ st (upd H A (.lst ys)) := by
  have nm : A ∉ μ := (R.gh A hg).1
  refine ⟨R.len, R.inj, fun n o e => ?_, fun a ha => ⟨(R.gh a ha).1, ?_⟩⟩
  · obtain ⟨a, h1, h2⟩ := R.obj n o e
    refine ⟨a, h1, ?_⟩
    have ne : a ≠ A := fun z => nm (by rw [← z]; exact List.mem_of_getElem? h1)
    cases o with
    | lst l => obtain ⟨zs, q, r⟩ := h2; exact ⟨zs, by rw [upd_ne ne]; exact q, r.updG hg hA⟩
    | ins c fs =>
      obtain ⟨dx, zs, q, ow, r⟩ := h2
      exact ⟨dx, zs, by rw [upd_ne ne]; exact q, by rw [upd_ne (fun z => by rw [z, hA] at ow; cases ow)]; exact ow, r.imp rfl fun _ _ r => r.updG hg hA⟩
  · by_cases z : a = A
    · subst z; exact ⟨ys, upd_same⟩
    · rw [upd_ne z]; exact (R.gh a ha).2
/-- a step that leaves the store's own map alone: to what is hidden -/
theorem Ext.updG {μ0 : List Addr} {H0 : Hp} (x : Ext μ0 (hide [A] H0) μ H) (nm : A ∉ μ) {o : HO} : Ext μ0 (hide [A] H0) μ (upd H A o) :=
  ⟨x.pre, fun a o e h => by
    have ne : a ≠ A := fun z => by rw [z] at e; simp [hide] at e
    rw [upd_ne ne]; exact x.keep a o e h, x.mut0, fun a ha => by
    have ne : a ≠ A := fun z => nm (by rw [← z]; exact ha)
    rw [upd_ne ne]; exact x.mut1 a ha⟩
theorem Ext.toHide {μ0 : List Addr} {H0 : Hp} (x : Ext μ0 H0 μ H) {G : List Addr} (nm : ∀ a ∈ G, a ∉ μ0) : Ext μ0 (hide G H0) μ H := by
  obtain ⟨⟨t, e, ht⟩, k, m0, m1⟩ := x
  exact ⟨⟨t, e, fun a ha => by unfold hide; split <;> first | rfl | exact ht a ha⟩, fun a o q h => k a o (hide_some.mp q).2 h, fun a ha => by unfold hide; rw [if_neg (fun z => nm a z ha)]; exact m0 a ha, m1⟩
theorem Ext.more {μ0 : List Addr} {H0 : Hp} {B G : List Addr} (x : Ext μ0 (hide B H0) μ H) (hb : ∀ a ∈ B, a ∈ G) (nm : ∀ a ∈ G, a ∉ μ0) : Ext μ0 (hide G H0) μ H := by
  obtain ⟨⟨t, e, ht⟩, k, m0, m1⟩ := x
  refine ⟨⟨t, e, fun a ha => ?_⟩, fun a o q h => ?_, fun a ha => ?_, m1⟩
  · have := ht a ha
    unfold hide at this ⊢
    split
    · rfl
    · rename_i hn
      rw [if_neg (fun z => hn (hb a z))] at this; exact this
  · obtain ⟨h1, h2⟩ := hide_some.mp q
    exact k a o (hide_some.mpr ⟨fun z => h1 (hb a z), h2⟩) h
  · have := m0 a ha
    unfold hide at this ⊢
    rw [if_neg (fun z => nm a z ha)]
    rw [if_neg (fun z => nm a (hb a z) ha)] at this
    exact this
/-- on from a later time -/
theorem Ext.then {μ0 μ1 : List Addr} {H0 H1 : Hp} (x : Ext μ0 (hide [A] H0) μ1 H1) (nm : A ∉ μ1) (y : Ext μ1 H1 μ H) : Ext μ0 (hide [A] H0) μ H := by
  have x' : Ext μ0 (hide [A] H0) μ1 (hide [A] H1) := ⟨x.pre, fun a o e h => hide_some.mpr ⟨(hide_some.mp e).1, x.keep a o e h⟩, x.mut0, fun a ha => by
    unfold hide; rw [if_neg (by simp; intro z; exact nm (by rw [← z]; exact ha))]; exact x.mut1 a ha⟩
  exact x'.trans (y.toHide (by simpa using nm))
theorem REnv.updG {ρ : Env} {σ : L2.St} (re : REnv T μ H ρ σ) (hg : A ∈ T.gh) {xs ys : List V} (hA : H A = some (.lst xs)) : REnv T μ (upd H A (.lst ys)) ρ σ :=
  ⟨re.len, fun i d h => let ⟨v, h1, h2⟩ := re.get i d h; ⟨v, h1, h2.updG hg hA⟩⟩
theorem REnv.toGh {gh : List Addr} {ρ : Env} {σ : L2.St} (h : GhOk T H gh) (re : REnv T μ H ρ σ) : REnv (T.with gh) μ H ρ σ :=
  ⟨re.len, fun i d q => let ⟨v, h1, h2⟩ := re.get i d q; ⟨v, h1, h2.toGh h⟩⟩
/-- a new list that is being made -/
theorem Rel.ghost (R : Rel T μ st H) (hA : H A = none) : Rel (T.with (A :: T.gh)) μ st (upd H A (.lst [])) := by
  have R1 := R.new (o := .lst []) hA
  have nm : A ∉ μ := fun hm => by obtain ⟨u, hu⟩ := (R.mut A hm).some; rw [hA] at hu; cases hu
  have gk : GhOk T H (A :: T.gh) := fun a ha => by
    rcases List.mem_cons.mp ha with e | e
    · right; rw [e]; exact hA
    · exact .inl e
  refine ⟨R.len, R.inj, fun n o e => ?_, fun a ha => ?_⟩
  · obtain ⟨a, h1, h2⟩ := R.obj n o e
    obtain ⟨u, hu⟩ := h2.mut.some
    have ne : a ≠ A := fun z => by rw [z, hA] at hu; cases hu
    refine ⟨a, h1, ?_⟩
    cases o with
    | lst l => obtain ⟨zs, q, r⟩ := h2; exact ⟨zs, by rw [upd_ne ne]; exact q, (r.toGh gk).mono (Ext.new R hA)⟩
    | ins c fs =>
      obtain ⟨dx, zs, q, ow, r⟩ := h2
      exact ⟨dx, zs, by rw [upd_ne ne]; exact q, by rw [upd_ne (fun z => by rw [z, hA] at ow; cases ow)]; exact ow, FsR.imp (T := T) (T' := T.with (A :: T.gh)) rfl (fun _ _ r => (r.toGh gk).mono (Ext.new R hA)) r⟩
  · rcases List.mem_cons.mp ha with e | e
    · rw [e]; exact ⟨nm, [], upd_same⟩
    · exact R1.gh a e
theorem Rel.unGh {gh : List Addr} (R : Rel T μ st H) (h : ∀ a ∈ gh, a ∈ T.gh) : Rel (T.with gh) μ st H := by
  refine ⟨R.len, R.inj, fun n o e => ?_, fun a ha => R.gh a (h a ha)⟩
  obtain ⟨a, h1, h2⟩ := R.obj n o e
  refine ⟨a, h1, ?_⟩
  cases o with
  | lst l => obtain ⟨zs, q, r⟩ := h2; exact ⟨zs, q, r.unGh h⟩
  | ins c fs =>
    obtain ⟨dx, zs, q, ow, r⟩ := h2
    exact ⟨dx, zs, q, ow, FsR.imp (T := T) (T' := T.with gh) rfl (fun _ _ r => r.unGh h) r⟩
end
end AF

/-! Snd5: list comprehensions. -/
namespace AF
open PySem PySem.Spec PyProof.Rows L2

abbrev WF : WX := fun _ _ _ _ => False
theorem evLc_ne {gs : List (Nat × List D)} {tg : Tg} {c e : Env → Store → R D} {ρ : Env} : ∀ {its acc : List D} {st : Store} (x : Ex) (s : Store), evLc gs tg c e ρ its acc st ≠ .exc x s
  | [], acc, st, x, s => by unfold evLc; split <;> simp
  | d :: its, acc, st, x, s => by
    unfold evLc
    repeat' split
    all_goals first | exact evLc_ne x s | simp
theorem evLc2_ne {gs : List (Nat × List D)} {tg tg1 : Tg} {src : Env → Store → R Src} {own1 : List Nat} {e : Env → Store → R D} {ρ : Env} : ∀ {its acc : List D} {st : Store} (x : Ex) (s : Store), evLc2 gs tg src own1 tg1 e ρ its acc st ≠ .exc x s
  | [], acc, st, x, s => by unfold evLc2; split <;> simp
  | d :: its, acc, st, x, s => by
    unfold evLc2
    repeat' split
    all_goals first | exact evLc2_ne x s | simp
/-- one turn of a comprehension that does not go bad -/
theorem evLc_cons {gs : List (Nat × List D)} {tg : Tg} {c e : Env → Store → R D} {ρ : Env} {d : D} {its acc l : List D} {st s' : Store} (h : evLc gs tg c e ρ (d :: its) acc st = .ok l s') :
    guard gs st = true ∧ ∃ ρ1, asg tg d ρ = some ρ1 ∧ ∃ b st1, c ρ1 st = .ok (.bl b) st1 ∧
      if b = true then ∃ y st2, e ρ1 st1 = .ok y st2 ∧ acc.length < LIM ∧ evLc gs tg c e ρ its (acc ++ [y]) st2 = .ok l s' else evLc gs tg c e ρ its acc st1 = .ok l s' := by
  unfold evLc at h
  split at h
  · rename_i g
    refine ⟨g, ?_⟩
    split at h
    · cases h
    · rename_i ρ1 e1
      refine ⟨ρ1, e1, ?_⟩
      split at h
      · rename_i st1 e2
        refine ⟨true, st1, e2, ?_⟩
        split at h
        · rename_i y st2 e3
          split at h
          · rename_i hl
            exact ⟨y, st2, e3, hl, h⟩
          · cases h
        · cases h
      · rename_i st1 e2
        exact ⟨false, st1, e2, h⟩
      · cases h
  · cases h
theorem evLc_nil {gs : List (Nat × List D)} {tg : Tg} {c e : Env → Store → R D} {ρ : Env} {acc l : List D} {st s' : Store} (h : evLc gs tg c e ρ [] acc st = .ok l s') : guard gs st = true ∧ l = acc ∧ s' = st := by
  unfold evLc at h
  split at h
  · rename_i g
    cases h; exact ⟨g, rfl, rfl⟩
  · cases h
theorem evLc2_cons {gs : List (Nat × List D)} {tg tg1 : Tg} {src : Env → Store → R Src} {own1 : List Nat} {e : Env → Store → R D} {ρ : Env} {d : D} {its acc l : List D} {st s' : Store} (h : evLc2 gs tg src own1 tg1 e ρ (d :: its) acc st = .ok l s') :
    guard gs st = true ∧ ∃ ρ1, asg tg d ρ = some ρ1 ∧ ∃ s st1, src ρ1 st = .ok s st1 ∧ ∃ acc1 st2, evLc s.gs tg1 (fun _ st => .ok (.bl true) st) e (wipeE ρ1 own1) s.its acc st1 = .ok acc1 st2 ∧ evLc2 gs tg src own1 tg1 e ρ its acc1 st2 = .ok l s' := by
  unfold evLc2 at h
  split at h
  · rename_i g
    refine ⟨g, ?_⟩
    split at h
    · cases h
    · rename_i ρ1 e1
      refine ⟨ρ1, e1, ?_⟩
      split at h
      · rename_i s st1 e2
        refine ⟨s, st1, e2, ?_⟩
        split at h
        · rename_i acc1 st2 e3
          exact ⟨acc1, st2, e3, h⟩
        · cases h
      · cases h
  · cases h
theorem evLc2_nil {gs : List (Nat × List D)} {tg tg1 : Tg} {src : Env → Store → R Src} {own1 : List Nat} {e : Env → Store → R D} {ρ : Env} {acc l : List D} {st s' : Store} (h : evLc2 gs tg src own1 tg1 e ρ [] acc st = .ok l s') : guard gs st = true ∧ l = acc ∧ s' = st := by
  unfold evLc2 at h
  split at h
  · rename_i g
    cases h; exact ⟨g, rfl, rfl⟩
  · cases h
theorem Reps.snoc {T : Tx} {μ : List Addr} {H : Hp} {l : List D} {xs : List V} {d : D} {v : V} (r : Reps T μ H l xs) (h : Rep T μ H d v) : Reps T μ H (l ++ [d]) (xs ++ [v]) := r.append (.cons h .nil)

theorem Agree.trans {is : List Nat} {σ σ1 σ2 : L2.St} (a : Agree is σ σ1) (b : Agree is σ1 σ2) : Agree is σ σ2 := ⟨b.1.trans a.1, fun i h => (b.2 i h).trans (a.2 i h)⟩
theorem Agree.sub {is js : List Nat} {σ σ1 : L2.St} (a : Agree is σ σ1) (h : ∀ i ∈ is, i ∈ js) : Agree js σ σ1 := ⟨a.1, fun i hi => a.2 i fun z => hi (h i z)⟩
theorem agree_wipe {vs : List Nat} {σ : L2.St} : Agree vs σ (wipe σ vs) := by
  refine ⟨wipe_length σ vs, ?_⟩
  induction vs with
  | nil => intro i _; rfl
  | cons v vs ih =>
    intro i hi
    simp only [List.mem_cons, not_or] at hi
    unfold L2.wipe
    rw [List.getElem?_set_ne (Ne.symm hi.1)]
    exact ih i hi.2
section
variable {T : Tx} {G : List Addr} {A : Addr}
/-- what the rest of a comprehension comes to, and how its last state is reached -/
theorem lc_loop (hA : A ∈ G) {μs : List Addr} {Hs : Hp} {s : Src} {J : L2.It} (src : SrcRel T μs Hs s J) (gok : GhOk T Hs G)
    {μ0 : List Addr} {H0 : Hp} (hh : ∀ μ H, Ext μ0 (hide [A] H0) μ H → Ext μs (hide T.gh Hs) μ H)
    {tg : Tg} {c e : Env → Store → R D} {ρw : Env} {σ : L2.St} {vs : List Nat} {acc0 : List D} {st0 : Store} {accV0 : List V} (R0 : Rel (T.with G) μ0 st0 H0) (hA0 : H0 A = some (.lst accV0)) (ra0 : Reps (T.with G) μ0 H0 acc0 accV0)
    (re0 : REnv (T.with G) μ0 H0 ρw (wipe σ vs)) (sub : ∀ i ∈ tgI tg, i ∈ vs) (End : Hp → Prop) {l : List D} {stE : Store} (hr : evLc s.gs tg c e ρw s.its acc0 st0 = .ok l stE)
    (hEnd : ∀ μ H accV, Rel (T.with G) μ stE H → Ext μ0 (hide [A] H0) μ H → H A = some (.lst accV) → Reps (T.with G) μ H l accV → End H) :
    ∃ Wp : Nat → Nat → Hp → Prop, (∃ m, Wp 0 m H0) ∧ ∀ i m H, Wp i m H → (J.stop i H ∧ End H) ∨ (J.go i H ∧ ∃ Nx : Hp → Prop, (∀ H', Nx H' → ∃ m', m' < m ∧ Wp (i + 1) m' H') ∧ ∀ x H', J.yld i H x H' →
      (∃ gh, rdG (T.with gh) tg x (wipe σ vs) H' fun σ2 H2 => wipe σ2 vs = wipe σ vs ∧ ∃ gh, rdT (T.with gh) WF c σ2 H2 fun b H3 =>
        if b = true then ∃ gh, rdE (T.with gh) WF e σ2 H3 fun y H4 => ∃ acc, H4 A = some (.lst acc) ∧ acc.length < sizeLine ∧ Nx (upd H4 A (.lst (acc ++ [y]))) else Nx H3)) := by
  have hAG : A ∈ (T.with G).gh := hA
  refine ⟨fun i m H => m = s.its.length - i ∧ i ≤ s.its.length ∧ ∃ μ st acc accV, Rel (T.with G) μ st H ∧ Ext μ0 (hide [A] H0) μ H ∧ H A = some (.lst accV) ∧ Reps (T.with G) μ H acc accV ∧ REnv (T.with G) μ H ρw (wipe σ vs) ∧
    evLc s.gs tg c e ρw (s.its.drop i) acc st = .ok l stE, ⟨_, rfl, Nat.zero_le _, μ0, st0, acc0, accV0, R0, (Ext.refl R0).toHide (fun a ha => by
      have : a = A := by simpa using ha
      subst this; exact (R0.gh a hAG).1), hA0, ra0, re0, hr⟩, ?_⟩
  rintro i m H ⟨rfl, hi, μ, st, acc, accV, R, x0, hAx, ra, re, he⟩
  have nmA : A ∉ μ := (R.gh A hAG).1
  by_cases hlt : i < s.its.length
  · rw [List.drop_eq_getElem_cons hlt] at he
    obtain ⟨gd, ρ1, ea, b, st1, ec, rest⟩ := evLc_cons he
    obtain ⟨go, yl⟩ := (src G μ st H gok (hh μ H x0) R gd i).1 hlt
    refine .inr ⟨go, _, fun H' h => ⟨_, by omega, rfl, hlt, h⟩, fun x H' y => ?_⟩
    obtain ⟨d, hd, x1, R1, rx, kp⟩ := yl x H' y
    rw [List.getElem?_eq_getElem hlt] at hd
    have hd := Option.some.inj hd
    subst hd
    have x01 := x0.then nmA x1
    have re1 := re.mono x1
    have ra1 := ra.mono x1
    have hA1 := kp _ _ hAx
    refine ⟨G, μ, st, ρw, _, ρ1, R1, rx, re1, ea, fun σ2 re2 ag => ⟨(agree_wipe.trans (ag.sub sub)).wipe, G, μ, ρ1, st, R1, re2, ?_⟩⟩
    rw [ec]
    show ∀ μ' H' v, Ext μ _ μ' H' → Rel (T.with G) μ' st1 H' → b = v → _
    intro μ3 H3 v x3 R3 ev
    subst ev
    have x03 := x01.then nmA x3
    have hA3 := x3.keep _ _ hA1 nmA
    have nm3 : A ∉ μ3 := (R3.gh A hAG).1
    have re3 := re1.mono x3
    have ra3 := ra1.mono x3
    cases b with
    | true =>
      simp only [if_true] at rest ⊢
      obtain ⟨y, st2, ee, hl, he2⟩ := rest
      refine ⟨G, μ3, ρ1, st1, R3, re2.mono x3, ?_⟩
      rw [ee]
      show ∀ μ' H' v, Ext μ3 _ μ' H' → Rel (T.with G) μ' st2 H' → Rep (T.with G) μ' H' y v → _
      intro μ4 H4 v x4 R4 rv
      have hA4 := x4.keep _ _ hA3 nm3
      have nm4 : A ∉ μ4 := (R4.gh A hAG).1
      have ra4 := ra3.mono x4
      refine ⟨accV, hA4, by rw [ra4.length]; exact Nat.lt_of_lt_of_le hl limS, μ4, st2, acc ++ [y], accV ++ [v], R4.updG hAG hA4, (x03.then nm3 x4).updG nm4, upd_same, (ra4.snoc rv).updG hAG hA4, (re3.mono x4).updG hAG hA4, he2⟩
    | false =>
      exact ⟨μ3, st1, acc, accV, R3, x03, hA3, ra3, re3, rest⟩
  · have e : i = s.its.length := by omega
    subst e
    rw [List.drop_length] at he
    obtain ⟨gd, e1, e2⟩ := evLc_nil he
    subst e1 e2
    exact .inl ⟨(src G μ stE H gok (hh μ H x0) R gd _).2 (Nat.le_refl _), hEnd μ H accV R x0 hAx ra⟩
end
section
variable {T : Tx} {A : Addr} {μ : List Addr} {H : Hp}
mutual
/-- the list that was made joins the store -/
theorem Rep.adopt : ∀ {d : D} {v : V}, Rep (T.with (A :: T.gh)) μ H d v → Rep T (μ ++ [A]) H d v
  | _, _, .non => .non
  | _, _, .bl b => .bl b
  | _, _, .int i => .int i
  | _, _, .str s => .str s
  | _, _, .tup q r => .tup q (Reps.adopt r)
  | _, _, .lst q n r => .lst q ⟨by
      have h2 := n.2
      intro hm
      rcases List.mem_append.mp hm with hm | hm
      · exact n.1 hm
      · exact h2 (List.mem_cons.mpr (.inl (by simpa using hm))), fun hm => n.2 (List.mem_cons_of_mem _ hm)⟩ (Reps.adopt r)
  | _, _, .scr q => .scr q
  | _, _, .ref q => .ref (by rw [List.getElem?_append_left (List.getElem?_eq_some_iff.mp q).1]; exact q)
  | _, _, .glo n => .glo (T := T) n
theorem Reps.adopt : ∀ {l : List D} {xs : List V}, Reps (T.with (A :: T.gh)) μ H l xs → Reps T (μ ++ [A]) H l xs
  | _, _, .nil => .nil
  | _, _, .cons a r => .cons (Rep.adopt a) (Reps.adopt r)
end
theorem Rel.adopt {st : Store} {l : List D} {xs : List V} (R : Rel (T.with (A :: T.gh)) μ st H) (hA : H A = some (.lst xs)) (r : Reps (T.with (A :: T.gh)) μ H l xs) (hg : A ∉ T.gh) : Rel T (μ ++ [A]) (st ++ [.lst l]) H := by
  have nm : A ∉ μ := (R.gh A (List.mem_cons_self)).1
  refine ⟨by simp [R.len], fun i j a hi hj => ?_, fun n ob' e => ?_, fun a ha => ?_⟩
  · by_cases h1 : i < μ.length <;> by_cases h2 : j < μ.length
    · rw [List.getElem?_append_left h1] at hi; rw [List.getElem?_append_left h2] at hj
      exact R.inj i j a hi hj
    · rw [List.getElem?_append_left h1] at hi; rw [List.getElem?_append_right (by omega)] at hj
      have : a = A := by
        have := List.mem_of_getElem? hj
        simpa using this
      subst this; exact absurd (List.mem_of_getElem? hi) nm
    · rw [List.getElem?_append_right (by omega)] at hi; rw [List.getElem?_append_left h2] at hj
      have : a = A := by
        have := List.mem_of_getElem? hi
        simpa using this
      subst this; exact absurd (List.mem_of_getElem? hj) nm
    · rw [List.getElem?_append_right (by omega)] at hi hj
      have e1 := (List.getElem?_eq_some_iff.mp hi).1
      have e2 := (List.getElem?_eq_some_iff.mp hj).1
      simp only [List.length_singleton] at e1 e2
      omega
  · by_cases h1 : n < st.length
    · rw [List.getElem?_append_left h1] at e
      obtain ⟨a, ha, q⟩ := R.obj n ob' e
      refine ⟨a, by rw [List.getElem?_append_left (by rw [R.len]; exact h1)]; exact ha, ?_⟩
      cases ob' with
      | lst k => obtain ⟨zs, q1, q2⟩ := q; exact ⟨zs, q1, q2.adopt⟩
      | ins c fs =>
        obtain ⟨dx, zs, q1, ow, q2⟩ := q
        exact ⟨dx, zs, q1, ow, FsR.imp (T := T.with (A :: T.gh)) (T' := T) rfl (fun _ _ r => r.adopt) q2⟩
    · rw [List.getElem?_append_right (by omega)] at e
      have e1 := (List.getElem?_eq_some_iff.mp e).1
      simp only [List.length_singleton] at e1
      have hn : n = st.length := by omega
      subst hn
      simp at e; subst e
      refine ⟨A, ?_, xs, hA, r.adopt⟩
      rw [← R.len]; simp
  · obtain ⟨g1, g2⟩ := R.gh a (List.mem_cons_of_mem _ ha)
    refine ⟨fun hm => ?_, g2⟩
    rcases List.mem_append.mp hm with hm | hm
    · exact g1 hm
    · have : a = A := by simpa using hm
      subst this; exact hg ha
/-- a comprehension's end -/
theorem lc_end {W : WX} {σ : L2.St} {m : Bool} {l : List D} {xs : List V} {st st1 : Store} {μ1 : List Addr} {H1 : Hp} {Q : VK} (h : Aft T W σ (RepT T) (mkL m l st) μ1 H1 Q) (R1 : Rel T μ1 st1 H1) (hA1 : H1 A = none) (x : Ext μ1 H1 μ H)
    (R : Rel (T.with (A :: T.gh)) μ st H) (hA : H A = some (.lst xs)) (r : Reps (T.with (A :: T.gh)) μ H l xs) : Q (.ref A) H := by
  have hg : A ∉ T.gh := fun hm => by obtain ⟨ys, e⟩ := R1.ghl A hm; rw [hA1] at e; cases e
  have nm : A ∉ μ := (R.gh A (List.mem_cons_self)).1
  have sub : ∀ a ∈ T.gh, a ∈ (T.with (A :: T.gh)).gh := fun a ha => List.mem_cons_of_mem _ ha
  cases m with
  | false =>
    exact h μ H (.ref A) x (R.unGh (T := T.with (A :: T.gh)) (gh := T.gh) sub) (.lst hA ⟨nm, hg⟩ (Reps.unGh (T := T.with (A :: T.gh)) (gh := T.gh) sub r))
  | true =>
    refine h (μ ++ [A]) H (.ref A) ?_ (R.adopt hA r hg) (.ref ?_)
    · obtain ⟨⟨t, e, ht⟩, k, m0, m1⟩ := x
      refine ⟨⟨t ++ [A], by rw [e, List.append_assoc], fun a ha => ?_⟩, k, m0, fun a ha => ?_⟩
      · rcases List.mem_append.mp ha with ha | ha
        · exact ht a ha
        · have : a = A := by simpa using ha
          subst this; exact hA1
      · rcases List.mem_append.mp ha with ha | ha
        · exact m1 a ha
        · have : a = A := by simpa using ha
          subst this; rw [hA]; trivial
    · rw [← R.len]; simp
end

section
variable {X : Cx} {T : Tx} {W : WX} {kn : Kn} {pos : Pos} {tgE iter elt tgE1 iter1 : Expr} {e : E} {tg tg1 : Tg} {it it1 : It} {c : Oe} {ifs : List Expr} {scope : Scope} {own : List (Str × Nat)} {own1 : List Nat}
theorem PG.ex {x : Expr} {t : List Addr → TG} (h : ∀ gh, PG X x (t gh)) : PG X x (fun v σ H Q => ∃ gh, t gh v σ H Q) := ⟨fun pins s σ H v u Q I r ⟨gh, q⟩ => (h gh).run pins s σ H v u Q I r q⟩
theorem PE.ex {x : Expr} {t : List Addr → TE} (h : ∀ gh, PE X x (t gh)) : PE X x (fun σ H Q => ∃ gh, t gh σ H Q) := ⟨fun pins s σ H Q I ⟨gh, q⟩ => (h gh).run pins s σ H Q I q⟩
theorem PTs.ex {x : List Expr} {t : List Addr → TT} (h : ∀ gh, PTs X x (t gh)) : PTs X x (fun σ H Q => ∃ gh, t gh σ H Q) := ⟨fun pins s σ H Q I ⟨gh, q⟩ => (h gh).run pins s σ H Q I q⟩
theorem PI.ex {y x : Expr} {t : List Addr → TI} (h : ∀ gh, PI X y x (t gh)) : PI X y x (fun σ H Q => ∃ gh, t gh σ H Q) := ⟨fun pins s σ H Q I ⟨gh, q⟩ => (h gh).run pins s σ H Q I q⟩
/-- a block of X -/
abbrev Blk (X : Cx) (scope : Scope) (P : Cx → Prop) : Prop := ∀ (s : Shared) (H : Hp) (C : Addr) (cl : List (Str × Addr)) (fp : List Addr), P (X.blk s H scope (compEnvC scope cl C X.env) fp)
abbrev lcG (T : Tx) (tg : Tg) : TG := fun v σ H Q => ∃ gh, rdG (T.with gh) tg v σ H Q
abbrev lcT (T : Tx) (kn : Kn) (c : Oe) : TT := fun σ H Q => ∃ gh, rdT (T.with gh) WF (evOc kn c) σ H Q
abbrev lcE (T : Tx) (kn : Kn) (e : E) : TE := fun σ H Q => ∃ gh, rdE (T.with gh) WF (evE kn e) σ H Q
abbrev lcI (T : Tx) (kn : Kn) (it : It) : TI := fun σ H Q => ∃ gh, rdI (T.with gh) WF (evIt kn it) σ H Q
theorem gok_new {μ : List Addr} {H : Hp} {A : Addr} (hA : H A = none) : GhOk T H (A :: T.gh) := fun a ha => by
  rcases List.mem_cons.mp ha with e | e
  · right; rw [e]; exact hA
  · exact .inl e
theorem lc_weak {m : Bool} (sub : ∀ i ∈ tgI tg, i ∈ own.map (·.2)) {σ : L2.St} {H : Hp} {Q : VK} (h : rdE T W (evE kn (.lc m (own.map (·.2)) tg it c e)) σ H Q) :
    tLc (rdI T W (evIt kn it)) (lcG T tg) (lcT T kn c) (lcE T kn e) (own.map (·.2)) σ H Q := by
  obtain ⟨μ, ρ, st, R, re, A⟩ := h
  simp only [evE] at A
  refine ⟨μ, ρ, st, R, re, A.bind.mono fun J H1 ⟨μ1, s, st1, _, x1, R1, src, A1⟩ D hD => ?_⟩
  have nm : D ∉ μ1 := fun hm => by obtain ⟨u, hu⟩ := (R1.mut D hm).some; rw [hD] at hu; cases hu
  have gok : GhOk T H1 (D :: T.gh) := gok_new (μ := μ1) hD
  cases hr : evLc s.gs tg (evOc kn c) (evE kn e) (wipeE ρ (own.map (·.2))) s.its [] st1 with
  | bad => rw [hr] at A1; exact A1.elim
  | exc y s1 => exact absurd hr (evLc_ne y s1)
  | ok l stE =>
    rw [hr] at A1
    simp only [AF.R.bind_ok] at A1
    have re1 := (((re.mono x1).toGh gok).mono (Ext.new (o := .lst []) R1 hD)).wipe (own.map (·.2))
    exact lc_loop (T := T) (G := D :: T.gh) (A := D) List.mem_cons_self src gok (fun μ H x => by rw [hide1 hD] at x; exact x.toHide fun a ha => (R1.gh a ha).1) (R1.ghost hD) upd_same .nil re1 sub (fun H => Q (.ref D) H) hr
      fun μ H accV R2 x hA r => lc_end A1 R1 hD (by rw [hide1 hD] at x; exact x) R2 hA r
theorem sE_lc {m : Bool} (hc : X.calm = true) (hN : X.N.Nodup) (hi : PI X tgE iter (rdI T W (evIt kn it))) (ok : BlkOk X.N X.env.scope scope own) (sub : ∀ i ∈ tgI tg, i ∈ own.map (·.2))
    (hg : ∀ gh, Blk X scope fun Y => PG Y tgE (rdG (T.with gh) tg)) (ht : ∀ gh, Blk X scope fun Y => PTs Y ifs (rdT (T.with gh) WF (evOc kn c))) (he : ∀ gh, Blk X scope fun Y => PE Y elt (rdE (T.with gh) WF (evE kn e)))
    (hs : ∀ x, foldedSetIterable iter X.env x = pure x) : PE X (.ListComp elt [⟨tgE, iter, ifs, 0⟩] scope pos) (rdE T W (evE kn (.lc m (own.map (·.2)) tg it c e))) :=
  PE.weak (pe_lc hc hN hi ok (fun s H C cl fp => PG.ex fun gh => hg gh s H C cl fp) (fun s H C cl fp => PTs.ex fun gh => ht gh s H C cl fp) (fun s H C cl fp => PE.ex fun gh => he gh s H C cl fp) hs) fun σ H Q h => lc_weak sub h
end
end AF

/-! Snd6: list comprehensions of two clauses. -/
namespace AF
open PySem PySem.Spec PyProof.Rows L2
theorem REnv.hid {T : Tx} {μ : List Addr} {H : Hp} {ρ : Env} {σ : L2.St} (h : ∀ a ∈ T.gh, ∃ xs, H a = some (.lst xs)) (re : REnv T μ H ρ σ) : REnv T μ (hide T.gh H) ρ σ :=
  ⟨re.len, fun i d q => let ⟨v, h1, h2⟩ := re.get i d q; ⟨v, h1, h2.hid h⟩⟩
theorem Ext.thenH {A : Addr} {μ0 μ1 μ : List Addr} {H0 H1 H : Hp} (x : Ext μ0 (hide [A] H0) μ1 H1) (nm : A ∉ μ1) (y : Ext μ1 (hide [A] H1) μ H) : Ext μ0 (hide [A] H0) μ H := by
  have x' : Ext μ0 (hide [A] H0) μ1 (hide [A] H1) := ⟨x.pre, fun a o e h => hide_some.mpr ⟨(hide_some.mp e).1, x.keep a o e h⟩, x.mut0, fun a ha => by
    unfold hide; rw [if_neg (by simp; intro z; exact nm (by rw [← z]; exact ha))]; exact x.mut1 a ha⟩
  exact x'.trans y
section
variable {X : Cx} {T : Tx} {W : WX} {kn : Kn} {pos : Pos} {tgE iter elt tgE1 iter1 : Expr} {e : E} {tg tg1 : Tg} {it it1 : It} {scope : Scope} {own : List (Str × Nat)} {own1 : List Nat}
theorem evOc_none : evOc kn .none = fun _ st => .ok (.bl true) st := by funext ρ st; simp [evOc]
theorem pts_none {Y : Cx} {gh : List Addr} : PTs Y [] (rdT (T.with gh) WF (evOc kn .none)) := PTs.weak pts_nil fun σ H Q ⟨μ, ρ, st, R, re, A⟩ => by
  rw [evOc_none] at A
  exact A μ H true (Ext.refl R) R rfl
theorem tYes_on {σ : L2.St} {H : Hp} {P Q : Hp → Prop} (h : P H) : tYes σ H (fun b H3 => if b = true then P H3 else Q H3) := by
  show if true = true then P H else Q H
  rw [if_pos rfl]; exact h
theorem lc2_weak {m : Bool} (sub : ∀ i ∈ tgI tg, i ∈ own.map (·.2)) (sub1 : ∀ i ∈ tgI tg1, i ∈ own1) {σ : L2.St} {H : Hp} {Q : VK} (h : rdE T W (evE kn (.lc2 m (own.map (·.2)) own1 tg it tg1 it1 e)) σ H Q) :
    tLc2 (rdI T W (evIt kn it)) (lcG T tg) tYes (lcI T kn it1) (lcG T tg1) (lcT T kn .none) (lcE T kn e) (own.map (·.2)) own1 σ H Q := by
  obtain ⟨μ, ρ, st, R, re, A⟩ := h
  simp only [evE] at A
  refine ⟨μ, ρ, st, R, re, A.bind.mono fun J H1 ⟨μ1, s, st1, _, x1, R1, src, A1⟩ D hD => ?_⟩
  have gok : GhOk T H1 (D :: T.gh) := gok_new (μ := μ1) hD
  have hDG : D ∈ (T.with (D :: T.gh)).gh := List.mem_cons_self
  cases hr : evLc2 s.gs tg (evIt kn it1) own1 tg1 (evE kn e) (wipeE ρ (own.map (·.2))) s.its [] st1 with
  | bad => rw [hr] at A1; exact A1.elim
  | exc y s1 => exact absurd hr (evLc2_ne y s1)
  | ok l stE =>
    rw [hr] at A1
    simp only [AF.R.bind_ok] at A1
    have re1 := (((re.mono x1).toGh gok).mono (Ext.new (o := .lst []) R1 hD)).wipe (own.map (·.2))
    have R0 := R1.ghost hD
    refine ⟨fun i m H => m = s.its.length - i ∧ i ≤ s.its.length ∧ ∃ μ st acc accV, Rel (T.with (D :: T.gh)) μ st H ∧ Ext μ1 (hide [D] (upd H1 D (.lst []))) μ H ∧ H D = some (.lst accV) ∧ Reps (T.with (D :: T.gh)) μ H acc accV ∧
      REnv (T.with (D :: T.gh)) μ H (wipeE ρ (own.map (·.2))) (wipe σ (own.map (·.2))) ∧ evLc2 s.gs tg (evIt kn it1) own1 tg1 (evE kn e) (wipeE ρ (own.map (·.2))) (s.its.drop i) acc st = .ok l stE,
      ⟨_, rfl, Nat.zero_le _, μ1, st1, [], [], R0, (Ext.refl R0).toHide (fun a ha => by
        have : a = D := by simpa using ha
        subst this; exact (R0.gh a hDG).1), upd_same, .nil, re1, hr⟩, ?_⟩
    rintro i m H ⟨rfl, hi, μ, st, acc, accV, R, x0, hAx, ra, re, he⟩
    have nmA : D ∉ μ := (R.gh D hDG).1
    have hh : ∀ μ H, Ext μ1 (hide [D] (upd H1 D (.lst []))) μ H → Ext μ1 (hide T.gh H1) μ H := fun μ H x => by rw [hide1 hD] at x; exact x.toHide fun a ha => (R1.gh a ha).1
    by_cases hlt : i < s.its.length
    · rw [List.drop_eq_getElem_cons hlt] at he
      obtain ⟨gd, ρ1, ea, s1, st2, es, acc1, st3, el, he2⟩ := evLc2_cons he
      obtain ⟨go, yl⟩ := (src (D :: T.gh) μ st H gok (hh μ H x0) R gd i).1 hlt
      refine .inr ⟨go, fun H' => ∃ μ st acc accV, Rel (T.with (D :: T.gh)) μ st H' ∧ Ext μ1 (hide [D] (upd H1 D (.lst []))) μ H' ∧ H' D = some (.lst accV) ∧ Reps (T.with (D :: T.gh)) μ H' acc accV ∧
        REnv (T.with (D :: T.gh)) μ H' (wipeE ρ (own.map (·.2))) (wipe σ (own.map (·.2))) ∧ evLc2 s.gs tg (evIt kn it1) own1 tg1 (evE kn e) (wipeE ρ (own.map (·.2))) (s.its.drop (i + 1)) acc st = .ok l stE, fun H' h => ⟨_, by omega, rfl, hlt, h⟩, fun x H' y => ?_⟩
      obtain ⟨d, hd, xa, Ra, rx, kp⟩ := yl x H' y
      rw [List.getElem?_eq_getElem hlt] at hd
      have hd := Option.some.inj hd
      subst hd
      have x01 := x0.then nmA xa
      have rea := re.mono xa
      have raa := ra.mono xa
      have hA1 := kp _ _ hAx
      refine ⟨D :: T.gh, μ, st, _, _, ρ1, Ra, rx, rea, ea, fun σ2 re2 ag => ⟨(agree_wipe.trans (ag.sub sub)).wipe, ?_⟩⟩
      refine tYes_on ?_
      refine ⟨D :: T.gh, μ, ρ1, st, Ra, re2, ?_⟩
      rw [es]
      show ∀ μ' H'' v, Ext μ H' μ' H'' → Rel (T.with (D :: T.gh)) μ' st2 H'' → SrcRel (T.with (D :: T.gh)) μ' H'' s1 v → _
      intro μ3 H3 J1 x3 R3 src1
      have x03 := x01.then nmA x3
      have hA3 := x3.keep _ _ hA1 nmA
      have nm3 : D ∉ μ3 := (R3.gh D hDG).1
      have re3 := rea.mono x3
      have ra3 := raa.mono x3
      have el : evLc s1.gs tg1 (evOc kn .none) (evE kn e) (wipeE ρ1 own1) s1.its acc st2 = .ok acc1 st3 := by rw [evOc_none]; exact el
      refine lc_loop (T := T.with (D :: T.gh)) (G := D :: T.gh) (A := D) List.mem_cons_self src1 (fun a ha => .inl ha) (fun μ H x => x.more (fun a ha => by
          have : a = D := by simpa using ha
          subst this; exact hDG) fun a ha => (R3.gh a ha).1) R3 hA3 ra3 ((re2.mono x3).wipe own1) sub1 _ el ?_
      intro μ4 H4 accV4 R4 x4 hA4 ra4
      have xG : Ext μ3 (hide (T.with (D :: T.gh)).gh H3) μ4 H4 := x4.more (fun a ha => by
          have : a = D := by simpa using ha
          subst this; exact hDG) fun a ha => (R3.gh a ha).1
      exact ⟨μ4, st3, acc1, accV4, R4, x03.thenH nm3 x4, hA4, ra4, (re3.hid R3.ghl).mono xG, he2⟩
    · have e : i = s.its.length := by omega
      subst e
      rw [List.drop_length] at he
      obtain ⟨gd, e1, e2⟩ := evLc2_nil he
      subst e1 e2
      exact .inl ⟨(src (D :: T.gh) μ stE H gok (hh μ H x0) R gd _).2 (Nat.le_refl _), lc_end A1 R1 hD (by rw [hide1 hD] at x0; exact x0) R hAx ra⟩
theorem sE_lc2 {m : Bool} (hc : X.calm = true) (hN : X.N.Nodup) (hi : PI X tgE iter (rdI T W (evIt kn it))) (ok : BlkOk X.N X.env.scope scope own) (sub : ∀ i ∈ tgI tg, i ∈ own.map (·.2)) (sub1 : ∀ i ∈ tgI tg1, i ∈ own1) (hv : ∀ i ∈ own1, i ∈ own.map (·.2))
    (hg : ∀ gh, Blk X scope fun Y => PG Y tgE (rdG (T.with gh) tg)) (hi1 : ∀ gh, Blk X scope fun Y => PI Y tgE1 iter1 (rdI (T.with gh) WF (evIt kn it1))) (hg1 : ∀ gh, Blk X scope fun Y => PG Y tgE1 (rdG (T.with gh) tg1)) (he : ∀ gh, Blk X scope fun Y => PE Y elt (rdE (T.with gh) WF (evE kn e)))
    (hs : ∀ x, foldedSetIterable iter X.env x = pure x) (hs1 : ∀ env x, foldedSetIterable iter1 env x = pure x) : PE X (.ListComp elt [⟨tgE, iter, [], 0⟩, ⟨tgE1, iter1, [], 0⟩] scope pos) (rdE T W (evE kn (.lc2 m (own.map (·.2)) own1 tg it tg1 it1 e))) :=
  PE.weak (pe_lc2 hc hN hi ok hv (fun s H C cl fp => PG.ex fun gh => hg gh s H C cl fp) (fun s H C cl fp => pts_nil) (fun s H C cl fp => PI.ex fun gh => hi1 gh s H C cl fp) (fun s H C cl fp => PG.ex fun gh => hg1 gh s H C cl fp) (fun s H C cl fp => PTs.ex fun gh => pts_none) (fun s H C cl fp => PE.ex fun gh => he gh s H C cl fp) hs hs1) fun σ H Q h => lc2_weak sub sub1 h
end
end AF

/-! Cls: instances: attributes, properties, methods, making. -/
namespace AF
open PySem PySem.Spec PyProof.Rows L2

theorem base_of {x : Expr} {f : Str} {env : PySem.Env} (h : isCallE x = false) : attributeBase x f env (eval x env) = eval x env := by
  cases x <;> first | rfl | (simp [isCallE] at h)
/-- the tree of a method call -/
theorem met_tree {x : Expr} {m : Str} {apos pos : Pos} {xs : List Expr} {env : PySem.Env} (hc : isCallE x = false) (hst : noStars xs = true) (hln : xs.length < 20) (hline : (apos.endLine == pos.line) = true) :
    eval (.Call (.Attribute x m apos) xs [] pos) env = (do
      let ov ← eval x env
      standAt apos.atName
      let (f, first) ← holding [ov] (getMethod ov m (do return (← importBound x env).getD true))
      callWith pos f first (backTo pos (starEach xs env)) (backToKw pos (keywordEach [] env))) := by
  refine mcall_of (base_of hc) fun ov => ?_
  have hfew : methodCallForm (xs.length + ([] : List Keyword).length) (backTo pos (starEach xs env)) (backToKw pos (keywordEach [] env)) = true := by
    unfold methodCallForm
    rw [star_allN hst]
    simp [backToKw, keywordEach]; omega
  have hpos : methodCallPos true x env apos pos = pure pos := by unfold methodCallPos; rw [hline]; rfl
  unfold methodCall
  rw [hfew, hpos]
  rfl
section
variable {T : Tx} {μ : List Addr} {H : Hp} {st : Store}
/-- an instance of the store at its address -/
theorem Rel.ins (R : Rel T μ st H) {d : D} {v : V} {c : Nat} {fs : List (Nat × D)} (r : Rep T μ H d v) (e : insAt st d = some (c, fs)) : ∃ n a dx xs, d = .ref n ∧ st[n]? = some (.ins c fs) ∧ v = .ref a ∧ μ[n]? = some a ∧ H a = some (.ins (T.cl c) dx xs) ∧ H dx = some (.own a) ∧ FsR T μ H fs xs := by
  unfold insAt at e
  split at e
  · rename_i n
    split at e
    · rename_i k gs hs
      cases e
      cases r with
      | ref hn =>
        obtain ⟨b, hb, dx, xs, h1, h2, h3⟩ := R.obj n _ hs
        rw [hn] at hb; cases hb
        exact ⟨n, _, dx, xs, rfl, hs, rfl, hn, h1, h2, h3⟩
    · cases e
  · cases e
theorem insOk_ok {c m : Nat} {d : D} (h : insOk c m d st = true) : ∃ fs, insAt st d = some (c, fs) ∧ fs.lookup m = none := by
  unfold insOk at h
  split at h
  · rename_i k fs e
    simp only [Bool.and_eq_true, beq_iff_eq, Option.isNone_iff_eq_none] at h
    exact ⟨fs, by rw [e, h.1], h.2⟩
  · cases h
theorem mkI_mem {μ : List Addr} {p : Addr} (h : p ∈ μ) (R : Rel T μ st H) : ∃ o, H p = some o := by
  obtain ⟨u, hu⟩ := (R.mut p h).some
  exact ⟨u, hu⟩
/-- a new instance -/
theorem Rel.made (R : Rel T μ st H) {x dx : Addr} {c : Nat} (hx : H x = none) (hd : H dx = none) (ne : dx ≠ x) :
    Ext μ H (μ ++ [x]) (upd (upd H dx (.own x)) x (.ins (T.cl c) dx [])) ∧ Rel T (μ ++ [x]) (st ++ [.ins c []]) (upd (upd H dx (.own x)) x (.ins (T.cl c) dx [])) := by
  have R1 := R.new (o := .own x) hd
  have x1 := Ext.new (o := .own x) R hd
  have hx1 : upd H dx (.own x) x = none := by rw [upd_ne (Ne.symm ne)]; exact hx
  refine ⟨x1.trans (Ext.newM R1 hx1 trivial), Rel.newM R1 hx1 trivial ⟨dx, [], upd_same, ?_, .nil⟩⟩
  rw [upd_ne ne, upd_same]
end
section
variable {X : Cx} {T : Tx} {W : WX} {kn : Kn} {pos : Pos} {x y v : Expr} {a e : E} {xs : List Expr} {es : Es} {c f m g : Nat} {nm : Str}
theorem sE_fld (hc : isCallE x = false) (hn : T.nm[f]? = some nm) (C : Cls X.K (T.cl c)) (N : NoAttr X.K (T.cl c) nm) (ha : PE X x (rdE T W (evE kn a))) : PE X (.Attribute x nm pos) (rdE T W (evE kn (.fld c a f))) :=
  PE.weak (pe_fld ha (base_of hc)) fun σ H Q ⟨μ, ρ, st, R, re, A⟩ => by
    simp only [evE] at A
    refine ⟨μ, ρ, st, R, re, A.bind.mono fun v H1 ⟨μ1, d, st1, _, x1, R1, P1, A1⟩ => ?_⟩
    unfold fldI at A1
    split at A1
    · rename_i k fs e
      split at A1
      · rename_i hk
        have hk := beq_iff_eq.mp hk
        subst hk
        split at A1
        · rename_i z hz
          obtain ⟨n, b, dx, ws, rfl, _, rfl, _, h1, _, h3⟩ := R1.ins P1 e
          obtain ⟨w, l1, l2⟩ := h3.get hn hz
          exact ⟨b, _, dx, ws, w, rfl, h1, C, N, l1, A1.ok R1 l2⟩
        · exact A1.elim
      · exact A1.elim
    · exact A1.elim
theorem Aft.noExc {α β : Type} {RA : List Addr → Hp → α → β → Prop} {r : R α} {μ : List Addr} {H : Hp} {σ σ' : L2.St} {W' : WX} {Q : β → Hp → Prop} (h : Aft T W σ RA (noExc r) μ H Q) : Aft T W' σ' RA r μ H Q := by
  cases r with
  | ok d s => exact h
  | exc y s => exact h.elim
  | bad => exact h
theorem pass_none {X : Cx} : Passes (L2.CX X.prog X.w) X.nox (fun _ _ _ => False) := by
  rintro pins σ H s e s' I ⟨a, B, H', cls, d, ea, fl, hok, ub, na, os, ag, he⟩
  exact he.elim
theorem sE_prp0 {k : Nat} {p : Addr} {fd : FuncData} {ps : List Str} (hc : isCallE x = false) (hn : T.nm[f]? = some nm) (C : Cls X.K (T.cl c)) (P : PropOf X.K (T.cl c) nm p (T.fa g)) (F : FnOk X.prog X.w X.K X.mg X.base (L2.CX X.prog X.w) k (T.fa g) fd ps (spF T 1 (kn.call1 g))) (hr : Room (k + 1) X.A)
    (hb : Binds X.K fd ps []) (ha : PE X x (rdE T W (evE kn a))) : PE X (.Attribute x nm pos) (rdE T W (evE kn (.prp c g a f))) :=
  PE.weak (pe_prop (dvs := []) (ds := []) (E := fun _ _ _ => False) ha C P F hr hb .nil pass_none (base_of hc)) fun σ H Q ⟨μ, ρ, st, R, re, A⟩ => by
    simp only [evE] at A
    refine ⟨μ, ρ, st, R, re, A.bind.mono fun v H1 ⟨μ1, d, st1, _, x1, R1, P1, A1⟩ => ?_⟩
    split at A1
    · rename_i hk
      obtain ⟨fs, e, _⟩ := insOk_ok hk
      obtain ⟨n, b, dx, ws, rfl, _, rfl, hn, h1, _, h3⟩ := R1.ins P1 e
      exact ⟨b, dx, ws, rfl, h1, rfl, T.gh, μ1, [.ref n], st1, R1, .cons P1 .nil, A1.noExc⟩
    · exact A1.elim
/-- o.p: the property's def, or what it would call is bad -/
def PrpRun (X : Cx) (T : Tx) (kn : Kn) (c g : Nat) (nm : Str) : Prop := Cls X.K (T.cl c) ∧ ((∀ ds st, kn.call1 g ds st = .bad) ∨ ∃ p k fd ps, PropOf X.K (T.cl c) nm p (T.fa g) ∧ FnOk X.prog X.w X.K X.mg X.base (L2.CX X.prog X.w) k (T.fa g) fd ps (spF T 1 (kn.call1 g)) ∧ Room (k + 1) X.A ∧ Binds X.K fd ps [])
theorem sE_prp (hc : isCallE x = false) (hn : T.nm[f]? = some nm) (P : PrpRun X T kn c g nm) (ha : PE X x (rdE T W (evE kn a))) : PE X (.Attribute x nm pos) (rdE T W (evE kn (.prp c g a f))) := by
  obtain ⟨C, hbad | ⟨p, k, fd, ps, P, F, hr, hb⟩⟩ := P
  · refine PE.weak (pe_fld ha (base_of hc)) fun σ H Q ⟨μ, ρ, st, R, re, A⟩ => ?_
    simp only [evE] at A
    refine ⟨μ, ρ, st, R, re, A.bind.mono fun v H1 ⟨μ1, d, st1, _, x1, R1, P1, A1⟩ => ?_⟩
    rw [hbad] at A1
    split at A1 <;> exact A1.elim
  · exact sE_prp0 hc hn C P F hr hb ha
theorem sE_met {k n : Nat} {apos : Pos} {fd : FuncData} {ps : List Str} (hc : isCallE x = false) (hn : T.nm[m]? = some nm) (C : Cls X.K (T.cl c)) (M : Meth X.K (T.cl c) nm (T.fa g)) (F : FnOk X.prog X.w X.K X.mg X.base (L2.CX X.prog X.w) k (T.fa g) fd ps (spF T n (kn.call g))) (hr : Room k X.A)
    (hb : Binds X.K fd ps []) (tk : Takes X W) (hes : n = es.len + 1) (hxs : xs.length = es.len) (hst : noStars xs = true) (hln : xs.length < 20) (hline : (apos.endLine == pos.line) = true) (ho : PE X x (rdE T W (evE kn a))) (ha : PA X xs (rdA T W (evEs kn es))) :
    PE X (.Call (.Attribute x nm apos) xs [] pos) (rdE T W (evE kn (.met c g a m es))) := by
  refine ⟨fun pins s σ H Q I ⟨μ, ρ, st, R, re, A⟩ => ?_⟩
  simp only [evE] at A
  refine PySem.W.methodCall_KW (thn (ho.run pins s σ H _ I ⟨μ, ρ, st, R, re, A.bind⟩) fun u s1 hh => ?_) (met_tree hc hst hln hline)
  obtain ⟨v, H1, I1, rv, μ1, d, st1, _, x1, R1, P1, A1⟩ := hh
  split at A1
  · rename_i hk
    obtain ⟨fs, e, hf⟩ := insOk_ok hk
    obtain ⟨q, b, dx, ws, rfl, _, rfl, hq, h1, _, h3⟩ := R1.ins P1 e
    obtain rfl : u = Value.ref b := rv
    refine getmeth_ok I1 h1 C M (h3.no hn hf) ?_
    have hx : PassesAt (L2.CX X.prog X.w) X σ (WE W σ) := passAt tk σ
    cases xs with
    | nil =>
      have en : es = .nil := by cases es with | nil => rfl | cons _ _ => simp [Es.len] at hxs
      subst en
      simp only [evEs, AF.R.bind_ok] at A1
      have hu : Vals [V.ref b] [Value.ref b] := .cons rfl .nil
      exact PySem.W.callWith_K0 (first := [.ref b]) I1.kIn M.kp (run_fnS (E := WE W) F hr hb hx I1 hu ⟨by rw [hes]; rfl, T.gh, μ1, [.ref q], st1, R1, .cons P1 .nil, A1⟩)
    | cons e0 r0 =>
      simp only [noStars, Bool.and_eq_true, Bool.not_eq_true'] at hst
      refine PySem.W.callWith_K (first := [.ref b]) (h₀ := X.base) I1.ok.mod.kin M.kp (thn (ha.run pos pins s1 σ H1 _ I1 ⟨μ1, ρ, st1, R1, re.mono x1, A1.bind⟩) fun us s2 hh => ?_) (star_cons hst.1) (star_all hst.2)
      obtain ⟨vs, H2, I2, rs, μ2, ds, st2, e2, x2, R2, P2, A2⟩ := hh
      have hu : Vals (V.ref b :: vs) (Value.ref b :: us) := .cons rfl rs
      exact ⟨I2.kIn, run_fnS (E := WE W) F hr hb hx I2 hu ⟨by rw [hes, List.length_cons, P2.length, evEs_len e2], T.gh, μ2, .ref q :: ds, st2, R2, .cons (P1.mono x2) P2, A2⟩⟩
  · exact A1.elim
/-- C(..), what is raised wished for at the slots -/
theorem run_mk {k : Nat} {B f : Addr} {fd : FuncData} {ps : List Str} {sp : Sp} {E : XK} {pins : List (Addr × Obj)} {σ : L2.St} {H : Hp} {s : Shared} {Q : VK} {us : List Value} {vs : List V} (M : Mk X.K B f) (F : FnOk X.prog X.w X.K X.mg X.base (L2.CX X.prog X.w) k f fd ps sp)
    (hr : Room (k + 1) X.A) (hb : Binds X.K fd ps []) (hx : PassesAt (L2.CX X.prog X.w) X σ E) (I : Inv X pins σ H s) (r : Vals vs us)
    (h : ∀ x dx, H x = none → H dx = none → dx ≠ x → sp (.ref x :: vs) (upd (upd H dx (.own x)) x (.ins B dx [])) (fun v H2 => v = .non ∧ Q (.ref x) H2) E) : wpAny (model X.prog X.w) X.A (call (.ref B) us) (EP X pins σ Q) X.xe s := by
  let N := s.heap.objs.size
  have hN0 : H N = none := I.hok.fresh (Nat.le_refl _)
  have hN1 : H (N + 1) = none := I.hok.fresh (Nat.le_succ _)
  have hq := h (N + 1) N hN1 hN0 (Nat.ne_of_lt (Nat.lt_succ_self _))
  have J := Inv.made (C := B) I
  have rv : Vals (V.ref (N + 1) :: vs) (Value.ref (N + 1) :: us) := .cons rfl r
  have hl : (Value.ref (N + 1) :: us).length = ps.length := by rw [← rv.length]; exact F.len _ _ _ _ hq
  have b := hb _ (Value.ref (N + 1) :: us) J.kIn (by rw [List.append_nil]; exact hl)
  rw [List.append_nil] at b
  have run := F.run _ X.stack _ _ ⟨Value.ref (N + 1) :: us, []⟩ (Value.ref (N + 1) :: us) _ _ E (hr.make B us []) (J.env0.make B us []) b rv hq
  refine wpAny_call (make_map (f := f) I.kIn M.makes M.init (beq_iff_eq.mp M.fn) (codeAny_mono run fun res s' hres => ?_))
  match res, hres with
  | .error e, hres => exact hx pins _ _ e s' J hres
  | .ok (.ret u), hres =>
    obtain ⟨v, H', I3, rv, ev, q3⟩ := J.after hres
    subst ev
    exact ⟨rv, ⟨V.ref (N + 1), H', I3, rfl, q3⟩⟩
  | .ok .next, hres => exact False.elim hres
  | .ok .brk, hres => exact False.elim hres
  | .ok .cont, hres => exact False.elim hres
theorem mk_aft {σ : L2.St} {Q : VK} {μ1 : List Addr} {H1 : Hp} {ds : List D} {vs : List V} {st1 : Store} {n : Nat} (hn : n = ds.length + 1) (R1 : Rel T μ1 st1 H1) (P1 : Reps T μ1 H1 ds vs) (A1 : Aft T W σ (RepT T) (mkI kn c g ds st1) μ1 H1 Q) :
    ∀ x dx, H1 x = none → H1 dx = none → dx ≠ x → spF T n (kn.call1 g) (.ref x :: vs) (upd (upd H1 dx (.own x)) x (.ins (T.cl c) dx [])) (fun v H2 => v = .non ∧ Q (.ref x) H2) (WE W σ) := by
  intro x dx hx hd ne
  obtain ⟨x1, R2⟩ := Rel.made (c := c) R1 hx hd ne
  have hget : (μ1 ++ [x])[st1.length]? = some x := by rw [← R1.len]; simp
  refine ⟨by rw [hn, List.length_cons, P1.length], T.gh, _, .ref st1.length :: ds, _, R2, .cons (.ref hget) (P1.mono x1), ?_⟩
  unfold mkI at A1
  have A2 := Aft.bind (RA := RepT T) (Aft.shift A1 x1)
  cases hc : kn.call1 g (.ref st1.length :: ds) (st1 ++ [.ins c []]) with
  | ok d s2 =>
    rw [hc] at A2
    intro μ' H' v xx R' rv
    obtain ⟨μ3, d3, s3, e3, x3, R3, rv3, A3⟩ := A2 μ' H' v xx R' rv
    cases e3
    cases rv3 with
    | non => exact ⟨rfl, A3.ok R3 (.ref (x3.get hget))⟩
    | _ => exact A3.elim
  | exc y s2 => rw [hc] at A2; exact A2
  | bad => rw [hc] at A2; exact A2.elim
/-- C(..) runs, or what it would call is bad -/
def MkRun (X : Cx) (T : Tx) (kn : Kn) (c g n : Nat) : Prop := Mk X.K (T.cl c) (T.fa g) ∧ ((∀ ds st, kn.call1 g ds st = .bad) ∨ ∃ k fd ps, FnOk X.prog X.w X.K X.mg X.base (L2.CX X.prog X.w) k (T.fa g) fd ps (spF T n (kn.call1 g)) ∧ Room (k + 1) X.A ∧ Binds X.K fd ps [])
theorem MkRun.run {n : Nat} (R : MkRun X T kn c g n) {E : XK} {pins : List (Addr × Obj)} {σ : L2.St} {H : Hp} {s : Shared} {Q : VK} {us : List Value} {vs : List V} (hx : PassesAt (L2.CX X.prog X.w) X σ E) (I : Inv X pins σ H s) (r : Vals vs us)
    (h : ∀ x dx, H x = none → H dx = none → dx ≠ x → spF T n (kn.call1 g) (.ref x :: vs) (upd (upd H dx (.own x)) x (.ins (T.cl c) dx [])) (fun v H2 => v = .non ∧ Q (.ref x) H2) E) : wpAny (model X.prog X.w) X.A (call (.ref (T.cl c)) us) (EP X pins σ Q) X.xe s := by
  obtain ⟨M, hbad | ⟨k, fd, ps, F, hr, hb⟩⟩ := R
  · obtain ⟨_, gh, μ, ds, st, _, _, A⟩ := h (s.heap.objs.size + 1) s.heap.objs.size (I.hok.fresh (Nat.le_succ _)) (I.hok.fresh (Nat.le_refl _)) (Nat.ne_of_lt (Nat.lt_succ_self _))
    rw [hbad] at A
    exact A.elim
  · exact run_mk M F hr hb hx I r h
theorem sE_mk {n : Nat} {p : Pos} (R0 : MkRun X T kn c g n) (hg : Gl X nm) (hm : X.mg nm = some (.ref (T.cl c)))
    (tk : Takes X W) (hn : n = es.len + 1) (hxs : xs.length = es.len) (hst : noStars xs = true) (ha : PA X xs (rdA T W (evEs kn es))) (hdb : (nm == ("__debug__" : Str)) = false) :
    PE X (.Call (.Name nm p) xs [] pos) (rdE T W (evE kn (.mk c g es))) := by
  refine ⟨fun pins s σ H Q I ⟨μ, ρ, st, R, re, A⟩ => ?_⟩
  simp only [evE] at A
  have hx : PassesAt (L2.CX X.prog X.w) X σ (WE W σ) := passAt tk σ
  refine wpAny_Call_Name_kw (ld_glob I hg hm ?_ hdb)
  cases xs with
  | nil =>
    have en : es = .nil := by cases es with | nil => rfl | cons _ _ => simp [Es.len] at hxs
    subst en
    simp only [evEs, AF.R.bind_ok] at A
    exact PySem.W.callWith_K0 I.kIn R0.1.kp (R0.run (us := []) (vs := []) hx I .nil (mk_aft (ds := []) (vs := []) (by rw [hn]; rfl) R .nil A))
  | cons e0 r0 =>
    simp only [noStars, Bool.and_eq_true, Bool.not_eq_true'] at hst
    refine PySem.W.callWith_K (h₀ := X.base) I.ok.mod.kin R0.1.kp (thn (ha.run pos pins s σ H _ I ⟨μ, ρ, st, R, re, A.bind⟩) fun us s1 hh => ?_) (star_cons hst.1) (star_all hst.2)
    obtain ⟨vs, H1, I1, rs, μ1, ds, st1, e1, x1, R1, P1, A1⟩ := hh
    exact ⟨I1.kIn, R0.run hx I1 rs (mk_aft (by rw [hn, evEs_len e1]) R1 P1 A1)⟩
end
end AF

/-! Dun: special methods of instances: len, bool, o(..), o + tuple. -/
namespace AF
open PySem PySem.Spec PyProof.Rows L2

theorem insB_ok {c : Nat} {x : D} {st : Store} (h : insB c x st = true) : ∃ fs, insAt st x = some (c, fs) := by
  unfold insB at h
  split at h
  · rename_i k fs e
    have := beq_iff_eq.mp h
    subst this
    exact ⟨fs, e⟩
  · cases h
def DunFact (u : DU) (K : PySem.W.Frag) (C f : Addr) : Prop := match u with
  | .len => PySem.W.findIn K (.ref C) "__len__" = some (some (.ref f)) ∧ PySem.W.isFn K (.ref f) = true
  | .bool => PySem.W.findIn K (.ref C) "__bool__" = some (some (.ref f)) ∧ PySem.W.isFn K (.ref f) = true
  | .call => StX.CallO K C f
  | .add => PySem.W.selfFirst K C = true ∧ PySem.W.findIn K (.ref C) (PySem.dunder Operator.Add.info.2) = some (some (.ref f)) ∧ PySem.W.isFn K (.ref f) = true ∧ PySem.W.findIn K (.ref C) (PySem.dunderR Operator.Add.info.2) = some none ∧
      (∃ fo ro, PySem.W.findIn K (.type "tuple") (PySem.dunder Operator.Add.info.2) = some fo ∧ PySem.W.findIn K (.type "tuple") (PySem.dunderR Operator.Add.info.2) = some ro) ∧ PySem.W.subIn K (.type "tuple") (.ref C) = some false
  | _ => False
section
variable {X : Cx} {T : Tx} {kn : Kn} {c g n : Nat}
def DunRun (u : DU) (X : Cx) (T : Tx) (kn : Kn) (c g n : Nat) : Prop := DunFact u X.K (T.cl c) (T.fa g) ∧ ((∀ ds st, kn.call1 g ds st = .bad) ∨ ∃ k fd ps, FnOk X.prog X.w X.K X.mg X.base (L2.CX X.prog X.w) k (T.fa g) fd ps (spF T n (kn.call1 g)) ∧ Room (k + 1) X.A ∧ Binds X.K fd ps [])
theorem room2 {k : Nat} {A : Around} (r : Room (k + 1) A) : Room k A.in1.in1 :=
  ⟨r.hd, by have := r.dp; show A.depth + 3 * k + 5 < _; omega, by have := r.un; show A.units + 1 + 1 + 16 * k + 200 < _; omega⟩
/-- a def runs that lets nothing out -/
theorem run_sp0 {B : Around} {k : Nat} {f : Addr} {fd : FuncData} {ps : List Str} {sp : Sp} {pins : List (Addr × Obj)} {σ : L2.St} {H : Hp} {s : Shared} {Q : VK} {us : List Value} {vs : List V} {Ex : Value → Shared → Prop}
    (F : FnOk X.prog X.w X.K X.mg X.base (L2.CX X.prog X.w) k f fd ps sp) (hr : Room k B) (e0 : Env0 X.prog X.w X.K X.mg X.base B X.stack s H) (hb : Binds X.K fd ps []) (I : Inv X pins σ H s) (r : Vals vs us) (h : sp vs H Q fun _ _ _ => False) :
    codeAny (model X.prog X.w) B (.call (.ref f) ⟨us, []⟩) (fun r s' => match r with | .ok (.ret v) => EP X pins σ Q v s' | .ok _ => False | .error e => Ex e s') s := by
  have hl : us.length = ps.length := by rw [← r.length]; exact F.len _ _ _ _ h
  have b := hb s us I.kIn (by rw [List.append_nil]; exact hl)
  rw [List.append_nil] at b
  have run := F.run B X.stack s H ⟨us, []⟩ us vs Q (fun _ _ _ => False) hr e0 b r h
  refine codeAny_mono run fun res s' hres => ?_
  match res, hres with
  | .error e, hres =>
    obtain ⟨a, B', H', cls, d, ea, fl, hok, ub, na, os, ag, he⟩ := hres
    exact he.elim
  | .ok (.ret u), hres => exact I.after hres
  | .ok .next, hres => exact False.elim hres
  | .ok .brk, hres => exact False.elim hres
  | .ok .cont, hres => exact False.elim hres
/-- what is known of an instance where its special method is called -/
theorem dun_at {u : DU} {pins : List (Addr × Obj)} {σ : L2.St} {H : Hp} {s : Shared} {Q : VK} {xs : List V} (R0 : DunRun u X T kn c g n) (I : Inv X pins σ H s) (h : rL T (dunI kn u c g) xs H Q) :
    ∃ b dx fs vs ds, xs = .ref b :: vs ∧ H b = some (.ins (T.cl c) dx fs) ∧ dunArgs u ds = true ∧ (∃ μ, Reps T μ H ds vs) ∧ ∀ (B : Around) (us : List Value) (Ex : Value → Shared → Prop), (∀ k, Room (k + 1) X.A → Room k B) → Env0 X.prog X.w X.K X.mg X.base B X.stack s H → n = vs.length + 1 → Vals vs us →
      codeAny (model X.prog X.w) B (.call (.ref (T.fa g)) ⟨.ref b :: us, []⟩) (fun r s' => match r with | .ok (.ret v) => EP X pins σ (fun v H' => ∃ μ' d' st', Rel T μ' st' H' ∧ Rep T μ' H' d' v ∧ AftV T (RepT T) (dunPost u d' st') μ' H' Q) v s' | .ok _ => False | .error e => Ex e s') s := by
  obtain ⟨μ, st, ds, R, rs, A⟩ := h
  cases rs with
  | nil => exact A.elim
  | @cons x v r vs rx rr =>
    unfold dunI at A
    dsimp only at A
    cases hc : insB c x st && dunArgs u r with
    | false => rw [hc] at A; exact A.elim
    | true =>
      rw [hc] at A
      rw [if_pos rfl] at A
      · simp only [Bool.and_eq_true] at hc
        obtain ⟨hi, ha⟩ := hc
        obtain ⟨fs, e⟩ := insB_ok hi
        obtain ⟨q, b, dx, ws, rfl, _, rfl, hq, h1, _, h3⟩ := R.ins rx e
        refine ⟨b, dx, ws, vs, r, rfl, h1, ha, ⟨μ, rr⟩, fun B us Ex hroom e0 hn hu => ?_⟩
        obtain ⟨_, hbad | ⟨k, fd, ps, F, hr, hb⟩⟩ := R0
        · rw [hbad] at A; exact A.elim
        · refine run_sp0 F (hroom k hr) e0 hb I (show Vals (V.ref b :: vs) (Value.ref b :: us) from .cons rfl hu) ⟨by rw [hn, List.length_cons], T.gh, μ, .ref q :: r, st, R, .cons rx rr, ?_⟩
          cases ec : kn.call1 g (.ref q :: r) st with
          | ok d' s' =>
            rw [ec] at A
            intro μ' H' v' xx R' rv
            refine ⟨μ', d', s', R', rv, ?_⟩
            simp only [noExc, AF.R.bind_ok] at A
            cases hp : dunPost u d' s' with
            | ok z s2 => rw [hp] at A; exact fun μ2 H2 v2 x2 R2 P2 => A μ2 H2 v2 (xx.trans x2) R2 P2
            | exc y s2 => rw [hp] at A; exact A.elim
            | bad => rw [hp] at A; exact A.elim
          | exc y s' => rw [ec] at A; exact A.elim
          | bad => rw [ec] at A; exact A.elim
theorem vals1 {v : V} {us : List Value} (r : Vals [v] us) : ∃ u, us = [u] ∧ RelV v u := by
  cases r with
  | cons a b => cases b; exact ⟨_, rfl, a⟩
/-- the parts that the library's words ask for -/
theorem inst_at {pins : List (Addr × Obj)} {σ : L2.St} {H : Hp} {s : Shared} {b C dx : Addr} {fs : List (Str × V)} (I : Inv X pins σ H s) (h : H b = some (.ins C dx fs)) : ∃ m ox od, Fr X.base X.env.locals s.heap m ∧ PySem.W.InstAt s.heap b ox C od := by
  obtain ⟨m, F⟩ := I.fr
  obtain ⟨mA, O, _⟩ := ins_get I.hok h
  obtain ⟨od, J, _⟩ := O.look
  exact ⟨m, _, _, F, J⟩
theorem call_dlen (hn : n = 1) (R0 : DunRun .len X T kn c g n) : CallR X (.builtin "len") (rL T (dunI kn .len c g)) := by
  intro pins s σ H xs us Q I rv h
  obtain ⟨b, dx, fs, vs, ds, rfl, h1, ha, ⟨μ, rr⟩, run⟩ := dun_at R0 I h
  obtain ⟨m, ox, od, F, J⟩ := inst_at I h1
  have hds : ds = [] := by
    cases ds with
    | nil => rfl
    | cons _ _ => simp [dunArgs] at ha
  subst hds
  cases rr
  obtain ⟨u, rfl, ru⟩ := vals1 rv
  obtain rfl : u = Value.ref b := ru
  obtain ⟨⟨f1, f2⟩, _⟩ := R0
  refine PySem.W.len_K F I.ok.mod.kin J f1 f2 (wpAny_mono (wpAny_call (run X.A.in1 [] _ (fun k hr => hr.in1) I.env0.in1 hn .nil)) (fun r s' hr => ?_) fun _ _ e => e)
  obtain ⟨v, H', I', rv', μ', d', st', R', rd, A⟩ := hr
  cases rd with
  | int i =>
    simp only [dunPost] at A
    split at A
    · rename_i hi
      obtain ⟨t, rfl⟩ := rv'
      exact ⟨hi, .int i, H', I'.tok _, ⟨_, rfl⟩, A.ok R' (.int i)⟩
    · exact A.elim
  | _ => exact A.elim
theorem bool_meets {prog : Program} {w : World} {x : Addr} : MeetsIn prog w (Builtin.«bool.__new__» ⟨[.type "bool", .ref x], []⟩) (fun A R s => wpAny (model prog w) A.in1 (truthy (.ref x)) (fun b s' => R (.ok (.ret (.bool b))) s') (fun e s' => R (.error e) s') s) := by
  intro A R s h
  obtain ⟨hp, g, d, tk, os⟩ := s
  have f1 := F.conv_sub_bool
  repeat (any_goals (first | assumption | (refine wpAny_mono h (fun b s' hb => ?_) fun _ _ e => e) | wp_step))
  all_goals first | exact ⟨_, rfl, hb⟩ | exact hb | skip
theorem call_dbool (hn : n = 1) (R0 : DunRun .bool X T kn c g n) : CallR X (.type "bool") (rL T (dunI kn .bool c g)) := by
  intro pins s σ H xs us Q I rv h
  obtain ⟨b, dx, fs, vs, ds, rfl, h1, ha, ⟨μ, rr⟩, run⟩ := dun_at R0 I h
  obtain ⟨m, ox, od, F, J⟩ := inst_at I h1
  have hds : ds = [] := by
    cases ds with
    | nil => rfl
    | cons _ _ => simp [dunArgs] at ha
  subst hds
  cases rr
  obtain ⟨u, rfl, ru⟩ := vals1 rv
  obtain rfl : u = Value.ref b := ru
  obtain ⟨⟨f1, f2⟩, _⟩ := R0
  refine callType_newIn PySem.F.called_bool PySem.F.newNe_bool (PySem.F.typeCall_bool_1 _) (PySem.F.newCall_bool_1 _) (fun obj => PySem.F.args_object_init_2 obj _) PySem.F.entry_bool_new bool_meets ?_
  refine PySem.W.truthy_K F I.ok.mod.kin J f1 f2 (wpAny_mono (wpAny_call (run X.A.in1.in1 [] _ (fun k hr => room2 hr) I.env0.in1.in1 hn .nil)) (fun r s' hr => ?_) fun _ _ e => e)
  obtain ⟨v, H', I', rv', μ', d', st', R', rd, A⟩ := hr
  cases rd with
  | bl z =>
    simp only [dunPost] at A
    obtain rfl := rv'
    exact ⟨PySem.typeIs_bool _ _, .bl z, H', I', rfl, A.ok R' (.bl z)⟩
  | _ => exact A.elim
end
/-! ### o + a tuple -/
section
open PySem.W
variable {prog : Program} {w : World} {B : Around} {Ex : Value → Shared → Prop} {s : Shared} {K : PySem.W.Frag} {x C L f : Addr} {hb : Heap} {m : Str → Option Value} {ox : Obj} {od : Option Obj} {T : String}
theorem add_own {op : Operator} {b : Value} {fo ro : Option Value} {Q : Value → Shared → Prop} (Fk : Fr hb L s.heap m) (K0 : K.In hb) (J : InstAt s.heap x ox C od) (tb : ∀ M, Looks M s.heap (typeOf b) (.type T)) (first : selfFirst K C = true)
    (own : findIn K (.ref C) (PySem.dunder op.info.2) = some (some (.ref f))) (fn : isFn K (.ref f) = true) (noR : findIn K (.ref C) (dunderR op.info.2) = some none)
    (b1 : findIn K (.type T) (PySem.dunder op.info.2) = some fo) (b2 : findIn K (.type T) (dunderR op.info.2) = some ro) (apart : subIn K (.type T) (.ref C) = some false)
    (run : wpAny (model prog w) B (call (.ref f) [.ref x, b]) (PySem.W.CmpBack Q) Ex s) : wpAny (model prog w) B (binaryOp op (.ref x) b) Q Ex s := by
  have KX := K0.keeps Fk.keep
  obtain ⟨cd, rest, hcd, hm⟩ := ksp_first first
  rcases hi : op.info with ⟨sym, nm'⟩
  rw [hi] at own noR b1 b2
  dsimp only at own noR b1 b2
  have one := ksp_try KX J own fn run
  have tb := tb (model prog w)
  obtain ⟨hh, g, d, tt, os⟩ := s
  have k1 : Looks (model prog w) hh (typeOf (.ref x)) (.ref C) := J.type
  have k3 : Looks (model prog w) hh (fillsNumberSlot (.ref C) nm') true := fills_K KX hcd hm own
  have k4 := ksp_fillsT (M := model prog w) KX b1 b2
  have k5 : Looks (model prog w) hh (isSubtype (.type T) (.ref C)) false := looks_subIn KX apart
  have k6 : Looks (model prog w) hh (numberSlotInPython (.ref C) nm') true := ksp_inPy KX own noR (.inl rfl)
  have k7 : Looks (model prog w) hh (numberSlotInPython (.type T) nm') false := Looks.of_pure rfl
  have k8 : Looks (model prog w) hh (typeLookup (.type T) (dunderR nm')) ro := looks_findIn KX b2
  generalize ((fo.isSome && !isSeqSlot fo) || (ro.isSome && !isSeqSlot ro)) = right at k4
  have apart2 : (Value.ref C == Value.type T) = false := Bool.eq_false_iff.mpr fun q => by cases beq_iff_eq.mp q
  simp only [binaryOp, hi]
  refine wpAny_holding (wpAny_bind ?_)
  unfold binaryOp1
  refine wpAny_bind (k1.at (wpAny_bind (tb.at (wpAny_bind (k3.at ?_)))))
  simp only [apart2, Bool.false_eq_true, if_false]
  cases right <;>
  · ksp_lk
    refine wpAny_mono one (fun r s' hr' => ?_) fun _ _ e => e
    obtain ⟨v, rfl, hq⟩ := hr'
    ksp_lk
    exact hq
end
section
variable {X : Cx} {T : Tx} {kn : Kn} {c g n : Nat}
theorem rep_back {T : Tx} {μ : List Addr} {H : Hp} {d : D} {v : V} {u : Value} {Q : Value → Shared → Prop} {s' : Shared} (r : Rep T μ H d v) (rv : L2.RelV v u) (h : Q u s') : PySem.W.CmpBack Q u s' := by
  cases r <;> (first | (obtain ⟨t, rfl⟩ := rv; exact h) | (obtain rfl := rv; exact h))
theorem op_dadd (hK : X.K = T.K) (hn : n = 2) (R0 : DunRun .add X T kn c g n) : OpR X (binaryOp .Add) (rB T fun x y st => dunI kn .add c g [x, y] st) := by
  intro pins s σ H x y v u Q I rx ry h
  obtain ⟨μ, st, a, b, R, ra, rb, A⟩ := h
  obtain ⟨p, dx, fs, vs, ds, exs, h1, ha, ⟨μ1, rr⟩, run⟩ := dun_at (xs := [x, y]) R0 I ⟨μ, st, [a, b], R, .cons ra (.cons rb .nil), A⟩
  obtain ⟨m, ox, od, F, J⟩ := inst_at I h1
  cases exs
  obtain rfl : v = Value.ref p := rx
  cases rr with
  | @cons d0 v0 l0 x0 r1 r2 =>
    cases r2
    cases r1 with
    | @tup aa ws ll hs rs =>
      obtain rfl : u = Value.ref aa := ry
      obtain ⟨⟨f1, f2, f3, f4, ⟨fo, ro, f5, f6⟩, f7⟩, _⟩ := R0
      obtain ⟨its, _, ⟨o, e, hc, _⟩, _⟩ := I.tuple (by rw [hK]; exact hs)
      have tb : ∀ M, PySem.W.Looks M s.heap (typeOf (.ref aa)) (.type "tuple") := fun M => hc ▸ (PySem.W.Looks.ld e).andThen .now
      refine add_own F I.ok.mod.kin J tb f1 f2 f3 f4 f5 f6 f7 (wpAny_mono (wpAny_call (run X.A [.ref aa] _ (fun k hr => hr.mono (Nat.le_succ _)) I.env0 hn (.cons rfl .nil))) (fun r s' hr => ?_) fun _ _ e => e)
      obtain ⟨v, H', I', rv', μ', d', st', R', rd, A⟩ := hr
      exact rep_back (Q := EP X pins σ Q) rd rv' ⟨v, H', I', rv', A.ok R' rd⟩
    | _ => simp [dunArgs] at ha
/-- x(e, ..), x an instance -/
theorem sE_dcall {W : WX} {pos p : Pos} {nm : Str} {a : E} {e0 : Expr} {r0 : List Expr} {es : Es} (hn : n = es.len + 1) (hxs : (e0 :: r0).length = es.len) (R0 : DunRun .call X T kn c g n) (ha : PE X (.Name nm p) (rdE T W (evE kn a))) (hst : noStars (e0 :: r0) = true) (hA : PA X (e0 :: r0) (rdA T W (evEs kn es))) :
    PE X (.Call (.Name nm p) (e0 :: r0) [] pos) (rdE T W (evE kn (.dun .call c g a es))) := by
  refine ⟨fun pins s σ H Q I ⟨μ, ρ, st, R, re, A⟩ => ?_⟩
  simp only [evE] at A
  simp only [noStars, Bool.and_eq_true, Bool.not_eq_true'] at hst
  refine wpAny_Call_Name_kw (thn (ha.run pins s σ H _ I ⟨μ, ρ, st, R, re, A.bind⟩) fun u s1 hh => ?_)
  obtain ⟨v, H1, I1, rv, μ1, d, st1, _, x1, R1, P1, A1⟩ := hh
  split at A1
  · rename_i hi
    obtain ⟨fs, e⟩ := insB_ok hi
    obtain ⟨q, b, dx, ws, rfl, _, rfl, hq, h1, _, h3⟩ := R1.ins P1 e
    obtain rfl : u = Value.ref b := rv
    refine StX.callO_with (thn (hA.run pos pins s1 σ H1 _ I1 ⟨μ1, ρ, st1, R1, re.mono x1, A1.bind⟩) fun us s2 hh => ?_) (star_cons hst.1) (star_all hst.2)
    obtain ⟨vs, H2, I2, rs, μ2, ds, st2, e2, x2, R2, P2, A2⟩ := hh
    have A3 : AftV T (RepT T) (dunI kn .call c g (.ref q :: ds) st2) μ2 H2 Q := A2.v fun y z => by
      unfold dunI
      split
      · split
        · cases kn.call1 g _ _ with
          | ok d s => simp only [noExc, AF.R.bind_ok]; unfold dunPost; split <;> (try split) <;> simp
          | exc _ _ => simp [noExc]
          | bad => simp [noExc]
        · simp
      · simp
    obtain ⟨b', dx', fs', vs', ds', exs, h1', ha', ⟨μ3, rr⟩, run⟩ := dun_at (xs := .ref b :: vs) R0 I2 ⟨μ2, st2, .ref q :: ds, R2, .cons (P1.mono x2) P2, A3⟩
    cases exs
    obtain ⟨mA, O, _⟩ := ins_get I2.hok h1'
    obtain ⟨od, J, _⟩ := O.look
    obtain ⟨c1, _⟩ := R0
    refine ⟨⟨_, _, _, J, rfl⟩, wpAny_mono (wpAny_call (PySem.W.kco_code I2.kIn J rfl c1.at_ c1.fn c1.fi (run X.A us X.xe (fun k hr => hr.mono (Nat.le_succ _)) I2.env0 (by rw [hn, P2.length, evEs_len e2]) rs))) (fun r s' hr => ?_) fun _ _ e => e⟩
    obtain ⟨v, H', I', rv', μ', d', st', R', rd, A⟩ := hr
    exact ⟨v, H', I', rv', A.ok R' rd⟩
  · exact A1.elim
/-! ### C(a, .., *y) where the first def takes the rest -/
def spR (T : Tx) (m : Nat) (ev : List D → Store → R D) : Sp := fun vs H Q E => ∃ ws rest, vs = ws ++ rest ∧ ws.length = m ∧ rest.length ≤ sizeLine ∧ ∀ p, H p = none → spF T (m + 1) ev (ws ++ [V.ref p]) (upd H p (.tup rest)) Q E
def MkRRun (X : Cx) (T : Tx) (kn : Kn) (c g r : Nat) : Prop := PySem.W.keepIn X.K (.ref (T.cl c)) = true ∧ ((∀ ds st, kn.call1 g ds st = .bad) ∨ ∃ k, Mk X.K (T.cl c) (T.fa g) ∧ FnR X.prog X.w X.K X.mg X.base (L2.CX X.prog X.w) k (T.fa g) (spR T (r + 1) (kn.call1 g)) ∧ Room (k + 1) X.A)
theorem pass_never {Y : Cx} : Passes (L2.CX Y.prog Y.w) Y (fun _ _ _ => False) := by
  rintro pins σ H s e s' I ⟨a, B, H', cls, d, ea, fl, hok, ub, na, os, ag, he⟩
  exact he.elim
theorem mkR_run {r : Nat} {pins : List (Addr × Obj)} {σ : L2.St} {H : Hp} {s : Shared} {Q : VK} {us : List Value} {vs : List V} {W : WX} {μ1 : List Addr} {ds : List D} {st1 : Store} (R0 : MkRRun X T kn c g r) (I : Inv X pins σ H s) (rv : Vals vs us) (R1 : Rel T μ1 st1 H) (P1 : Reps T μ1 H ds vs)
    (A1 : Aft T W σ (RepT T) (mkRI kn c g r ds st1) μ1 H Q) : wpAny (model X.prog X.w) X.A (call (.ref (T.cl c)) us) (EP X pins σ Q) X.xe s := by
  unfold mkRI at A1
  split at A1
  · rename_i hl
    obtain ⟨hk, hbad | ⟨k, M, F, hr⟩⟩ := R0
    · rw [hbad] at A1; exact A1.elim
    · refine StX.run_makeR M F hr pass_never I rv fun x dx hx hd ne => ?_
      obtain ⟨x1, R2⟩ := Rel.made (c := c) R1 hx hd ne
      have hget : (μ1 ++ [x])[st1.length]? = some x := by rw [← R1.len]; simp
      have hln := P1.length
      refine ⟨V.ref x :: vs.take r, vs.drop r, by rw [List.cons_append, List.take_append_drop], by simp; omega, Nat.le_trans (by simp; omega) (es_line (Nat.le_refl 1000)), fun p hp => ?_⟩
      have R3 := R2.new (o := .tup (vs.drop r)) hp
      have x3 := Ext.new (o := .tup (vs.drop r)) R2 hp
      have P3 := (P1.mono x1).mono x3
      have htup : Rep T (μ1 ++ [x]) (upd (upd (upd H dx (.own x)) x (.ins (T.cl c) dx [])) p (.tup (vs.drop r))) (.tup (ds.drop r)) (.ref p) := .tup (.inl (.inl upd_same)) (P3.drop r)
      have hself : Rep T (μ1 ++ [x]) (upd (upd (upd H dx (.own x)) x (.ins (T.cl c) dx [])) p (.tup (vs.drop r))) (.ref st1.length) (.ref x) := .ref hget
      have hall : Reps T (μ1 ++ [x]) (upd (upd (upd H dx (.own x)) x (.ins (T.cl c) dx [])) p (.tup (vs.drop r))) (.ref st1.length :: (ds.take r ++ [.tup (ds.drop r)])) (V.ref x :: vs.take r ++ [V.ref p]) := .cons hself (Reps.append (P3.take r) (.cons htup .nil))
      refine ⟨by simp; omega, T.gh, _, D.ref st1.length :: (ds.take r ++ [D.tup (ds.drop r)]), _, R3, hall, ?_⟩
      have A2 := Aft.shift (Aft.shift A1 x1) x3
      cases hc : kn.call1 g (.ref st1.length :: (ds.take r ++ [.tup (ds.drop r)])) (st1 ++ [.ins c []]) with
      | ok d s2 =>
        rw [hc] at A2
        simp only [noExc] at A2
        intro μ' H' v xx R' rv
        have A3 := Aft.shift A2 xx
        cases rv with
        | non =>
          simp only [AF.R.bind_ok] at A3
          exact ⟨rfl, A3.ok R' (.ref (xx.get hget))⟩
        | _ => exact A3.elim
      | exc y s2 => rw [hc] at A2; exact A2.elim
      | bad => rw [hc] at A2; exact A2.elim
  · exact A1.elim
/-- arguments, the last one starred or not -/
def evArgs (kn : Kn) (es : Es) (s : Oe) : Env → Store → R (List D) := fun ρ st => (evEs kn es ρ st).bind fun ds st => (evSt kn s ρ st).bind fun l st => .ok (ds ++ l) st
theorem sA_star {W : WX} {x : Expr} {p : Pos} {e : E} (hK : X.K = T.K) (h : PE X x (rdE T W (evE kn e))) : PA X [.Starred x p] (rdA T W (evSt kn (.some e))) :=
  PA.weak (StX.pa_star h pa_nil) fun σ H Q ⟨μ, ρ, st, R, re, A⟩ => by
    simp only [evSt] at A
    refine ⟨μ, ρ, st, R, re, A.bind.mono fun v H1 ⟨μ1, d, st1, _, x1, R1, P1, A1⟩ => ?_⟩
    split at A1
    · rename_i l hl
      rcases (by
        cases d <;> simp only [seqOf, lstOf] at hl ⊢ <;> first | (cases hl; done) | (cases hl; exact .inl rfl) | exact .inr hl : d = .tup l ∨ lstOf st1 d = some l) with rfl | h1
      · cases P1 with
        | @tup a xs l q rs => exact ⟨a, xs, rfl, .inl (by rw [hK]; exact q), by show Q (xs ++ []) H1; rw [List.append_nil]; exact A1.ok R1 rs⟩
      · obtain ⟨b, ys, rfl, h2, rs⟩ := lstOf_at R1 h1 P1
        exact ⟨b, ys, rfl, .inr (SqL.of h2), by show Q (ys ++ []) H1; rw [List.append_nil]; exact A1.ok R1 rs⟩
    · exact A1.elim
theorem sE_mkR {W : WX} {r : Nat} {pos p : Pos} {nm : Str} {e0 : Expr} {r0 : List Expr} {es : Es} {s : Oe} (R0 : MkRRun X T kn c g r) (hg : Gl X nm) (hm : X.mg nm = some (.ref (T.cl c))) (hs : isStar e0 = false) (ha : PA X (e0 :: r0) (rdA T W (evArgs kn es s)))
    (hst : (∀ pos env, (backTo pos (starEach r0 env)).any (·.1) = false) ∨ ∀ pos env, (backTo pos (starEach r0 env)).any (·.1) = true) (hdb : (nm == ("__debug__" : Str)) = false) :
    PE X (.Call (.Name nm p) (e0 :: r0) [] pos) (rdE T W (evE kn (.mkR c g r es s))) := by
  refine ⟨fun pins z σ H Q I ⟨μ, ρ, st, R, re, A⟩ => ?_⟩
  simp only [evE] at A
  have A : Aft T W σ (RepT T) ((evArgs kn es s ρ st).bind fun ds st => mkRI kn c g r ds st) μ H Q := by
    unfold evArgs
    have e : ((evEs kn es ρ st).bind fun ds st => (evSt kn s ρ st).bind fun l st => mkRI kn c g r (ds ++ l) st) = (((evEs kn es ρ st).bind fun ds st => (evSt kn s ρ st).bind fun l st => .ok (ds ++ l) st).bind fun ds st => mkRI kn c g r ds st) := by
      cases evEs kn es ρ st with
      | ok ds s1 =>
        simp only [AF.R.bind_ok]
        cases evSt kn s ρ s1 <;> rfl
      | exc _ _ => rfl
      | bad => rfl
    rw [← e]; exact A
  refine wpAny_Call_Name_kw (ld_glob I hg hm ?_ hdb)
  have hk := R0.1
  rcases hst with h | h
  · refine PySem.W.callWith_K (h₀ := X.base) I.ok.mod.kin hk (thn (ha.run pos pins z σ H _ I ⟨μ, ρ, st, R, re, A.bind⟩) fun us s1 hh => ?_) (star_cons hs) (h pos X.env)
    obtain ⟨vs, H1, I1, rs, μ1, ds, st1, e1, x1, R1, P1, A1⟩ := hh
    exact ⟨I1.kIn, mkR_run R0 I1 rs R1 P1 A1⟩
  · refine PySem.W.callWith_S2 (h₀ := X.base) I.ok.mod.kin hk (thn (ha.run pos pins z σ H _ I ⟨μ, ρ, st, R, re, A.bind⟩) fun us s1 hh => ?_) (star_cons hs) (h pos X.env)
    obtain ⟨vs, H1, I1, rs, μ1, ds, st1, e1, x1, R1, P1, A1⟩ := hh
    exact ⟨I1.kIn, mkR_run R0 I1 rs R1 P1 A1⟩
end
end AF

/-! Sound: the checked text does what the core's text does. -/
namespace AF
open PySem PySem.Spec PyProof.Rows L2

def bNames : List Str := ["len", "int", "abs", "min", "max", "sorted", "tuple", "list", "all", "any", "str", "bool", "isinstance", "range", "zip", "enumerate"]
structure Cxt (g : G) (T : Tx) (W : WX) (kn : Kn) (X : Cx) : Prop where
  hN : X.N = g.N
  nd : X.N.Nodup
  sc : X.env.scope = g.sc
  kind : g.sc.kind = .function
  fn : ∀ x, g.fnOk x = true → X.fn x = true
  calm : X.calm = true
  K : X.K = T.K
  tk : Takes X W
  un : X.A.units + 65 < cLine
  bn : ∀ x ∈ bNames, X.mg x = none
  con : ∀ (i : Nat) (x : Str) (d : D), g.cons[i]? = some x → kn.cons[i]? = some d → ∃ v u, X.mg x = some u ∧ RelV v u ∧ ∀ gh μ H, Rep (T.with gh) μ H d v
  fns : ∀ (f : Nat) (x : Str) (n : Nat), g.fns[f]? = some (some x, n) → ∃ k fd ps, X.mg x = some (.ref (T.fa f)) ∧ PySem.W.keepIn X.K (.ref (T.fa f)) = true ∧ Binds X.K fd ps [] ∧ Room k X.A ∧ FnOk X.prog X.w X.K X.mg X.base (L2.CX X.prog X.w) k (T.fa f) fd ps (spF T n (kn.call f))
  nm : T.nm = g.nm
  mks : ∀ (c : Nat) (x : Str) (f n : Nat), (c, x, f, n) ∈ g.mks → X.mg x = some (.ref (T.cl c)) ∧ MkRun X T kn c f n
  mths : ∀ (c m f n : Nat), (c, m, f, n) ∈ g.mths → ∀ x, T.nm[m]? = some x → ∃ k fd ps, Cls X.K (T.cl c) ∧ Meth X.K (T.cl c) x (T.fa f) ∧ Binds X.K fd ps [] ∧ Room k X.A ∧ FnOk X.prog X.w X.K X.mg X.base (L2.CX X.prog X.w) k (T.fa f) fd ps (spF T n (kn.call f))
  prps : ∀ (c m f : Nat), (c, m, f) ∈ g.prps → ∀ x, T.nm[m]? = some x → PrpRun X T kn c f x
  mkrs : ∀ (c : Nat) (x : Str) (f r : Nat), (c, x, f, r) ∈ g.mkrs → X.mg x = some (.ref (T.cl c)) ∧ MkRRun X T kn c f r
  duns : ∀ (u : DU) (c f n : Nat), (u, c, f, n) ∈ g.duns → DunRun u X T kn c f n
  flds : ∀ (c f : Nat), (c, f) ∈ g.flds → ∀ x, T.nm[f]? = some x → Cls X.K (T.cl c) ∧ NoAttr X.K (T.cl c) x
section
variable {g : G} {T : Tx} {W : WX} {kn : Kn} {X : Cx}
theorem Cxt.with (C : Cxt g T W kn X) (gh : List Addr) : Cxt g (T.with gh) W kn X := ⟨C.hN, C.nd, C.sc, C.kind, C.fn, C.calm, C.K, C.tk, C.un, C.bn, C.con, C.fns, C.nm, C.mks, C.mths, C.prps, C.mkrs, C.duns, C.flds⟩
theorem takes0 {Y : Cx} : Takes Y WF := fun u s' ⟨a, B, sI, pins, σ, H, cls, d, e, I, nb, up, sky, na, os, ag, w⟩ => w.elim
theorem Cxt.blk (C : Cxt g T W kn X) {scope : Scope} {own : List (Str × Nat)} (ok : BlkOk X.N X.env.scope scope own) (gh : List Addr) : Blk X scope fun Y => Cxt (g.inB scope) (T.with gh) WF kn Y := fun s H A cl fp =>
  ⟨C.hN, C.nd, by show relS scope X.env.scope = relS scope g.sc; rw [C.sc], ok.kind, fun x h => h, C.calm, C.K, takes0, C.un, C.bn, C.con, C.fns, C.nm, C.mks, C.mths, C.prps, C.mkrs, C.duns, C.flds⟩
theorem glOk_ok (C : Cxt g T W kn X) {x : Str} (h : glOk g x = true) : Gl X x ∧ (x == ("__debug__" : Str)) = false := by
  simp only [glOk, Bool.and_eq_true, Bool.not_eq_true'] at h
  exact ⟨by show X.env.scope.names.lookup x = _; rw [C.sc]; exact isGl_ok h.1, h.2⟩
theorem op_boM (hK : X.K = T.K) {op : BO} {m : Bool} {o : Operator} (h : boM op o = true) : OpR X (binaryOp o) (rB T (bin op m)) := by
  cases op <;> cases o <;> simp only [boM] at h <;> first | (cases h; done) | skip
  · exact op_addW hK
  · exact op_subW hK
  · exact op_mulW' hK
  · exact op_fdivW' hK
  · exact op_modW' hK
  · exact op_powW' hK
theorem op_coM (C : Cxt g T W kn X) {op : CO} {o : CmpOp} (h : coM op o = true) : OpR X (compareOp o) (rB T (cmp op)) := by
  have hu := C.un
  cases op <;> cases o <;> simp only [coM] at h <;> first | (cases h; done) | skip
  · exact op_eqW C.K (by omega)
  · exact op_neW C.K (by omega)
  · exact op_ltW C.K
  · exact op_leW C.K
  · exact op_gtW C.K
  · exact op_geW C.K
  · exact op_inW C.K hu
  · exact op_ninW C.K hu
  · exact op_isW C.K
  · exact op_isntW C.K
theorem noMark {o : CmpOp} {y : Expr} (h : isSet y = false) : behindInMarks o y = false := by
  cases y <;> first | rfl | (simp [isSet] at h)
theorem plainIx {y : Expr} (h : isSlice y = false) : PlainIx y := by
  intro o i
  cases y <;> first | rfl | (simp [isSlice] at h)
theorem noFold {x : Expr} {env : PySem.Env} (h : isSet x = false) : ∀ v, foldedSetIterable x env v = pure v := by
  intro v
  cases x <;> first | rfl | (simp [isSet] at h)
theorem isTup_ok {t : Expr} (h : isTupE t = true) : ∃ xs k p, t = .Tuple xs k p := by
  cases t <;> first | exact ⟨_, _, _, rfl⟩ | (simp [isTupE] at h)
theorem subB_ok {a b : List Nat} (h : subB a b = true) : ∀ i ∈ a, i ∈ b := fun i hi => by
  have := List.all_eq_true.mp h i hi
  simpa using this
theorem ownOf_snd {N : List Str} {own : List Nat} : (ownOf N own).map (·.2) = own := by
  simp [ownOf, List.map_map, Function.comp_def]
end
/-- an expression's soundness -/
def OE (g : G) (e : E) (c : Expr) : Prop := ∀ (T : Tx) (W : WX) (kn : Kn) (X : Cx), Cxt g T W kn X → PE X c (rdE T W (evE kn e)) ∧ (isIf c = false → PT X c (rdT T W (evE kn e))) ∧ (isBO c = true → PW X c (rdT T W (evE kn e)))
def OEs (g : G) (es : Es) (cs : List Expr) : Prop := ∀ (T : Tx) (W : WX) (kn : Kn) (X : Cx), Cxt g T W kn X → PA X cs (rdA T W (evEs kn es))
def OFs (g : G) (es : Es) (cs : List Expr) : Prop := ∀ (T : Tx) (W : WX) (kn : Kn) (X : Cx), Cxt g T W kn X → FsOk T W kn X es cs
def OOe (g : G) (e : Oe) (c : Option Expr) : Prop := ∀ (T : Tx) (W : WX) (kn : Kn) (X : Cx), Cxt g T W kn X → PO X c (rdO T W (evOe kn e))
def OOc (g : G) (e : Oe) (cs : List Expr) : Prop := ∀ (T : Tx) (W : WX) (kn : Kn) (X : Cx), Cxt g T W kn X → PTs X cs (rdT T W (evOc kn e))
def OIt (g : G) (it : It) (t c : Expr) : Prop := ∀ (T : Tx) (W : WX) (kn : Kn) (X : Cx), Cxt g T W kn X → PI X t c (rdI T W (evIt kn it))
theorem OE.val {g : G} {e : E} {c : Expr} (h : ∀ (T : Tx) (W : WX) (kn : Kn) (X : Cx), Cxt g T W kn X → PE X c (rdE T W (evE kn e))) (he : ∀ env whole, isTrue c env whole = (do let v ← whole; standAt c.pos; holding [v] (truthy v))) (hb : isBO c = false) : OE g e c :=
  fun T W kn X C => ⟨h T W kn X C, fun _ => sT_val (h T W kn X C) (he _), fun z => by rw [hb] at z; cases z⟩
theorem sA_app {T : Tx} {W : WX} {X : Cx} {kn : Kn} {x : Expr} {xs : List Expr} {a : E} {es : Es} {s : Oe} (hs : isStar x = false) (ha : PE X x (rdE T W (evE kn a))) (hr : PA X xs (rdA T W (evArgs kn es s))) : PA X (x :: xs) (rdA T W (evArgs kn (.cons a es) s)) :=
  PA.weak (pa_cons ha hr (star_cons hs)) fun σ H Q ⟨μ, ρ, st, R, re, A⟩ => by
    have e : evArgs kn (.cons a es) s ρ st = (evE kn a ρ st).bind fun d st => (evArgs kn es s ρ st).bind fun ds st => .ok (d :: ds) st := by
      unfold evArgs
      simp only [evEs]
      cases evE kn a ρ st with
      | ok d s1 =>
        simp only [AF.R.bind_ok]
        cases evEs kn es ρ s1 with
        | ok ds s2 =>
          simp only [AF.R.bind_ok]
          cases evSt kn s ρ s2 <;> rfl
        | exc _ _ => rfl
        | bad => rfl
      | exc _ _ => rfl
      | bad => rfl
    rw [e] at A
    exact ⟨μ, ρ, st, R, re, A.bind.mono fun v H1 ⟨μ1, d, st1, _, x1, R1, P1, A1⟩ => ⟨μ1, ρ, st1, R1, re.mono x1, A1.bind.mono fun vs H2 ⟨μ2, ds, st2, _, x2, R2, P2, A2⟩ =>
      A2.ok R2 (.cons (P1.mono x2) P2)⟩⟩
theorem sA_end {T : Tx} {W : WX} {X : Cx} {kn : Kn} {xs : List Expr} {s : Oe} (h : PA X xs (rdA T W (evSt kn s))) : PA X xs (rdA T W (evArgs kn .nil s)) :=
  PA.weak h fun σ H Q ⟨μ, ρ, st, R, re, A⟩ => by
    have e : evArgs kn .nil s ρ st = evSt kn s ρ st := by
      unfold evArgs
      simp only [evEs, AF.R.bind_ok]
      cases evSt kn s ρ st <;> rfl
    rw [e] at A
    exact ⟨μ, ρ, st, R, re, A⟩
theorem dunI_ne {kn : Kn} {u : DU} {c g : Nat} {ds : List D} {st : Store} (x : Ex) (s : Store) : dunI kn u c g ds st ≠ .exc x s := by
  unfold dunI
  split
  · split
    · cases kn.call1 g _ _ with
      | ok d s => simp only [noExc, AF.R.bind_ok]; unfold dunPost; split <;> (try split) <;> simp
      | exc _ _ => simp [noExc]
      | bad => simp [noExc]
    · simp
  · simp
section
variable {T : Tx} {W : WX} {σ : L2.St} {kn : Kn} {u : DU} {c g : Nat} {μ1 : List Addr} {H1 : Hp} {st1 : Store} {d : D} {v : V} {Q : VK} {ρ : Env}
theorem dun_one (R1 : Rel T μ1 st1 H1) (P1 : Rep T μ1 H1 d v) (A1 : Aft T W σ (RepT T) (if insB c d st1 then (evEs kn .nil ρ st1).bind fun ds st => dunI kn u c g (d :: ds) st else .bad) μ1 H1 Q) : rL T (dunI kn u c g) [v] H1 Q := by
  split at A1
  · simp only [evEs, AF.R.bind_ok] at A1
    exact ⟨μ1, st1, [d], R1, .cons P1 .nil, A1.v dunI_ne⟩
  · exact A1.elim
theorem dun_two {b : E} (P1 : Rep T μ1 H1 d v) (A1 : Aft T W σ (RepT T) (if insB c d st1 then (evEs kn (.cons b .nil) ρ st1).bind fun ds st => dunI kn u c g (d :: ds) st else .bad) μ1 H1 Q) :
    Aft T W σ (RepT T) (evE kn b ρ st1) μ1 H1 fun w H2 => rB T (fun x y st => dunI kn u c g [x, y] st) v w H2 Q := by
  split at A1
  · simp only [evEs] at A1
    cases e : evE kn b ρ st1 with
    | ok d2 s2 =>
      rw [e] at A1
      simp only [AF.R.bind_ok] at A1
      exact fun μ2 H2 w x R2 P2 => ⟨μ2, s2, d, d2, R2, P1.mono x, P2, (Aft.shift A1 x).v dunI_ne⟩
    | exc y s => rw [e] at A1; exact A1
    | bad => rw [e] at A1; exact A1
  · exact A1.elim
end
theorem noStar_any {xs : List Expr} (h : noStars xs = true) : ∀ pos env, (backTo pos (starEach xs env)).any (·.1) = false := fun pos env => star_all h
theorem lastStar_any {xs : List Expr} {x : Expr} {p : Pos} (h : noStars xs = true) : ∀ pos env, (backTo pos (starEach (xs ++ [.Starred x p]) env)).any (·.1) = true := fun pos env => by
  induction xs with
  | nil => rfl
  | cons y ys ih =>
    simp only [noStars, Bool.and_eq_true, Bool.not_eq_true'] at h
    rw [List.cons_append, star_cons h.1]
    show (false || (backTo pos (starEach (ys ++ [.Starred x p]) env)).any (·.1)) = true
    rw [ih h.2]; rfl
mutual
theorem soundE : ∀ (e : E) (g : G) (c : Expr), chkE e g c = true → OE g e c
  | .var i, g, c, h => by
    simp only [chkE] at h
    unfold qVar at h; split at h
    · rename_i x p
      simp only [nmOk, Bool.and_eq_true, decide_eq_true_eq, Bool.not_eq_true'] at h
      obtain ⟨⟨⟨h1, h2⟩, h3⟩, h4⟩ := h
      exact .val (fun T W kn X C => sE_var (by rw [C.hN]; exact h1) (by rw [C.sc]; exact isVis_ok h2) h3 h4) (fun _ _ => rfl) rfl
    · cases h
  | .non, g, c, h => by
    simp only [chkE] at h
    unfold qNon at h; split at h
    · exact .val (fun T W kn X C => sE_non) (fun _ _ => rfl) rfl
    · cases h
  | .bl b, g, c, h => by
    simp only [chkE] at h
    unfold qBl at h; split at h
    · have := beq_iff_eq.mp h
      subst this
      exact .val (fun T W kn X C => sE_bl) (fun _ _ => rfl) rfl
    · cases h
  | .int i, g, c, h => by
    simp only [chkE] at h
    unfold qInt at h; split at h
    · have := of_decide_eq_true h
      subst this
      exact .val (fun T W kn X C => sE_int) (fun _ _ => rfl) rfl
    · cases h
  | .str s, g, c, h => by
    simp only [chkE] at h
    unfold qStr at h; split at h
    · have := of_decide_eq_true h
      subst this
      exact .val (fun T W kn X C => sE_str) (fun _ _ => rfl) rfl
    · cases h
  | .con i, g, c, h => by
    simp only [chkE] at h
    unfold qCon at h; split at h
    · rename_i x p
      simp only [Bool.and_eq_true, decide_eq_true_eq] at h
      refine .val (fun T W kn X C => ?_) (fun _ _ => rfl) rfl
      obtain ⟨g1, g2⟩ := glOk_ok C h.2
      refine ⟨fun pins s σ H Q I ⟨μ, ρ, st, R, re, A⟩ => ?_⟩
      simp only [evE] at A
      cases e : kn.cons[i]? with
      | none => rw [e] at A; exact A.elim
      | some d =>
        rw [e] at A
        obtain ⟨v, u, hm, rv, rp⟩ := C.con i x d h.1 e
        exact (pe_glob g1 hm rv g2).run pins s σ H Q I (A.ok R (rp T.gh μ H))
    · cases h
  | .tup es, g, c, h => by
    simp only [chkE] at h
    unfold qTup at h; split at h
    · simp only [Bool.and_eq_true, decide_eq_true_eq] at h
      exact .val (fun T W kn X C => sE_tup h.2 (soundEs es g _ h.1 T W kn X C)) (fun _ _ => rfl) rfl
    · cases h
  | .lst m es, g, c, h => by
    simp only [chkE] at h
    unfold qLst at h; split at h
    · simp only [Bool.and_eq_true, decide_eq_true_eq] at h
      exact .val (fun T W kn X C => sE_lst h.2 (soundEs es g _ h.1 T W kn X C)) (fun _ _ => rfl) rfl
    · cases h
  | .any, g, c, h => fun T W kn X C => ⟨⟨fun _ _ _ _ _ _ ⟨_, _, _, _, _, A⟩ => by simp only [evE] at A; exact A.elim⟩,
      fun _ => ⟨fun _ _ _ _ _ _ ⟨_, _, _, _, _, A⟩ => by simp only [evE] at A; exact A.elim⟩, fun _ => ⟨fun _ _ _ _ _ _ _ ⟨_, _, _, _, _, A⟩ => by simp only [evE] at A; exact A.elim⟩⟩
  | .mk k f es, g, c, h => by
    simp only [chkE] at h
    unfold qMk at h; split at h
    · simp only [Bool.and_eq_true, List.contains_iff_mem] at h
      obtain ⟨⟨h1, h2⟩, h3⟩ := h
      refine .val (fun T W kn X C => ?_) (fun _ _ => rfl) rfl
      obtain ⟨g1, g2⟩ := glOk_ok C h2
      obtain ⟨hm, R⟩ := C.mks _ _ _ _ h1
      obtain ⟨s1, s2⟩ := chkEs_stars h3
      exact sE_mk R g1 hm C.tk rfl s2 s1 (soundEs es g _ h3 T W kn X C) g2
    · cases h
  | .mkR k f r es s, g, c, h => by
    simp only [chkE] at h
    unfold qMkR at h; split at h
    · rename_i x p y ys pos
      simp only [Bool.and_eq_true, List.contains_iff_mem, decide_eq_true_eq] at h
      obtain ⟨⟨⟨⟨h1, h2⟩, h3⟩, h4⟩, h5⟩ := h
      refine .val (fun T W kn X C => ?_) (fun _ _ => rfl) rfl
      obtain ⟨g1, g2⟩ := glOk_ok C h2
      obtain ⟨hm, R⟩ := C.mkrs _ _ _ _ h1
      obtain ⟨s1, s2⟩ := chkEs_stars h4
      obtain ⟨q1, q2⟩ := soundSt s g _ h5 T W kn X C
      have ha := soundEsT es g _ h4 _ s T W kn X C q1
      rw [List.take_append_drop] at ha
      have hpos : (y :: ys).take es.len = y :: ys.take (es.len - 1) := by
        cases hn : es.len with
        | zero => omega
        | succ m => simp
      rw [hpos] at s1
      simp only [noStars, Bool.and_eq_true, Bool.not_eq_true'] at s1
      have hdrop : (y :: ys).drop es.len = ys.drop (es.len - 1) := by
        cases hn : es.len with
        | zero => omega
        | succ m => simp
      rw [hdrop] at q2
      refine sE_mkR R g1 hm s1.1 ha ?_ g2
      rcases q2 with q2 | ⟨z, zp, q2⟩
      · left
        have : ys = ys.take (es.len - 1) := by
          have := List.take_append_drop (es.len - 1) ys
          rw [q2, List.append_nil] at this
          exact this.symm
        rw [this]
        exact noStar_any s1.2
      · right
        have : ys = ys.take (es.len - 1) ++ [.Starred z zp] := by rw [← q2, List.take_append_drop]
        rw [this]
        exact lastStar_any s1.2
    · cases h
  | .dun u k f a es, g, c, h => by
    simp only [chkE] at h
    unfold qDun at h; split at h
    · rename_i x p y ys pos
      simp only [Bool.and_eq_true, List.contains_iff_mem] at h
      obtain ⟨h1, h2⟩ := h
      refine .val (fun T W kn X C => ?_) (fun _ _ => rfl) rfl
      have R0 := C.duns _ _ _ _ h1
      cases u <;> dsimp only at h2 <;> first | (cases h2; done) | skip
      · simp only [Bool.and_eq_true, decide_eq_true_eq, Bool.not_eq_true', List.isEmpty_iff] at h2
        obtain ⟨⟨⟨⟨⟨rfl, h4⟩, rfl⟩, h5⟩, h6⟩, h7⟩ := h2
        obtain ⟨g1, g2⟩ := glOk_ok C h4
        have en : es = .nil := by cases es with | nil => rfl | cons _ _ => simp [chkEs] at h7
        subst en
        refine PE.weak (pe_callB (call_dlen rfl R0) g1 (C.bn _ (by decide +kernel)) (boot_bf .len) (pa_cons (soundE a g _ h5 T W kn X C).1 pa_nil (star_cons h6)) (bf_name .len).1 (bf_name .len).2 (star_cons h6) (star_all (es := []) rfl)) fun σ H Q ⟨μ, ρ, st, R, re, A⟩ => ?_
        simp only [evE] at A
        exact ⟨μ, ρ, st, R, re, A.bind.mono fun v H1 ⟨μ1, d, st1, _, x1, R1, P1, A1⟩ => dun_one R1 P1 A1⟩
      · simp only [Bool.and_eq_true, decide_eq_true_eq, Bool.not_eq_true', List.isEmpty_iff] at h2
        obtain ⟨⟨⟨⟨⟨rfl, h4⟩, rfl⟩, h5⟩, h6⟩, h7⟩ := h2
        obtain ⟨g1, g2⟩ := glOk_ok C h4
        have en : es = .nil := by cases es with | nil => rfl | cons _ _ => simp [chkEs] at h7
        subst en
        refine PE.weak (pe_callTy (call_dbool rfl R0) g1 (C.bn _ (by decide +kernel)) (boot_bf .bool) (pa_cons (soundE a g _ h5 T W kn X C).1 pa_nil (star_cons h6)) (bf_name .bool).1 (bf_name .bool).2 (star_cons h6) (star_all (es := []) rfl)) fun σ H Q ⟨μ, ρ, st, R, re, A⟩ => ?_
        simp only [evE] at A
        exact ⟨μ, ρ, st, R, re, A.bind.mono fun v H1 ⟨μ1, d, st1, _, x1, R1, P1, A1⟩ => dun_one R1 P1 A1⟩
      · simp only [Bool.and_eq_true] at h2
        obtain ⟨s1, s2⟩ := chkEs_stars h2.2
        exact sE_dcall rfl s2 R0 (soundE a g _ h2.1 T W kn X C).1 s1 (soundEs es g _ h2.2 T W kn X C)
    · rename_i x y pos
      simp only [Bool.and_eq_true, List.contains_iff_mem] at h
      obtain ⟨h1, h2⟩ := h
      refine .val (fun T W kn X C => ?_) (fun _ _ => rfl) rfl
      have R0 := C.duns _ _ _ _ h1
      cases u <;> dsimp only at h2 <;> first | (cases h2; done) | skip
      simp only [Bool.and_eq_true] at h2
      cases es with
      | nil => simp [chkEs] at h2
      | cons b es =>
        simp only [chkEs, Bool.and_eq_true] at h2
        obtain ⟨h3, ⟨h4, _⟩, h5⟩ := h2
        have en : es = .nil := by cases es with | nil => rfl | cons _ _ => simp [chkEs] at h5
        subst en
        refine PE.weak (pe_op (op_dadd C.K rfl R0) (soundE a g _ h3 T W kn X C).1 (soundE b g _ h4 T W kn X C).1) fun σ H Q ⟨μ, ρ, st, R, re, A⟩ => ?_
        simp only [evE] at A
        exact ⟨μ, ρ, st, R, re, A.bind.mono fun v H1 ⟨μ1, d, st1, _, x1, R1, P1, A1⟩ => ⟨μ1, ρ, st1, R1, re.mono x1, dun_two P1 A1⟩⟩
    · cases h
  | .fld k a f, g, c, h => by
    simp only [chkE] at h
    unfold qFld at h; split at h
    · simp only [Bool.and_eq_true, List.contains_iff_mem, decide_eq_true_eq, Bool.not_eq_true'] at h
      obtain ⟨⟨⟨h1, h2⟩, h3⟩, h4⟩ := h
      refine .val (fun T W kn X C => ?_) (fun _ _ => rfl) rfl
      rw [← C.nm] at h2
      obtain ⟨c1, c2⟩ := C.flds _ _ h1 _ h2
      exact sE_fld h4 h2 c1 c2 (soundE a g _ h3 T W kn X C).1
    · cases h
  | .prp k d a f, g, c, h => by
    simp only [chkE] at h
    unfold qPrp at h; split at h
    · simp only [Bool.and_eq_true, List.contains_iff_mem, decide_eq_true_eq, Bool.not_eq_true'] at h
      obtain ⟨⟨⟨h1, h2⟩, h3⟩, h4⟩ := h
      refine .val (fun T W kn X C => ?_) (fun _ _ => rfl) rfl
      rw [← C.nm] at h2
      exact sE_prp h4 h2 (C.prps _ _ _ h1 _ h2) (soundE a g _ h3 T W kn X C).1
    · cases h
  | .met k d a m es, g, c, h => by
    simp only [chkE] at h
    unfold qMet at h; split at h
    · simp only [Bool.and_eq_true, List.contains_iff_mem, decide_eq_true_eq, Bool.not_eq_true'] at h
      obtain ⟨⟨⟨⟨⟨⟨h1, h2⟩, h3⟩, h4⟩, h5⟩, h6⟩, h7⟩ := h
      refine .val (fun T W kn X C => ?_) (fun _ _ => rfl) rfl
      rw [← C.nm] at h2
      obtain ⟨k, fd, ps, c1, c2, c3, c4, c5⟩ := C.mths _ _ _ _ h1 _ h2
      obtain ⟨s1, s2⟩ := chkEs_stars h5
      exact sE_met h4 h2 c1 c2 c5 c4 c3 C.tk rfl s2 s1 (by rw [s2]; exact h7) h6 (soundE a g _ h3 T W kn X C).1 (soundEs es g _ h5 T W kn X C)
    · cases h
  | .isC _ _, g, c, h => by simp [chkE] at h
  | .fst es, g, c, h => by
    simp only [chkE] at h
    unfold qFst at h; split at h
    · exact .val (fun T W kn X C => sE_fst (soundFs es g _ h T W kn X C)) (fun _ _ => rfl) rfl
    · cases h
  | .bin op m a b, g, c, h => by
    simp only [chkE] at h
    unfold qBin at h; split at h
    · simp only [Bool.and_eq_true] at h
      exact .val (fun T W kn X C => sE_bin (op_boM C.K h.1.1) (soundE a g _ h.1.2 T W kn X C).1 (soundE b g _ h.2 T W kn X C).1) (fun _ _ => rfl) rfl
    · cases h
  | .neg a, g, c, h => by
    simp only [chkE] at h
    unfold qNeg at h; split at h
    · exact .val (fun T W kn X C => sE_neg (un_negW C.K) (soundE a g _ h T W kn X C).1) (fun _ _ => rfl) rfl
    · cases h
  | .not a, g, c, h => by
    simp only [chkE] at h
    unfold qNot at h; split at h
    · simp only [Bool.and_eq_true, Bool.not_eq_true'] at h
      exact fun T W kn X C => ⟨sE_not (soundE a g _ h.1 T W kn X C).1, fun _ => sT_not ((soundE a g _ h.1 T W kn X C).2.1 h.2), fun z => by cases z⟩
    · cases h
  | .and a b, g, c, h => by
    simp only [chkE] at h
    unfold qBo at h; split at h
    · rename_i o x y rest p
      simp only [Bool.and_eq_true, Bool.not_eq_true', decide_eq_true_eq] at h
      obtain ⟨⟨⟨h0, h1⟩, h2⟩, h3⟩ := h
      subst h0
      intro T W kn X C
      obtain ⟨a1, a2, _⟩ := soundE a g _ h1 T W kn X C
      have key : PE X (.BoolOp .And (y :: rest) p) (rdE T W (evE kn b)) ∧ PW X (.BoolOp .And (y :: rest) p) (rdT T W (evE kn b)) := by
        cases rest with
        | nil =>
          simp only [Bool.and_eq_true, Bool.not_eq_true'] at h3
          obtain ⟨b1, b2, _⟩ := soundE b g _ h3.1 T W kn X C
          exact ⟨pe_one b1, pw_and1 (b2 h3.2)⟩
        | cons z zs =>
          simp only [Bool.and_eq_true] at h3
          obtain ⟨b1, _, b3⟩ := soundE b g _ h3.2 T W kn X C
          exact ⟨b1, b3 rfl⟩
      exact ⟨sE_and1 a1 key.1, fun _ => (sW_and1 (a2 h2) key.2).pt, fun _ => sW_and1 (a2 h2) key.2⟩
    · cases h
  | .or a b, g, c, h => by
    simp only [chkE] at h
    unfold qBo at h; split at h
    · rename_i o x y rest p
      simp only [Bool.and_eq_true, Bool.not_eq_true', decide_eq_true_eq] at h
      obtain ⟨⟨⟨h0, h1⟩, h2⟩, h3⟩ := h
      subst h0
      intro T W kn X C
      obtain ⟨a1, a2, _⟩ := soundE a g _ h1 T W kn X C
      have key : PE X (.BoolOp .Or (y :: rest) p) (rdE T W (evE kn b)) ∧ PW X (.BoolOp .Or (y :: rest) p) (rdT T W (evE kn b)) := by
        cases rest with
        | nil =>
          simp only [Bool.and_eq_true, Bool.not_eq_true'] at h3
          obtain ⟨b1, b2, _⟩ := soundE b g _ h3.1 T W kn X C
          exact ⟨pe_one b1, pw_or1 (b2 h3.2)⟩
        | cons z zs =>
          simp only [Bool.and_eq_true] at h3
          obtain ⟨b1, _, b3⟩ := soundE b g _ h3.2 T W kn X C
          exact ⟨b1, b3 rfl⟩
      exact ⟨sE_or1 a1 key.1, fun _ => (sW_or1 (a2 h2) key.2).pt, fun _ => sW_or1 (a2 h2) key.2⟩
    · cases h
  | .cmp op a b, g, c, h => by
    simp only [chkE] at h
    unfold qCmp at h; split at h
    · simp only [Bool.and_eq_true, Bool.not_eq_true'] at h
      obtain ⟨⟨⟨h1, h2⟩, h3⟩, h4⟩ := h
      exact fun T W kn X C => ⟨sE_cmp (op_coM C h1) (noMark h4) (soundE a g _ h2 T W kn X C).1 (soundE b g _ h3 T W kn X C).1, fun _ => sT_cmp (op_coM C h1) (noMark h4) (soundE a g _ h2 T W kn X C).1 (soundE b g _ h3 T W kn X C).1, fun z => by cases z⟩
    · cases h
  | .chn op op' a b d, g, c, h => by
    simp only [chkE] at h
    unfold qChn at h; split at h
    · simp only [Bool.and_eq_true, Bool.not_eq_true'] at h
      obtain ⟨⟨⟨⟨⟨h1, h2⟩, h3⟩, h4⟩, h5⟩, h6⟩ := h
      exact fun T W kn X C => ⟨sE_chn (op_coM C h1) (op_coM C h2) (noMark h6) (soundE a g _ h3 T W kn X C).1 (soundE b g _ h4 T W kn X C).1 (soundE d g _ h5 T W kn X C).1,
        fun _ => sT_chn (op_coM C h1) (op_coM C h2) (noMark h6) (soundE a g _ h3 T W kn X C).1 (soundE b g _ h4 T W kn X C).1 (soundE d g _ h5 T W kn X C).1, fun z => by cases z⟩
    · cases h
  | .ite t a b, g, c, h => by
    simp only [chkE] at h
    unfold qIte at h; split at h
    · simp only [Bool.and_eq_true, Bool.not_eq_true'] at h
      obtain ⟨⟨⟨h1, h2⟩, h3⟩, h4⟩ := h
      exact fun T W kn X C => ⟨sE_ite ((soundE t g _ h1 T W kn X C).2.1 h2) (soundE a g _ h3 T W kn X C).1 (soundE b g _ h4 T W kn X C).1, fun z => (by cases z), fun z => (by cases z)⟩
    · cases h
  | .idx a b, g, c, h => by
    simp only [chkE] at h
    unfold qIdx at h; split at h
    · simp only [Bool.and_eq_true, Bool.not_eq_true'] at h
      exact .val (fun T W kn X C => sE_idx (ix_W C.K) (plainIx h.2) (soundE a g _ h.1.1 T W kn X C).1 (soundE b g _ h.1.2 T W kn X C).1) (fun _ _ => rfl) rfl
    · cases h
  | .slc a lo hi, g, c, h => by
    simp only [chkE] at h
    unfold qSlc at h; split at h
    · simp only [Bool.and_eq_true] at h
      exact .val (fun T W kn X C => sE_slc (sl_W C.K) (soundE a g _ h.1.1 T W kn X C).1 (soundOe lo g _ h.1.2 T W kn X C) (soundOe hi g _ h.2 T W kn X C)) (fun _ _ => rfl) rfl
    · cases h
  | .call f es, g, c, h => by
    simp only [chkE] at h
    unfold qCall at h; split at h
    · simp only [Bool.and_eq_true, decide_eq_true_eq] at h
      obtain ⟨⟨h1, h2⟩, h3⟩ := h
      refine .val (fun T W kn X C => ?_) (fun _ _ => rfl) rfl
      obtain ⟨g1, g2⟩ := glOk_ok C h2
      obtain ⟨k, fd, ps, hm, hk, hb, hr, F⟩ := C.fns _ _ _ h1
      obtain ⟨s1, s2⟩ := chkEs_stars h3
      exact sE_call F hr g1 hm hk hb C.tk rfl s2 s1 (soundEs es g _ h3 T W kn X C) g2
    · cases h
  | .blt f m es, g, c, h => by
    simp only [chkE] at h
    unfold qBlt at h; split at h
    · simp only [Bool.and_eq_true, decide_eq_true_eq] at h
      obtain ⟨⟨h1, h2⟩, h3⟩ := h
      subst h1
      refine .val (fun T W kn X C => ?_) (fun _ _ => rfl) rfl
      obtain ⟨g1, g2⟩ := glOk_ok C h2
      obtain ⟨s1, s2⟩ := chkEs_stars h3
      simp only [noStars, Bool.and_eq_true, Bool.not_eq_true'] at s1
      exact sE_blt (call_bltW C.K C.calm C.un f m) g1 (C.bn _ (by cases f <;> decide +kernel)) s1.1 s1.2 (soundEs es g _ h3 T W kn X C)
    · cases h
  | .isi t a, g, c, h => by
    simp only [chkE] at h
    unfold qIsi at h; split at h
    · simp only [Bool.and_eq_true, decide_eq_true_eq, Bool.not_eq_true'] at h
      obtain ⟨⟨⟨⟨⟨h1, h2⟩, h3⟩, h4⟩, h5⟩, h6⟩ := h
      subst h1 h3
      refine .val (fun T W kn X C => ?_) (fun _ _ => rfl) rfl
      exact sE_isi C.K (glOk_ok C h2).1 (C.bn _ (by decide +kernel)) (glOk_ok C h4).1 (C.bn _ (by cases t <;> decide +kernel)) h6 (soundE a g _ h5 T W kn X C).1
    · cases h
  | .mth f a es, g, c, h => by
    simp only [chkE] at h
    unfold qMth at h; split at h
    · simp only [Bool.and_eq_true, decide_eq_true_eq, Bool.not_eq_true'] at h
      obtain ⟨⟨⟨⟨⟨h1, h2⟩, h3⟩, h4⟩, h5⟩, h6⟩ := h
      subst h1
      refine .val (fun T W kn X C => ?_) (fun _ _ => rfl) rfl
      obtain ⟨s1, s2⟩ := chkEs_stars h5
      simp only [noStars, Bool.and_eq_true, Bool.not_eq_true'] at s1
      exact sE_mth C.K (mt_W C.K C.un f) (soundE a g _ h3 T W kn X C).1 h4 s1.1 s1.2 (by simp at s2; omega) h2 (soundEs es g _ h5 T W kn X C)
    · cases h
  | .lc m own tg it d e, g, c, h => by
    simp only [chkE] at h
    unfold qLc at h; split at h
    · simp only [Bool.and_eq_true, Bool.not_eq_true'] at h
      obtain ⟨⟨⟨⟨⟨⟨h1, h2⟩, h3⟩, h4⟩, h5⟩, h6⟩, h7⟩ := h
      refine .val (fun T W kn X C => ?_) (fun _ _ => rfl) rfl
      have ok : BlkOk X.N X.env.scope _ (ownOf g.N own) := blkOk_by (by rw [C.hN, C.sc]; exact h2)
      have cb := fun gh s H A cl fp => C.blk ok gh s H A cl fp
      have go := sE_lc (T := T) (W := W) (kn := kn) (pos := ‹Pos›) (m := m) (e := e) (tg := tg) (it := it) (c := d) C.calm C.nd (soundIt it g _ _ h1 T W kn X C) ok (by rw [ownOf_snd]; exact subB_ok h3)
        (fun gh s H A cl fp => have Y := cb gh s H A cl fp; sG Y.hN Y.nd Y.sc Y.fn Y.calm Y.K h4) (fun gh s H A cl fp => soundOc d _ _ h5 _ _ kn _ (cb gh s H A cl fp)) (fun gh s H A cl fp => (soundE e _ _ h6 _ _ kn _ (cb gh s H A cl fp)).1) (noFold h7)
      rw [ownOf_snd] at go
      exact go
    · cases h
  | .lc2 m own own1 tg it tg1 it1 e, g, c, h => by
    simp only [chkE] at h
    unfold qLc2 at h; split at h
    · simp only [Bool.and_eq_true, Bool.not_eq_true'] at h
      obtain ⟨⟨⟨⟨⟨⟨⟨⟨⟨⟨h1, h2⟩, h3⟩, h4⟩, h5⟩, h6⟩, h7⟩, h8⟩, h9⟩, hA⟩, hB⟩ := h
      refine .val (fun T W kn X C => ?_) (fun _ _ => rfl) rfl
      have ok : BlkOk X.N X.env.scope _ (ownOf g.N own) := blkOk_by (by rw [C.hN, C.sc]; exact h2)
      have cb := fun gh s H A cl fp => C.blk ok gh s H A cl fp
      have go := sE_lc2 (T := T) (W := W) (kn := kn) (pos := ‹Pos›) (m := m) (e := e) (tg := tg) (it := it) (tg1 := tg1) (it1 := it1) (own1 := own1) C.calm C.nd (soundIt it g _ _ h1 T W kn X C) ok (by rw [ownOf_snd]; exact subB_ok h3) (subB_ok h5) (by rw [ownOf_snd]; exact subB_ok h4)
        (fun gh s H A cl fp => have Y := cb gh s H A cl fp; sG Y.hN Y.nd Y.sc Y.fn Y.calm Y.K h6) (fun gh s H A cl fp => soundIt it1 _ _ _ h8 _ _ kn _ (cb gh s H A cl fp)) (fun gh s H A cl fp => have Y := cb gh s H A cl fp; sG Y.hN Y.nd Y.sc Y.fn Y.calm Y.K h7)
        (fun gh s H A cl fp => (soundE e _ _ h9 _ _ kn _ (cb gh s H A cl fp)).1) (noFold hA) (fun env => noFold hB)
      rw [ownOf_snd] at go
      exact go
    · cases h
theorem soundEs : ∀ (es : Es) (g : G) (cs : List Expr), chkEs es g cs = true → OEs g es cs
  | .nil, g, [], h => fun T W kn X C => sA_nil
  | .nil, g, _ :: _, h => by simp [chkEs] at h
  | .cons e es, g, [], h => by simp [chkEs] at h
  | .cons e es, g, x :: xs, h => by
    simp only [chkEs, Bool.and_eq_true, Bool.not_eq_true'] at h
    exact fun T W kn X C => sA_cons h.1.2 (soundE e g x h.1.1 T W kn X C).1 (soundEs es g xs h.2 T W kn X C)
theorem soundFs : ∀ (es : Es) (g : G) (cs : List Expr), chkFs es g cs = true → OFs g es cs
  | .nil, g, [], h => fun T W kn X C => fs_nil
  | .nil, g, _ :: _, h => by simp [chkFs] at h
  | .cons e es, g, [], h => by simp [chkFs] at h
  | .cons e es, g, x :: xs, h => by
    simp only [chkFs, Bool.and_eq_true] at h
    obtain ⟨h1, h2⟩ := h
    intro T W kn X C
    have ih := soundFs es g xs h2 T W kn X C
    have he := soundE e g
    unfold qPart at h1
    split at h1
    · rename_i z k p
      split at h1
      · rename_i y hy
        simp only [Bool.and_eq_true, decide_eq_true_eq] at h1
        obtain ⟨rfl, _⟩ := h1
        have ee : e = .str y := by
          cases e <;> simp only [strOfE] at hy <;> first | (cases hy; done) | skip
          cases hy; rfl
        subst ee
        exact fs_str ih
      · cases h1
    · simp only [Bool.and_eq_true, decide_eq_true_eq] at h1
      obtain ⟨rfl, h1⟩ := h1
      exact fs_val (he _ h1 T W kn X C).1 ih
    · cases h1
theorem soundEsT : ∀ (es : Es) (g : G) (cs : List Expr), chkEs es g cs = true → ∀ (tl : List Expr) (s : Oe) (T : Tx) (W : WX) (kn : Kn) (X : Cx), Cxt g T W kn X → PA X tl (rdA T W (evSt kn s)) → PA X (cs ++ tl) (rdA T W (evArgs kn es s))
  | .nil, g, [], h => fun tl s T W kn X C ht => sA_end ht
  | .nil, g, _ :: _, h => by simp [chkEs] at h
  | .cons e es, g, [], h => by simp [chkEs] at h
  | .cons e es, g, x :: xs, h => by
    simp only [chkEs, Bool.and_eq_true, Bool.not_eq_true'] at h
    exact fun tl s T W kn X C ht => sA_app h.1.2 (soundE e g x h.1.1 T W kn X C).1 (soundEsT es g xs h.2 tl s T W kn X C ht)
theorem soundSt : ∀ (s : Oe) (g : G) (cs : List Expr), chkSt s g cs = true → ∀ (T : Tx) (W : WX) (kn : Kn) (X : Cx), Cxt g T W kn X → PA X cs (rdA T W (evSt kn s)) ∧ (cs = [] ∨ ∃ z p, cs = [.Starred z p])
  | .none, g, [], h => fun T W kn X C => ⟨PA.weak pa_nil fun σ H Q ⟨μ, ρ, st, R, re, A⟩ => by simp only [evSt] at A; exact A.ok R .nil, .inl rfl⟩
  | .none, g, _ :: _, h => by simp [chkSt] at h
  | .some e, g, cs, h => by
    simp only [chkSt] at h
    split at h
    · exact fun T W kn X C => ⟨sA_star C.K (soundE e g _ h T W kn X C).1, .inr ⟨_, _, rfl⟩⟩
    · cases h
theorem soundOe : ∀ (e : Oe) (g : G) (c : Option Expr), chkOe e g c = true → OOe g e c
  | .none, g, none, h => fun T W kn X C => sO_none
  | .none, g, some _, h => by simp [chkOe] at h
  | .some e, g, none, h => by simp [chkOe] at h
  | .some e, g, some x, h => by
    simp only [chkOe] at h
    exact fun T W kn X C => sO_some (soundE e g x h T W kn X C).1
theorem soundOc : ∀ (e : Oe) (g : G) (c : List Expr), chkOc e g c = true → OOc g e c
  | .none, g, [], h => fun T W kn X C => PTs.weak pts_nil fun σ H Q ⟨μ, ρ, st, R, re, A⟩ => by
    rw [evOc_none] at A
    exact A μ H true (Ext.refl R) R rfl
  | .none, g, _ :: _, h => by simp [chkOc] at h
  | .some e, g, [], h => by simp [chkOc] at h
  | .some e, g, [x], h => by
    simp only [chkOc, Bool.and_eq_true, Bool.not_eq_true'] at h
    intro T W kn X C
    have := pts_one ((soundE e g x h.1 T W kn X C).2.1 h.2)
    refine PTs.weak this fun σ H Q ⟨μ, ρ, st, R, re, A⟩ => ⟨μ, ρ, st, R, re, ?_⟩
    simp only [evOc] at A; exact A
  | .some e, g, _ :: _ :: _, h => by simp [chkOc] at h
theorem soundIt : ∀ (it : It) (g : G) (t c : Expr), chkIt it g t c = true → OIt g it t c
  | .of a, g, t, c, h => by
    simp only [chkIt, Bool.and_eq_true] at h
    exact fun T W kn X C => sI_of C.K (soundE a g c h.1 T W kn X C).1
  | .rng1 a, g, t, c, h => by
    simp only [chkIt] at h
    unfold qRng1 at h; split at h
    · simp only [Bool.and_eq_true, decide_eq_true_eq, Bool.not_eq_true'] at h
      obtain ⟨⟨⟨h1, h2⟩, h3⟩, h4⟩ := h
      subst h1
      exact fun T W kn X C => sI_rng1 (glOk_ok C h2).1 (C.bn _ (by decide +kernel)) h4 (soundE a g _ h3 T W kn X C).1
    · cases h
  | .rng2 a b, g, t, c, h => by
    simp only [chkIt] at h
    unfold qRng2 at h; split at h
    · simp only [Bool.and_eq_true, decide_eq_true_eq, Bool.not_eq_true'] at h
      obtain ⟨⟨⟨⟨⟨h1, h2⟩, h3⟩, h4⟩, h5⟩, h6⟩ := h
      subst h1
      exact fun T W kn X C => sI_rng2 (glOk_ok C h2).1 (C.bn _ (by decide +kernel)) h4 h6 (soundE a g _ h3 T W kn X C).1 (soundE b g _ h5 T W kn X C).1
    · cases h
  | .zip a b, g, t, c, h => by
    simp only [chkIt, Bool.and_eq_true] at h
    obtain ⟨xs, k, p, rfl⟩ := isTup_ok h.1
    have h := h.2
    unfold qZip at h; split at h
    · simp only [Bool.and_eq_true, decide_eq_true_eq, Bool.not_eq_true'] at h
      obtain ⟨⟨⟨⟨⟨h1, h2⟩, h3⟩, h4⟩, h5⟩, h6⟩ := h
      subst h1
      exact fun T W kn X C => sI_zip C.K (glOk_ok C h2).1 (C.bn _ (by decide +kernel)) h4 h6 (soundE a g _ h3 T W kn X C).1 (soundE b g _ h5 T W kn X C).1
    · cases h
  | .enum a, g, t, c, h => by
    simp only [chkIt, Bool.and_eq_true] at h
    obtain ⟨xs, k, p, rfl⟩ := isTup_ok h.1
    have h := h.2
    unfold qEnum at h; split at h
    · simp only [Bool.and_eq_true, decide_eq_true_eq, Bool.not_eq_true'] at h
      obtain ⟨⟨⟨h1, h2⟩, h3⟩, h4⟩ := h
      subst h1
      exact fun T W kn X C => sI_enum C.K (glOk_ok C h2).1 (C.bn _ (by decide +kernel)) h4 (soundE a g _ h3 T W kn X C).1
    · cases h
end
end AF

/-! Stm: statements. -/
namespace AF
open PySem PySem.Spec PyProof.Rows L2

def AftF (T : Tx) (En : Ends) (fl : Fl) (μ' : List Addr) (H' : Hp) (σ' : L2.St) : Prop := match fl with
  | .next => En.nx σ' H'
  | .brk => En.bk σ' H'
  | .cont => En.ct σ' H'
  | .ret d => ∀ v, Rep T μ' H' d v → En.rt v H'
def AftS (T : Tx) (W : WX) (En : Ends) (r : SR) (μ : List Addr) (H : Hp) : Prop := match r with
  | .ok fl ρ' st' => ∀ μ' H' σ', Ext μ H μ' H' → Rel T μ' st' H' → REnv T μ' H' ρ' σ' → AftF T En fl μ' H' σ'
  | .exc x ρ' st' => ∀ μ' H' σ' cls dx, Ext μ H μ' H' → Rel T μ' st' H' → REnv T μ' H' ρ' σ' → ExRel T μ' H' x cls dx → W cls dx σ' H'
  | .bad => False
def rdS (T : Tx) (W : WX) (ev : Env → Store → SR) : TS := fun En σ H => ∃ μ ρ st, Rel T μ st H ∧ REnv T μ H ρ σ ∧ AftS T W En (ev ρ st) μ H
section
variable {T : Tx} {W : WX} {En : Ends} {σ : L2.St} {μ μ' : List Addr} {H H' : Hp} {st : Store} {ρ : Env}
theorem AftS.shift {r : SR} (h : AftS T W En r μ H) (x : Ext μ H μ' H') : AftS T W En r μ' H' := by
  cases r with
  | ok fl ρ' st' => exact fun μ2 H2 σ2 e R P => h μ2 H2 σ2 (x.trans e) R P
  | exc y ρ' st' => exact fun μ2 H2 σ2 c d e R P => h μ2 H2 σ2 c d (x.trans e) R P
  | bad => exact h
theorem AftS.lift {r : R D} {k : D → Store → SR} (h : AftS T W En (lift r ρ k) μ H) (re : REnv T μ H ρ σ) :
    Aft T W σ (RepT T) r μ H fun v H1 => ∃ μ1 d st1, r = .ok d st1 ∧ Ext μ H μ1 H1 ∧ Rel T μ1 st1 H1 ∧ Rep T μ1 H1 d v ∧ AftS T W En (k d st1) μ1 H1 := by
  cases r with
  | ok d s1 => exact fun μ2 H2 v e R P => ⟨μ2, d, s1, rfl, e, R, P, AftS.shift h e⟩
  | exc y s1 => exact fun μ2 H2 c d e R P => h μ2 H2 σ c d e R (re.mono e) P
  | bad => exact h
theorem AftS.test {r : R D} {f g : Store → SR} (h : AftS T W En (AF.lift r ρ fun x st => match x with | .bl true => f st | .bl false => g st | _ => .bad) μ H) (re : REnv T μ H ρ σ) :
    Aft T W σ REq (asB r) μ H fun b H1 => ∃ μ1 st1, Ext μ H μ1 H1 ∧ Rel T μ1 st1 H1 ∧ AftS T W En (if b = true then f st1 else g st1) μ1 H1 := by
  cases r with
  | ok d s1 =>
    cases d with
    | bl b =>
      cases b with
      | true => exact fun μ2 H2 v e R P => by subst P; exact ⟨μ2, s1, e, R, AftS.shift h e⟩
      | false => exact fun μ2 H2 v e R P => by subst P; exact ⟨μ2, s1, e, R, AftS.shift h e⟩
    | _ => exact h.elim
  | exc y s1 => exact fun μ2 H2 c d e R P => h μ2 H2 σ c d e R (re.mono e) P
  | bad => exact h
theorem AftS.ok {fl : Fl} (h : AftS T W En (.ok fl ρ st) μ H) (R : Rel T μ st H) (re : REnv T μ H ρ σ) : AftF T En fl μ H σ := h μ H σ (Ext.refl R) R re
end

/-- what statements ask besides: own exception classes, loops pass what leaves -/
structure SCx (g : G) (T : Tx) (X : Cx) : Prop where
  po : PassesOwn (model X.prog X.w) X.A X.env X.xe
  exc : ∀ (c : Nat) (x : Str), g.excs[c]? = some x → ∃ B newId initId bmB, ExcBaseFacts B newId initId bmB ∧ PySem.W.excIn X.K (T.ca c) bmB newId = true ∧ X.mg x = some (.ref (T.ca c)) ∧ PySem.W.keepIn X.K (.ref (T.ca c)) = true ∧ Raises X (.ref (T.ca c))
  stk : X.stack = X.env :: X.outer
  fr : X.env.frame = some X.env.locals
  exm : ∀ (c C : Nat) (x y : Str), g.excs[c]? = some x → g.excs[C]? = some y → C ∈ g.ask → PySem.W.exmOne X.K (.ref (T.ca c)) (.ref (T.ca C)) = some (subOf g.par c C) ∧ PySem.W.kitOne X.K (.ref (T.ca c)) (.ref (T.ca C)) = some (subOf g.par c C) ∧ ExcC X.K (T.ca c)
theorem swapsLc {elt : Expr} {gs : List Comprehension} {scope : Scope} {pos tp : Pos} {t : Str} {l : Nat} {env : PySem.Env} (hk : env.scope.kind = .function) :
    swapsWith (.ListComp elt gs scope pos) (some (.Name t tp)) l env = pure (swLc env.scope t tp scope pos) := by
  have hb : env.blockKind = .function := by unfold PySem.Env.blockKind; rw [hk]; rfl
  unfold swapsWith swLc PySem.Env.kindOf
  simp only [hb]
  rfl
theorem noComp_sw {v : Expr} {t : Option Expr} {l : Nat} {env : PySem.Env} (h : isComp v = false) : swapsWith v t l env = pure false := by
  cases v <;> first | rfl | (simp [isComp] at h)
theorem swapped_tup {ts vs : List Expr} {k k2 : Nat} {p p2 : Pos} {env : PySem.Env} (hk : env.scope.kind = .function) (hb : swapBad vs = false) :
    swappedStores [.Tuple ts k p] (.Tuple vs k2 p2) env = pure (swapP env.scope ts vs) := by
  have hb' : env.blockKind = .function := by unfold PySem.Env.blockKind; rw [hk]; rfl
  unfold swappedStores swapP PySem.Env.kindOf
  simp only [hb']
  unfold swapBad at hb
  by_cases h1 : (!(ts.length == 2 || ts.length == 3) || vs.length != ts.length) = true
  · have h1' : (!(ts.length == 2 || ts.length == 3) || vs.length != ts.length || ScopeKind.function != ScopeKind.function) = true := by rw [h1]; rfl
    rw [if_pos h1, if_pos h1']
  have h1' : ¬ (!(ts.length == 2 || ts.length == 3) || vs.length != ts.length || ScopeKind.function != ScopeKind.function) = true := by
    simp only [Bool.not_eq_true] at h1; rw [h1]; decide
  rw [if_neg h1, if_neg h1']
  split
  · rename_i h2; exact congrArg pure (if_pos h2).symm
  · rename_i h2; refine Eq.trans ?_ (congrArg pure (if_neg h2).symm)
    split
    · rename_i h3; exact congrArg pure (if_pos h3).symm
    · rename_i h3; refine Eq.trans ?_ (congrArg pure (if_neg h3).symm)
      split
      · rfl
      · rename_i h4
        split
        · rename_i h5
          rw [h5] at hb
          simp only [Bool.true_and, Bool.not_eq_false'] at hb
          exact absurd hb h4
        · rfl
section
variable {X : Cx} {T : Tx} {W : WX} {kn : Kn} {En : Ends} {σ : L2.St} {H : Hp} {pos : Pos} {x y z v : Expr} {a b c e : E} {i j k : Nat}
/-- a value goes to a name's slot -/
theorem asgN_weak {te : TE} (hk : ∀ σ H Q, rdE T W (evE kn e) σ H Q → te σ H Q) (h : rdS T W (evS kn (.asg (.name i) e)) En σ H) : tAsg te (gName i) En σ H := by
  obtain ⟨μ, ρ, st, R, re, A⟩ := h
  simp only [evS] at A
  refine hk σ H _ ⟨μ, ρ, st, R, re, (A.lift re).mono fun v H1 ⟨μ1, d, st1, _, x1, R1, P1, A1⟩ => ?_⟩
  simp only [asg] at A1
  split at A1
  · rename_i ρ' e1
    split at e1
    · rename_i hl
      cases e1
      exact A1.ok R1 ((re.mono x1).set P1 hl)
    · cases e1
  · exact A1.elim
theorem asgT_weak {ts : List Tg} (h : rdS T W (evS kn (.asg (.tup ts) e)) En σ H) : tAsg (rdE T W (evE kn e)) (rdG T (.tup ts)) En σ H := by
  obtain ⟨μ, ρ, st, R, re, A⟩ := h
  simp only [evS] at A
  refine ⟨μ, ρ, st, R, re, (A.lift re).mono fun v H1 ⟨μ1, d, st1, _, x1, R1, P1, A1⟩ => ?_⟩
  split at A1
  · rename_i ρ' e1
    exact ⟨μ1, st1, ρ, d, ρ', R1, P1, re.mono x1, e1, fun σ' re' _ => A1.ok R1 re'⟩
  · exact A1.elim
theorem AftS.liftA {es : Es} {μ : List Addr} {ρ : Env} {st : Store} {k : AF.D → Store → SR} (h : AftS T W En (AF.lift (evE kn (.tup es) ρ st) ρ k) μ H) (re : REnv T μ H ρ σ) :
    Aft T W σ (RepsT T) (evEs kn es ρ st) μ H fun vs H1 => ∃ μ1 ds st1, evEs kn es ρ st = .ok ds st1 ∧ Ext μ H μ1 H1 ∧ Rel T μ1 st1 H1 ∧ Reps T μ1 H1 ds vs ∧ AftS T W En (k (.tup ds) st1) μ1 H1 := by
  simp only [evE] at h
  cases e : evEs kn es ρ st with
  | ok ds s1 => rw [e] at h; exact fun μ2 H2 v x R P => ⟨μ2, ds, s1, rfl, x, R, P, AftS.shift h x⟩
  | exc y s1 => rw [e] at h; exact fun μ2 H2 c d x R P => h μ2 H2 σ c d x R (re.mono x) P
  | bad => rw [e] at h; exact h
theorem REnv.set2 {μ : List Addr} {ρ ρ' : Env} {ts : List Tg} {ds : List AF.D} {u w : V} (re : REnv T μ H ρ σ) (r : Reps T μ H ds [u, w]) (e : asg (.tup [.name i, .name j]) (.tup ds) ρ = some ρ') : REnv T μ H ρ' ((σ.set i (some u)).set j (some w)) := by
  cases r with
  | cons r1 r =>
    cases r with
    | cons r2 r =>
      cases r
      simp only [asg, asgs] at e
      split at e
      · rename_i ρ1 e1
        split at e1
        · rename_i h1
          cases e1
          split at e
          · rename_i ρ2 e2
            split at e2
            · rename_i h2
              cases e2; cases e
              exact (re.set r1 h1).set r2 h2
            · cases e2
          · cases e
        · cases e1
      · cases e
theorem REnv.set3 {μ : List Addr} {ρ ρ' : Env} {ds : List AF.D} {u w q : V} (re : REnv T μ H ρ σ) (r : Reps T μ H ds [u, w, q]) (e : asg (.tup [.name i, .name j, .name k]) (.tup ds) ρ = some ρ') : REnv T μ H ρ' (((σ.set i (some u)).set j (some w)).set k (some q)) := by
  cases r with
  | cons r1 r =>
    cases r with
    | cons r2 r =>
      cases r with
      | cons r3 r =>
        cases r
        simp only [asg, asgs] at e
        split at e
        · rename_i ρ1 e1
          split at e1
          · rename_i h1
            cases e1
            split at e
            · rename_i ρ2 e2
              split at e2
              · rename_i h2
                cases e2
                split at e
                · rename_i ρ3 e3
                  split at e3
                  · rename_i h3
                    cases e3; cases e
                    exact ((re.set r1 h1).set r2 h2).set r3 h3
                  · cases e3
                · cases e
              · cases e2
            · cases e
          · cases e1
        · cases e
theorem par2_weak {es : Es} (hn : es.len = 2) (h : rdS T W (evS kn (.asg (.tup [.name i, .name j]) (.tup es))) En σ H) : tPar i j (rdA T W (evEs kn es)) En σ H := by
  obtain ⟨μ, ρ, st, R, re, A⟩ := h
  simp only [evS] at A
  refine ⟨μ, ρ, st, R, re, (A.liftA re).mono fun vs H1 ⟨μ1, ds, st1, e, x1, R1, P1, A1⟩ => ?_⟩
  have hl := P1.length
  rw [evEs_len e, hn] at hl
  obtain ⟨u, w, rfl⟩ : ∃ u w, vs = [u, w] := by
    match vs, hl with
    | [u, w], _ => exact ⟨u, w, rfl⟩
  refine ⟨u, w, rfl, ?_⟩
  split at A1
  · rename_i ρ' e1
    exact A1.ok R1 ((re.mono x1).set2 (ts := []) P1 e1)
  · exact A1.elim
/-- three names at once, stored from the right -/
def tPar3 (i j k : Nat) (ta : TA) : TS := fun D σ H => ta σ H fun vs H1 => ∃ v w q, vs = [v, w, q] ∧ D.nx (((σ.set i (some v)).set j (some w)).set k (some q)) H1
theorem par3_weak {es : Es} (hn : es.len = 3) (h : rdS T W (evS kn (.asg (.tup [.name i, .name j, .name k]) (.tup es))) En σ H) : tPar3 i j k (rdA T W (evEs kn es)) En σ H := by
  obtain ⟨μ, ρ, st, R, re, A⟩ := h
  simp only [evS] at A
  refine ⟨μ, ρ, st, R, re, (A.liftA re).mono fun vs H1 ⟨μ1, ds, st1, e, x1, R1, P1, A1⟩ => ?_⟩
  have hl := P1.length
  rw [evEs_len e, hn] at hl
  obtain ⟨u, w, q, rfl⟩ : ∃ u w q, vs = [u, w, q] := by
    match vs, hl with
    | [u, w, q], _ => exact ⟨u, w, q, rfl⟩
  refine ⟨u, w, q, rfl, ?_⟩
  split at A1
  · rename_i ρ' e1
    exact A1.ok R1 ((re.mono x1).set3 P1 e1)
  · exact A1.elim
theorem ps_par3 {nx ny nz : Str} {es : List Expr} {ta : TA} {px py pz pt : Pos} {kt k2 pt2} (hc : X.calm = true) (hN : X.N.Nodup) (hi : X.N[i]? = some nx) (hj : X.N[j]? = some ny) (hk : X.N[k]? = some nz) (hij : i ≠ j) (hik : i ≠ k) (hjk : j ≠ k)
    (hx : X.env.scope.names.lookup nx = some .local) (hy : X.env.scope.names.lookup ny = some .local) (hz : X.env.scope.names.lookup nz = some .local) (ha : PA X es ta)
    (hw : swappedStores [.Tuple [.Name nx px, .Name ny py, .Name nz pz] kt pt] (.Tuple es k2 pt2) X.env = pure (some [nx, ny, nz]))
    (hs : swapsWithSole [.Tuple [.Name nx px, .Name ny py, .Name nz pz] kt pt] (.Tuple es k2 pt2) pos.line X.env = pure false := by rfl) :
    PS X (.Assign [.Tuple [.Name nx px, .Name ny py, .Name nz pz] kt pt] (.Tuple es k2 pt2) pos) (tPar3 i j k ta) := by
  refine ⟨fun pins s σ H D I h => ?_⟩
  rw [exec_Assign_arm]
  refine wpAny_bind (wpAny_standAt ?_)
  rw [hs]
  refine wpAny_bind (wpAny_pure ?_)
  rw [if_neg (by decide)]
  refine wpAny_bind (Tuple_ (thn (ha.run _ pins s σ H _ I h) fun us s1 ⟨vs, H1, I1, r1, q1⟩ => ?_))
  obtain ⟨v, w, q, e1, q1⟩ := q1
  subst e1
  obtain ⟨u1, u2, u3, rfl, rv, rw', rq⟩ : ∃ u1 u2 u3, us = [u1, u2, u3] ∧ RelV v u1 ∧ RelV w u2 ∧ RelV q u3 := by
    cases r1 with
    | cons p q =>
      cases q with
      | cons p' q' =>
        cases q' with
        | cons p'' q'' =>
          cases q''
          exact ⟨_, _, _, rfl, p, p', p''⟩
  refine wpAny_newObj_type ?_ (by show 3 ≤ sizeLine; decide)
  have I2 : Inv X pins σ H1 { s1 with heap := s1.heap.push { cls := .type "tuple", data := .seq [u1, u2, u3].toArray } } := I1.kept (t' := s1.toks) fun b o e => Heap.get?_push_of_some _ e
  rw [hw]
  refine wpAny_bind (wpAny_pure ?_)
  show wpAny (model X.prog X.w) X.A (do rule "assign.swapped-stores"; let items ← unpackItems (.ref s1.heap.objs.size) 3 none; assignInOrder [fun v => bindName X.env nz v, fun v => bindName X.env ny v, fun v => bindName X.env nx v] items.reverse; pure Flow.next) _ _ _
  refine wpAny_bind (wpAny_rule (wpAny_bind (unpackItems_tuple (items := #[u1, u2, u3]) (I.ok.hd hc) (IsTup.new s1.heap _) fun h' hx' => ?_)))
  have I3 := I2.kept (h' := h') (t' := s1.toks) fun b o e => hx' b o (Nat.ne_of_lt (Heap.lt_size e)) e
  show wpAny _ _ (assignInOrder [fun v => bindName X.env nz v, fun v => bindName X.env ny v, fun v => bindName X.env nx v] [u3, u2, u1] >>= fun _ => pure Flow.next) _ _ _
  refine wpAny_bind (assignInOrder_cons (wpAny_bindName (store_ok I3 hN hk (.inl hz) rq (fun s2 I4 => ?_) (.inr hz))))
  refine assignInOrder_cons (wpAny_bindName (store_ok I4 hN hj (.inl hy) rw' (fun s3 I5 => ?_) (.inr hy)))
  refine assignInOrder_cons (wpAny_bindName (store_ok I5 hN hi (.inl hx) rv (fun s4 I6 => assignInOrder_nil (wpAny_pure ?_)) (.inr hx)))
  have e : ((σ.set k (some q)).set j (some w)).set i (some v) = ((σ.set i (some v)).set j (some w)).set k (some q) := by
    rw [List.set_comm _ _ (Ne.symm hjk), List.set_comm _ _ (Ne.symm hik), List.set_comm _ _ (Ne.symm hij)]
  rw [e] at I6
  exact ⟨_, H1, I6, q1⟩
theorem setI_weak {s : Unit} (h : rdS T W (evS kn (.setI a b e)) En σ H) :
    tAsg (rdE T W (evE kn e)) (gSub (rdE T W (evE kn a)) (rdE T W (evE kn b)) (fun o i v H Q => ∃ μ st a b c, Rel T μ st H ∧ Rep T μ H a o ∧ Rep T μ H b i ∧ Rep T μ H c v ∧ AftV T (fun _ _ (_ : Unit) (_ : Unit) => True) (setI a b c st) μ H fun _ H' => Q H')) En σ H := by
  obtain ⟨μ, ρ, st, R, re, A⟩ := h
  simp only [evS] at A
  refine ⟨μ, ρ, st, R, re, (A.lift re).mono fun v H1 ⟨μ1, d, st1, _, x1, R1, P1, A1⟩ => ?_⟩
  have re1 := re.mono x1
  refine ⟨μ1, ρ, st1, R1, re1, (A1.lift re1).mono fun o H2 ⟨μ2, d2, st2, _, x2, R2, P2, A2⟩ => ?_⟩
  have re2 := re1.mono x2
  refine ⟨μ2, ρ, st2, R2, re2, (A2.lift re2).mono fun q H3 ⟨μ3, d3, st3, _, x3, R3, P3, A3⟩ => ?_⟩
  have re3 := re2.mono x3
  refine ⟨μ3, st3, d2, d3, d, R3, P2.mono x3, P3, (P1.mono x2).mono x3, ?_⟩
  cases e1 : setI d2 d3 d st3 with
  | ok u s4 => rw [e1] at A3; exact fun μ4 H4 _ x4 R4 _ => A3 μ4 H4 σ x4 R4 (re3.mono x4)
  | exc y s4 => exact absurd e1 (setI_ne y s4)
  | bad => rw [e1] at A3; exact A3.elim
theorem setF_weak {f c : Nat} {nm : Str} (hn : T.nm[f]? = some nm) (hcl : Cls X.K (T.cl c)) (hna : NoAttr X.K (T.cl c) nm) (h : rdS T W (evS kn (.setF c a f e)) En σ H) : sFld X.K (rdE T W (evE kn a)) (rdE T W (evE kn e)) nm En σ H := by
  obtain ⟨μ, ρ, st, R, re, A⟩ := h
  simp only [evS] at A
  refine ⟨μ, ρ, st, R, re, (A.lift re).mono fun v H1 ⟨μ1, d, st1, _, x1, R1, P1, A1⟩ => ?_⟩
  have re1 := re.mono x1
  refine ⟨μ1, ρ, st1, R1, re1, (A1.lift re1).mono fun o H2 ⟨μ2, d2, st2, _, x2, R2, P2, A2⟩ => ?_⟩
  have re2 := re1.mono x2
  cases d2 with
  | ref n =>
    unfold setFI at A2
    dsimp only at A2
    cases e0 : st2[n]? with
    | none => rw [e0] at A2; exact A2.elim
    | some ob =>
      rw [e0] at A2
      cases ob with
      | lst l => exact A2.elim
      | ins k fs =>
        dsimp only at A2
        by_cases hk : (k == c && decide (fs.length < 1000)) = true
        · rw [if_pos hk] at A2
          simp only [Bool.and_eq_true, beq_iff_eq, decide_eq_true_eq] at hk
          obtain ⟨rfl, hl⟩ := hk
          obtain ⟨n', b, dx, ws, e1, e2, rfl, hn', h1, h2, h3⟩ := R2.ins P2 (c := k) (fs := fs) (by unfold insAt; dsimp only; rw [e0])
          cases e1
          have P1' := P1.mono x2
          have xs3 := Ext.set (o := HO.ins (T.cl k) dx (putF nm v ws)) R2 hn' trivial
          have hdx : dx ≠ b := fun z => by rw [z] at h2; rw [h1] at h2; cases h2
          have R3 : Rel T μ2 (st2.set n (.ins k (putD f d fs))) (upd H2 b (.ins (T.cl k) dx (putF nm v ws))) := R2.set hn' trivial ⟨dx, putF nm v ws, upd_same, by rw [upd_ne hdx]; exact h2, (h3.put hn P1').mono xs3⟩
          exact ⟨b, T.cl k, dx, ws, rfl, h1, hcl, hna, by rw [h3.length]; exact hl, A2 μ2 _ σ xs3 R3 (re2.mono xs3)⟩
        · rw [if_neg hk] at A2
          exact A2.elim
  | _ => exact A2.elim
theorem expr_weak (h : rdS T W (evS kn (.expr e)) En σ H) : tDrop (rdE T W (evE kn e)) En σ H := by
  obtain ⟨μ, ρ, st, R, re, A⟩ := h
  simp only [evS] at A
  exact ⟨μ, ρ, st, R, re, (A.lift re).mono fun v H1 ⟨μ1, d, st1, _, x1, R1, P1, A1⟩ => A1.ok R1 (re.mono x1)⟩
theorem ret_weak (h : rdS T W (evS kn (.ret e)) En σ H) : tRet (rdE T W (evE kn e)) En σ H := by
  obtain ⟨μ, ρ, st, R, re, A⟩ := h
  simp only [evS] at A
  exact ⟨μ, ρ, st, R, re, (A.lift re).mono fun v H1 ⟨μ1, d, st1, _, x1, R1, P1, A1⟩ => A1.ok R1 (re.mono x1) v P1⟩
theorem ite_weak {p q : Ss} (h : rdS T W (evS kn (.ite c p q)) En σ H) : tIfS (rdT T W (evE kn c)) (rdS T W (evSs kn p)) (rdS T W (evSs kn q)) En σ H := by
  obtain ⟨μ, ρ, st, R, re, A⟩ := h
  simp only [evS] at A
  refine ⟨μ, ρ, st, R, re, (AftS.test (f := fun st => evSs kn p ρ st) (g := fun st => evSs kn q ρ st) A re).mono fun b H1 ⟨μ1, st1, x1, R1, A1⟩ => ?_⟩
  cases b with
  | true => exact ⟨μ1, ρ, st1, R1, re.mono x1, A1⟩
  | false => exact ⟨μ1, ρ, st1, R1, re.mono x1, A1⟩
/-- what a loop's body is to reach -/
theorem body_weak {μ : List Addr} {r : SR} {f : Env → Store → SR} {N : L2.St → Hp → Prop}
    (h : AftS T W En (match r with
      | .ok .next ρ2 st2 => f ρ2 st2
      | .ok .cont ρ2 st2 => f ρ2 st2
      | .ok .brk ρ2 st2 => .ok .next ρ2 st2
      | .ok (.ret d) ρ2 st2 => .ok (.ret d) ρ2 st2
      | .exc x ρ2 st2 => .exc x ρ2 st2
      | .bad => .bad) μ H) (hN : ∀ μ2 H2 σ2 ρ2 st2, Ext μ H μ2 H2 → Rel T μ2 st2 H2 → REnv T μ2 H2 ρ2 σ2 → AftS T W En (f ρ2 st2) μ2 H2 → N σ2 H2) : AftS T W { En with nx := N, ct := N, bk := En.nx } r μ H := by
  cases r with
  | ok fl ρ2 st2 =>
    cases fl with
    | next => exact fun μ' H' σ' x R re => hN μ' H' σ' ρ2 st2 x R re (AftS.shift h x)
    | cont => exact fun μ' H' σ' x R re => hN μ' H' σ' ρ2 st2 x R re (AftS.shift h x)
    | brk => exact fun μ' H' σ' x R re => h μ' H' σ' x R re
    | ret d => exact fun μ' H' σ' x R re => h μ' H' σ' x R re
  | exc y ρ2 st2 => exact h
  | bad => exact h
theorem whl_weak {p : Ss} (h : rdS T W (evS kn (.whl c p)) En σ H) : tWhile (rdT T W (evE kn c)) (rdS T W (evSs kn p)) En σ H := by
  obtain ⟨μ, ρ, st, R, re, A⟩ := h
  simp only [evS] at A
  refine ⟨fun m σ H => ∃ μ ρ st, Rel T μ st H ∧ REnv T μ H ρ σ ∧ AftS T W En (evWhile (evE kn c) (evSs kn p) m ρ st) μ H, ⟨kn.fuel, μ, ρ, st, R, re, A⟩, ?_⟩
  rintro m σ H ⟨μ, ρ, st, R, re, A⟩
  cases m with
  | zero => exact A.elim
  | succ m =>
    refine ⟨μ, ρ, st, R, re, ?_⟩
    unfold evWhile at A
    cases e : evE kn c ρ st with
    | ok d s1 =>
      rw [e] at A
      cases d with
      | bl b =>
        intro μ2 H2 b2 x2 R2 eb
        subst eb
        cases b with
        | true =>
          simp only [if_true] at A ⊢
          refine ⟨fun σ' H' => ∃ μ ρ st, Rel T μ st H' ∧ REnv T μ H' ρ σ' ∧ AftS T W En (evWhile (evE kn c) (evSs kn p) m ρ st) μ H', fun σ' H' h => ⟨m, Nat.lt_succ_self m, h⟩, μ2, ρ, s1, R2, re.mono x2, ?_⟩
          exact body_weak (f := evWhile (evE kn c) (evSs kn p) m) (A.shift x2) fun μ3 H3 σ3 ρ3 st3 x3 R3 re3 A3 => ⟨μ3, ρ3, st3, R3, re3, A3⟩
        | false => exact A μ2 H2 σ x2 R2 (re.mono x2)
      | _ => exact A.elim
    | exc y s1 => rw [e] at A; exact fun μ2 H2 cl dx x2 R2 P => A μ2 H2 σ cl dx x2 R2 (re.mono x2) P
    | bad => rw [e] at A; exact A.elim
theorem for_weak {tg : Tg} {it : It} {p : Ss} (h : rdS T W (evS kn (.for_ tg it p)) En σ H) : tFor (rdI T W (evIt kn it)) (rdG T tg) (rdS T W (evSs kn p)) En σ H := by
  obtain ⟨μ, ρ, st, R, re, A⟩ := h
  simp only [evS] at A
  refine ⟨μ, ρ, st, R, re, ?_⟩
  cases e : evIt kn it ρ st with
  | ok s s1 =>
    rw [e] at A
    intro μ1 H1 J x1 R1 src
    have A := AftS.shift A x1
    have re1 := re.mono x1
    refine ⟨fun i m σ H => m = s.its.length - i ∧ i ≤ s.its.length ∧ ∃ μ ρ st, Rel T μ st H ∧ REnv T μ H ρ σ ∧ Ext μ1 H1 μ H ∧ AftS T W En (evFor s.gs tg (evSs kn p) (s.its.drop i) ρ st) μ H,
      ⟨_, rfl, Nat.zero_le _, μ1, ρ, s1, R1, re1, Ext.refl R1, A⟩, ?_⟩
    rintro i m σ H ⟨rfl, hi, μ, ρ, st, R, re, x, A⟩
    have x' : Ext μ1 (hide T.gh H1) μ H := x.toHide fun a ha => (R1.gh a ha).1
    by_cases hlt : i < s.its.length
    · rw [List.drop_eq_getElem_cons hlt] at A
      unfold evFor at A
      split at A
      · rename_i gd
        obtain ⟨go, yl⟩ := (src T.gh μ st H (fun a ha => .inl ha) x' R gd i).1 hlt
        split at A
        · exact A.elim
        · rename_i ρ1 ea
          refine .inr ⟨go, fun σ' H' => ∃ μ ρ st, Rel T μ st H' ∧ REnv T μ H' ρ σ' ∧ Ext μ1 H1 μ H' ∧ AftS T W En (evFor s.gs tg (evSs kn p) (s.its.drop (i + 1)) ρ st) μ H', fun σ' H' h => ⟨_, by omega, rfl, hlt, h⟩, fun v H' yy => ?_⟩
          obtain ⟨d, hd, xa, Ra, rx, _⟩ := yl v H' yy
          rw [List.getElem?_eq_getElem hlt] at hd
          have hd := Option.some.inj hd
          subst hd
          have Ra : Rel T μ st H' := Ra
          have rx : Rep T μ H' _ v := rx
          refine ⟨μ, st, ρ, _, ρ1, Ra, rx, re.mono xa, ea, fun σ2 re2 ag => ⟨μ, ρ1, st, Ra, re2, ?_⟩⟩
          exact body_weak (f := evFor s.gs tg (evSs kn p) (s.its.drop (i + 1))) (A.shift xa) fun μ3 H3 σ3 ρ3 st3 x3 R3 re3 A3 => ⟨μ3, ρ3, st3, R3, re3, (x.trans xa).trans x3, A3⟩
      · exact A.elim
    · have e : i = s.its.length := by omega
      subst e
      rw [List.drop_length] at A
      unfold evFor at A
      split at A
      · rename_i gd
        exact .inl ⟨(src T.gh μ st H (fun a ha => .inl ha) x' R gd _).2 (Nat.le_refl _), A.ok R re⟩
      · exact A.elim
  | exc y s1 => rw [e] at A; exact fun μ2 H2 cl dx x2 R2 P => A μ2 H2 σ cl dx x2 R2 (re.mono x2) P
  | bad => rw [e] at A; exact A.elim
end
end AF

/-! Try: except clauses, with names and without, that give back a text. -/
namespace AF
open PySem PySem.Spec PyProof.Rows L2
/-- the ends behind a clause's name -/
def offS (i : Nat) (En : Ends) : Ends := { nx := fun τ G => En.nx (τ.set i none) G, rt := En.rt, bk := fun τ G => En.bk (τ.set i none) G, ct := fun τ G => En.ct (τ.set i none) G }
abbrev Cla := Value × Option Nat × (Addr → Value → Option Addr → TS)
def wOne (i : Option Nat) (ts : TS) (En : Ends) (a : Addr) : L2.St → Hp → Prop := match i with
  | none => ts En
  | some i => fun τ G => ts (offS i En) (τ.set i (some (.ref a))) G
def wCl (K : PySem.W.Frag) (Out : WX) (En : Ends) : List Cla → WX
  | [] => Out
  | (c, i, ts) :: r => fun q d τ G => ∃ b, PySem.W.exmOne K q c = some b ∧ (b = true → ∀ a, G a = none → wOne i (ts a q d) En a τ G) ∧ (b = false → wCl K Out En r q d τ G)
def nmSlot (X : Cx) (n : Option Str) (i : Option Nat) : Prop := match n, i with
  | none, none => True
  | some n, some i => X.N[i]? = some n ∧ X.env.kindOf n = some .local
  | _, _ => False
def SuOk (X : Cx) (su : List Stmt) (ts : Addr → Value → Option Addr → TS) : Prop := ∀ (a : Addr) (ob : Obj) (q : Value) (d : Option Addr) (pn : List (Addr × Obj)), Zc q d ob → (∃ vs, ob.data = .fields vs) → PSs (X.suite a ((a, ob) :: pn)) su (ts a q d)
inductive ClOk (X : Cx) : List ExceptHandler → List Cla → Prop
  | nil : ClOk X [] []
  | cons {x : Str} {n : Option Str} {c : Value} {i : Option Nat} {ts : Addr → Value → Option Addr → TS} {b : Stmt} {su : List Stmt} {p1 p2 : Pos} {hds : List ExceptHandler} {l : List Cla} (hc : Names X x c) (hn : nmSlot X n i) (hsu : SuOk X (b :: su) ts) (r : ClOk X hds l) :
      ClOk X (.ExceptHandler (some (.Name x p1)) n (b :: su) p2 :: hds) ((c, i, ts) :: l)
section
variable {X : Cx} {body : List Stmt} {h0 : ExceptHandler} {hds : List ExceptHandler} {l : List Cla} {pos : Pos} {tb : WX → TS} {Out : WX}
theorem ps_tryC (stk : X.stack = X.env :: X.outer) (fr : X.env.frame = some X.env.locals) (nd : X.N.Nodup) (tk : Takes X Out)
    (bodyOk : ∀ (W : WX) (pn : List (Addr × Obj)) (xe : Value → Shared → Prop), Takes (X.tr pn xe) W → PassesOwn (model X.prog X.w) X.A X.env xe → PSs (X.tr pn xe) body (tb W))
    (cls : ClOk X (h0 :: hds) l) : PS X (.Try body (h0 :: hds) [] [] pos) (fun En σ H => tb (wCl X.K Out En l) En σ H) := by
  constructor
  intro pins s σ H En inv rd
  have xok := inv.ok
  have frs1 : X.A.frames = some (X.env :: X.outer) := by rw [← stk]; exact xok.frames
  let xeB : Value → Shared → Prop := fun e z => wpAny (model X.prog X.w) X.A (noteFrame e X.env) (fun _ z => wpAny (model X.prog X.w) X.A (setFlight e none) (fun _ z => wpAny (model X.prog X.w) X.A (handleBy e X.env (h0 :: hds)) (SP X pins En) X.xe z) X.xe z) X.xe z
  have takesB : Takes (X.tr (X.pn ++ pins) xeB) (wCl X.K Out En l) := by
    rintro u z ⟨a, B, sI, ps, τ, G, q, d, rfl, iv, nb, up, sky, na, os, ag, w⟩
    have iv1 : Inv X pins τ G sI := iv.ofTry xok
    rw [show (X.tr (X.pn ++ pins) xeB).stack = X.env :: X.outer from stk] at sky
    show wpAny (model X.prog X.w) X.A (noteFrame (.ref a) X.env) _ _ z
    refine Sky.land Zc.steady frs1 fr sky fun g3 fly up3 => ?_
    have iv3 : Inv X pins τ G { z with heap := g3 } := iv1.landed nb fly.1 (up.trans up3) os ag
    obtain ⟨o3, w3, at3, zc3, dt3⟩ := fly.there
    have outFrames : a ∉ frs (X.env :: X.outer) := fun hm => by
      obtain ⟨_, o', e', nf⟩ := fly.2.2.1.mem hm
      rw [at3] at e'
      cases e'
      exact nf _ dt3
    have aL : a ≠ X.env.locals := fun e => outFrames (List.mem_filterMap.mpr ⟨X.env, List.mem_cons_self, by rw [fr, e]⟩)
    have aF : a ∉ X.fs := fun hm => by
      obtain ⟨e1, m1, q1⟩ := List.mem_filterMap.mp hm
      exact outFrames (List.mem_filterMap.mpr ⟨e1, List.mem_cons_of_mem _ m1, q1⟩)
    have ivS := iv3.suite at3 dt3 na aL aF
    suffices go : ∀ {hs : List ExceptHandler} {cl : List Cla}, ClOk X hs cl → wCl X.K Out En cl q d τ G → wpAny (model X.prog X.w) X.A (handleBy (.ref a) X.env hs) (SP X pins En) X.xe { z with heap := g3 } from go cls w
    intro hs cl ok
    induction ok with
    | nil =>
      intro wx
      refine wpAny_handleBy_nil ?_
      obtain ⟨_, _, _, o1, f1, T1, _, _, get1, _, dat1, fld1, _⟩ := id fly
      unfold PySem.passOn
      refine wpAny_bind (wpAny_field get1 dat1 fld1 ?_)
      rw [if_neg (by simp : ¬ ((Value.ref T1 == Value.none) = true))]
      have up1 : wpAny (model X.prog X.w) X.A (setFlight (.ref a) X.env.frame) (fun _ y => wpAny (model X.prog X.w) X.A (throw (.ref a) : Sem Flow) (SP X pins En) X.xe y) X.xe { z with heap := g3 } := by
        rw [fr]
        refine HandSPX.setFlight_upZ fly fun g4 held up4 => wpAny_throw (tk _ _ ?_)
        refine ⟨a, B, sI, pins, τ, G, q, d, rfl, iv1, nb, (up.trans up3).trans up4, ?_, na, os, ag, wx⟩
        rw [stk]
        exact .inr (.inr held)
      first
        | exact wpAny_bind (wpAny_pure (wpAny_bind up1))
        | exact wpAny_bind up1
    | @cons x n c i ts b su p1 p2 hs2 cl2 hc hn hsu rest ih =>
      rintro ⟨v, ex, yes, no⟩
      have looks : PySem.W.Looks (model X.prog X.w) g3 (typeOf (.ref a)) q := fun A Q E y k r => wpAny_typeOf_ref (k _ _ at3) (by rw [zc3.1]; exact r)
      have match1 := PySem.W.exm_one (M := model X.prog X.w) iv3.kIn looks ex
      have nameOk : ∀ {Q : Value → Shared → Prop} {E : Value → Shared → Prop}, Q c { z with heap := g3 } → wpAny (model X.prog X.w) (X.A.mark (some (.ref a))) (eval (.Name x p1) X.env) Q E { z with heap := g3 } := by
        intro Q E r
        rcases hc with ⟨gl, db, m | ⟨m, bt, nn⟩⟩
        · exact ld_glob (X := X.suite a ((a, o3) :: (X.pn ++ pins))) ivS gl m r db
        · exact ld_blt (X := X.suite a ((a, o3) :: (X.pn ++ pins))) ivS gl m bt r nn db
      refine wpAny_handleBy_cons (codeAny_handlers_test ?_) (by intro e; cases e)
      refine nameOk (match1.here ?_)
      cases v with
      | false => exact ih (no rfl)
      | true =>
        have w1 := yes rfl a na
        cases n with
        | none =>
          cases i with
          | some i => exact hn.elim
          | none =>
            refine codeAny_handlers_suite ?_
            refine HandSPX.lands_againZ fly fun g4 fly4 up4 => ?_
            have iv4 : Inv X pins τ G { z with heap := g4 } := iv1.landed nb fly4.1 ((up.trans up3).trans up4) os ag
            obtain ⟨o4, w4, at4, zc4, dt4⟩ := fly4.there
            refine wpAny_mono ((hsu a o4 q d (X.pn ++ pins) zc4 ⟨_, dt4⟩).run [] _ _ G _ (iv4.suite at4 dt4 na aL aF) w1) (fun f y r => ?_) (fun _ _ e => e.elim)
            cases f with
            | ret u => obtain ⟨v6, τ6, G6, iv6, r6, q6⟩ := r; exact ⟨_, _, _, iv6.unsuite xok, r6, q6⟩
            | next => obtain ⟨τ6, G6, iv6, q6⟩ := r; exact ⟨_, _, iv6.unsuite xok, q6⟩
            | brk => obtain ⟨τ6, G6, iv6, q6⟩ := r; exact ⟨_, _, iv6.unsuite xok, q6⟩
            | cont => obtain ⟨τ6, G6, iv6, q6⟩ := r; exact ⟨_, _, iv6.unsuite xok, q6⟩
        | some n =>
          cases i with
          | none => exact hn.elim
          | some i =>
            obtain ⟨hi, hloc⟩ := hn
            refine codeAny_handlers_suite_as ?_
            refine HandSPX.lands_againZ fly fun g4 fly4 up4 => ?_
            have iv4 : Inv X pins τ G { z with heap := g4 } := iv1.landed nb fly4.1 ((up.trans up3).trans up4) os ag
            obtain ⟨o4, w4, at4, zc4, dt4⟩ := fly4.there
            refine store_ok (X := X.suite a ((a, o4) :: (X.pn ++ pins))) (v := .ref a) (iv4.suite at4 dt4 na aL aF) nd hi (.inl hloc) rfl (fun y5 iv5 => ?_) (.inr hloc)
            refine wpAny_mono ((hsu a o4 q d (X.pn ++ pins) zc4 ⟨_, dt4⟩).run [] y5 _ G _ iv5 w1) (fun f y r => ?_) (fun _ _ e => e.elim)
            have gone : ∀ {τ6 : L2.St} {G6 : Hp} {Q : Shared → Prop}, Inv (X.suite a ((a, o4) :: (X.pn ++ pins))) [] τ6 G6 y → (∀ y7, Inv X pins (τ6.set i none) G6 y7 → Q y7) → wpAny (model X.prog X.w) X.A (do bindName X.env n .none; unbindBehindTheSuite X.env n p2) (fun _ y7 => Q y7) X.xe y :=
              fun iv6 hq => gone_ok (iv6.unsuite xok) nd hi hloc hq
            cases f with
            | ret u => obtain ⟨v6, τ6, G6, iv6, r6, q6⟩ := r; exact gone iv6 fun y7 iv7 => ⟨_, _, _, iv7, r6, q6⟩
            | next => obtain ⟨τ6, G6, iv6, q6⟩ := r; exact gone iv6 fun y7 iv7 => ⟨_, _, iv7, q6⟩
            | brk => obtain ⟨τ6, G6, iv6, q6⟩ := r; exact gone iv6 fun y7 iv7 => ⟨_, _, iv7, q6⟩
            | cont => obtain ⟨τ6, G6, iv6, q6⟩ := r; exact gone iv6 fun y7 iv7 => ⟨_, _, iv7, q6⟩
  refine wpAny_Try_except (wpAny_mono ((bodyOk _ (X.pn ++ pins) xeB takesB PassesOwn.looking).run [] s σ H En (inv.toTry _) rd) (fun f y r => ?_) (fun _ _ e => e))
  cases f with
  | next => obtain ⟨τ, G, iv, q⟩ := r; exact wpAny_execs_nil ⟨τ, G, iv.ofTry xok, q⟩
  | ret u => obtain ⟨v, τ, G, iv, r, q⟩ := r; exact ⟨v, τ, G, iv.ofTry xok, r, q⟩
  | brk => obtain ⟨τ, G, iv, q⟩ := r; exact ⟨τ, G, iv.ofTry xok, q⟩
  | cont => obtain ⟨τ, G, iv, q⟩ := r; exact ⟨τ, G, iv.ofTry xok, q⟩
end
end AF

/-! Fun: statements sound; defs. -/
namespace AF
open PySem PySem.Spec PyProof.Rows L2

def OS (g : G) (s : S) (c : Stmt) : Prop := ∀ (T : Tx) (W : WX) (kn : Kn) (X : Cx), Cxt g T W kn X → SCx g T X → PS X c (rdS T W (evS kn s))
def OSs (g : G) (s : Ss) (c : List Stmt) : Prop := ∀ (T : Tx) (W : WX) (kn : Kn) (X : Cx), Cxt g T W kn X → SCx g T X → PSs X c (rdS T W (evSs kn s))
theorem chk_isLc {e : E} {g : G} {elt : Expr} {gs : List Comprehension} {scope : Scope} {pos : Pos} (h : chkE e g (.ListComp elt gs scope pos) = true) : isLc e = true := by
  cases e <;> simp_all [chkE, qVar, qNon, qBl, qInt, qStr, qCon, qTup, qLst, qAny, qFst, qBin, qNeg, qNot, qBo, qCmp, qChn, qIte, qIdx, qSlc, qCall, qBlt, qIsi, qMth, qMk, qMkR, qDun, qFld, qPrp, qMet, isLc]
section
variable {g : G} {T : Tx} {W : WX} {kn : Kn} {X : Cx}
theorem sS_setLc (C : Cxt g T W kn X) {e : E} {i : Nat} {x : Str} {p pos spos : Pos} {elt : Expr} {gs : List Comprehension} {scope : Scope} (h : chkE e g (.ListComp elt gs scope pos) = true) (hi : g.N[i]? = some x) (hl : g.sc.names.lookup x = some .local)
    (hsw : swLc g.sc x p scope pos = true) : PS X (.Assign [.Name x p] (.ListComp elt gs scope pos) spos) (rdS T W (evS kn (.asg (.name i) e))) := by
  have hlc := chk_isLc h
  have hw : ∀ l, swapsWith (.ListComp elt gs scope pos) (some (.Name x p)) l X.env = pure true := fun l => by rw [swapsLc (by rw [C.sc]; exact C.kind), C.sc, hsw]
  cases e <;> simp only [isLc] at hlc <;> first | (cases hlc; done) | skip
  · rename_i m own tg it d e
    simp only [chkE] at h
    unfold qLc at h; split at h
    · rename_i heq
      cases heq
      simp only [Bool.and_eq_true, Bool.not_eq_true'] at h
      obtain ⟨⟨⟨⟨⟨⟨h1, h2⟩, h3⟩, h4⟩, h5⟩, h6⟩, h7⟩ := h
      have ok : BlkOk X.N X.env.scope scope (ownOf g.N own) := blkOk_by (by rw [C.hN, C.sc]; exact h2)
      have cb := fun gh s H A cl fp => C.blk ok gh s H A cl fp
      have go := ps_setLc (py := p) (spos := spos) C.calm C.nd (by rw [C.hN]; exact hi) (by rw [C.sc]; exact hl) (hw _) (soundIt it g _ _ h1 T W kn X C) ok
        (fun s H A cl fp => PG.ex (t := fun gh => rdG (T.with gh) tg) fun gh => have Y := cb gh s H A cl fp; sG Y.hN Y.nd Y.sc Y.fn Y.calm Y.K h4)
        (fun s H A cl fp => PTs.ex (t := fun gh => rdT (T.with gh) WF (evOc kn d)) fun gh => soundOc d _ _ h5 _ _ kn _ (cb gh s H A cl fp))
        (fun s H A cl fp => PE.ex (t := fun gh => rdE (T.with gh) WF (evE kn e)) fun gh => (soundE e _ _ h6 _ _ kn _ (cb gh s H A cl fp)).1) (noFold h7)
      exact PS.weak go fun En σ H h => asgN_weak (fun σ H Q q => lc_weak (by rw [ownOf_snd]; exact subB_ok h3) (by rw [ownOf_snd]; exact q)) h
    · cases h
  · rename_i m own own1 tg it tg1 it1 e
    simp only [chkE] at h
    unfold qLc2 at h; split at h
    · rename_i heq
      cases heq
      simp only [Bool.and_eq_true, Bool.not_eq_true'] at h
      obtain ⟨⟨⟨⟨⟨⟨⟨⟨⟨⟨h1, h2⟩, h3⟩, h4⟩, h5⟩, h6⟩, h7⟩, h8⟩, h9⟩, hA⟩, hB⟩ := h
      have ok : BlkOk X.N X.env.scope scope (ownOf g.N own) := blkOk_by (by rw [C.hN, C.sc]; exact h2)
      have cb := fun gh s H A cl fp => C.blk ok gh s H A cl fp
      have go := ps_setLc2 (py := p) (spos := spos) (vs1 := own1) (tt := tYes) (tt1 := lcT T kn .none) C.calm C.nd (by rw [C.hN]; exact hi) (by rw [C.sc]; exact hl) (hw _) (soundIt it g _ _ h1 T W kn X C) ok (by rw [ownOf_snd]; exact subB_ok h4)
        (fun s H A cl fp => PG.ex (t := fun gh => rdG (T.with gh) tg) fun gh => have Y := cb gh s H A cl fp; sG Y.hN Y.nd Y.sc Y.fn Y.calm Y.K h6)
        (fun s H A cl fp => pts_nil)
        (fun s H A cl fp => PI.ex (t := fun gh => rdI (T.with gh) WF (evIt kn it1)) fun gh => soundIt it1 _ _ _ h8 _ _ kn _ (cb gh s H A cl fp))
        (fun s H A cl fp => PG.ex (t := fun gh => rdG (T.with gh) tg1) fun gh => have Y := cb gh s H A cl fp; sG Y.hN Y.nd Y.sc Y.fn Y.calm Y.K h7)
        (fun s H A cl fp => PTs.ex fun gh => pts_none)
        (fun s H A cl fp => PE.ex (t := fun gh => rdE (T.with gh) WF (evE kn e)) fun gh => (soundE e _ _ h9 _ _ kn _ (cb gh s H A cl fp)).1) (noFold hA) (fun env => noFold hB)
      exact PS.weak go fun En σ H h => asgN_weak (fun σ H Q q => lc2_weak (by rw [ownOf_snd]; exact subB_ok h3) (subB_ok h5) (by rw [ownOf_snd]; exact q)) h
    · cases h
theorem asgT_ps (C : Cxt g T W kn X) {e : E} {ts : List Tg} {xs : List Expr} {v : Expr} {k : Nat} {p pos : Pos} (h1 : chkTs g ts xs = true) (h2 : chkE e g v = true) (hs : isComp v = false) (hw : swappedStores [.Tuple xs k p] v X.env = pure none) :
    PS X (.Assign [.Tuple xs k p] v pos) (rdS T W (evS kn (.asg (.tup ts) e))) :=
  PS.weak (ps_asg (soundE e g v h2 T W kn X C).1 (sG C.hN C.nd C.sc C.fn C.calm C.K (t := .tup ts) (x := .Tuple xs k p) (by simpa [chkT] using h1)) (by
    show swapsWith v (some (.Tuple xs k p)) pos.line X.env = pure false
    exact noComp_sw hs) hw) fun En σ H => asgT_weak
end
/-! ### except clauses -/
def tsOf (K : PySem.W.Frag) (T : Tx) (i : Option Nat) : Hr → Addr → Value → Option Addr → TS
  | .str x => fun _ _ _ => tRet (tC (.str (toStr x)))
  | .isx C _ x y => fun a q d En τ G => ∃ E b, q = .ref E ∧ d = none ∧ ExcC K E ∧ PySem.W.kitOne K (.ref E) (.ref (T.ca C)) = some b ∧ (∃ j, i = some j ∧ τ[j]? = some (some (.ref a))) ∧ En.rt (.str (toStr (if b = true then x else y))) G
def claOf (K : PySem.W.Frag) (T : Tx) (h : Hd) : Cla := (.ref (T.ca h.c), h.i, tsOf K T h.i h.r)
theorem nmI_ok {g : G} {n : Option Str} {i : Option Nat} {m : Str} (h : nmI g n i m = true) : ∃ j, n = some m ∧ i = some j ∧ nmOk g j m = true := by
  unfold nmI at h
  split at h
  · rename_i n j
    simp only [Bool.and_eq_true, decide_eq_true_eq] at h
    exact ⟨j, by rw [h.1], rfl, by rw [h.1]; exact h.2⟩
  · cases h
section
variable {g : G} {T : Tx} {W : WX} {kn : Kn} {X : Cx}
theorem hr_ok (C : Cxt g T W kn X) (S' : SCx g T X) {n : Option Str} {i : Option Nat} {r : Hr} {e : Expr} {p : Pos} (h : qHr g n i r e = true) : SuOk X [.Return (some e) p] (tsOf X.K T i r) := by
  intro a ob q d pn hz hf
  cases r with
  | str x =>
    simp only [qHr] at h
    unfold qHrS at h
    split at h
    · have := of_decide_eq_true h
      subst this
      exact pss_one (ps_ret pe_str)
    · cases h
  | isx Cc tab x y =>
    simp only [qHr] at h
    unfold qHrI at h
    split at h
    · rename_i f pf m pm z pz pc s k1 ps t k2 pt pe
      simp only [Bool.and_eq_true, decide_eq_true_eq] at h
      obtain ⟨⟨⟨⟨⟨⟨⟨⟨rfl, h2⟩, h3⟩, h4⟩, h5⟩, h6⟩, h7⟩, rfl⟩, rfl⟩ := h
      obtain ⟨i, rfl, rfl, hnm⟩ := nmI_ok h3
      · unfold nmOk at hnm
        simp only [Bool.and_eq_true, decide_eq_true_eq, Bool.not_eq_true'] at hnm
        obtain ⟨⟨⟨h3a, h3b⟩, h3c⟩, h3d⟩ := hnm
        obtain ⟨g1, g2⟩ := glOk_ok C h2
        obtain ⟨g3, g4⟩ := glOk_ok C h5
        obtain ⟨_, _, _, _, _, _, mz, _⟩ := S'.exc _ _ h4
        constructor
        intro pins s σ H En I ⟨E, b, e1, e2, EC, kit, ⟨j, ej, hj⟩, hq⟩
        cases ej
        subst e1 e2
        have hx : PE (X.suite a ((a, ob) :: pn)) (.Name m pm) (tVar i) := pe_var (by show X.N[i]? = _; rw [C.hN]; exact h3a) (by show Vis X.env.scope m; rw [C.sc]; exact isVis_ok h3b) h3c h3d
        have hcls : PE (X.suite a ((a, ob) :: pn)) (.Name z pz) (tC (.ref (T.ca Cc))) := pe_glob g3 mz rfl g4
        have hcall := pe_callB (pos := pc) (p := pf) (call_isE (pn := pn) EC hz hf) g1 (C.bn _ (by decide +kernel)) boot_isinstance (pa_cons hx (pa_cons hcls pa_nil))
        refine (pss_one (ps_ret (pe_ifExp (pt_val hcall) pe_str pe_str))).run pins s σ H En I ?_
        refine ⟨.ref a, hj, .ref (T.ca Cc), .ref (T.ca Cc), b, rfl, fun u hu => hu, kit, b, rfl, ?_⟩
        cases b with
        | true => exact hq
        | false => exact hq
    · cases h
theorem hds_ok (C : Cxt g T W kn X) (S' : SCx g T X) : ∀ {hs : List Hd} {hds : List ExceptHandler}, qHds g hs hds = true → ClOk X hds (hs.map (claOf X.K T))
  | [], [], _ => .nil
  | [], _ :: _, h => by simp [qHds] at h
  | _ :: _, [], h => by simp [qHds] at h
  | hd :: hs, x :: xs, h => by
    simp only [qHds, Bool.and_eq_true] at h
    obtain ⟨h1, h2⟩ := h
    have rest := hds_ok C S' h2
    unfold qHd at h1
    split at h1
    · rename_i x px n e pr pp
      simp only [Bool.and_eq_true, decide_eq_true_eq] at h1
      obtain ⟨⟨⟨⟨⟨h1, h2⟩, h3⟩, h4⟩, h5⟩, h6⟩ := h1
      obtain ⟨g1, g2⟩ := glOk_ok C h2
      obtain ⟨_, _, _, _, _, _, mx, _⟩ := S'.exc _ _ h1
      refine .cons ⟨g1, g2, .inl mx⟩ ?_ (hr_ok C S' h6) rest
      unfold nmSlot
      cases n with
      | none =>
        cases ei : hd.i with
        | none => trivial
        | some i => rw [ei] at h5; cases h5
      | some n =>
        cases ei : hd.i with
        | none => rw [ei] at h5; cases h5
        | some i =>
          rw [ei] at h5
          simp only [Bool.and_eq_true, decide_eq_true_eq] at h5
          exact ⟨by rw [C.hN]; exact h5.1, by show X.env.scope.names.lookup n = _; rw [C.sc]; exact isLocal_ok h5.2⟩
    · cases h1
/-- what the clauses do is what they wish -/
theorem hds_wish (S' : SCx g T X) (hK : X.K = T.K) {En : Ends} {μ : List Addr} {H : Hp} {σ : L2.St} {x : Ex} {ρ : Env} {st : Store} {cls : Value} {dx : Option Addr} (R : Rel T μ st H) (re : REnv T μ H ρ σ) (E : ExRel T μ H x cls dx) :
    ∀ {hs : List Hd} {hds : List ExceptHandler}, qHds g hs hds = true → AftS T W En (tryH hs x ρ st) μ H → wCl X.K W En (hs.map (claOf X.K T)) cls dx σ H
  | [], [], _, A => A μ H σ cls dx (Ext.refl R) R re E
  | [], _ :: _, h, _ => by simp [qHds] at h
  | _ :: _, [], h, _ => by simp [qHds] at h
  | hd :: hs, xx :: xs, h, A => by
    simp only [qHds, Bool.and_eq_true] at h
    obtain ⟨h1, h2⟩ := h
    obtain ⟨e1, e2, e3⟩ := E
    have rest : AftS T W En (tryH hs x ρ st) μ H → wCl X.K W En (hs.map (claOf X.K T)) cls dx σ H := fun A' => hds_wish S' hK R re ⟨e1, e2, e3⟩ h2 A'
    unfold qHd at h1
    split at h1
    · rename_i xn px n e pr pp
      simp only [Bool.and_eq_true, decide_eq_true_eq] at h1
      obtain ⟨⟨⟨⟨⟨h1, _⟩, h3⟩, h4⟩, h5⟩, h6⟩ := h1
      unfold tryH at A
      cases et : hd.tab[x.c]? with
      | none => rw [et] at A; exact A.elim
      | some v =>
        rw [et] at A
        have hlt : x.c < g.excs.length := by
          have := (List.getElem?_eq_some_iff.mp et).1
          rw [h3] at this; simpa [tabOf] using this
        have hv : v = subOf g.par x.c hd.c := by
          rw [h3] at et
          simp only [tabOf, List.getElem?_map, List.getElem?_range hlt, Option.map_some, Option.some.injEq] at et
          exact et.symm
        obtain ⟨f1, f2, f3⟩ := S'.exm x.c hd.c _ _ (List.getElem?_eq_getElem hlt) h1 (by simpa using h4)
        refine ⟨v, by rw [e1, hv]; exact f1, fun hvt a ha => ?_, fun hvf => ?_⟩
        · subst hvt
          dsimp only at A
          have hoff : offOk hd.i ρ = true := by
            cases ho : offOk hd.i ρ with
            | true => rfl
            | false => rw [ho] at A; exact A.elim
          rw [if_pos hoff] at A
          cases ev : hdVal hd.r x.c with
          | none => rw [ev] at A; exact A.elim
          | some d =>
            rw [ev] at A
            dsimp only at A
            have fin : ∀ τ : L2.St, REnv T μ H (offE hd.i ρ) τ → ∀ u, Rep T μ H d u → En.rt u H := fun τ rt u ru => A μ H τ (Ext.refl R) R rt u ru
            have off : ∃ τ, REnv T μ H (offE hd.i ρ) τ := by
              cases hd.i with
              | none => exact ⟨σ, re⟩
              | some i => exact ⟨_, re.drop1 i⟩
            obtain ⟨τ, rt⟩ := off
            have fin := fin τ rt
            have ln : ∀ i, hd.i = some i → i < σ.length ∨ True := fun _ _ => .inr trivial
            cases er : hd.r with
            | str s =>
              rw [er] at ev
              cases ev
              show wOne hd.i (tsOf X.K T hd.i (Hr.str s) a cls dx) En a σ H
              cases hd.i with
              | none => exact fin _ (.str s)
              | some i => exact fin _ (.str s)
            | isx Cc tab s t =>
              rw [er] at ev h6
              simp only [qHr] at h6
              unfold qHrI at h6
              split at h6
              · rename_i f pf m pm z pz pc s1 k1 ps t1 k2 pt pe
                simp only [Bool.and_eq_true, decide_eq_true_eq] at h6
                obtain ⟨⟨⟨⟨⟨⟨⟨⟨_, _⟩, q3⟩, q4⟩, _⟩, q6⟩, q7⟩, _⟩, _⟩ := h6
                obtain ⟨i, _, ei, q3⟩ := nmI_ok q3
                · simp only [nmOk, Bool.and_eq_true, decide_eq_true_eq] at q3
                  obtain ⟨w1, w2, w3⟩ := S'.exm x.c Cc _ _ (List.getElem?_eq_getElem hlt) q4 (by simpa using q7)
                  show wOne hd.i (tsOf X.K T hd.i (Hr.isx Cc tab s t) a cls dx) En a σ H
                  rw [ei]
                  refine ⟨T.ca x.c, subOf g.par x.c Cc, e1, e3, w3, w2, ⟨i, rfl, ?_⟩, ?_⟩
                  · have hil : i < σ.length := by
                      rw [ei] at hoff
                      rw [← re.len]; exact of_decide_eq_true hoff
                    rw [List.getElem?_set_self hil]
                  · show En.rt _ H
                    refine fin _ ?_
                    have htab : tab[x.c]? = some (subOf g.par x.c Cc) := by
                      rw [q6]
                      simp only [tabOf, List.getElem?_map, List.getElem?_range hlt, Option.map_some]
                    have hval : hdVal (.isx Cc tab s t) x.c = some (.str (if subOf g.par x.c Cc = true then s else t)) := by
                      simp only [hdVal, htab]
                      cases subOf g.par x.c Cc <;> rfl
                    rw [hval] at ev
                    cases ev
                    exact .str _
              · cases h6
        · subst hvf
          exact rest A
    · cases h1
end
mutual
theorem soundS : ∀ (s : S) (g : G) (c : Stmt), chkS s g c = true → OS g s c
  | .asg (.name i) e, g, c, h => by
    simp only [chkS] at h
    unfold qAsgN at h; split at h
    · rename_i x p v pos
      simp only [Bool.and_eq_true] at h
      obtain ⟨⟨h1, h2⟩, h3⟩ := h
      obtain ⟨t1, t2, t3⟩ := tgOk_ok h1
      intro T W kn X C S'
      have plain : (∀ l, swapsWith v (some (.Name x p)) l X.env = pure false) → PS X (.Assign [.Name x p] v pos) (rdS T W (evS kn (.asg (.name i) e))) := fun hs =>
        PS.weak (ps_set C.nd (by rw [C.hN]; exact t1) (by rw [C.sc]; exact t2) (soundE e g v h2 T W kn X C).1 (hs _) (t3.elim (fun z => .inl (C.fn _ z)) fun z => .inr (by rw [C.sc]; exact z))) fun En σ H => asgN_weak fun σ H Q q => q
      split at h3
      · rename_i elt gs scope lpos
        split at h3
        · rename_i hsw
          exact sS_setLc C h2 t1 (isLocal_ok h3) hsw
        · rename_i hsw
          exact plain fun l => by rw [swapsLc (by rw [C.sc]; exact C.kind), C.sc]; simp only [Bool.not_eq_true] at hsw; rw [hsw]
      · cases h3
      · cases h3
      · rename_i n1 n2 n3
        exact plain fun l => noComp_sw (by cases v <;> first | rfl | (exfalso; first | exact n1 _ _ _ _ rfl | exact n2 _ _ _ _ rfl | exact n3 _ _ _ _ _ rfl))
    · cases h
  | .asg (.tup ts) e, g, c, h => by
    simp only [chkS, Bool.or_eq_true] at h
    rcases h with h | h
    · unfold qAsgT at h; split at h
      · rename_i xs kt pt v pos
        simp only [Bool.and_eq_true, Bool.not_eq_true'] at h
        obtain ⟨⟨⟨h1, h2⟩, h3⟩, h4⟩ := h
        intro T W kn X C S'
        refine asgT_ps C h1 h2 h3 ?_
        split at h4
        · rename_i vs _ _
          simp only [Bool.and_eq_true, Bool.not_eq_true'] at h4
          rw [swapped_tup (by rw [C.sc]; exact C.kind) h4.1, C.sc]
          cases e1 : swapP g.sc xs vs with
          | none => rfl
          | some ns => rw [e1] at h4; exact absurd h4.2 (by simp)
        · rename_i n1
          cases v <;> first | rfl | (exfalso; exact n1 _ _ _ rfl)
      · cases h
    · cases e <;> simp only at h <;> first | (cases h; done) | skip
      rename_i es
      unfold qSw at h; split at h
      · simp only [Bool.and_eq_true, Bool.not_eq_true', decide_eq_true_eq] at h
        obtain ⟨⟨⟨⟨h1, h2⟩, h3⟩, h4⟩, h5⟩ := h
        split at h5
        · simp only [Bool.and_eq_true, decide_eq_true_eq] at h5
          obtain ⟨⟨⟨⟨k1, k2⟩, k3⟩, k4⟩, k5⟩ := h5
          intro T W kn X C S'
          have hl := (chkEs_stars h1).2
          rename_i vs _ _ _ _ _ _
          obtain ⟨a, b, rfl⟩ : ∃ a b, vs = [a, b] := by
            rw [h4] at hl
            match vs, hl with
            | [a, b], _ => exact ⟨a, b, rfl⟩
          exact PS.weak (ps_par C.calm C.nd (by rw [C.hN]; exact k2) (by rw [C.hN]; exact k3) k1 (by rw [C.sc]; exact isLocal_ok k4) (by rw [C.sc]; exact isLocal_ok k5) (soundEs es g _ h1 T W kn X C) (by rw [swapped_tup (by rw [C.sc]; exact C.kind) h2, C.sc, h3])) fun En σ H => par2_weak h4
        · cases h5
      · simp only [Bool.and_eq_true, Bool.not_eq_true', decide_eq_true_eq] at h
        obtain ⟨⟨⟨⟨h1, h2⟩, h3⟩, h4⟩, h5⟩ := h
        split at h5
        · simp only [Bool.and_eq_true, decide_eq_true_eq] at h5
          obtain ⟨⟨⟨⟨⟨⟨⟨⟨k1, k2⟩, k3⟩, k4⟩, k5⟩, k6⟩, k7⟩, k8⟩, k9⟩ := h5
          intro T W kn X C S'
          exact PS.weak (ps_par3 C.calm C.nd (by rw [C.hN]; exact k4) (by rw [C.hN]; exact k5) (by rw [C.hN]; exact k6) k1 k2 k3 (by rw [C.sc]; exact isLocal_ok k7) (by rw [C.sc]; exact isLocal_ok k8) (by rw [C.sc]; exact isLocal_ok k9) (soundEs es g _ h1 T W kn X C) (by rw [swapped_tup (by rw [C.sc]; exact C.kind) h2, C.sc, h3])) fun En σ H => par3_weak h4
        · cases h5
      · cases h
  | .setI a i e, g, c, h => by
    simp only [chkS] at h
    unfold qSetI at h; split at h
    · rename_i x y p v pos
      simp only [Bool.and_eq_true, Bool.not_eq_true'] at h
      obtain ⟨⟨⟨⟨h1, h2⟩, h3⟩, h4⟩, h5⟩ := h
      intro T W kn X C S'
      refine PS.weak (ps_asg (soundE e g v h1 T W kn X C).1 (pg_sub (soundE a g x h2 T W kn X C).1 (soundE i g y h3 T W kn X C).1 (set_W C.K) (by intro v; cases y <;> first | rfl | (simp [isSlice] at h4))) ?_ ?_) fun En σ H h => setI_weak (s := ()) h
      · show swapsWith v (some (.Subscript x y p)) pos.line X.env = pure false
        exact noComp_sw h5
      · cases v <;> rfl
    · cases h
  | .expr e, g, c, h => by
    simp only [chkS] at h
    unfold qExpr at h; split at h
    · simp only [Bool.and_eq_true, Bool.not_eq_true'] at h
      exact fun T W kn X C S' => PS.weak (ps_expr (soundE e g _ h.1 T W kn X C).1 (noComp_sw h.2)) fun En σ H => expr_weak
    · cases h
  | .ret e, g, c, h => by
    simp only [chkS] at h
    unfold qRet at h; split at h
    · exact fun T W kn X C S' => PS.weak (ps_ret (soundE e g _ h T W kn X C).1) fun En σ H => ret_weak
    · cases h
  | .retN, g, c, h => by
    simp only [chkS] at h
    unfold qRetN at h; split at h
    · exact fun T W kn X C S' => PS.weak ps_retN fun En σ H ⟨μ, ρ, st, R, re, A⟩ => by simp only [evS] at A; exact A.ok R re _ .non
    · cases h
  | .any, g, c, h => fun T W kn X C S' => ⟨fun _ _ _ _ _ _ ⟨_, _, _, _, _, A⟩ => by simp only [evS] at A; exact A.elim⟩
  | .setF k a f e, g, c, h => by
    simp only [chkS] at h
    unfold qSetF at h; split at h
    · simp only [Bool.and_eq_true, List.contains_iff_mem, decide_eq_true_eq, Bool.not_eq_true'] at h
      obtain ⟨⟨⟨⟨⟨h1, h2⟩, h3⟩, h4⟩, h5⟩, h6⟩ := h
      intro T W kn X C S'
      rw [← C.nm] at h2
      obtain ⟨c1, c2⟩ := C.flds _ _ h1 _ h2
      exact PS.weak (ps_fld (soundE a g _ h3 T W kn X C).1 (soundE e g _ h4 T W kn X C).1 (noComp_sw h6)) fun En σ H => setF_weak h2 c1 c2
    · cases h
  | .pass, g, c, h => by
    simp only [chkS] at h
    unfold qPass at h; split at h
    · exact fun T W kn X C S' => PS.weak ps_pass fun En σ H ⟨μ, ρ, st, R, re, A⟩ => by simp only [evS] at A; exact A.ok R re
    · cases h
  | .brk, g, c, h => by
    simp only [chkS] at h
    unfold qBrk at h; split at h
    · exact fun T W kn X C S' => PS.weak ps_break fun En σ H ⟨μ, ρ, st, R, re, A⟩ => by simp only [evS] at A; exact A.ok R re
    · cases h
  | .cont, g, c, h => by
    simp only [chkS] at h
    unfold qCont at h; split at h
    · exact fun T W kn X C S' => PS.weak ps_continue fun En σ H ⟨μ, ρ, st, R, re, A⟩ => by simp only [evS] at A; exact A.ok R re
    · cases h
  | .ite t a b, g, c, h => by
    simp only [chkS] at h
    unfold qIf at h; split at h
    · simp only [Bool.and_eq_true, Bool.not_eq_true'] at h
      obtain ⟨⟨⟨h1, h2⟩, h3⟩, h4⟩ := h
      exact fun T W kn X C S' => PS.weak (ps_if ((soundE t g _ h1 T W kn X C).2.1 h2) (soundSs a g _ h3 T W kn X C S') (soundSs b g _ h4 T W kn X C S')) fun En σ H => ite_weak
    · cases h
  | .whl t a, g, c, h => by
    simp only [chkS] at h
    unfold qWhl at h; split at h
    · simp only [Bool.and_eq_true, Bool.not_eq_true'] at h
      obtain ⟨⟨h1, h2⟩, h3⟩ := h
      exact fun T W kn X C S' => PS.weak (ps_while S'.po ((soundE t g _ h1 T W kn X C).2.1 h2) (soundSs a g _ h3 T W kn X C S')) fun En σ H => whl_weak
    · cases h
  | .for_ tg it a, g, c, h => by
    simp only [chkS] at h
    unfold qFor at h; split at h
    · simp only [Bool.and_eq_true, Bool.not_eq_true'] at h
      obtain ⟨⟨⟨h1, h2⟩, h3⟩, h4⟩ := h
      exact fun T W kn X C S' => PS.weak (ps_for S'.po C.calm (soundIt it g _ _ h1 T W kn X C) (sG C.hN C.nd C.sc C.fn C.calm C.K h2) (soundSs a g _ h3 T W kn X C S') (noFold h4)) fun En σ H => for_weak
    · cases h
  | .rais x es, g, c, h => by
    simp only [chkS] at h
    unfold qRais at h; split at h
    · simp only [Bool.and_eq_true, decide_eq_true_eq] at h
      obtain ⟨⟨h1, h2⟩, h3⟩ := h
      have en : es = .nil := by cases es with | nil => rfl | cons _ _ => simp [Es.len] at h3
      subst en
      intro T W kn X C S'
      obtain ⟨B, newId, initId, bmB, F, q1, q2, q3, q4⟩ := S'.exc _ _ h1
      obtain ⟨g1, g2⟩ := glOk_ok C h2
      refine PS.weak (ps_raise C.calm C.tk (pmk_own F q1 q2 q3 q4 g1 g2)) fun En σ H ⟨μ, ρ, st, R, re, A⟩ => ?_
      simp only [evS, evEs] at A
      exact A μ H σ _ _ (Ext.refl R) R re ⟨rfl, rfl, rfl⟩
    · cases h
  | .tryr a hs, g, c, h => by
    simp only [chkS] at h
    unfold qTry at h; split at h
    · rename_i b h0 hds p
      simp only [Bool.and_eq_true] at h
      obtain ⟨h1, h2⟩ := h
      intro T W kn X C S'
      refine PS.weak (ps_tryC S'.stk S'.fr C.nd C.tk (tb := fun W' => rdS T W' (evSs kn a)) (fun W' pn xe tk po => soundSs a g _ h1 T W' kn (X.tr pn xe) ⟨C.hN, C.nd, C.sc, C.kind, C.fn, C.calm, C.K, tk, C.un, C.bn, C.con, C.fns, C.nm, C.mks, C.mths, C.prps, C.mkrs, C.duns, C.flds⟩ ⟨po, S'.exc, S'.stk, S'.fr, S'.exm⟩) (hds_ok C S' h2)) fun En σ H ⟨μ, ρ, st, R, re, A⟩ => ⟨μ, ρ, st, R, re, ?_⟩
      simp only [evS] at A
      cases e : evSs kn a ρ st with
      | ok fl ρ1 st1 => rw [e] at A; exact A
      | bad => rw [e] at A; exact A
      | exc x ρ1 st1 =>
        rw [e] at A
        exact fun μ2 H2 σ2 cls dx x2 R2 re2 E2 => hds_wish S' C.K R2 re2 E2 h2 (AftS.shift A x2)
    · cases h
theorem soundSs : ∀ (s : Ss) (g : G) (c : List Stmt), chkSs s g c = true → OSs g s c
  | .nil, g, [], h => fun T W kn X C S' => PSs.weak pss_nil fun En σ H ⟨μ, ρ, st, R, re, A⟩ => by simp only [evSs] at A; exact A.ok R re
  | .nil, g, _ :: _, h => by simp [chkSs] at h
  | .cons s r, g, [], h => by simp [chkSs] at h
  | .cons s r, g, x :: xs, h => by
    simp only [chkSs, Bool.and_eq_true] at h
    intro T W kn X C S'
    refine PSs.weak (pss_cons (soundS s g x h.1 T W kn X C S') (soundSs r g xs h.2 T W kn X C S')) fun En σ H ⟨μ, ρ, st, R, re, A⟩ => ?_
    simp only [evSs] at A
    refine ⟨μ, ρ, st, R, re, ?_⟩
    cases e : evS kn s ρ st with
    | ok fl ρ1 st1 =>
      rw [e] at A
      cases fl with
      | next => exact fun μ' H' σ' x R' re' => ⟨μ', ρ1, st1, R', re', AftS.shift A x⟩
      | brk => exact A
      | cont => exact A
      | ret d => exact A
    | exc y ρ1 st1 => rw [e] at A; exact A
    | bad => rw [e] at A; exact A
end
end AF

/-! Head: all defs of a text at once, over the head's facts. -/
namespace AF
open PySem PySem.Spec PyProof.Rows L2
def plainArgs (args : List Arg) : Arguments := { posonlyargs := [], args := args, vararg := none, kwonlyargs := [], kw_defaults := [], kwarg := none, defaults := [] }
theorem lookup_zip : ∀ {ns : List Str} {us : List Value}, ns.Nodup → us.length = ns.length → ∀ {i : Nat} (h : i < ns.length), (ns.zip us).lookup ns[i] = us[i]?
  | [], _, _, _, i, h => by simp at h
  | n :: ns, [], _, hl, _, _ => by simp at hl
  | n :: ns, u :: us, nd, hl, 0, h => by simp [List.lookup]
  | n :: ns, u :: us, nd, hl, i + 1, h => by
    have hi : i < ns.length := by simpa using h
    have h1 := lookup_zip (List.nodup_cons.mp nd).2 (by simpa using hl) hi
    have ne : (ns[i] == n) = false := by
      apply beq_eq_false_iff_ne.mpr
      intro e
      exact (List.nodup_cons.mp nd).1 (by rw [← e]; exact List.getElem_mem hi)
    simp only [List.zip_cons_cons, List.getElem_cons_succ, List.lookup, ne, h1, List.getElem?_cons_succ]
theorem filterMap_some {α β : Type} {f : α → Option β} {g : α → β} : ∀ {l : List α}, (∀ a ∈ l, f a = some (g a)) → l.filterMap f = l.map g
  | [], _ => rfl
  | a :: l, h => by
    rw [List.filterMap_cons, h a List.mem_cons_self, List.map_cons, filterMap_some fun b hb => h b (List.mem_cons_of_mem _ hb)]
theorem filterMap_zip {ns : List Str} {us : List Value} (nd : ns.Nodup) (hl : us.length = ns.length) : (ns.filterMap fun n => ((ns.zip us).lookup n).map (n, ·)) = ns.zip us := by
  have h : ∀ n ∈ ns, ∃ u, (ns.zip us).lookup n = some u := fun n hn => by
    obtain ⟨i, hi, e⟩ := List.mem_iff_getElem.mp hn
    exact ⟨us[i]'(by omega), by rw [← e, lookup_zip nd hl hi, List.getElem?_eq_getElem]⟩
  apply List.ext_getElem?
  intro i
  have e1 : (ns.filterMap fun n => ((ns.zip us).lookup n).map (n, ·)) = ns.map fun n => (n, ((ns.zip us).lookup n).getD .none) := by
    refine filterMap_some fun n hn => ?_
    obtain ⟨u, hu⟩ := h n hn
    simp [hu]
  rw [e1, List.getElem?_map]
  by_cases hi : i < ns.length
  · rw [List.getElem?_eq_getElem hi, List.getElem?_eq_getElem (by simp; omega)]
    have := lookup_zip nd hl hi
    rw [List.getElem?_eq_getElem (by omega)] at this
    simp [this]
  · rw [List.getElem?_eq_none (by omega), List.getElem?_eq_none (by simp; omega)]
    rfl
theorem missing_zip {ns : List Str} {us : List Value} (nd : ns.Nodup) (hl : us.length = ns.length) : (ns.filter fun n => ((ns.zip us).lookup n).isNone) = [] := by
  rw [List.filter_eq_nil_iff]
  intro n hn
  obtain ⟨i, hi, e⟩ := List.mem_iff_getElem.mp hn
  rw [← e, lookup_zip nd hl hi, List.getElem?_eq_getElem (by omega)]
  simp
theorem bind_plain {x qual : Str} {body : List Stmt} {scope : Scope} {kV doc pm : Value} {an : Option Addr} {cdv ct : Value} (args : List Arg) (us : List Value) (hl : us.length = (args.map (·.arg)).length) (nd : (args.map (·.arg)).Nodup) :
    bindArgs (PySem.W.fnOf x qual (plainArgs args) body scope .none kV doc pm an cdv ct) ⟨us, []⟩ = pure ((args.map (·.arg)).zip us) := by
  have h0 : seqItems? (PySem.W.fnOf x qual (plainArgs args) body scope .none kV doc pm an cdv ct).defaults = pure none := rfl
  have hm := missing_zip nd hl
  have hf := filterMap_zip nd hl
  unfold bindArgs
  rw [h0]
  simp only [plainArgs, PySem.W.fnOf, List.map_nil, List.nil_append, List.append_nil, pure_bind, List.forIn_nil, Option.getD_none, List.drop_nil, List.length_nil, Nat.sub_zero, List.zip_nil_right]
  rw [if_neg (by simp [hl]), List.take_length, hm, hf]
  rfl
def restArgs (args : List Arg) (v : Arg) : Arguments := { posonlyargs := [], args := args, vararg := some v, kwonlyargs := [], kw_defaults := [], kwarg := none, defaults := [] }
theorem zip_over {α β : Type} : ∀ (ns : List α) (us rest : List β), us.length = ns.length → ns.zip (us ++ rest) = ns.zip us
  | [], [], _, _ => by simp
  | [], _ :: _, _, h => by simp at h
  | _ :: _, [], _, h => by simp at h
  | n :: ns, u :: us, rest, h => by simp [zip_over ns us rest (by simpa using h)]
theorem bind_rest {x qual : Str} {body : List Stmt} {scope : Scope} {kV doc pm : Value} {an : Option Addr} {cdv ct : Value} (args : List Arg) (v : Arg) (us rest : List Value) (hl : us.length = (args.map (·.arg)).length) (nd : (args.map (·.arg)).Nodup) :
    bindArgs (PySem.W.fnOf x qual (restArgs args v) body scope .none kV doc pm an cdv ct) ⟨us ++ rest, []⟩ = (newTuple rest >>= fun t => pure ((args.map (·.arg)).zip us ++ [(v.arg, t)])) := by
  have h0 : seqItems? (PySem.W.fnOf x qual (restArgs args v) body scope .none kV doc pm an cdv ct).defaults = pure none := rfl
  have hm := missing_zip nd hl
  have hf := filterMap_zip nd hl
  have hz := zip_over (args.map (·.arg)) us rest hl
  have hd : (us ++ rest).drop (args.map (·.arg)).length = rest := by rw [← hl]; simp
  unfold bindArgs
  rw [h0]
  simp only [restArgs, PySem.W.fnOf, List.map_nil, List.nil_append, List.append_nil, pure_bind, List.forIn_nil, Option.getD_none, List.drop_nil, List.length_nil, Nat.sub_zero, List.zip_nil_right]
  rw [if_neg (by simp), List.take_length, hz, hm, hf, hd]
  rfl
/-- a def: its name, its slots' names, its text, its core; a class's: class, qualified name, whether a property -/
structure FnE where
  name : Str
  N : List Str
  st : Stmt
  fn : Fn
  own : Option (Str × Str × Bool)
/-- a constant of the module -/
inductive CV where
  | int (i : Int)
  | tup (xs : List (List Nat))
def CV.d : CV → D
  | .int i => .int i
  | .tup xs => .tup (xs.map .str)
structure Txt where
  fns : List FnE
  excs : List Str
  cons : List (Str × CV)
  fuel : Nat
  par : List (Option Nat) := []
  ask : List Nat := []
  cls : List Str := []
  nm : List Str := []
  mks : List (Nat × Str × Nat × Nat) := []
  mths : List (Nat × Nat × Nat × Nat) := []
  prps : List (Nat × Nat × Nat) := []
  flds : List (Nat × Nat) := []
  mkrs : List (Nat × Str × Nat × Nat) := []
  duns : List (DU × Nat × Nat × Nat) := []
def FnE.qual (e : FnE) : Str := match e.own with
  | none => e.name
  | some (_, q, _) => q
def FnE.gname (e : FnE) : Option Str := match e.own with
  | none => some e.name
  | some _ => none
def argsOf (a : Arguments) : Option (List Arg) := match a with
  | ⟨[], args, none, [], [], none, []⟩ => some args
  | _ => none
def restOf (a : Arguments) : Option (List Arg × Arg) := match a with
  | ⟨[], args, some v, [], [], none, []⟩ => some (args, v)
  | _ => none
/-- without a parameter for the rest -/
def FnE.pln (e : FnE) : Bool := (argsOf (defArgs e.st)).isSome
def FnE.cname (e : FnE) : Option Str := if e.pln then e.gname else none
def Txt.prog (p : Txt) : Prog := { cons := p.cons.map (·.2.d), fns := p.fns.map (·.fn), fuel := p.fuel }
def Txt.g (p : Txt) (e : FnE) : G := { fns := p.fns.map fun e => (e.cname, e.fn.ps), excs := p.excs, cons := p.cons.map (·.1), N := e.N, sc := defScope e.st, blk := none, par := p.par, ask := p.ask, nm := p.nm, mks := p.mks, mths := p.mths, prps := p.prps, flds := p.flds, mkrs := p.mkrs, duns := p.duns }
def scopeOk (N ps : List Str) (sc : Scope) : Bool :=
  (match sc.kind with | .function => true | _ => false) && !sc.isCoroutine && !sc.isGenerator && decide N.Nodup && decide (N.take ps.length = ps) && (ps.all fun x => isLocal (sc.names.lookup x) || isCell (sc.names.lookup x)) && (sc.names.all fun y => match y.2 with | .free => false | _ => true)
def chkFn (p : Txt) (e : FnE) : Bool := match argsOf (defArgs e.st) with
  | some args => decide ((args.map (·.arg)).Nodup) && decide (args.length = e.fn.ps) && decide (e.fn.n = e.N.length) && scopeOk e.N (args.map (·.arg)) (defScope e.st) && chkSs e.fn.body (p.g e) (defBody e.st) && decide p.nm.Nodup
  | none => (match restOf (defArgs e.st) with
    | some (args, v) => decide ((args.map (·.arg)).Nodup) && decide (args.length + 1 = e.fn.ps) && decide (e.fn.n = e.N.length) && scopeOk e.N (args.map (·.arg) ++ [v.arg]) (defScope e.st) && chkSs e.fn.body (p.g e) (defBody e.st) && decide p.nm.Nodup
    | none => false)
def CV.ok (K : PySem.W.Frag) (x : Str) : CV → Bool
  | .int i => (He.Fa.int x i).ok K
  | .tup xs => (He.Fa.glo x).ok K && He.tupB K x (xs.map fun s => He.Dv.str (toStr s))
/-! ### where a def stands -/
/-- a property's own def -/
def getAd (K : PySem.W.Frag) (C : Addr) (x : Str) : Addr := match PySem.W.recIn K (He.ma K C x) "property" with
  | some (.ref g :: _) => g
  | _ => 0
def fadr (K : PySem.W.Frag) (e : FnE) : Addr := match e.own with
  | none => He.ga K e.name
  | some (C, _, false) => He.ma K (He.ga K C) e.name
  | some (C, _, true) => getAd K (He.ga K C) e.name
def fdW (fd : FuncData) : He.FnW := some (fd.name, fd.qualname, fd.params, fd.body, fd.scope, fd.globals, fd.closure, fd.builtins)
def fnA (K : PySem.W.Frag) (a : Addr) : He.FnW := match K.lookup a with
  | some o => (match o.data with
    | .func fd => fdW fd
    | _ => none)
  | none => none
def FnE.val (e : FnE) : He.FnW := some (e.name, e.qual, defArgs e.st, .stmts (defBody e.st), defScope e.st, mainGlobals, [], builtinsNs)
def okA (K : PySem.W.Frag) (a : Addr) (q : Str) : Bool := PySem.W.keepIn K (.ref a) && (match K.lookup a with
  | some o => (match o.data with
    | .func fd => PySem.W.codeIn K fd.code q && He.dflB K fd.defaults []
    | _ => false)
  | none => false)
theorem fn_at {K : PySem.W.Frag} {e : FnE} {a : Addr} (h : fnA K a = e.val) (c : okA K a e.qual = true) : ∃ fd, FunD K e.name e.qual (defArgs e.st) (defBody e.st) (defScope e.st) [] [] a fd := by
  obtain ⟨kp, c2⟩ := He.ba c
  unfold fnA at h
  cases q : K.lookup a with
  | none => rw [q] at c2; cases c2
  | some o =>
    obtain ⟨oc, od, dt, osl⟩ := o
    rw [q] at c2 h
    cases dt with
    | func fd =>
      dsimp only at c2 h
      obtain ⟨k1, k2⟩ := He.ba c2
      cases fd with
      | mk n1 n2 n3 n4 n5 n6 n7 n8 n9 n10 n11 n12 n13 n14 n15 =>
        simp only [fdW, FnE.val, Option.some.injEq, Prod.mk.injEq] at h
        obtain ⟨h1, h2, h3, h4, h5, h6, h7, h8⟩ := h
        subst h1 h2 h3 h4 h5 h6 h7 h8
        exact ⟨_, ⟨oc, od, n8, n9, n10, n11, n12, n13, n14, osl, rfl, q, k1, He.dflB_ok k2, .inl rfl⟩, kp⟩
    | _ => cases c2
def Txt.fa (p : Txt) : List He.Fa := p.fns.filterMap (fun e => e.gname.map He.Fa.glo) ++ (p.excs.map He.Fa.glo ++ (p.excs.map He.Fa.exc ++ bNames.map He.Fa.free))
/-- what an own class must say of itself, so that isinstance asks a caught one rightly -/
def excB (K : PySem.W.Frag) (E : Addr) : Bool :=
  He.eqO (PySem.W.findIn K (.ref E) "__getattribute__") (some (some (.builtin "BaseException.__getattribute__"))) && He.eqO (PySem.W.findIn K (.ref E) "__getattr__") (some none) && decide (PySem.W.subIn K (.ref E) (.type "BaseException") = some true) && PySem.W.hasDictIn K E &&
  He.eqO (PySem.W.findIn K (.ref E) "__class__") (some (some (.builtin "object.__class__"))) && He.eqO (PySem.W.specialIn K (.builtin "object.__class__") "__get__") (some (some (.builtin "getset_descriptor.__get__"))) && decide (PySem.W.takesIn K (.builtin "object.__class__") = some true) && decide (PySem.W.mroIn K E (.type "object") = some true)
theorem excB_ok {K : PySem.W.Frag} {E : Addr} (h : excB K E = true) : ExcC K E := by
  simp only [excB, Bool.and_eq_true, decide_eq_true_eq] at h
  obtain ⟨⟨⟨⟨⟨⟨⟨h1, h2⟩, h3⟩, h4⟩, h5⟩, h6⟩, h7⟩, h8⟩ := h
  exact ⟨He.eqO_ok h1, He.eqO_ok h2, h3, h4, He.eqO_ok h5, He.eqO_ok h6, h7, h8⟩
def Txt.askB (p : Txt) (K : PySem.W.Frag) : Bool := p.ask.all fun C => (match p.excs[C]? with
  | some y => (List.range p.excs.length).all fun c => (match p.excs[c]? with
    | some x => decide (PySem.W.exmOne K (.ref (He.ga K x)) (.ref (He.ga K y)) = some (subOf p.par c C)) && decide (PySem.W.kitOne K (.ref (He.ga K x)) (.ref (He.ga K y)) = some (subOf p.par c C)) && excB K (He.ga K x)
    | none => true)
  | none => true)
/-! ### classes -/
def mkB (p : Txt) (K : PySem.W.Frag) (z : Nat × Str × Nat × Nat) : Bool := match p.cls[z.1]?, p.fns[z.2.2.1]? with
  | some C, some e => decide (C = z.2.1) && (He.Fa.glo C).ok K && (He.Fa.mkr C).ok K && decide (fadr K e = He.ma K (He.ga K C) "__init__") && decide (e.fn.ps = z.2.2.2) && e.pln
  | _, _ => false
def mthB (p : Txt) (K : PySem.W.Frag) (z : Nat × Nat × Nat × Nat) : Bool := match p.cls[z.1]?, p.nm[z.2.1]?, p.fns[z.2.2.1]? with
  | some C, some x, some e => (He.Fa.cls C).ok K && (He.Fa.meth C x).ok K && decide (fadr K e = He.ma K (He.ga K C) x) && decide (e.fn.ps = z.2.2.2) && e.pln
  | _, _, _ => false
def prpO (K : PySem.W.Frag) (C : Addr) (x : Str) (g : Addr) : Bool :=
  He.eqO (PySem.W.findIn K (.ref C) x) (some (some (.ref (He.ma K C x)))) && He.eqO (PySem.W.specialIn K (.ref (He.ma K C x)) "__get__") (some (some (.builtin "property.__get__"))) && decide (PySem.W.takesIn K (.ref (He.ma K C x)) = some true) && (match PySem.W.recIn K (He.ma K C x) "property" with
    | some (.ref a :: _) => decide (a = g)
    | _ => false)
theorem prpO_ok {K : PySem.W.Frag} {C g : Addr} {x : Str} (h : prpO K C x g = true) : PropOf K C x (He.ma K C x) g := by
  simp only [prpO, Bool.and_eq_true, decide_eq_true_eq] at h
  obtain ⟨⟨⟨h1, h2⟩, h3⟩, h4⟩ := h
  refine ⟨He.eqO_ok h1, He.eqO_ok h2, h3, ?_⟩
  split at h4
  · rename_i a rest e
    have := of_decide_eq_true h4
    subst this
    exact ⟨rest, e⟩
  · cases h4
def prpB (p : Txt) (K : PySem.W.Frag) (z : Nat × Nat × Nat) : Bool := match p.cls[z.1]?, p.nm[z.2.1]?, p.fns[z.2.2]? with
  | some C, some x, some e => (He.Fa.cls C).ok K && prpO K (He.ga K C) x (fadr K e) && decide (e.fn.ps = 1) && e.pln
  | _, _, _ => false
def fldB (p : Txt) (K : PySem.W.Frag) (z : Nat × Nat) : Bool := match p.cls[z.1]?, p.nm[z.2]? with
  | some C, some x => (He.Fa.cls C).ok K && (He.Fa.noat C x).ok K
  | _, _ => false
def mkrB (p : Txt) (K : PySem.W.Frag) (z : Nat × Str × Nat × Nat) : Bool := match p.cls[z.1]?, p.fns[z.2.2.1]? with
  | some C, some e => decide (C = z.2.1) && (He.Fa.glo C).ok K && (He.Fa.mkr C).ok K && decide (fadr K e = He.ma K (He.ga K C) "__init__") && (match restOf (defArgs e.st) with
    | some (args, v) => decide (args.length = z.2.2.2 + 1)
    | none => false)
  | _, _ => false
def dunB (K : PySem.W.Frag) (C f : Addr) : DU → Bool
  | .len => He.eqO (PySem.W.findIn K (.ref C) "__len__") (some (some (.ref f))) && PySem.W.isFn K (.ref f)
  | .bool => He.eqO (PySem.W.findIn K (.ref C) "__bool__") (some (some (.ref f))) && PySem.W.isFn K (.ref f)
  | .call => He.eqO (PySem.W.findIn K (.ref C) "__call__") (some (some (.ref f))) && PySem.W.isFn K (.ref f) && PySem.W.fnIn K f
  | .add => PySem.W.selfFirst K C && He.eqO (PySem.W.findIn K (.ref C) (PySem.dunder Operator.Add.info.2)) (some (some (.ref f))) && PySem.W.isFn K (.ref f) && He.eqO (PySem.W.findIn K (.ref C) (PySem.dunderR Operator.Add.info.2)) (some none) &&
      (PySem.W.findIn K (.type "tuple") (PySem.dunder Operator.Add.info.2)).isSome && (PySem.W.findIn K (.type "tuple") (PySem.dunderR Operator.Add.info.2)).isSome && decide (PySem.W.subIn K (.type "tuple") (.ref C) = some false)
  | _ => false
theorem dunB_ok {K : PySem.W.Frag} {C f : Addr} {u : DU} (h : dunB K C f u = true) : DunFact u K C f := by
  cases u <;> simp only [dunB] at h <;> first | (cases h; done) | skip
  · simp only [Bool.and_eq_true] at h; exact ⟨He.eqO_ok h.1, h.2⟩
  · simp only [Bool.and_eq_true] at h; exact ⟨He.eqO_ok h.1, h.2⟩
  · simp only [Bool.and_eq_true, decide_eq_true_eq] at h
    obtain ⟨⟨⟨⟨⟨⟨h1, h2⟩, h3⟩, h4⟩, h5⟩, h6⟩, h7⟩ := h
    obtain ⟨a, ea⟩ := Option.isSome_iff_exists.mp h5
    obtain ⟨b, eb⟩ := Option.isSome_iff_exists.mp h6
    exact ⟨h1, He.eqO_ok h2, h3, He.eqO_ok h4, ⟨a, b, ea, eb⟩, h7⟩
  · simp only [Bool.and_eq_true] at h; exact ⟨He.eqO_ok h.1.1, h.1.2, h.2⟩
def dnB (p : Txt) (K : PySem.W.Frag) (z : DU × Nat × Nat × Nat) : Bool := match p.cls[z.2.1]?, p.fns[z.2.2.1]? with
  | some C, some e => dunB K (He.ga K C) (fadr K e) z.1 && decide (e.fn.ps = z.2.2.2) && e.pln
  | _, _ => false
def Txt.clsB (p : Txt) (K : PySem.W.Frag) : Bool := p.mks.all (mkB p K) && p.mths.all (mthB p K) && p.prps.all (prpB p K) && p.flds.all (fldB p K) && p.mkrs.all (mkrB p K) && p.duns.all (dnB p K)
def Txt.conB (p : Txt) (K : PySem.W.Frag) : Bool := (p.cons.all fun c => c.2.ok K c.1) && p.askB K && p.clsB K && (p.fa.all fun f => f.ok K) && p.fns.all fun e => okA K (fadr K e) e.qual
/-- what the facts ask of an object's children -/
def refsX (o : Obj) : List Addr := match o.data with
  | .dict es _ => es.toList.flatMap fun e => He.refV e.val
  | .func fd => He.refV fd.code
  | .cls cd => cd.ns :: cd.mro.flatMap He.refV
  | .fields vs => (match o.cls with
    | .type t => if t == "property" || t == "classmethod" then vs.toList.flatMap He.refV else []
    | _ => [])
  | _ => []
def closeX (g : Addr → Option Obj) : Nat → List Addr → List Addr → List Addr
  | 0, seen, _ => seen
  | n + 1, seen, fr =>
    let new := ((fr.flatMap fun a => match g a with
      | some o => refsX o
      | none => []).eraseDups).filter fun a => !seen.contains a
    closeX g n (seen ++ new) new
def asX (g : Addr → Option Obj) (n : Nat) : List Addr := closeX g n [mainGlobals] [mainGlobals]
abbrev AlA : Type := List He.FnW × Bool
def Txt.obs (p : Txt) (n : Nat) (g : Addr → Option Obj) : AlA := (p.fns.map fun e => fnA (He.frG g (asX g n)) (fadr (He.frG g (asX g n)) e), p.conB (He.frG g (asX g n)))
structure Says (p : Txt) (K : PySem.W.Frag) : Prop where
  d : (p.fns.map fun e => fnA K (fadr K e)) = p.fns.map FnE.val
  c : p.conB K = true
def Txt.hook (p : Txt) (n : Nat) : PySem.W.Hook where
  α := AlA
  obs := fun s => p.obs n s.heap.get?
  val := fun _ => (p.fns.map FnE.val, true)
  says := fun _ h => ∃ K : PySem.W.Frag, K.In h ∧ Says p K
  of := fun _ _ e => ⟨_, He.frG_in, congrArg (fun z : AlA => z.1) e, congrArg (fun z : AlA => z.2) e⟩
  keeps := fun _ _ _ ⟨K, hK, c⟩ k => ⟨K, PySem.W.Frag.In.keeps hK k, c⟩
theorem obs_eq {p : Txt} {n : Nat} (s : PySem.W.SharedT) : p.obs n (HandSHeadRun.getT s) = (p.hook n).obs s.abs := by
  have e : HandSHeadRun.getT s = s.abs.heap.get? := funext (HandSHeadRun.getT_eq s)
  rw [e] <;> rfl

def Txt.tx (p : Txt) (K : PySem.W.Frag) : Tx where
  K := K
  fa := fun i => match p.fns[i]? with
    | some e => fadr K e
    | none => 0
  ca := fun i => match p.excs[i]? with
    | some x => He.ga K x
    | none => 0
  gh := []
  cl := fun i => match p.cls[i]? with
    | some x => He.ga K x
    | none => 0
  nm := if p.nm.Nodup then p.nm else []
  nd := by split <;> first | assumption | simp
structure SaysC (p : Txt) (K : PySem.W.Frag) : Prop where
  con : ∀ c ∈ p.cons, c.2.ok K c.1 = true
  ask : p.askB K = true
  mkr : ∀ z ∈ p.mks, mkB p K z = true
  mth : ∀ z ∈ p.mths, mthB p K z = true
  prp : ∀ z ∈ p.prps, prpB p K z = true
  fld : ∀ z ∈ p.flds, fldB p K z = true
  mkq : ∀ z ∈ p.mkrs, mkrB p K z = true
  dun : ∀ z ∈ p.duns, dnB p K z = true
  fa : ∀ f ∈ p.fa, f.ok K = true
  fn : ∀ e ∈ p.fns, okA K (fadr K e) e.qual = true
theorem Says.all {p : Txt} {K : PySem.W.Frag} (c : Says p K) : SaysC p K := by
  have h := c.c
  simp only [Txt.conB, Txt.clsB, Bool.and_eq_true, List.all_eq_true] at h
  obtain ⟨⟨⟨⟨h1, h2⟩, ⟨⟨⟨⟨⟨a1, a2⟩, a3⟩, a4⟩, a5⟩, a6⟩⟩, h4⟩, h5⟩ := h
  exact ⟨h1, h2, a1, a2, a3, a4, a5, a6, h4, h5⟩
theorem facts_mem {p : Txt} {K : PySem.W.Frag} (c : Says p K) {f : He.Fa} (h : f ∈ p.fa) : f.ok K = true := c.all.fa f h
theorem defs_mem {p : Txt} {K : PySem.W.Frag} (c : Says p K) {e : FnE} (h : e ∈ p.fns) : ∃ fd, FunD K e.name e.qual (defArgs e.st) (defBody e.st) (defScope e.st) [] [] (fadr K e) fd := by
  refine fn_at ?_ (c.all.fn e h)
  obtain ⟨i, hi, e1⟩ := List.mem_iff_getElem.mp h
  have hq := congrArg (fun l => l[i]?) c.d
  simp only [List.getElem?_map] at hq
  rw [List.getElem?_eq_getElem hi, e1] at hq
  exact Option.some.inj hq
section
variable {p : Txt} {P : Program} {w : World} {K : PySem.W.Frag} {mg : Str → Option Value} {base : Heap}
theorem reps_strs {T : Tx} {μ : List Addr} {H : Hp} : ∀ xs : List (List Nat), Reps T μ H (xs.map .str) ((xs.map fun s => He.Dv.str (toStr s)).map (He.Dv.v K))
  | [] => .nil
  | s :: r => .cons (.str s) (reps_strs r)
theorem con_fact (X : K.In base) (Gn : base.Ns mainGlobals mg) {x : Str} {c : CV} (h : c.ok K x = true) : ∃ v u, mg x = some u ∧ RelV v u ∧ ∀ T μ H, T.K = K → Rep T μ H c.d v := by
  cases c with
  | int i =>
    obtain ⟨t, e⟩ := He.int_ok X Gn h
    exact ⟨.int i, _, e, ⟨t, rfl⟩, fun T μ H _ => .int i⟩
  | tup xs =>
    obtain ⟨h1, h2⟩ := He.ba h
    have e := He.glo_ok X Gn h1
    refine ⟨.ref (He.ga K x), _, e, rfl, fun T μ H hK => ?_⟩
    exact .tup (by rw [hK]; exact He.tupB_ok h2 H) (reps_strs xs)
/-- a def without a parameter for the rest, at a level -/
def FnPln (p : Txt) (P : Program) (w : World) (K : PySem.W.Frag) (mg : Str → Option Value) (base : Heap) (k f : Nat) (e : FnE) : Prop :=
  ∃ fd ps, ((∃ oc od osl, K.lookup (fadr K e) = some ⟨oc, od, .func fd, osl⟩) ∧ ∃ args, argsOf (defArgs e.st) = some args ∧ ps = args.map (·.arg)) ∧ (e.own = none → mg e.name = some (.ref (He.ga K e.name))) ∧ PySem.W.keepIn K (.ref (fadr K e)) = true ∧ Binds K fd ps [] ∧ ps.length = e.fn.ps ∧
    (∀ (s : Shared) (us : List Value), us.length = ps.length → BindsTo s fd ⟨us, []⟩ (ps.zip us)) ∧ FnOk P w K mg base (L2.CX P w) k (fadr K e) fd ps (spF (p.tx K) e.fn.ps (evCall p.prog k f))
/-- a def with one -/
def FnRst (p : Txt) (P : Program) (w : World) (K : PySem.W.Frag) (mg : Str → Option Value) (base : Heap) (k f : Nat) (e : FnE) : Prop :=
  ∀ args v, restOf (defArgs e.st) = some (args, v) → FnR P w K mg base (L2.CX P w) k (fadr K e) (spR (p.tx K) args.length (evCall p.prog k f))
def FnsOk (p : Txt) (P : Program) (w : World) (K : PySem.W.Frag) (mg : Str → Option Value) (base : Heap) (k : Nat) : Prop :=
  ∀ (f : Nat) (e : FnE), p.fns[f]? = some e → (e.pln = true → FnPln p P w K mg base k f e) ∧ FnRst p P w K mg base k f e
theorem argsOf_ok {a : Arguments} {args : List Arg} (h : argsOf a = some args) : a = plainArgs args := by
  unfold argsOf at h; split at h
  · cases h; rfl
  · cases h
theorem ev0_bad {ds : List D} {st : Store} {f : Nat} : evCall p.prog 0 f ds st = .bad := evCall_zero _ _ _ _
/-- what a def binds -/
theorem fn_binds {e : FnE} {args : List Arg} {fd : FuncData} {a : Addr} (ha : argsOf (defArgs e.st) = some args) (h7 : (args.map (·.arg)).Nodup) (F : FunD K e.name e.qual (defArgs e.st) (defBody e.st) (defScope e.st) [] [] a fd) :
    ∀ (s : Shared) (us : List Value), us.length = (args.map (·.arg)).length → BindsTo s fd ⟨us, []⟩ ((args.map (·.arg)).zip us) := by
  have hb : ∀ (kV doc pm : Value) (an : Option Addr) (cdv ct : Value) (us : List Value), us.length = (args.map (·.arg)).length → bindArgs (PySem.W.fnOf e.name e.qual (defArgs e.st) (defBody e.st) (defScope e.st) .none kV doc pm an cdv ct) ⟨us, []⟩ = pure ((args.map (·.arg)).zip us) := fun kV doc pm an cdv ct us hl => by
    rw [argsOf_ok ha]
    exact bind_plain args us hl h7
  exact FunD.bindsA F hb
/-- a def of the module is known by its name -/
theorem glo_fn {e : FnE} (X : K.In base) (Gn : base.Ns mainGlobals mg) (c : Says p K) (hm : e ∈ p.fns) (h : e.own = none) : mg e.name = some (.ref (He.ga K e.name)) := by
  refine He.glo_ok X Gn (facts_mem c (List.mem_append_left _ (List.mem_filterMap.mpr ⟨e, hm, ?_⟩)))
  unfold FnE.gname; rw [h]; rfl
theorem fadr_glo {e : FnE} (h : e.own = none) : fadr K e = He.ga K e.name := by unfold fadr; rw [h]
theorem tx_fa {e : FnE} {f : Nat} (h : p.fns[f]? = some e) (gh : List Addr) : ((p.tx K).with gh).fa f = fadr K e := by
  show (match p.fns[f]? with | some e => fadr K e | none => 0) = _
  rw [h]
theorem tx_cl {C : Str} {c : Nat} (h : p.cls[c]? = some C) (gh : List Addr) : ((p.tx K).with gh).cl c = He.ga K C := by
  show (match p.cls[c]? with | some x => He.ga K x | none => 0) = _
  rw [h]
theorem callBody_aft {T : Tx} {E : XK} {kn : Kn} {fn : Fn} {ds : List D} {st : Store} {μ : List Addr} {H : Hp} {Q : VK} (h : Aft T (fun c d _ H' => E c d H') [] (RepT T) (callBody kn fn ds st) μ H Q) :
    ds.length = fn.ps ∧ AftS T (fun c d _ H' => E c d H') { nx := fun _ H' => Q .non H', rt := Q } (evSs kn fn.body (AF.envOf fn.n ds) st) μ H := by
  unfold callBody at h
  split at h
  · rename_i hl
    refine ⟨hl, ?_⟩
    cases e : evSs kn fn.body (AF.envOf fn.n ds) st with
    | ok fl ρ st' =>
      rw [e] at h
      cases fl with
      | next => exact fun μ' H' σ' x R re => h μ' H' .non x R .non
      | ret d => exact fun μ' H' σ' x R re v rv => h μ' H' v x R rv
      | brk => exact h.elim
      | cont => exact h.elim
    | exc y ρ st' => rw [e] at h; exact fun μ' H' σ' cls dx x R re P => h μ' H' cls dx x R P
    | bad => rw [e] at h; exact h.elim
  · exact h.elim
theorem scopeOk_ok {N ps : List Str} {sc : Scope} (h : scopeOk N ps sc = true) : FnScope N ps sc := by
  unfold scopeOk at h
  simp only [Bool.and_eq_true, Bool.not_eq_true', decide_eq_true_eq, List.all_eq_true, Bool.or_eq_true] at h
  obtain ⟨⟨⟨⟨⟨⟨h1, h2⟩, h3⟩, h4⟩, h5⟩, h6⟩, h7⟩ := h
  refine ⟨?_, h2, h3, h4, h5, fun x hx => ?_, fun y hy e => ?_⟩
  · split at h1
    · assumption
    · cases h1
  · rcases h6 x hx with z | z
    · exact .inl (isLocal_ok z)
    · exact .inr (isCell_ok z)
  · have := h7 y hy
    rw [e] at this; cases this
theorem FunD.lk {x qual : Str} {params : Arguments} {body : List Stmt} {scope : Scope} {dvs : List V} {kws : List (Str × V)} {f : Addr} {fd : FuncData} (F : FunD K x qual params body scope dvs kws f fd) : ∃ oc od osl, K.lookup f = some ⟨oc, od, .func fd, osl⟩ := by
  obtain ⟨oc, od, dV, kV, doc, pm, an, cdv, ct, osl, _, lk, _⟩ := F.ex
  exact ⟨oc, od, osl, lk⟩
theorem restOf_ok {a : Arguments} {args : List Arg} {v : Arg} (h : restOf a = some (args, v)) : a = restArgs args v := by
  unfold restOf at h; split at h
  · cases h; rfl
  · cases h
theorem chk_rest {e : FnE} {args : List Arg} {v : Arg} (h : chkFn p e = true) (hr : restOf (defArgs e.st) = some (args, v)) : (args.map (·.arg)).Nodup ∧ args.length + 1 = e.fn.ps ∧ e.fn.n = e.N.length ∧ scopeOk e.N (args.map (·.arg) ++ [v.arg]) (defScope e.st) = true ∧ chkSs e.fn.body (p.g e) (defBody e.st) = true ∧ p.nm.Nodup := by
  have ha : argsOf (defArgs e.st) = none := by rw [restOf_ok hr]; rfl
  unfold chkFn at h
  rw [ha, hr] at h
  simp only [Bool.and_eq_true, decide_eq_true_eq] at h
  obtain ⟨⟨⟨⟨⟨k1, k2⟩, k3⟩, k4⟩, k5⟩, k6⟩ := h
  exact ⟨k1, k2, k3, k4, k5, k6⟩
theorem chk_parts {e : FnE} (h : chkFn p e = true) (hpl : e.pln = true) : ∃ args, argsOf (defArgs e.st) = some args ∧ (args.map (·.arg)).Nodup ∧ args.length = e.fn.ps ∧ e.fn.n = e.N.length ∧ scopeOk e.N (args.map (·.arg)) (defScope e.st) = true ∧ chkSs e.fn.body (p.g e) (defBody e.st) = true ∧ p.nm.Nodup := by
  unfold chkFn at h
  split at h
  · rename_i args ha
    simp only [Bool.and_eq_true, decide_eq_true_eq] at h
    obtain ⟨⟨⟨⟨⟨k1, k2⟩, k3⟩, k4⟩, k5⟩, k6⟩ := h
    exact ⟨args, ha, k1, k2, k3, k4, k5, k6⟩
  · rename_i ha
    unfold FnE.pln at hpl
    rw [ha] at hpl
    cases hpl
/-- what the classes give to a body at its level -/
theorem cls_ok (c : Says p K) (gh : List Addr) {k : Nat} {Y : Cx} (hY : Y.prog = P ∧ Y.w = w ∧ Y.K = K ∧ Y.mg = mg ∧ Y.base = base) (X : K.In base) (Gn : base.Ns mainGlobals mg) (hr : Room k Y.A) (ih : FnsOk p P w K mg base k) (ih1 : FnsOk p P w K mg base (k - 1)) :
    (∀ (c : Nat) (x : Str) (f n : Nat), (c, x, f, n) ∈ p.mks → Y.mg x = some (.ref (((p.tx K).with gh).cl c)) ∧ MkRun Y ((p.tx K).with gh) (p.prog.kn k) c f n) ∧
    (∀ (c m f n : Nat), (c, m, f, n) ∈ p.mths → ∀ x, p.nm[m]? = some x → ∃ k' fd ps, Cls Y.K (((p.tx K).with gh).cl c) ∧ Meth Y.K (((p.tx K).with gh).cl c) x (((p.tx K).with gh).fa f) ∧ Binds Y.K fd ps [] ∧ Room k' Y.A ∧ FnOk Y.prog Y.w Y.K Y.mg Y.base (L2.CX Y.prog Y.w) k' (((p.tx K).with gh).fa f) fd ps (spF ((p.tx K).with gh) n ((p.prog.kn k).call f))) ∧
    (∀ (c m f : Nat), (c, m, f) ∈ p.prps → ∀ x, p.nm[m]? = some x → PrpRun Y ((p.tx K).with gh) (p.prog.kn k) c f x) ∧
    (∀ (c : Nat) (x : Str) (f r : Nat), (c, x, f, r) ∈ p.mkrs → Y.mg x = some (.ref (((p.tx K).with gh).cl c)) ∧ MkRRun Y ((p.tx K).with gh) (p.prog.kn k) c f r) ∧
    (∀ (u : DU) (c f n : Nat), (u, c, f, n) ∈ p.duns → DunRun u Y ((p.tx K).with gh) (p.prog.kn k) c f n) ∧
    (∀ (c f : Nat), (c, f) ∈ p.flds → ∀ x, p.nm[f]? = some x → Cls Y.K (((p.tx K).with gh).cl c) ∧ NoAttr Y.K (((p.tx K).with gh).cl c) x) := by
  obtain ⟨rfl, rfl, rfl, rfl, rfl⟩ := hY
  have lo : ∀ f e, p.fns[f]? = some e → (∀ ds st, (p.prog.kn k).call1 f ds st = .bad) ∨ ∃ j, k = j + 1 ∧ (p.prog.kn k).call1 f = evCall p.prog j f := fun f e _ => by
    cases k with
    | zero => exact .inl fun ds st => evCall_zero p.prog f ds st
    | succ j => exact .inr ⟨j, rfl, rfl⟩
  refine ⟨fun cc x f n hm => ?_, fun cc m f n hm x hx => ?_, fun cc m f hm x hx => ?_, fun cc x f r hm => ?_, fun u cc f n hm => ?_, fun cc f hm x hx => ?_⟩
  · have hb := c.all.mkr _ hm
    unfold mkB at hb
    split at hb
    · rename_i C e hC he
      simp only [Bool.and_eq_true, decide_eq_true_eq] at hb
      obtain ⟨⟨⟨⟨⟨rfl, b1⟩, b2⟩, b3⟩, b4⟩, b5⟩ := hb
      rw [tx_cl hC gh]
      refine ⟨He.glo_ok X Gn b1, ?_⟩
      unfold MkRun
      rw [tx_cl hC gh, tx_fa he gh]
      refine ⟨by rw [b3]; exact He.mkr_ok b2, ?_⟩
      rcases lo f e he with z | ⟨j, rfl, z⟩
      · exact .inl z
      · obtain ⟨fd, ps, _, _, _, m3, _, _, m6⟩ := (ih1 f e he).1 b5
        refine .inr ⟨j, fd, ps, ?_, hr, m3⟩
        rw [z, ← b4]
        exact m6
    · cases hb
  · have hb := c.all.mth _ hm
    unfold mthB at hb
    split at hb
    · rename_i C y e hC hy he
      simp only [Bool.and_eq_true, decide_eq_true_eq] at hb
      obtain ⟨⟨⟨⟨b1, b2⟩, b3⟩, b4⟩, b5⟩ := hb
      dsimp only at hy he
      rw [hx] at hy
      cases hy
      rw [tx_cl hC gh, tx_fa he gh]
      obtain ⟨fd, ps, _, _, _, m3, _, _, m6⟩ := (ih f e he).1 b5
      refine ⟨k, fd, ps, He.cls_ok b1, by rw [b3]; exact He.meth_ok b2, m3, hr, ?_⟩
      rw [← b4]
      exact m6
    · cases hb
  · have hb := c.all.prp _ hm
    unfold prpB at hb
    split at hb
    · rename_i C y e hC hy he
      simp only [Bool.and_eq_true, decide_eq_true_eq] at hb
      obtain ⟨⟨⟨b1, b2⟩, b3⟩, b5⟩ := hb
      dsimp only at hy he
      rw [hx] at hy
      cases hy
      unfold PrpRun
      rw [tx_cl hC gh, tx_fa he gh]
      refine ⟨He.cls_ok b1, ?_⟩
      rcases lo f e he with z | ⟨j, rfl, z⟩
      · exact .inl z
      · obtain ⟨fd, ps, _, _, _, m3, _, _, m6⟩ := (ih1 f e he).1 b5
        refine .inr ⟨_, j, fd, ps, prpO_ok b2, ?_, hr, m3⟩
        rw [z, ← b3]
        exact m6
    · cases hb
  · have hb := c.all.mkq _ hm
    unfold mkrB at hb
    split at hb
    · rename_i C e hC he
      simp only [Bool.and_eq_true, decide_eq_true_eq] at hb
      obtain ⟨⟨⟨⟨rfl, b1⟩, b2⟩, b3⟩, b4⟩ := hb
      rw [tx_cl hC gh]
      refine ⟨He.glo_ok X Gn b1, ?_⟩
      unfold MkRRun
      rw [tx_cl hC gh, tx_fa he gh]
      refine ⟨(He.mkr_ok b2).kp, ?_⟩
      rcases lo f e he with z | ⟨j, rfl, z⟩
      · exact .inl z
      · split at b4
        · rename_i args v hr'
          have b4 := of_decide_eq_true b4
          refine .inr ⟨j, by rw [b3]; exact He.mkr_ok b2, ?_, hr⟩
          have := (ih1 f e he).2 args v hr'
          rw [z, ← b4]
          exact this
        · cases b4
    · cases hb
  · have hb := c.all.dun _ hm
    unfold dnB at hb
    split at hb
    · rename_i C e hC he
      simp only [Bool.and_eq_true, decide_eq_true_eq] at hb
      obtain ⟨⟨b1, b2⟩, b5⟩ := hb
      unfold DunRun
      rw [tx_cl hC gh, tx_fa he gh]
      refine ⟨dunB_ok b1, ?_⟩
      rcases lo f e he with z | ⟨j, rfl, z⟩
      · exact .inl z
      · obtain ⟨fd, ps, _, _, _, m3, _, _, m6⟩ := (ih1 f e he).1 b5
        refine .inr ⟨j, fd, ps, ?_, hr, m3⟩
        rw [z, ← b2]
        exact m6
    · cases hb
  · have hb := c.all.fld _ hm
    unfold fldB at hb
    split at hb
    · rename_i C y hC hy
      simp only [Bool.and_eq_true] at hb
      dsimp only at hy
      rw [hx] at hy
      cases hy
      rw [tx_cl hC gh]
      exact ⟨He.cls_ok hb.1, He.noat_ok hb.2⟩
    · cases hb
/-- a body of a def does what its core does -/
theorem body_ok (X : K.In base) (Gn : base.Ns mainGlobals mg) (c : Says p K) {k : Nat} (ih : FnsOk p P w K mg base k) (ih1 : FnsOk p P w K mg base (k - 1)) {f : Nat} {e : FnE} (he : p.fns[f]? = some e) {ns : List Str} (k3 : e.fn.n = e.N.length) (k4 : scopeOk e.N ns (defScope e.st) = true)
    (k5 : chkSs e.fn.body (p.g e) (defBody e.st) = true) (k6 : p.nm.Nodup) {cdv : Value} {A : Around} {outer : List PySem.Env} {s : Shared} {H : Hp} {vs : List V} {Q : VK} {E : XK} (hr : Room k (A.deeper (envOfC e.qual (defScope e.st) s.heap.objs.size (fadr K e) cdv))) {n : Nat} (q : spF (p.tx K) n (evCall p.prog (k + 1) f) vs H Q E) :
    ∃ t, PSs (cxOf (L2.CX P w) P w K mg base e.N e.qual (defScope e.st) (fadr K e) cdv A outer s H E) (defBody e.st) t ∧ t { nx := fun _ H' => Q .non H', rt := Q } (L2.start e.N vs) H := by
  have S := scopeOk_ok k4
  obtain ⟨_, gh, μ, ds, st, R, rs, Af⟩ := q
  have ef : evCall p.prog (k + 1) f ds st = callBody (p.prog.kn k) e.fn ds st := by
    have h1 : p.prog.fns[f]? = some e.fn := by
      show (p.fns.map (·.fn))[f]? = _
      rw [List.getElem?_map, he]; rfl
    rw [evCall_succ, h1]
  rw [ef] at Af
  obtain ⟨hl, AS⟩ := callBody_aft Af
  refine ⟨rdS ((p.tx K).with gh) (fun c d _ H' => E c d H') (evSs (p.prog.kn k) e.fn.body), ?_, μ, AF.envOf e.fn.n ds, st, R, REnv.envOf rs k3, AS⟩
  have hnm : ((p.tx K).with gh).nm = p.nm := by show (if p.nm.Nodup then p.nm else []) = _; rw [if_pos k6]
  obtain ⟨c1, c2, c3, c5, c6, c4⟩ := cls_ok (Y := cxOf (L2.CX P w) P w K mg base e.N e.qual (defScope e.st) (fadr K e) cdv A outer s H E) c gh ⟨rfl, rfl, rfl, rfl, rfl⟩ X Gn hr ih ih1
  refine soundSs e.fn.body (p.g e) (defBody e.st) k5 _ _ _ _ ⟨rfl, S.nd, rfl, S.kind, fun x _ => rfl, rfl, rfl, takes_of (E := E) rfl rfl rfl rfl, ?_, ?_, ?_, ?_, hnm, c1, by rw [hnm]; exact c2, by rw [hnm]; exact c3, c5, c6, by rw [hnm]; exact c4⟩ ⟨passes_of rfl, ?_, rfl, rfl, ?_⟩
  · have := hr.un
    show (A.deeper _).units + 65 < cLine
    omega
  · intro x hx
    exact He.free_ok X Gn (facts_mem c (List.mem_append_right _ (List.mem_append_right _ (List.mem_append_right _ (List.mem_map_of_mem hx)))))
  · intro i x d h1 h2
    have h1 : (p.cons.map (·.1))[i]? = some x := h1
    have h2 : (p.cons.map (·.2.d))[i]? = some d := h2
    rw [List.getElem?_map] at h1 h2
    cases e1 : p.cons[i]? with
    | none => rw [e1] at h1; cases h1
    | some q =>
      rw [e1] at h1 h2
      cases h1; cases h2
      obtain ⟨v, u, m1, m2, m3⟩ := con_fact X Gn (c.all.con q (List.mem_of_getElem? e1))
      exact ⟨v, u, m1, m2, fun gh' μ H => m3 _ μ H rfl⟩
  · intro f' x n h1
    have h1 : (p.fns.map fun e => (e.cname, e.fn.ps))[f']? = some (some x, n) := h1
    rw [List.getElem?_map] at h1
    cases e1 : p.fns[f']? with
    | none => rw [e1] at h1; cases h1
    | some e' =>
      rw [e1] at h1
      simp only [Option.map_some, Option.some.injEq, Prod.mk.injEq] at h1
      obtain ⟨hgn, hps⟩ := h1
      subst hps
      have ho : e'.pln = true ∧ e'.own = none ∧ x = e'.name := by
        unfold FnE.cname at hgn
        split at hgn
        · rename_i hp
          unfold FnE.gname at hgn
          cases z : e'.own with
          | none => rw [z] at hgn; exact ⟨hp, rfl, (Option.some.inj hgn).symm⟩
          | some _ => rw [z] at hgn; cases hgn
        · cases hgn
      obtain ⟨hp, ho, rfl⟩ := ho
      obtain ⟨fd', ps', _, m1, m2, m3, m4, _, m5⟩ := (ih f' e' e1).1 hp
      refine ⟨k, fd', ps', by rw [tx_fa e1 gh, fadr_glo ho]; exact m1 ho, by rw [tx_fa e1 gh]; exact m2, m3, hr, by rw [tx_fa e1 gh]; exact m5⟩
  · intro i x h1
    have h1 : p.excs[i]? = some x := h1
    have hx := List.mem_of_getElem? h1
    have eca : ((p.tx K).with gh).ca i = He.ga K x := by show (match p.excs[i]? with | some x => He.ga K x | none => 0) = _; rw [h1]
    obtain ⟨q1, q2, q3, q4⟩ := He.exc_ok (facts_mem c (List.mem_append_right _ (List.mem_append_right _ (List.mem_append_left _ (List.mem_map_of_mem (f := He.Fa.exc) hx)))))
    have q5 := He.glo_ok X Gn (facts_mem c (List.mem_append_right _ (List.mem_append_left _ (List.mem_map_of_mem (f := He.Fa.glo) hx))))
    exact ⟨_, _, _, _, PySem.F.excBase_ValueError, by rw [eca]; exact q1, by rw [eca]; exact q5, by rw [eca]; exact q2, by rw [eca]; exact raises_own q3 q4⟩
  · intro i C x y h1 h2 hask
    have h1 : p.excs[i]? = some x := h1
    have h2 : p.excs[C]? = some y := h2
    have eca : ((p.tx K).with gh).ca i = He.ga K x := by show (match p.excs[i]? with | some x => He.ga K x | none => 0) = _; rw [h1]
    have ecb : ((p.tx K).with gh).ca C = He.ga K y := by show (match p.excs[C]? with | some x => He.ga K x | none => 0) = _; rw [h2]
    have hq := List.all_eq_true.mp c.all.ask C hask
    rw [h2] at hq
    have hr := List.all_eq_true.mp hq i (List.mem_range.mpr (List.getElem?_eq_some_iff.mp h1).1)
    rw [h1] at hr
    simp only [Bool.and_eq_true, decide_eq_true_eq] at hr
    rw [eca, ecb]
    exact ⟨hr.1.1, hr.1.2, excB_ok hr.2⟩
theorem fns_ok0 (X : K.In base) (Gn : base.Ns mainGlobals mg) (c : Says p K) (hc : p.fns.all (chkFn p) = true) : ∀ k, FnsOk p P w K mg base k ∧ FnsOk p P w K mg base (k - 1) := by
  intro k
  induction k with
  | zero =>
    have z : FnsOk p P w K mg base 0 := by
      intro f e he
      have hm := List.mem_of_getElem? he
      obtain ⟨fd, F⟩ := defs_mem c hm
      refine ⟨fun hpl => ?_, fun args v hrest => ?_⟩
      · obtain ⟨args, ha, k1, k2, k3, k4, k5, _⟩ := chk_parts (List.all_eq_true.mp hc e hm) hpl
        have b := fn_binds (K := K) (fd := fd) ha k1 F
        refine ⟨fd, args.map (·.arg), ⟨FunD.lk F, args, ha, rfl⟩, fun ho => glo_fn X Gn c hm ho, F.kp, fun s us _ hl => ?_, by simpa using k2, b, ⟨fun vs H Q E q => ?_, fun A outer s H ar us vs Q E _ _ _ _ q => ?_⟩⟩
        · rw [List.append_nil] at hl ⊢; exact b s us hl
        · rw [q.1]; simpa using k2.symm
        · obtain ⟨_, gh, μ, ds, st, _, _, A⟩ := q
          rw [ev0_bad] at A
          exact A.elim
      · intro A outer s H us vs Q E hr e0 r hsp
        obtain ⟨ws, rest, _, _, _, hq⟩ := hsp
        obtain ⟨_, gh, μ, ds, st, _, _, Af⟩ := hq s.heap.objs.size (e0.hok.fresh (Nat.le_refl _))
        rw [ev0_bad] at Af
        exact Af.elim
    exact ⟨z, z⟩
  | succ k ih2 =>
    obtain ⟨ih, ih1⟩ := ih2
    refine ⟨?_, ih⟩
    intro f e he
    have hm := List.mem_of_getElem? he
    obtain ⟨fd, F⟩ := defs_mem c hm
    refine ⟨fun hpl => ?_, fun args v hrest => ?_⟩
    · obtain ⟨args, ha, k1, k2, k3, k4, k5, k6⟩ := chk_parts (List.all_eq_true.mp hc e hm) hpl
      have b := fn_binds (K := K) (fd := fd) ha k1 F
      have S := scopeOk_ok k4
      refine ⟨fd, args.map (·.arg), ⟨FunD.lk F, args, ha, rfl⟩, fun ho => glo_fn X Gn c hm ho, F.kp, fun s us _ hl => ?_, by simpa using k2, b,
        F.ok S (fun vs H Q E q => by rw [q.1]; simpa using k2.symm) fun cdv A outer s H vs Q E hr q => body_ok X Gn c ih ih1 he k3 k4 k5 k6 hr q⟩
      rw [List.append_nil] at hl ⊢; exact b s us hl
    · obtain ⟨k1, k2, k3, k4, k5, k6⟩ := chk_rest (List.all_eq_true.mp hc e hm) hrest
      have S := scopeOk_ok k4
      obtain ⟨oc, od, dV, kV, doc, pm, an, cdv, ct, osl, rfl, lk, hcd, hdf, _⟩ := F.ex
      have hdv : dV = .none := by
        rcases hdf with ⟨_, h⟩ | ⟨h, _⟩
        · exact h
        · exact absurd rfl h
      subst hdv
      have hb : ∀ us rest : List Value, us.length = (args.map (·.arg)).length → bindArgs (PySem.W.fnOf e.name e.qual (defArgs e.st) (defBody e.st) (defScope e.st) .none kV doc pm an cdv ct) ⟨us ++ rest, []⟩ = (newTuple rest >>= fun t => pure ((args.map (·.arg)).zip us ++ [(v.arg, t)])) := fun us rest hl => by
        rw [restOf_ok hrest]
        exact bind_rest args v us rest hl k1
      have go := StX.fn_star (P := P) (w := w) (mg := mg) (base := base) (k := k) (CX := L2.CX P w) (sp := spF (p.tx K) (args.length + 1) (evCall p.prog (k + 1) f)) (pv := v.arg) (ps := args.map (·.arg)) lk hcd S StX.cxUp hb fun A outer s H vs Q E hr hq => body_ok X Gn c ih ih1 he k3 k4 k5 k6 hr hq
      refine FnR.imp go fun vs H Q E ⟨ws, rest, h1, h2, h3, h4⟩ => ⟨ws, rest, h1, by simpa using h2, h3, h4⟩
theorem fns_ok (X : K.In base) (Gn : base.Ns mainGlobals mg) (c : Says p K) (hc : p.fns.all (chkFn p) = true) (k : Nat) : FnsOk p P w K mg base k := (fns_ok0 X Gn c hc k).1
/-- the script -/
theorem scr_rep {T : Tx} {μ : List Addr} {H : Hp} {a : Addr} {ns : List Int} (hO : Only H) (hS : SqL T.K H a (ns.map V.int)) : Rep T μ H (.scr ns) (.ref a) := by
  refine .scr ?_
  rcases hS with (h | ⟨o, h⟩) | h
  · rcases hO a with z | ⟨o, xs, z⟩
    · rw [z] at h; cases h
    · rw [z] at h; cases h
  · exact .inl ⟨o, h⟩
  · exact .inr h
/-- a law's def keeps its promise, where the core's law is right -/
theorem law_facts {k li : Nat} {le : FnE} {fa : Addr} {h : Heap} (X : K.In h) (Gn : h.Ns mainGlobals mg) (c : Says p K) (hc : p.fns.all (chkFn p) = true) (hli : p.fns[li]? = some le) (h1 : le.fn.ps = 1) (h0 : le.own = none) (h2 : le.pln = true) (hfa : mg le.name = some (.ref fa)) :
    ∃ fd x, (∀ (s : Shared) (u : Value), BindsTo s fd ⟨[u], []⟩ [(x, u)]) ∧ ∀ base : Heap, K.In base → base.Ns mainGlobals mg → FnOk P w K mg base (L2.CX P w) k fa fd [x] (spF (p.tx K) 1 (evCall p.prog k li)) := by
  obtain ⟨fd, ps, ⟨⟨oc, od, osl, lk⟩, args, ha, ep⟩, m1, m2, m3, m4, m5, m6⟩ := (fns_ok (P := P) (w := w) X Gn c hc k li le hli).1 h2
  rw [h1] at m4
  obtain ⟨x, hx⟩ : ∃ x, ps = [x] := by
    match ps, m4 with
    | [x], _ => exact ⟨x, rfl⟩
  have e := hfa.symm.trans (m1 h0)
  cases e
  refine ⟨fd, x, fun s u => by have := m5 s [u] (by rw [hx]; rfl); rw [hx] at this; exact this, fun base KB GB => ?_⟩
  obtain ⟨fd', ps', ⟨⟨oc', od', osl', lk'⟩, args', ha', ep'⟩, n1, n2, n3, n4, n5, n6⟩ := (fns_ok (P := P) (w := w) KB GB c hc k li le hli).1 h2
  rw [lk] at lk'
  rw [ha] at ha'
  cases lk'; cases ha'
  rw [ep', ← ep, hx, h1, fadr_glo h0] at n6
  exact n6
end
/-- a law's end, over a head of these facts -/
theorem walk_A {p : Txt} {l : PySem.W.OpenLaw} {n k N li : Nat} {le : FnE} {q : Program} {loose : List Str} {XP : (Str → Option Value) → Heap → Prop} {d : DefRec}
    (hn : l.most = some n) (hn2 : n ≤ sizeLine) (hdf : d.params.defaults = []) (hr : Room k callerA) (hname : d.name = le.name) (hc : p.fns.all (chkFn p) = true) (hli : p.fns[li]? = some le) (h1 : le.fn.ps = 1) (h0 : le.own = none) (h2 : le.pln = true)
    (pure_ : ∀ ns : List Int, ns.length ≤ n → ∃ st, evCall p.prog k li [.scr ns] [] = .ok (.bl true) st) :
    PySem.W.WalkO q loose XP (p.hook N).says l.row.toRowW d [] (fun f vs => PySem.call f vs) := by
  refine Att.attach_call hn hdf fun w s₀ s₁ mg mb fa o pm cd doc a vs ns Gn Y ho hd hcd hmg hobj hints hlen hg => ?_
  obtain ⟨K, KX, c⟩ := Y
  rw [hname] at hmg
  obtain ⟨fd, x, hb, hF⟩ := law_facts (P := l.prog) (w := w) (k := k) KX Gn.T.g c hc hli h1 h0 h2 hmg
  refine law_call (CX := L2.CX l.prog w) KX Gn.T.g Gn.T.b Gn.T.builtins Gn.T.nolimit hg hobj hints (Nat.le_trans hlen hn2) hr hF hb (fun H hO hS => ?_) fun H e s' h => ?_
  · obtain ⟨st, e⟩ := pure_ ns hlen
    refine ⟨rfl, [], [], [.scr ns], [], ⟨rfl, fun i j a h => by simp at h, fun n o h => by simp at h, fun a ha => by cases ha⟩, .cons (scr_rep hO hS) .nil, ?_⟩
    rw [e]
    intro μ' H' v _ _ r
    cases r; rfl
  · obtain ⟨_, _, _, _, _, _, _, _, _, _, _, _, h⟩ := h
    exact h
end AF

namespace K21
open AF PySem
def top (i : Nat) : Stmt := PySem.Challenge.pw_anyfloors_k21_houses_at_every_bound.main.body.getD i (.Pass ⟨0, 0, 0, 0⟩)
def mtd (i j : Nat) : Stmt := match top i with
  | .ClassDef _ _ _ body _ _ _ _ _ _ _ => body.getD j (.Pass ⟨0, 0, 0, 0⟩)
  | s => s
def f_wall_b1 : Ss := (.cons .pass .nil)
def f_wall : Fn := ⟨1, 1, (.cons (.whl (.bl true) f_wall_b1) .nil)⟩
def fis_number : Fn := ⟨3, 3, (.cons (.ret (.and (.isi .int (.var 0)) (.and (.not (.isi .bool (.var 0))) (.chn .le .le (.var 1) (.var 0) (.var 2))))) .nil)⟩
def fis_tuple : Fn := ⟨3, 3, (.cons (.ret (.and (.isi .tuple (.var 0)) (.chn .le .le (.var 1) (.blt .len false (.cons (.var 0) .nil)) (.var 2)))) .nil)⟩
def fis_word : Fn := ⟨2, 2, (.cons (.ret (.and (.isi .str (.var 0)) (.cmp .isin (.var 0) (.var 1)))) .nil)⟩
def fis_floor : Fn := ⟨1, 1, (.cons (.ret (.and (.call 2 (.cons (.var 0) (.cons (.int 2) (.cons (.int 2) .nil)))) (.and (.call 3 (.cons (.idx (.var 0) (.int 0)) (.cons (.tup (.cons (.str [98]) (.cons (.str [116]) .nil))) .nil))) (.call 1 (.cons (.idx (.var 0) (.int 1)) (.cons (.int 0) (.cons (.int 3) .nil))))))) .nil)⟩
def fis_good_lift : Fn := ⟨1, 1, (.cons (.ite (.or (.not (.call 2 (.cons (.var 0) (.cons (.int 6) (.cons (.int 6) .nil))))) (.or (.not (.call 3 (.cons (.idx (.var 0) (.int 0)) (.cons (.con 0) .nil)))) (.not (.call 1 (.cons (.idx (.var 0) (.int 1)) (.cons (.int 1) (.cons (.int 4) .nil))))))) (.cons (.ret (.bl false)) .nil) .nil) (.cons (.ite (.or (.not (.call 1 (.cons (.idx (.var 0) (.int 2)) (.cons (.int 1) (.cons (.int 20) .nil))))) (.not (.call 1 (.cons (.idx (.var 0) (.int 3)) (.cons (.int 1) (.cons (.int 5) .nil)))))) (.cons (.ret (.bl false)) .nil) .nil) (.cons (.ret (.and (.call 4 (.cons (.idx (.var 0) (.int 4)) .nil)) (.call 3 (.cons (.idx (.var 0) (.int 5)) (.cons (.tup (.cons (.str [117, 112]) (.cons (.str [100, 111, 119, 110]) .nil))) .nil))))) .nil)))⟩
def fis_call : Fn := ⟨1, 1, (.cons (.ite (.or (.not (.call 2 (.cons (.var 0) (.cons (.int 3) (.cons (.int 3) .nil))))) (.not (.call 1 (.cons (.idx (.var 0) (.int 0)) (.cons (.int 0) (.cons (.int 1000) .nil)))))) (.cons (.ret (.bl false)) .nil) .nil) (.cons (.ret (.and (.call 4 (.cons (.idx (.var 0) (.int 1)) .nil)) (.and (.call 4 (.cons (.idx (.var 0) (.int 2)) .nil)) (.cmp .ne (.idx (.var 0) (.int 1)) (.idx (.var 0) (.int 2)))))) .nil))⟩
def fare_good_calls : Fn := ⟨4, 1, (.cons (.ite (.or (.not (.call 2 (.cons (.var 0) (.cons (.int 0) (.cons (.int 4) .nil))))) (.not (.blt .all false (.cons (.lc false [1] (.name 1) (.of (.var 0)) .none (.call 6 (.cons (.var 1) .nil))) .nil)))) (.cons (.ret (.bl false)) .nil) .nil) (.cons (.ret (.blt .all false (.cons (.lc false [2, 3] (.tup [(.name 2), (.name 3)]) (.zip (.var 0) (.slc (.var 0) (.some (.int 1)) .none)) .none (.cmp .le (.idx (.var 2) (.int 0)) (.idx (.var 3) (.int 0)))) .nil))) .nil))⟩
def ffloor_form : Fn := ⟨1, 1, (.cons (.ret (.ite (.cmp .eq (.idx (.var 0) (.int 0)) (.str [98])) (.tup (.cons (.int 0) (.cons (.idx (.var 0) (.int 1)) .nil))) (.tup (.cons (.int 1) (.cons (.bin .sub false (.neg (.int 1)) (.idx (.var 0) (.int 1))) .nil))))) .nil)⟩
def fworth : Fn := ⟨2, 2, (.cons (.ret (.bin .add false (.bin .mul false (.idx (.var 0) (.int 0)) (.var 1)) (.idx (.var 0) (.int 1)))) .nil)⟩
def fadded : Fn := ⟨2, 2, (.cons (.ret (.tup (.cons (.bin .add false (.idx (.var 0) (.int 0)) (.idx (.var 1) (.int 0))) (.cons (.bin .add false (.idx (.var 0) (.int 1)) (.idx (.var 1) (.int 1))) .nil)))) .nil)⟩
def fmany_times : Fn := ⟨2, 2, (.cons (.ret (.tup (.cons (.bin .mul false (.idx (.var 0) (.int 0)) (.var 1)) (.cons (.bin .mul false (.idx (.var 0) (.int 1)) (.var 1)) .nil)))) .nil)⟩
def fless : Fn := ⟨2, 2, (.cons (.ret (.tup (.cons (.bin .sub false (.idx (.var 0) (.int 0)) (.idx (.var 1) (.int 0))) (.cons (.bin .sub false (.idx (.var 0) (.int 1)) (.idx (.var 1) (.int 1))) .nil)))) .nil)⟩
def fsign_of : Fn := ⟨3, 2, (.cons (.asg (.name 2) (.call 9 (.cons (.var 0) (.cons (.var 1) .nil)))) (.cons (.ret (.ite (.cmp .gt (.var 2) (.int 0)) (.int 1) (.ite (.cmp .lt (.var 2) (.int 0)) (.neg (.int 1)) (.int 0)))) .nil))⟩
def fsame_to_s1 : S := (.asg (.tup [(.name 2), (.name 3)]) (.var 0))
def fsame_to_s2 : S := (.asg (.name 4) (.call 13 (.cons (.var 0) (.cons (.var 1) .nil))))
def fsame_to_s3 : S := (.ite (.cmp .eq (.var 2) (.int 0)) (.cons (.ret .non) .nil) .nil)
def fsame_to_s4 : S := (.ite (.cmp .eq (.var 4) (.int 0)) (.cons (.ret (.var 1)) .nil) .nil)
def fsame_to_s5 : S := (.ite (.cmp .gt (.bin .mul false (.var 4) (.var 2)) (.int 0)) (.cons (.ret .non) .nil) .nil)
def fsame_to_s6 : S := (.ret (.ite (.cmp .lt (.bin .mul false (.var 4) (.var 2)) (.int 0)) (.bin .fdiv false (.bin .sub false (.blt .abs false (.cons (.var 3) .nil)) (.int 1)) (.blt .abs false (.cons (.var 2) .nil))) .non))
def fsame_to : Fn := ⟨5, 2, (.cons fsame_to_s1 (.cons fsame_to_s2 (.cons fsame_to_s3 (.cons fsame_to_s4 (.cons fsame_to_s5 (.cons fsame_to_s6 .nil))))))⟩
def fneed_lift : Fn := ⟨1, 1, (.cons (.ite (.not (.call 5 (.cons (.var 0) .nil))) (.cons (.rais 1 .nil) .nil) .nil) .nil)⟩
def fneed_calls : Fn := ⟨1, 1, (.cons (.ite (.not (.call 7 (.cons (.var 0) .nil))) (.cons (.rais 2 .nil) .nil) .nil) .nil)⟩
def fneed_plan : Fn := ⟨2, 2, (.cons (.expr (.call 15 (.cons (.var 0) .nil))) (.cons (.expr (.call 16 (.cons (.var 1) .nil))) .nil))⟩
def fneed_n : Fn := ⟨1, 1, (.cons (.ite (.not (.call 1 (.cons (.var 0) (.cons (.con 1) (.cons (.con 2) .nil))))) (.cons (.rais 3 .nil) .nil) .nil) .nil)⟩
def fneed_person : Fn := ⟨2, 2, (.cons (.ite (.not (.call 1 (.cons (.var 1) (.cons (.int 0) (.cons (.bin .sub false (.blt .len false (.cons (.var 0) .nil)) (.int 1)) .nil))))) (.cons (.rais 4 .nil) .nil) .nil) .nil)⟩
def fneed_floor : Fn := ⟨1, 1, (.cons (.ite (.not (.call 4 (.cons (.var 0) .nil))) (.cons (.rais 5 .nil) .nil) .nil) .nil)⟩
def fis_lift : Fn := ⟨1, 1, (.cons (.ret (.call 5 (.cons (.var 0) .nil))) .nil)⟩
def fare_calls : Fn := ⟨1, 1, (.cons (.ret (.call 7 (.cons (.var 0) .nil))) .nil)⟩
def ffloor_at : Fn := ⟨2, 2, (.cons (.expr (.call 18 (.cons (.var 0) .nil))) (.cons (.expr (.call 20 (.cons (.var 1) .nil))) (.cons (.ret (.call 9 (.cons (.call 8 (.cons (.var 1) .nil)) (.cons (.var 0) .nil)))) .nil)))⟩
def ffar_to : Fn := ⟨2, 2, (.cons (.ret (.call 12 (.cons (.call 8 (.cons (.var 1) .nil)) (.cons (.call 8 (.cons (.var 0) .nil)) .nil)))) .nil)⟩
def fway_form : Fn := ⟨4, 3, (.cons (.asg (.name 3) (.call 24 (.cons (.var 0) (.cons (.var 1) .nil)))) (.cons (.ret (.ite (.cmp .lt (.call 13 (.cons (.var 3) (.cons (.var 2) .nil))) (.int 0)) (.call 11 (.cons (.var 3) (.cons (.neg (.int 1)) .nil))) (.var 3))) .nil))⟩
def flies_ahead : Fn := ⟨5, 4, (.cons (.asg (.name 4) (.call 13 (.cons (.call 24 (.cons (.var 0) (.cons (.var 1) .nil))) (.cons (.var 3) .nil)))) (.cons (.ret (.ite (.cmp .eq (.var 2) (.str [117, 112])) (.cmp .ge (.var 4) (.int 0)) (.cmp .le (.var 4) (.int 0)))) .nil))⟩
def fstanding_first : Fn := ⟨1, 1, (.cons (.ret (.tup (.cons (.tup (.cons (.int 0) (.cons (.int 0) .nil))) (.cons (.idx (.var 0) (.int 4)) (.cons (.idx (.var 0) (.int 5)) (.cons (.tup .nil) (.cons (.tup .nil) (.cons (.tup .nil) .nil)))))))) .nil)⟩
def fwaiting_ones : Fn := ⟨3, 2, (.cons (.ret (.lc false [2] (.name 2) (.rng1 (.blt .len false (.cons (.var 0) .nil))) (.some (.and (.cmp .notin (.var 2) (.idx (.var 1) (.int 3))) (.cmp .notin (.var 2) (.idx (.var 1) (.int 4))))) (.var 2))) .nil)⟩
def fby_then : Fn := ⟨4, 3, (.cons (.ret (.lc false [3] (.name 3) (.of (.var 2)) .none (.call 12 (.cons (.var 1) (.cons (.tup (.cons (.int 0) (.cons (.idx (.idx (.var 0) (.var 3)) (.int 0)) .nil))) .nil))))) .nil)⟩
def fheard_ones : Fn := ⟨7, 3, (.cons (.asg (.name 3) (.call 28 (.cons (.var 0) (.cons (.var 1) .nil)))) (.cons (.asg (.name 4) (.call 29 (.cons (.var 0) (.cons (.idx (.var 1) (.int 0)) (.cons (.var 3) .nil))))) (.cons (.ret (.tup (.cons (.lc false [5, 6] (.tup [(.name 5), (.name 6)]) (.zip (.var 3) (.var 4)) (.some (.cmp .ge (.call 13 (.cons (.var 6) (.cons (.var 2) .nil))) (.int 0))) (.var 5)) (.cons (.blt .tuple false (.cons (.var 4) .nil)) .nil)))) .nil)))⟩
def fwanted_by : Fn := ⟨6, 4, (.cons (.asg (.name 4) (.lc false [5] (.name 5) (.of (.idx (.var 2) (.int 3))) .none (.tup (.cons (.var 5) (.cons (.idx (.idx (.var 1) (.var 5)) (.int 2)) .nil))))) (.cons (.ite (.cmp .lt (.blt .len false (.cons (.idx (.var 2) (.int 3)) .nil)) (.idx (.var 0) (.int 1))) (.cons (.asg (.name 4) (.bin .add false (.var 4) (.lc false [5] (.name 5) (.of (.var 3)) .none (.tup (.cons (.var 5) (.cons (.idx (.idx (.var 1) (.var 5)) (.int 1)) .nil)))))) .nil) .nil) (.cons (.ret (.blt .sorted false (.cons (.var 4) .nil))) .nil)))⟩
def fnearest_b1 : Ss := (.cons (.asg (.name 6) (.call 12 (.cons (.call 25 (.cons (.idx (.var 0) (.int 1)) (.cons (.var 5) (.cons (.var 2) .nil)))) (.cons (.call 25 (.cons (.idx (.var 0) (.int 1)) (.cons (.var 3) (.cons (.var 2) .nil)))) .nil)))) (.cons (.asg (.name 4) (.bin .add false (.var 4) (.tup (.cons (.var 6) .nil)))) (.cons (.asg (.name 7) (.call 13 (.cons (.var 6) (.cons (.var 2) .nil)))) (.cons (.ite (.or (.cmp .lt (.var 7) (.int 0)) (.and (.cmp .eq (.var 7) (.int 0)) (.not (.call 26 (.cons (.idx (.var 0) (.int 1)) (.cons (.var 3) (.cons (.idx (.var 0) (.int 2)) (.cons (.var 2) .nil)))))))) (.cons (.asg (.name 3) (.var 5)) .nil) .nil) .nil))))
def fnearest : Fn := ⟨8, 3, (.cons (.asg (.tup [(.name 3), (.name 4)]) (.tup (.cons (.idx (.var 1) (.int 0)) (.cons (.tup .nil) .nil)))) (.cons (.for_ (.name 5) (.of (.slc (.var 1) (.some (.int 1)) .none)) fnearest_b1) (.cons (.ret (.tup (.cons (.var 3) (.cons (.var 4) .nil)))) .nil)))⟩
def fgoal_of : Fn := ⟨8, 4, (.cons (.asg (.name 4) (.lc false [5, 6] (.tup [(.name 5), (.name 6)]) (.of (.var 2)) .none (.var 6))) (.cons (.ite (.cmp .eq (.var 0) (.str [102, 105, 114, 115, 116])) (.cons (.ret (.tup (.cons (.idx (.var 4) (.int 0)) (.cons (.tup .nil) .nil)))) .nil) .nil) (.cons (.ite (.cmp .eq (.var 0) (.str [110, 101, 97, 114])) (.cons (.ret (.call 32 (.cons (.var 1) (.cons (.var 4) (.cons (.var 3) .nil))))) .nil) .nil) (.cons (.asg (.name 7) (.lc false [6] (.name 6) (.of (.var 4)) (.some (.call 26 (.cons (.idx (.var 1) (.int 1)) (.cons (.var 6) (.cons (.idx (.var 1) (.int 2)) (.cons (.var 3) .nil)))))) (.var 6))) (.cons (.ret (.call 32 (.cons (.var 1) (.cons (.ite (.cmp .ne (.var 7) (.lst false .nil)) (.var 7) (.var 4)) (.cons (.var 3) .nil))))) .nil)))))⟩
def fstop_at_s1 : S := (.asg (.tup [(.name 5), (.name 6), (.name 7), (.name 8), (.name 9), (.name 10)]) (.var 2))
def fstop_at_s2 : S := (.asg (.name 11) (.call 25 (.cons (.var 6) (.cons (.var 3) (.cons (.var 4) .nil)))))
def fstop_at_s3 : S := (.asg (.name 5) (.call 10 (.cons (.var 5) (.cons (.call 11 (.cons (.var 11) (.cons (.idx (.var 0) (.int 3)) .nil))) .nil))))
def fstop_at_s4 : S := (.ite (.cmp .ne (.var 3) (.var 6)) (.cons (.asg (.name 7) (.ite (.cmp .gt (.call 13 (.cons (.call 24 (.cons (.var 6) (.cons (.var 3) .nil))) (.cons (.var 4) .nil))) (.int 0)) (.str [117, 112]) (.str [100, 111, 119, 110]))) .nil) .nil)
def fstop_at_s5 : S := (.asg (.name 12) (.blt .tuple false (.cons (.lc false [13] (.name 13) (.of (.var 8)) (.some (.cmp .eq (.idx (.idx (.var 1) (.var 13)) (.int 2)) (.var 3))) (.var 13)) .nil)))
def fstop_at_s6 : S := (.asg (.name 14) (.blt .tuple false (.cons (.lc false [13] (.name 13) (.of (.var 8)) (.some (.cmp .notin (.var 13) (.var 12))) (.var 13)) .nil)))
def fstop_at_s7 : S := (.asg (.name 15) (.lc false [13] (.name 13) (.of (.call 28 (.cons (.var 1) (.cons (.var 2) .nil)))) (.some (.cmp .eq (.idx (.idx (.var 1) (.var 13)) (.int 1)) (.var 3))) (.var 13)))
def fstop_at_s8 : S := (.asg (.name 16) (.call 29 (.cons (.var 1) (.cons (.var 5) (.cons (.var 15) .nil)))))
def fstop_at_s9 : S := (.asg (.name 17) (.lc false [13, 18] (.tup [(.name 13), (.name 18)]) (.zip (.var 15) (.var 16)) (.some (.cmp .ge (.call 13 (.cons (.var 18) (.cons (.var 4) .nil))) (.int 0))) (.var 13)))
def fstop_at_s10 : S := (.asg (.name 19) (.blt .tuple false (.cons (.slc (.var 17) .none (.some (.bin .sub false (.idx (.var 0) (.int 1)) (.blt .len false (.cons (.var 14) .nil))))) .nil)))
def fstop_at_s11 : S := (.asg (.name 20) (.tup (.cons (.call 10 (.cons (.var 5) (.cons (.tup (.cons (.int 0) (.cons (.idx (.var 0) (.int 2)) .nil))) .nil))) (.cons (.var 3) (.cons (.var 7) (.cons (.blt .tuple false (.cons (.blt .sorted false (.cons (.bin .add false (.var 14) (.var 19)) .nil)) .nil)) (.cons (.bin .add false (.var 9) (.var 12)) (.cons (.bin .add false (.var 10) (.blt .tuple false (.cons (.var 16) .nil))) .nil))))))))
def fstop_at_s12 : S := (.ret (.tup (.cons (.var 20) (.cons (.tup (.cons (.var 3) (.cons (.var 5) (.cons (.var 12) (.cons (.var 19) .nil))))) (.cons (.var 11) .nil)))))
def fstop_at : Fn := ⟨21, 5, (.cons fstop_at_s1 (.cons fstop_at_s2 (.cons fstop_at_s3 (.cons fstop_at_s4 (.cons fstop_at_s5 (.cons fstop_at_s6 (.cons fstop_at_s7 (.cons fstop_at_s8 (.cons fstop_at_s9 (.cons fstop_at_s10 (.cons fstop_at_s11 (.cons fstop_at_s12 .nil))))))))))))⟩
def fnext_minute : Fn := ⟨5, 3, (.cons (.asg (.name 3) (.lc false [4] (.name 4) (.of (.call 28 (.cons (.var 0) (.cons (.var 1) .nil)))) (.some (.cmp .notin (.var 4) (.var 2))) (.blt .int false (.cons (.idx (.idx (.var 0) (.var 4)) (.int 0)) .nil)))) (.cons (.ret (.ite (.cmp .ne (.var 3) (.lst false .nil)) (.blt .min false (.cons (.var 3) .nil)) .non)) .nil))⟩
def frun_with_s1 : S := (.asg (.tup [(.name 9), (.name 7)]) (.call 33 (.cons (.idx (.var 0) (.int 0)) (.cons (.var 3) (.cons (.var 8) (.cons (.var 2) .nil))))))
def frun_with_s2 : S := (.asg (.name 10) (.cmp .eq (.idx (.var 3) (.int 3)) (.tup .nil)))
def frun_with_s3 : S := (.asg (.tup [(.name 3), (.name 11), (.name 12)]) (.call 34 (.cons (.var 0) (.cons (.var 1) (.cons (.bin .add false (.slc (.var 3) .none (.some (.int 5))) (.tup (.cons (.bin .add false (.idx (.var 3) (.int 5)) (.var 7)) .nil))) (.cons (.var 9) (.cons (.var 2) .nil)))))))
def frun_with_s4 : S := (.asg (.tup [(.name 4), (.name 5)]) (.tup (.cons (.bin .add false (.var 4) (.tup (.cons (.var 11) .nil))) (.cons (.ite (.var 10) (.call 10 (.cons (.var 5) (.cons (.var 12) .nil))) (.var 5)) .nil))))
def frun_with_s5 : S := (.asg (.name 13) (.call 35 (.cons (.var 1) (.cons (.var 3) (.cons (.var 6) .nil)))))
def frun_with_s6 : S := (.ite (.cmp .is_ (.var 13) .non) (.cons (.ret (.tup (.cons (.var 4) (.cons (.var 5) (.cons (.idx (.var 3) (.int 5)) .nil))))) .nil) .nil)
def frun_with_s7 : S := (.asg (.name 3) (.bin .add false (.tup (.cons (.tup (.cons (.int 0) (.cons (.var 13) .nil))) .nil)) (.slc (.var 3) (.some (.int 1)) .none)))
def frun_with_s8 : S := (.asg (.tup [(.name 6), (.name 7)]) (.call 30 (.cons (.var 1) (.cons (.var 3) (.cons (.var 2) .nil)))))
def frun_with_s9 : S := (.asg (.name 3) (.bin .add false (.slc (.var 3) .none (.some (.int 5))) (.tup (.cons (.bin .add false (.idx (.var 3) (.int 5)) (.var 7)) .nil))))
def frun_with_s10 : S := (.asg (.name 8) (.call 31 (.cons (.var 0) (.cons (.var 1) (.cons (.var 3) (.cons (.var 6) .nil))))))
def frun_with_s11 : S := (.ite (.cmp .ne (.var 8) (.lst false .nil)) (.cons frun_with_s1 (.cons frun_with_s2 (.cons frun_with_s3 (.cons frun_with_s4 .nil)))) (.cons frun_with_s5 (.cons frun_with_s6 (.cons frun_with_s7 .nil))))
def frun_with_b1 : Ss := (.cons frun_with_s8 (.cons frun_with_s9 (.cons frun_with_s10 (.cons frun_with_s11 .nil))))
def frun_with_s12 : S := (.asg (.tup [(.name 3), (.name 4), (.name 5)]) (.tup (.cons (.call 27 (.cons (.var 0) .nil)) (.cons (.tup .nil) (.cons (.tup (.cons (.int 0) (.cons (.int 0) .nil))) .nil)))))
def frun_with_s13 : S := (.whl (.bl true) frun_with_b1)
def frun_with : Fn := ⟨14, 3, (.cons frun_with_s12 (.cons frun_with_s13 .nil))⟩
def fride_forms_b1 : Ss := (.cons (.asg (.name 4) (.lc false [5, 6, 7, 8] (.tup [(.name 5), (.name 6), (.name 7), (.name 8)]) (.of (.var 1)) (.some (.cmp .isin (.var 3) (.var 8))) (.var 6))) (.cons (.asg (.name 9) (.lc false [5, 6, 7, 8] (.tup [(.name 5), (.name 6), (.name 7), (.name 8)]) (.of (.var 1)) (.some (.cmp .isin (.var 3) (.var 7))) (.var 6))) (.cons (.asg (.name 2) (.bin .add false (.var 2) (.lst false (.cons (.tup (.cons (.idx (.var 4) (.int 0)) (.cons (.idx (.var 9) (.int 0)) .nil))) .nil)))) .nil)))
def fride_forms : Fn := ⟨10, 2, (.cons (.asg (.name 2) (.lst false .nil)) (.cons (.for_ (.name 3) (.rng1 (.blt .len false (.cons (.var 0) .nil))) fride_forms_b1) (.cons (.ret (.var 2)) .nil)))⟩
def frides_of : Fn := ⟨6, 3, (.cons (.asg (.name 3) (.call 37 (.cons (.var 1) (.cons (.idx (.call 36 (.cons (.var 0) (.cons (.var 1) (.cons (.var 2) .nil)))) (.int 0)) .nil)))) (.cons (.ret (.blt .tuple false (.cons (.lc false [4, 5] (.tup [(.name 4), (.name 5)]) (.of (.var 3)) .none (.tup (.cons (.call 9 (.cons (.var 4) (.cons (.var 2) .nil))) (.cons (.call 9 (.cons (.var 5) (.cons (.var 2) .nil))) .nil)))) .nil))) .nil))⟩
def fstory : Fn := ⟨3, 3, (.cons (.expr (.call 17 (.cons (.var 0) (.cons (.var 1) .nil)))) (.cons (.expr (.call 18 (.cons (.var 2) .nil))) (.cons (.ret (.idx (.call 36 (.cons (.var 0) (.cons (.var 1) (.cons (.var 2) .nil)))) (.int 0))) .nil)))⟩
def frides : Fn := ⟨3, 3, (.cons (.expr (.call 17 (.cons (.var 0) (.cons (.var 1) .nil)))) (.cons (.expr (.call 18 (.cons (.var 2) .nil))) (.cons (.ret (.call 38 (.cons (.var 0) (.cons (.var 1) (.cons (.var 2) .nil))))) .nil)))⟩
def funtil : Fn := ⟨5, 2, (.cons (.asg (.name 2) (.lc false [3] (.name 3) (.of (.var 0)) .none (.call 14 (.cons (.var 3) (.cons (.var 1) .nil))))) (.cons (.asg (.name 2) (.lc false [4] (.name 4) (.of (.var 2)) (.some (.cmp .isnot (.var 4) .non)) (.blt .int false (.cons (.var 4) .nil)))) (.cons (.ret (.ite (.cmp .ne (.var 2) (.lst false .nil)) (.blt .min false (.cons (.var 2) .nil)) .non)) .nil)))⟩
def fjoined_b1 : Ss := (.cons (.ite (.and (.cmp .ne (.var 1) (.lst false .nil)) (.cmp .eq (.idx (.idx (.var 1) (.neg (.int 1))) (.int 2)) (.var 4))) (.cons (.asg (.name 1) (.bin .add false (.slc (.var 1) .none (.some (.neg (.int 1)))) (.lst false (.cons (.tup (.cons (.idx (.idx (.var 1) (.neg (.int 1))) (.int 0)) (.cons (.var 3) (.cons (.var 4) .nil)))) .nil)))) .nil) (.cons (.asg (.name 1) (.bin .add false (.var 1) (.lst false (.cons (.tup (.cons (.var 2) (.cons (.var 3) (.cons (.var 4) .nil)))) .nil)))) .nil)) .nil)
def fjoined : Fn := ⟨5, 1, (.cons (.asg (.name 1) (.lst false .nil)) (.cons (.for_ (.tup [(.name 2), (.name 3), (.name 4)]) (.of (.var 0)) fjoined_b1) (.cons (.ret (.var 1)) .nil)))⟩
def fall_runs_b1 : Ss := (.cons (.asg (.tup [(.name 4), (.name 5), (.name 6)]) (.call 36 (.cons (.var 0) (.cons (.var 1) (.cons (.var 3) .nil))))) (.cons (.asg (.name 7) (.call 41 (.cons (.var 6) (.cons (.var 3) .nil)))) (.cons (.asg (.name 2) (.bin .add false (.var 2) (.lst false (.cons (.tup (.cons (.var 3) (.cons (.var 7) (.cons (.tup (.cons (.var 4) (.cons (.var 5) .nil))) .nil)))) .nil)))) (.cons (.asg (.name 3) (.ite (.cmp .is_ (.var 7) .non) .non (.bin .add false (.var 7) (.int 1)))) .nil))))
def fall_runs : Fn := ⟨8, 2, (.cons (.asg (.tup [(.name 2), (.name 3)]) (.tup (.cons (.lst false .nil) (.cons (.con 1) .nil)))) (.cons (.whl (.cmp .isnot (.var 3) .non) fall_runs_b1) (.cons (.ret (.call 42 (.cons (.var 2) .nil))) .nil)))⟩
def fparted_b1 : Ss := (.cons (.asg (.name 9) (.ite (.cmp .gt (.var 3) (.var 6)) (.var 3) (.var 6))) (.cons (.asg (.name 10) (.call 45 (.cons (.var 4) (.cons (.var 7) .nil)))) (.cons (.ite (.or (.cmp .is_ (.var 10) .non) (.cmp .le (.var 9) (.var 10))) (.cons (.asg (.name 2) (.bin .add false (.var 2) (.lst false (.cons (.tup (.cons (.var 9) (.cons (.var 10) (.cons (.tup (.cons (.var 5) (.cons (.var 8) .nil))) .nil)))) .nil)))) .nil) .nil) .nil)))
def fparted_b2 : Ss := (.cons (.for_ (.tup [(.name 6), (.name 7), (.name 8)]) (.of (.var 1)) fparted_b1) .nil)
def fparted : Fn := ⟨11, 2, (.cons (.asg (.name 2) (.lst false .nil)) (.cons (.for_ (.tup [(.name 3), (.name 4), (.name 5)]) (.of (.var 0)) fparted_b2) (.cons (.ret (.var 2)) .nil)))⟩
def flesser_end : Fn := ⟨2, 2, (.cons (.ite (.cmp .is_ (.var 0) .non) (.cons (.ret (.var 1)) .nil) .nil) (.cons (.ret (.ite (.or (.cmp .is_ (.var 1) .non) (.cmp .lt (.var 0) (.var 1))) (.var 0) (.var 1))) .nil))⟩
def fby_signs_b1 : Ss := (.cons (.asg (.name 5) (.call 45 (.cons (.call 41 (.cons (.var 2) (.cons (.var 4) .nil))) (.cons (.var 1) .nil)))) (.cons (.asg (.name 3) (.bin .add false (.var 3) (.lst false (.cons (.tup (.cons (.var 4) (.cons (.var 5) (.cons (.blt .tuple false (.cons (.lc false [6] (.name 6) (.of (.var 2)) .none (.call 13 (.cons (.var 6) (.cons (.var 4) .nil)))) .nil)) .nil)))) .nil)))) (.cons (.asg (.name 4) (.ite (.cmp .is_ (.var 5) .non) .non (.bin .add false (.var 5) (.int 1)))) .nil)))
def fby_signs : Fn := ⟨7, 3, (.cons (.asg (.tup [(.name 3), (.name 4)]) (.tup (.cons (.lst false .nil) (.cons (.var 0) .nil)))) (.cons (.whl (.and (.cmp .isnot (.var 4) .non) (.or (.cmp .is_ (.var 1) .non) (.cmp .le (.var 4) (.var 1)))) fby_signs_b1) (.cons (.ret (.var 3)) .nil)))⟩
def fall_rides : Fn := ⟨7, 2, (.cons (.asg (.name 2) (.call 43 (.cons (.var 0) (.cons (.var 1) .nil)))) (.cons (.ret (.call 42 (.cons (.lc false [3, 4, 5, 6] (.tup [(.name 3), (.name 4), (.tup [(.name 5), (.name 6)])]) (.of (.var 2)) .none (.tup (.cons (.var 3) (.cons (.var 4) (.cons (.call 37 (.cons (.var 1) (.cons (.var 5) .nil))) .nil))))) .nil))) .nil))⟩
def fgreatest_of_b1 : Ss := (.cons (.ite (.cmp .gt (.call 13 (.cons (.call 12 (.cons (.var 4) (.cons (.idx (.var 0) (.var 2)) .nil))) (.cons (.var 1) .nil))) (.int 0)) (.cons (.asg (.name 2) (.var 3)) .nil) .nil) .nil)
def fgreatest_of : Fn := ⟨5, 2, (.cons (.asg (.name 2) (.int 0)) (.cons (.for_ (.tup [(.name 3), (.name 4)]) (.enum (.var 0)) fgreatest_of_b1) (.cons (.ret (.var 2)) .nil)))⟩
def fall_pairs : Fn := ⟨3, 1, (.cons (.ret (.lc2 false [1, 2] [2] (.name 1) (.of (.var 0)) (.name 2) (.of (.var 0)) (.call 12 (.cons (.var 1) (.cons (.var 2) .nil))))) .nil)⟩
def fend_rows_b1 : Ss := (.cons (.asg (.name 2) (.bin .add false (.var 2) (.lst false (.cons (.tup (.cons (.var 9) (.cons (.var 10) (.cons (.idx (.var 6) (.call 48 (.cons (.var 6) (.cons (.var 9) .nil)))) .nil)))) .nil)))) .nil)
def fend_rows_b2 : Ss := (.cons (.asg (.name 6) (.lc false [7, 8] (.tup [(.name 7), (.name 8)]) (.of (.var 5)) .none (.var 8))) (.cons (.for_ (.tup [(.name 9), (.name 10), (.name 11)]) (.of (.call 46 (.cons (.var 3) (.cons (.var 4) (.cons (.call 49 (.cons (.var 6) .nil)) .nil))))) fend_rows_b1) .nil))
def fend_rows : Fn := ⟨12, 2, (.cons (.ite (.cmp .eq (.var 1) (.tup .nil)) (.cons (.ret (.lst false (.cons (.tup (.cons (.con 1) (.cons .non (.cons (.tup (.cons (.int 0) (.cons (.int 0) .nil))) .nil)))) .nil))) .nil) .nil) (.cons (.asg (.name 2) (.lst false .nil)) (.cons (.for_ (.tup [(.name 3), (.name 4), (.name 5)]) (.of (.call 47 (.cons (.var 0) (.cons (.var 1) .nil)))) fend_rows_b2) (.cons (.ret (.call 42 (.cons (.var 2) .nil))) .nil))))⟩
def ftable : Fn := ⟨6, 2, (.cons (.expr (.call 17 (.cons (.var 0) (.cons (.var 1) .nil)))) (.cons (.ret (.call 42 (.cons (.lc false [2, 3, 4, 5] (.tup [(.name 2), (.name 3), (.tup [(.name 4), (.name 5)])]) (.of (.call 43 (.cons (.var 0) (.cons (.var 1) .nil)))) .none (.tup (.cons (.var 2) (.cons (.var 3) (.cons (.var 4) .nil))))) .nil))) .nil))⟩
def frides_table : Fn := ⟨8, 3, (.cons (.expr (.call 17 (.cons (.var 0) (.cons (.var 1) .nil)))) (.cons (.expr (.call 19 (.cons (.var 1) (.cons (.var 2) .nil)))) (.cons (.asg (.name 3) (.call 42 (.cons (.lc false [4, 5, 6] (.tup [(.name 4), (.name 5), (.name 6)]) (.of (.call 47 (.cons (.var 0) (.cons (.var 1) .nil)))) .none (.tup (.cons (.var 4) (.cons (.var 5) (.cons (.idx (.var 6) (.var 2)) .nil))))) .nil))) (.cons (.ret (.lc false [4, 5, 7] (.tup [(.name 4), (.name 5), (.name 7)]) (.of (.var 3)) .none (.bin .add false (.tup (.cons (.var 4) (.cons (.var 5) .nil))) (.var 7)))) .nil))))⟩
def fend_table : Fn := ⟨2, 2, (.cons (.expr (.call 17 (.cons (.var 0) (.cons (.var 1) .nil)))) (.cons (.ret (.call 50 (.cons (.var 0) (.cons (.var 1) .nil)))) .nil))⟩
def fall_forms_b1 : Ss := (.cons (.asg (.name 1) (.lc false [6, 7, 8, 4] (.tup [(.name 6), (.name 7), (.tup [(.name 8), (.name 4)])]) (.of (.call 44 (.cons (.var 1) (.cons (.var 5) .nil)))) .none (.tup (.cons (.var 6) (.cons (.var 7) (.cons (.bin .add false (.var 8) (.tup (.cons (.var 4) .nil))) .nil)))))) .nil)
def fall_forms : Fn := ⟨9, 1, (.cons (.asg (.name 1) (.lc false [2, 3, 4] (.tup [(.name 2), (.name 3), (.name 4)]) (.of (.idx (.var 0) (.int 0))) .none (.tup (.cons (.var 2) (.cons (.var 3) (.cons (.tup (.cons (.var 4) .nil)) .nil)))))) (.cons (.for_ (.name 5) (.of (.slc (.var 0) (.some (.int 1)) .none)) fall_forms_b1) (.cons (.ret (.var 1)) .nil)))⟩
def fbest_of_b1 : Ss := (.cons (.asg (.name 9) (.idx (.var 5) (.call 48 (.cons (.lc false [10] (.name 10) (.of (.var 5)) .none (.call 12 (.cons (.tup (.cons (.int 0) (.cons (.int 0) .nil))) (.cons (.var 10) .nil)))) (.cons (.var 6) .nil))))) (.cons (.asg (.name 11) (.lc false [12, 10] (.tup [(.name 12), (.name 10)]) (.zip (.var 0) (.var 5)) (.some (.cmp .eq (.bin .add false (.bin .mul false (.idx (.call 12 (.cons (.var 10) (.cons (.var 9) .nil))) (.int 0)) (.var 6)) (.idx (.call 12 (.cons (.var 10) (.cons (.var 9) .nil))) (.int 1))) (.int 0))) (.var 12))) (.cons (.asg (.name 2) (.bin .add false (.var 2) (.lst false (.cons (.tup (.cons (.var 6) (.cons (.var 7) (.cons (.blt .tuple false (.cons (.var 11) .nil)) .nil)))) .nil)))) .nil)))
def fbest_of_b2 : Ss := (.cons (.for_ (.tup [(.name 6), (.name 7), (.name 8)]) (.of (.call 46 (.cons (.var 3) (.cons (.var 4) (.cons (.call 49 (.cons (.var 5) .nil)) .nil))))) fbest_of_b1) .nil)
def fbest_of : Fn := ⟨13, 2, (.cons (.asg (.name 2) (.lst false .nil)) (.cons (.for_ (.tup [(.name 3), (.name 4), (.name 5)]) (.of (.call 54 (.cons (.var 1) .nil))) fbest_of_b2) (.cons (.ret (.call 42 (.cons (.var 2) .nil))) .nil)))⟩
def fbest_rules : Fn := ⟨3, 2, (.cons (.expr (.call 17 (.cons (.var 0) (.cons (.var 1) .nil)))) (.cons (.ret (.call 55 (.cons (.con 0) (.cons (.lc false [2] (.name 2) (.of (.con 0)) .none (.call 50 (.cons (.bin .add false (.tup (.cons (.var 2) .nil)) (.slc (.var 0) (.some (.int 1)) .none)) (.cons (.var 1) .nil)))) .nil)))) .nil))⟩
def fsign_rows_b1 : Ss := (.cons (.asg (.name 1) (.bin .add false (.var 1) (.lc false [5, 6, 7] (.tup [(.name 5), (.name 6), (.name 7)]) (.of (.call 46 (.cons (.var 2) (.cons (.var 3) (.cons (.lst false (.cons (.var 4) .nil)) .nil))))) .none (.tup (.cons (.var 5) (.cons (.var 6) (.cons (.idx (.var 7) (.int 0)) .nil))))))) .nil)
def fsign_rows : Fn := ⟨8, 1, (.cons (.asg (.name 1) (.lst false .nil)) (.cons (.for_ (.tup [(.name 2), (.name 3), (.name 4)]) (.of (.var 0)) fsign_rows_b1) (.cons (.ret (.var 1)) .nil)))⟩
def ffirst_with : Fn := ⟨6, 2, (.cons (.asg (.name 2) (.lc false [3, 4, 5] (.tup [(.name 3), (.name 4), (.name 5)]) (.of (.var 0)) (.some (.cmp .eq (.var 5) (.var 1))) (.var 3))) (.cons (.ret (.ite (.cmp .ne (.var 2) (.lst false .nil)) (.idx (.var 2) (.int 0)) .non)) .nil))⟩
def fearlier_rows : Fn := ⟨8, 4, (.cons (.asg (.name 4) (.call 47 (.cons (.var 0) (.cons (.var 1) .nil)))) (.cons (.ret (.call 57 (.cons (.lc false [5, 6, 7] (.tup [(.name 5), (.name 6), (.name 7)]) (.of (.var 4)) .none (.tup (.cons (.var 5) (.cons (.var 6) (.cons (.call 12 (.cons (.idx (.idx (.var 7) (.var 2)) (.int 1)) (.cons (.idx (.idx (.var 7) (.var 3)) (.int 1)) .nil))) .nil))))) .nil))) .nil))⟩
def flater_rows : Fn := ⟨10, 4, (.cons (.asg (.name 4) (.call 44 (.cons (.call 47 (.cons (.var 0) (.cons (.var 2) .nil))) (.cons (.call 47 (.cons (.var 1) (.cons (.var 2) .nil))) .nil)))) (.cons (.asg (.name 5) (.lc false [6, 7, 8, 9] (.tup [(.name 6), (.name 7), (.tup [(.name 8), (.name 9)])]) (.of (.var 4)) .none (.tup (.cons (.var 6) (.cons (.var 7) (.cons (.call 12 (.cons (.idx (.idx (.var 8) (.var 3)) (.int 1)) (.cons (.idx (.idx (.var 9) (.var 3)) (.int 1)) .nil))) .nil)))))) (.cons (.ret (.call 57 (.cons (.var 5) .nil))) .nil)))⟩
def fneed_people : Fn := ⟨4, 4, (.cons (.expr (.call 17 (.cons (.var 0) (.cons (.var 1) .nil)))) (.cons (.expr (.call 19 (.cons (.var 1) (.cons (.var 2) .nil)))) (.cons (.expr (.call 19 (.cons (.var 1) (.cons (.var 3) .nil)))) .nil)))⟩
def fneed_lifts : Fn := ⟨4, 4, (.cons (.expr (.call 15 (.cons (.var 0) .nil))) (.cons (.expr (.call 15 (.cons (.var 1) .nil))) (.cons (.expr (.call 16 (.cons (.var 2) .nil))) (.cons (.expr (.call 19 (.cons (.var 2) (.cons (.var 3) .nil)))) .nil))))⟩
def fbefore : Fn := ⟨8, 4, (.cons (.expr (.call 61 (.cons (.var 0) (.cons (.var 1) (.cons (.var 2) (.cons (.var 3) .nil)))))) (.cons (.asg (.name 4) (.lc false [5, 6, 7] (.tup [(.name 5), (.name 6), (.name 7)]) (.of (.call 59 (.cons (.var 0) (.cons (.var 1) (.cons (.var 2) (.cons (.var 3) .nil)))))) .none (.cmp .lt (.var 7) (.int 0)))) (.cons (.ret (.ite (.cmp .eq (.mth .count (.var 4) (.cons (.idx (.var 4) (.int 0)) .nil)) (.blt .len false (.cons (.var 4) .nil))) (.idx (.var 4) (.int 0)) .non)) .nil)))⟩
def ffirst_before : Fn := ⟨4, 4, (.cons (.expr (.call 61 (.cons (.var 0) (.cons (.var 1) (.cons (.var 2) (.cons (.var 3) .nil)))))) (.cons (.ret (.call 58 (.cons (.call 59 (.cons (.var 0) (.cons (.var 1) (.cons (.var 2) (.cons (.var 3) .nil))))) (.cons (.neg (.int 1)) .nil)))) .nil))⟩
def fnever_later : Fn := ⟨4, 4, (.cons (.expr (.call 62 (.cons (.var 0) (.cons (.var 1) (.cons (.var 2) (.cons (.var 3) .nil)))))) (.cons (.ret (.cmp .is_ (.call 58 (.cons (.call 60 (.cons (.var 0) (.cons (.var 1) (.cons (.var 2) (.cons (.var 3) .nil))))) (.cons (.int 1) .nil))) .non)) .nil))⟩
def ffirst_unlike_b1 : Ss := (.cons (.ite (.blt .any false (.cons (.lc false [14] (.name 14) (.of (.var 13)) .none (.cmp .ne (.var 14) (.int 0))) .nil)) (.cons (.ret (.var 11)) .nil) .nil) .nil)
def ffirst_unlike_b2 : Ss := (.cons (.asg (.name 6) (.lc2 false [7, 8, 9, 10] [9, 10] (.tup [(.name 7), (.name 8)]) (.zip (.var 4) (.var 5)) (.tup [(.name 9), (.name 10)]) (.zip (.var 7) (.var 8)) (.call 12 (.cons (.var 9) (.cons (.var 10) .nil))))) (.cons (.for_ (.tup [(.name 11), (.name 12), (.name 13)]) (.of (.call 46 (.cons (.var 2) (.cons (.var 3) (.cons (.var 6) .nil))))) ffirst_unlike_b1) .nil))
def ffirst_unlike : Fn := ⟨15, 2, (.cons (.for_ (.tup [(.name 2), (.name 3), (.tup [(.name 4), (.name 5)])]) (.of (.call 44 (.cons (.var 0) (.cons (.var 1) .nil)))) ffirst_unlike_b2) (.cons (.ret .non) .nil))⟩
def funlike_number : Fn := ⟨4, 4, (.cons (.ret (.call 66 (.cons (.call 47 (.cons (.var 0) (.cons (.var 1) .nil))) (.cons (.call 47 (.cons (.var 2) (.cons (.var 3) .nil))) .nil)))) .nil)⟩
def fwithout : Fn := ⟨2, 2, (.cons (.ret (.bin .add false (.slc (.var 0) .none (.some (.var 1))) (.slc (.var 0) (.some (.bin .add false (.var 1) (.int 1))) .none))) .nil)⟩
def fis_idle : Fn := ⟨7, 3, (.cons (.asg (.name 3) (.lc false [4, 5, 6] (.tup [(.name 4), (.name 5), (.name 6)]) (.of (.call 47 (.cons (.var 0) (.cons (.var 1) .nil)))) .none (.tup (.cons (.var 4) (.cons (.var 5) (.cons (.bin .add false (.slc (.var 6) .none (.some (.var 2))) (.slc (.var 6) (.some (.bin .add false (.var 2) (.int 1))) .none)) .nil)))))) (.cons (.ret (.cmp .is_ (.call 66 (.cons (.var 3) (.cons (.call 47 (.cons (.var 0) (.cons (.call 68 (.cons (.var 1) (.cons (.var 2) .nil))) .nil))) .nil))) .non)) .nil))⟩
def fneed_two : Fn := ⟨4, 4, (.cons (.expr (.call 17 (.cons (.var 0) (.cons (.var 1) .nil)))) (.cons (.expr (.call 17 (.cons (.var 2) (.cons (.var 3) .nil)))) (.cons (.ite (.cmp .ne (.blt .len false (.cons (.var 1) .nil)) (.blt .len false (.cons (.var 3) .nil))) (.cons (.rais 8 .nil) .nil) .nil) .nil)))⟩
def falike : Fn := ⟨4, 4, (.cons (.expr (.call 70 (.cons (.var 0) (.cons (.var 1) (.cons (.var 2) (.cons (.var 3) .nil)))))) (.cons (.ret (.cmp .is_ (.call 67 (.cons (.var 0) (.cons (.var 1) (.cons (.var 2) (.cons (.var 3) .nil))))) .non)) .nil))⟩
def fidle_calls : Fn := ⟨3, 2, (.cons (.expr (.call 17 (.cons (.var 0) (.cons (.var 1) .nil)))) (.cons (.ret (.lc false [2] (.name 2) (.rng1 (.blt .len false (.cons (.var 1) .nil))) (.some (.call 69 (.cons (.var 0) (.cons (.var 1) (.cons (.var 2) .nil))))) (.var 2))) .nil))⟩
def ffloor_text : Fn := ⟨1, 1, (.cons (.ret (.fst (.cons (.idx (.var 0) (.int 0)) (.cons (.idx (.var 0) (.int 1)) .nil)))) .nil)⟩
def flines_of : Fn := ⟨12, 2, (.cons (.asg (.tup [(.name 2), (.name 3), (.name 4), (.name 5), (.name 6), (.name 7)]) (.var 0)) (.cons (.asg (.name 8) (.lst false (.cons (.fst (.cons (.str [108, 105, 102, 116, 32]) (.cons (.var 2) (.cons (.str [32]) (.cons (.var 3) (.cons (.str [32]) (.cons (.var 4) (.cons (.str [32]) (.cons (.var 5) (.cons (.str [32]) (.cons (.call 73 (.cons (.var 6) .nil)) (.cons (.str [32]) (.cons (.var 7) .nil))))))))))))) .nil))) (.cons (.ret (.bin .add false (.var 8) (.lc false [9, 10, 11] (.tup [(.name 9), (.name 10), (.name 11)]) (.of (.var 1)) .none (.fst (.cons (.str [99, 97, 108, 108, 32]) (.cons (.var 9) (.cons (.str [32]) (.cons (.call 73 (.cons (.var 10) .nil)) (.cons (.str [32]) (.cons (.call 73 (.cons (.var 11) .nil)) .nil)))))))))) .nil)))⟩
def fpart_in : Fn := ⟨3, 1, (.cons (.ite (.cmp .isin (.var 0) (.con 3)) (.cons (.ret (.tup (.cons (.idx (.var 0) (.int 0)) (.cons (.blt .int false (.cons (.idx (.var 0) (.int 1)) .nil)) .nil)))) .nil) .nil) (.cons (.asg (.name 1) (.and (.cmp .ne (.var 0) (.str [])) (.and (.blt .all false (.cons (.lc false [2] (.name 2) (.of (.var 0)) .none (.cmp .isin (.var 2) (.str [48, 49, 50, 51, 52, 53, 54, 55, 56, 57]))) .nil)) (.cmp .lt (.blt .len false (.cons (.var 0) .nil)) (.int 5))))) (.cons (.ret (.ite (.and (.var 1) (.cmp .eq (.blt .str false (.cons (.blt .int false (.cons (.var 0) .nil)) .nil)) (.var 0))) (.blt .int false (.cons (.var 0) .nil)) (.var 0))) .nil)))⟩
def fline_in : Fn := ⟨4, 1, (.cons (.asg (.name 1) (.mth .split (.var 0) (.cons (.str [32]) .nil))) (.cons (.asg (.name 2) (.blt .tuple false (.cons (.lc false [3] (.name 3) (.of (.slc (.var 1) (.some (.int 1)) .none)) .none (.call 75 (.cons (.var 3) .nil))) .nil))) (.cons (.ite (.cmp .eq (.idx (.var 1) (.int 0)) (.str [108, 105, 102, 116])) (.cons (.ret (.ite (.call 5 (.cons (.var 2) .nil)) (.tup (.cons (.bl true) (.cons (.var 2) .nil))) .non)) .nil) .nil) (.cons (.ret (.ite (.and (.cmp .eq (.idx (.var 1) (.int 0)) (.str [99, 97, 108, 108])) (.call 6 (.cons (.var 2) .nil))) (.tup (.cons (.bl false) (.cons (.var 2) .nil))) .non)) .nil))))⟩
def fplan_in_s1 : S := (.ite (.not (.isi .str (.var 0))) (.cons .any .nil) .nil)
def fplan_in_s2 : S := (.asg (.name 1) (.lc false [2] (.name 2) (.of (.mth .split (.var 0) (.cons (.str [10]) .nil))) .none (.call 76 (.cons (.var 2) .nil))))
def fplan_in_s3 : S := (.ite (.cmp .isin .non (.var 1)) (.cons .any .nil) .nil)
def fplan_in_s4 : S := (.asg (.name 3) (.blt .tuple false (.cons (.lc false [4, 5] (.tup [(.name 4), (.name 5)]) (.of (.slc (.var 1) (.some (.int 1)) .none)) .none (.var 5)) .nil)))
def fplan_in_s5 : S := (.ite (.or (.not (.idx (.idx (.var 1) (.int 0)) (.int 0))) (.or (.blt .any false (.cons (.lc false [4, 5] (.tup [(.name 4), (.name 5)]) (.of (.slc (.var 1) (.some (.int 1)) .none)) .none (.var 4)) .nil)) (.not (.call 7 (.cons (.var 3) .nil))))) (.cons .any .nil) .nil)
def fplan_in_s6 : S := (.ret (.tup (.cons (.idx (.idx (.var 1) (.int 0)) (.int 1)) (.cons (.var 3) .nil))))
def fplan_in : Fn := ⟨6, 1, (.cons fplan_in_s1 (.cons fplan_in_s2 (.cons fplan_in_s3 (.cons fplan_in_s4 (.cons fplan_in_s5 (.cons fplan_in_s6 .nil))))))⟩
def fis_fact : Fn := ⟨2, 2, (.cons (.ite (.or (.not (.call 2 (.cons (.var 1) (.cons (.int 3) (.cons (.int 3) .nil))))) (.not (.call 1 (.cons (.idx (.var 1) (.int 0)) (.cons (.int 0) (.cons (.bin .sub false (.blt .len false (.cons (.var 0) .nil)) (.int 1)) .nil)))))) (.cons (.ret (.bl false)) .nil) .nil) (.cons (.ret (.and (.call 3 (.cons (.idx (.var 1) (.int 1)) (.cons (.tup (.cons (.str [111, 110]) (.cons (.str [111, 102, 102]) .nil))) .nil))) (.call 1 (.cons (.idx (.var 1) (.int 2)) (.cons (.int 0) (.cons (.con 5) .nil)))))) .nil))⟩
def fneed_heard : Fn := ⟨3, 2, (.cons (.ite (.or (.not (.call 2 (.cons (.var 1) (.cons (.int 1) (.cons (.int 4) .nil))))) (.not (.blt .all false (.cons (.lc false [2] (.name 2) (.of (.var 1)) .none (.call 78 (.cons (.var 0) (.cons (.var 2) .nil)))) .nil)))) (.cons (.rais 6 .nil) .nil) .nil) .nil)⟩
def fplace_of : Fn := ⟨1, 1, (.cons (.ret (.ite (.cmp .eq (.var 0) (.str [111, 110])) (.int 0) (.int 1))) .nil)⟩
def fgathered_b1 : Ss := (.cons (.ite (.and (.cmp .ne (.var 1) (.lst false .nil)) (.cmp .eq (.idx (.idx (.var 1) (.neg (.int 1))) (.int 1)) (.bin .sub false (.var 2) (.int 1)))) (.cons (.asg (.name 1) (.bin .add false (.slc (.var 1) .none (.some (.neg (.int 1)))) (.lst false (.cons (.tup (.cons (.idx (.idx (.var 1) (.neg (.int 1))) (.int 0)) (.cons (.var 3) .nil))) .nil)))) .nil) (.cons (.asg (.name 1) (.bin .add false (.var 1) (.lst false (.cons (.tup (.cons (.var 2) (.cons (.var 3) .nil))) .nil)))) .nil)) .nil)
def fgathered : Fn := ⟨4, 1, (.cons (.asg (.name 1) (.lst false .nil)) (.cons (.for_ (.tup [(.name 2), (.name 3)]) (.of (.var 0)) fgathered_b1) (.cons (.ret (.var 1)) .nil)))⟩
def fnumbers_told_b1 : Ss := (.cons (.ite (.blt .all false (.cons (.lc false [14] (.name 14) (.of (.var 13)) .none (.cmp .eq (.var 14) (.int 0))) .nil)) (.cons (.asg (.name 3) (.bin .add false (.var 3) (.lst false (.cons (.tup (.cons (.var 11) (.cons (.var 12) .nil))) .nil)))) .nil) .nil) .nil)
def fnumbers_told_b2 : Ss := (.cons (.asg (.name 7) (.lc false [8, 9, 10] (.tup [(.name 8), (.name 9), (.name 10)]) (.of (.var 2)) .none (.call 12 (.cons (.idx (.idx (.var 6) (.var 8)) (.call 80 (.cons (.var 9) .nil))) (.cons (.tup (.cons (.int 0) (.cons (.var 10) .nil))) .nil))))) (.cons (.for_ (.tup [(.name 11), (.name 12), (.name 13)]) (.of (.call 46 (.cons (.var 4) (.cons (.var 5) (.cons (.var 7) .nil))))) fnumbers_told_b1) .nil))
def fnumbers_told : Fn := ⟨15, 3, (.cons (.expr (.call 17 (.cons (.var 0) (.cons (.var 1) .nil)))) (.cons (.expr (.call 79 (.cons (.var 1) (.cons (.var 2) .nil)))) (.cons (.asg (.name 3) (.lst false .nil)) (.cons (.for_ (.tup [(.name 4), (.name 5), (.name 6)]) (.of (.call 47 (.cons (.var 0) (.cons (.var 1) .nil)))) fnumbers_told_b2) (.cons (.ret (.call 81 (.cons (.var 3) .nil))) .nil)))))⟩
def fis_heard : Fn := ⟨8, 4, (.cons (.expr (.call 17 (.cons (.var 0) (.cons (.var 1) .nil)))) (.cons (.expr (.call 18 (.cons (.var 2) .nil))) (.cons (.expr (.call 79 (.cons (.var 1) (.cons (.var 3) .nil)))) (.cons (.asg (.name 4) (.call 38 (.cons (.var 0) (.cons (.var 1) (.cons (.var 2) .nil))))) (.cons (.ret (.blt .all false (.cons (.lc false [5, 6, 7] (.tup [(.name 5), (.name 6), (.name 7)]) (.of (.var 3)) .none (.cmp .eq (.idx (.idx (.var 4) (.var 5)) (.call 80 (.cons (.var 6) .nil))) (.var 7))) .nil))) .nil)))))⟩
def fgood_calls : Fn := ⟨1, 1, (.cons (.ite (.not (.call 7 (.cons (.var 0) .nil))) (.cons (.rais 2 .nil) .nil) .nil) (.cons (.ret (.var 0)) .nil))⟩
def fneed_index : Fn := ⟨2, 2, (.cons (.ite (.not (.call 1 (.cons (.var 1) (.cons (.int 0) (.cons (.bin .sub false (.blt .len false (.cons (.var 0) .nil)) (.int 1)) .nil))))) (.cons (.rais 7 .nil) .nil) .nil) .nil)⟩
def ffewer : Fn := ⟨2, 2, (.cons (.expr (.call 85 (.cons (.var 0) (.cons (.var 1) .nil)))) (.cons (.ret (.call 68 (.cons (.var 0) (.cons (.var 1) .nil)))) .nil))⟩
def fturned : Fn := ⟨1, 1, (.cons (.ret (.tup (.cons (.ite (.cmp .eq (.idx (.var 0) (.int 0)) (.str [98])) (.str [116]) (.str [98])) (.cons (.idx (.var 0) (.int 1)) .nil)))) .nil)⟩
def fturned_lift : Fn := ⟨1, 1, (.cons (.ret (.bin .add false (.slc (.var 0) .none (.some (.int 4))) (.tup (.cons (.call 87 (.cons (.idx (.var 0) (.int 4)) .nil)) (.cons (.ite (.cmp .eq (.idx (.var 0) (.int 5)) (.str [117, 112])) (.str [100, 111, 119, 110]) (.str [117, 112])) .nil))))) .nil)⟩
def fin_order : Fn := ⟨5, 2, (.cons (.asg (.name 2) (.lc2 false [3, 4] [4] (.name 3) (.rng1 (.blt .len false (.cons (.var 1) .nil))) (.name 4) (.rng1 (.var 3)) (.tup (.cons (.var 3) (.cons (.var 4) .nil))))) (.cons (.ret (.blt .all false (.cons (.lc false [3, 4] (.tup [(.name 3), (.name 4)]) (.of (.var 2)) .none (.cmp .is_ (.call 58 (.cons (.call 59 (.cons (.var 0) (.cons (.var 1) (.cons (.var 3) (.cons (.var 4) .nil))))) (.cons (.neg (.int 1)) .nil))) .non)) .nil))) .nil))⟩
def fwait_forms : Fn := ⟨5, 2, (.cons (.ret (.lc false [2, 3, 4] (.tup [(.name 2), (.tup [(.name 3), (.name 4)])]) (.enum (.var 1)) .none (.call 12 (.cons (.var 4) (.cons (.tup (.cons (.int 0) (.cons (.idx (.idx (.var 0) (.var 2)) (.int 0)) .nil))) .nil))))) .nil)⟩
def flongest_rows_b1 : Ss := (.cons (.asg (.name 10) (.call 48 (.cons (.var 6) (.cons (.var 7) .nil)))) (.cons (.asg (.name 2) (.bin .add false (.var 2) (.lst false (.cons (.tup (.cons (.var 7) (.cons (.var 8) (.cons (.tup (.cons (.var 10) (.cons (.idx (.var 6) (.var 10)) .nil))) .nil)))) .nil)))) .nil))
def flongest_rows_b2 : Ss := (.cons (.asg (.name 6) (.call 90 (.cons (.var 1) (.cons (.var 5) .nil)))) (.cons (.for_ (.tup [(.name 7), (.name 8), (.name 9)]) (.of (.call 46 (.cons (.var 3) (.cons (.var 4) (.cons (.call 49 (.cons (.var 6) .nil)) .nil))))) flongest_rows_b1) .nil))
def flongest_rows : Fn := ⟨11, 2, (.cons (.asg (.name 2) (.lst false .nil)) (.cons (.for_ (.tup [(.name 3), (.name 4), (.name 5)]) (.of (.call 47 (.cons (.var 0) (.cons (.var 1) .nil)))) flongest_rows_b2) (.cons (.ret (.call 42 (.cons (.var 2) .nil))) .nil)))⟩
def flongest_waits : Fn := ⟨5, 2, (.cons (.expr (.call 17 (.cons (.var 0) (.cons (.var 1) .nil)))) (.cons (.ite (.cmp .eq (.var 1) (.tup .nil)) (.cons (.ret (.lst false .nil)) .nil) .nil) (.cons (.ret (.lc false [2, 3, 4] (.tup [(.name 2), (.name 3), (.name 4)]) (.of (.call 91 (.cons (.var 0) (.cons (.var 1) .nil)))) .none (.bin .add false (.tup (.cons (.var 2) (.cons (.var 3) .nil))) (.var 4)))) .nil)))⟩
def fempty_ways : Fn := ⟨6, 2, (.cons (.expr (.call 17 (.cons (.var 0) (.cons (.var 1) .nil)))) (.cons (.ret (.call 42 (.cons (.lc false [2, 3, 4, 5] (.tup [(.name 2), (.name 3), (.tup [(.name 4), (.name 5)])]) (.of (.call 43 (.cons (.var 0) (.cons (.var 1) .nil)))) .none (.tup (.cons (.var 2) (.cons (.var 3) (.cons (.var 5) .nil))))) .nil))) .nil))⟩
def f_law_source : Fn := ⟨3, 2, (.cons (.asg (.name 2) (.int 0)) (.cons (.ite (.cmp .lt (.var 1) (.blt .len false (.cons (.var 0) .nil))) (.cons (.asg (.name 2) (.blt .abs false (.cons (.blt .int false (.cons (.idx (.var 0) (.var 1)) .nil)) .nil))) .nil) .nil) (.cons (.ite (.cmp .lt (.var 2) (.bin .pow false (.int 10) (.int 18))) (.cons (.ret (.lst true (.cons (.int 0) (.cons (.bin .add false (.int 1) (.bin .mod false (.blt .int false (.cons (.bin .add false (.bin .mul false (.var 2) (.int 7919)) (.bin .mul false (.int 104729) (.var 1))) .nil)) (.int 2147483646))) .nil)))) .nil) .nil) (.cons (.ret (.lst true (.cons (.var 2) (.cons (.bin .add false (.int 1) (.bin .mod false (.blt .int false (.cons (.bin .add false (.var 2) (.var 1)) .nil)) (.int 2147483646))) .nil)))) .nil))))⟩
def f_law_draw : Fn := ⟨3, 2, (.cons (.ite (.cmp .gt (.idx (.var 0) (.int 0)) (.int 0)) (.cons (.asg (.name 2) (.bin .mod false (.blt .int false (.cons (.idx (.var 0) (.int 0)) .nil)) (.var 1))) (.cons (.setI (.var 0) (.int 0) (.bin .fdiv false (.idx (.var 0) (.int 0)) (.var 1))) (.cons (.ret (.var 2)) .nil))) .nil) (.cons (.setI (.var 0) (.int 1) (.bin .mod false (.blt .int false (.cons (.bin .mul false (.idx (.var 0) (.int 1)) (.int 48271)) .nil)) (.int 2147483647))) (.cons (.ret (.bin .mod false (.blt .int false (.cons (.bin .fdiv false (.bin .mod false (.blt .int false (.cons (.bin .mul false (.idx (.var 0) (.int 1)) (.idx (.var 0) (.int 1))) .nil)) (.int 2147483629)) (.int 64)) .nil)) (.var 1))) .nil)))⟩
def f_law_of : Fn := ⟨2, 2, (.cons (.ret (.idx (.var 1) (.call 95 (.cons (.var 0) (.cons (.blt .len false (.cons (.var 1) .nil)) .nil))))) .nil)⟩
def f_law_great : Fn := ⟨3, 0, (.cons (.asg (.name 0) (.tup (.cons (.str [115, 99, 97, 110]) (.cons (.int 4) (.cons (.int 20) (.cons (.int 5) (.cons (.tup (.cons (.str [98]) (.cons (.int 3) .nil))) (.cons (.str [100, 111, 119, 110]) .nil)))))))) (.cons (.asg (.tup [(.name 1), (.name 2)]) (.tup (.cons (.tup (.cons (.int 1000) (.cons (.tup (.cons (.str [98]) (.cons (.int 3) .nil))) (.cons (.tup (.cons (.str [116]) (.cons (.int 3) .nil))) .nil)))) (.cons (.tup (.cons (.int 1000) (.cons (.tup (.cons (.str [116]) (.cons (.int 3) .nil))) (.cons (.tup (.cons (.str [98]) (.cons (.int 3) .nil))) .nil)))) .nil)))) (.cons (.ret (.tup (.cons (.var 0) (.cons (.tup (.cons (.var 1) (.cons (.var 2) (.cons (.tup (.cons (.int 1000) (.cons (.tup (.cons (.str [98]) (.cons (.int 0) .nil))) (.cons (.tup (.cons (.str [116]) (.cons (.int 0) .nil))) .nil)))) (.cons (.tup (.cons (.int 1000) (.cons (.tup (.cons (.str [116]) (.cons (.int 0) .nil))) (.cons (.tup (.cons (.str [98]) (.cons (.int 0) .nil))) .nil)))) .nil))))) .nil)))) .nil)))⟩
def f_law_first_right_s1 : S := (.asg (.tup [(.name 1), (.name 2)]) (.call 97 .nil))
def f_law_first_right_s2 : S := (.asg (.name 3) (.lst true (.cons (.call 21 (.cons (.var 1) .nil)) (.cons (.not (.call 21 (.cons (.bin .add false (.bin .add false (.slc (.var 1) .none (.some (.int 1))) (.tup (.cons (.int 5) .nil))) (.slc (.var 1) (.some (.int 2)) .none)) .nil))) (.cons (.call 22 (.cons (.var 2) .nil)) .nil)))))
def f_law_first_right_s3 : S := (.expr (.mth .append (.var 3) (.cons (.not (.call 22 (.cons (.bin .add false (.var 2) (.slc (.var 2) .none (.some (.int 1)))) .nil))) .nil)))
def f_law_first_right_s4 : S := (.expr (.mth .append (.var 3) (.cons (.not (.call 22 (.cons (.tup (.cons (.tup (.cons (.int 1001) (.cons (.tup (.cons (.str [98]) (.cons (.int 0) .nil))) (.cons (.tup (.cons (.str [98]) (.cons (.int 1) .nil))) .nil)))) .nil)) .nil))) .nil)))
def f_law_first_right_s5 : S := (.asg (.name 3) (.bin .add true (.var 3) (.lst false (.cons (.cmp .eq (.call 23 (.cons (.var 0) (.cons (.tup (.cons (.str [116]) (.cons (.int 3) .nil))) .nil))) (.bin .sub false (.var 0) (.int 4))) (.cons (.cmp .eq (.call 23 (.cons (.int 8) (.cons (.tup (.cons (.str [116]) (.cons (.int 3) .nil))) .nil))) (.int 4)) .nil)))))
def f_law_first_right_s6 : S := (.asg (.name 4) (.tup (.cons (.tup (.cons (.int 1000) (.cons (.bin .add false (.bin .mul false (.int 5) (.var 0)) (.int 1035)) .nil))) (.cons (.tup (.cons (.bin .add false (.bin .mul false (.int 5) (.var 0)) (.int 1035)) (.cons (.bin .add false (.bin .mul false (.int 10) (.var 0)) (.int 1070)) .nil))) .nil))))
def f_law_first_right_s7 : S := (.asg (.name 4) (.bin .add false (.var 4) (.tup (.cons (.tup (.cons (.int 1035) (.cons (.bin .add false (.bin .mul false (.int 5) (.var 0)) (.int 1070)) .nil))) (.cons (.tup (.cons (.bin .add false (.bin .mul false (.int 5) (.var 0)) (.int 1070)) (.cons (.bin .add false (.bin .mul false (.int 10) (.var 0)) (.int 1105)) .nil))) .nil)))))
def f_law_first_right_s8 : S := (.expr (.mth .append (.var 3) (.cons (.cmp .eq (.call 40 (.cons (.var 1) (.cons (.var 2) (.cons (.var 0) .nil)))) (.var 4)) .nil)))
def f_law_first_right_s9 : S := (.expr (.mth .append (.var 3) (.cons (.cmp .eq (.blt .len false (.cons (.call 39 (.cons (.var 1) (.cons (.var 2) (.cons (.var 0) .nil)))) .nil)) (.int 6)) .nil)))
def f_law_first_right_s10 : S := (.asg (.name 5) (.tup (.cons (.tup (.cons (.int 0) (.cons (.str [111, 102, 102]) (.cons (.bin .add false (.bin .mul false (.int 5) (.var 0)) (.int 1035)) .nil)))) (.cons (.tup (.cons (.int 2) (.cons (.str [111, 110]) (.cons (.int 1035) .nil)))) (.cons (.tup (.cons (.int 3) (.cons (.str [111, 110]) (.cons (.bin .add false (.bin .mul false (.int 5) (.var 0)) (.int 1070)) .nil)))) (.cons (.tup (.cons (.int 0) (.cons (.str [111, 110]) (.cons (.int 1000) .nil)))) .nil))))))
def f_law_first_right_s11 : S := (.expr (.mth .append (.var 3) (.cons (.call 83 (.cons (.var 1) (.cons (.var 2) (.cons (.var 0) (.cons (.var 5) .nil))))) .nil)))
def f_law_first_right_s12 : S := (.expr (.mth .append (.var 3) (.cons (.cmp .eq (.call 82 (.cons (.var 1) (.cons (.var 2) (.cons (.var 5) .nil)))) (.lst false (.cons (.tup (.cons (.var 0) (.cons (.var 0) .nil))) .nil))) .nil)))
def f_law_first_right_s13 : S := (.ret (.bin .add false (.var 3) (.lst false (.cons (.cmp .eq (.call 82 (.cons (.var 1) (.cons (.var 2) (.cons (.bin .add false (.slc (.var 5) (.some (.int 1)) (.some (.int 2))) (.slc (.var 5) (.some (.int 3)) .none)) .nil)))) (.lst false (.cons (.tup (.cons (.int 8) (.cons .non .nil))) .nil))) .nil))))
def f_law_first_right : Fn := ⟨6, 1, (.cons f_law_first_right_s1 (.cons f_law_first_right_s2 (.cons f_law_first_right_s3 (.cons f_law_first_right_s4 (.cons f_law_first_right_s5 (.cons f_law_first_right_s6 (.cons f_law_first_right_s7 (.cons f_law_first_right_s8 (.cons f_law_first_right_s9 (.cons f_law_first_right_s10 (.cons f_law_first_right_s11 (.cons f_law_first_right_s12 (.cons f_law_first_right_s13 .nil)))))))))))))⟩
def f_law_second_right_s1 : S := (.asg (.tup [(.name 0), (.name 1)]) (.call 97 .nil))
def f_law_second_right_s2 : S := (.asg (.name 2) (.bin .add false (.tup (.cons (.str [110, 101, 97, 114]) .nil)) (.slc (.var 0) (.some (.int 1)) .none)))
def f_law_second_right_s3 : S := (.asg (.name 3) (.lst true (.cons (.cmp .eq (.lc false [4] (.name 4) (.of (.call 51 (.cons (.var 0) (.cons (.var 1) .nil)))) .none (.slc (.var 4) .none (.some (.int 2)))) (.lst false (.cons (.tup (.cons (.int 8) (.cons .non .nil))) .nil))) .nil)))
def f_law_second_right_s4 : S := (.expr (.mth .append (.var 3) (.cons (.cmp .eq (.call 72 (.cons (.var 0) (.cons (.var 1) .nil))) (.lst false (.cons (.int 3) .nil))) .nil)))
def f_law_second_right_s5 : S := (.expr (.mth .append (.var 3) (.cons (.cmp .eq (.call 52 (.cons (.var 0) (.cons (.var 1) (.cons (.int 3) .nil)))) (.lst false (.cons (.tup (.cons (.int 8) (.cons .non (.cons (.tup (.cons (.int 5) (.cons (.int 1070) .nil))) (.cons (.tup (.cons (.int 10) (.cons (.int 1105) .nil))) .nil))))) .nil))) .nil)))
def f_law_second_right_s6 : S := (.expr (.mth .append (.var 3) (.cons (.cmp .eq (.call 53 (.cons (.var 0) (.cons (.var 1) .nil))) (.lst false (.cons (.tup (.cons (.int 8) (.cons .non (.cons (.tup (.cons (.int 10) (.cons (.int 1105) .nil))) .nil)))) .nil))) .nil)))
def f_law_second_right_s7 : S := (.expr (.mth .append (.var 3) (.cons (.cmp .eq (.call 93 (.cons (.var 0) (.cons (.var 1) .nil))) (.lst false (.cons (.tup (.cons (.int 8) (.cons .non (.cons (.tup (.cons (.int 0) (.cons (.int 0) .nil))) .nil)))) .nil))) .nil)))
def f_law_second_right_s8 : S := (.expr (.mth .append (.var 3) (.cons (.cmp .eq (.call 92 (.cons (.var 0) (.cons (.var 1) .nil))) (.lst false (.cons (.tup (.cons (.int 8) (.cons .non (.cons (.int 3) (.cons (.tup (.cons (.int 10) (.cons (.int 105) .nil))) .nil))))) .nil))) .nil)))
def f_law_second_right_s9 : S := (.expr (.mth .append (.var 3) (.cons (.cmp .eq (.call 56 (.cons (.var 0) (.cons (.var 1) .nil))) (.lst false (.cons (.tup (.cons (.int 8) (.cons (.int 9) (.cons (.tup (.cons (.str [115, 99, 97, 110]) .nil)) .nil)))) (.cons (.tup (.cons (.int 10) (.cons .non (.cons (.tup (.cons (.str [110, 101, 97, 114]) (.cons (.str [115, 99, 97, 110]) .nil))) .nil)))) .nil)))) .nil)))
def f_law_second_right_s10 : S := (.expr (.mth .append (.var 3) (.cons (.cmp .is_ (.call 63 (.cons (.var 0) (.cons (.var 1) (.cons (.int 0) (.cons (.int 1) .nil))))) (.bl true)) .nil)))
def f_law_second_right_s11 : S := (.expr (.mth .append (.var 3) (.cons (.cmp .is_ (.call 64 (.cons (.var 0) (.cons (.var 1) (.cons (.int 1) (.cons (.int 0) .nil))))) .non) .nil)))
def f_law_second_right_s12 : S := (.expr (.mth .append (.var 3) (.cons (.cmp .eq (.call 64 (.cons (.var 0) (.cons (.var 1) (.cons (.int 2) (.cons (.int 1) .nil))))) (.int 8)) .nil)))
def f_law_second_right_s13 : S := (.expr (.mth .append (.var 3) (.cons (.not (.call 65 (.cons (.var 2) (.cons (.var 0) (.cons (.var 1) (.cons (.int 3) .nil)))))) .nil)))
def f_law_second_right_s14 : S := (.ret (.bin .add false (.var 3) (.lst false (.cons (.not (.call 71 (.cons (.var 0) (.cons (.var 1) (.cons (.var 2) (.cons (.var 1) .nil)))))) .nil))))
def f_law_second_right : Fn := ⟨5, 0, (.cons f_law_second_right_s1 (.cons f_law_second_right_s2 (.cons f_law_second_right_s3 (.cons f_law_second_right_s4 (.cons f_law_second_right_s5 (.cons f_law_second_right_s6 (.cons f_law_second_right_s7 (.cons f_law_second_right_s8 (.cons f_law_second_right_s9 (.cons f_law_second_right_s10 (.cons f_law_second_right_s11 (.cons f_law_second_right_s12 (.cons f_law_second_right_s13 (.cons f_law_second_right_s14 .nil))))))))))))))⟩
def f_law_led_right_s1 : S := (.asg (.tup [(.name 1), (.name 2)]) (.call 97 .nil))
def f_law_led_right_s2 : S := (.asg (.name 3) (.dun .add 1 122 (.mkR 1 119 1 (.cons (.var 1) (.cons (.idx (.var 2) (.int 0)) (.cons (.idx (.var 2) (.int 1)) (.cons (.idx (.var 2) (.int 2)) .nil)))) .none) (.cons (.idx (.var 2) (.int 3)) .nil)))
def f_law_led_right_s3 : S := (.asg (.name 4) (.lst true (.cons (.cmp .eq (.idx (.dun .call 1 123 (.var 3) (.cons (.var 0) .nil)) (.int 3)) (.tup (.cons (.bin .add false (.bin .mul false (.int 5) (.var 0)) (.int 1070)) (.cons (.bin .add false (.bin .mul false (.int 10) (.var 0)) (.int 1105)) .nil)))) .nil)))
def f_law_led_right_s4 : S := (.expr (.mth .append (.var 4) (.cons (.not (.dun .bool 1 125 (.var 3) .nil)) .nil)))
def f_law_led_right_s5 : S := (.expr (.mth .append (.var 4) (.cons (.cmp .eq (.dun .len 1 124 (.var 3) .nil) (.int 4)) .nil)))
def f_law_led_right_s6 : S := (.asg (.name 5) (.mk 0 102 (.cons (.var 1) (.cons (.var 0) .nil))))
def f_law_led_right_s7 : S := (.asg (.name 4) (.bin .add true (.var 4) (.lst false (.cons (.cmp .eq (.met 0 113 (.var 5) 0 (.cons (.tup (.cons (.str [98]) (.cons (.int 3) .nil))) (.cons (.tup (.cons (.str [116]) (.cons (.int 3) .nil))) .nil))) (.int 0)) (.cons (.cmp .eq (.met 0 114 (.var 5) 1 .nil) (.tup (.cons (.int 0) (.cons (.tup (.cons (.str [98]) (.cons (.int 3) .nil))) (.cons (.tup .nil) (.cons (.tup (.cons (.int 0) .nil)) .nil)))))) .nil)))))
def f_law_led_right_s8 : S := (.expr (.mth .append (.var 4) (.cons (.cmp .eq (.met 0 115 (.var 5) 2 (.cons (.int 1000) .nil)) (.int 1020)) .nil)))
def f_law_led_right_s9 : S := (.expr (.mth .append (.var 4) (.cons (.cmp .eq (.met 0 114 (.var 5) 1 .nil) (.tup (.cons (.bin .add false (.bin .mul false (.int 5) (.var 0)) (.int 985)) (.cons (.tup (.cons (.str [116]) (.cons (.int 3) .nil))) (.cons (.tup (.cons (.int 0) .nil)) (.cons (.tup .nil) .nil)))))) .nil)))
def f_law_led_right_s10 : S := (.ret (.bin .add false (.var 4) (.lst false (.cons (.cmp .eq (.prp 0 105 (.var 5) 3) (.bin .add false (.bin .mul false (.int 5) (.var 0)) (.int 1005))) (.cons (.cmp .eq (.prp 0 107 (.var 5) 4) (.str [117, 112])) .nil)))))
def f_law_led_right : Fn := ⟨6, 1, (.cons f_law_led_right_s1 (.cons f_law_led_right_s2 (.cons f_law_led_right_s3 (.cons f_law_led_right_s4 (.cons f_law_led_right_s5 (.cons f_law_led_right_s6 (.cons f_law_led_right_s7 (.cons f_law_led_right_s8 (.cons f_law_led_right_s9 (.cons f_law_led_right_s10 .nil))))))))))⟩
def flaw_s1 : S := (.asg (.name 2) (.call 94 (.cons (.var 0) (.cons (.var 1) .nil))))
def flaw_s2 : S := (.asg (.name 3) (.call 96 (.cons (.var 2) (.cons (.lst false (.cons (.bin .pow false (.int 10) (.int 30)) (.cons (.bin .pow false (.int 10) (.int 30)) (.cons (.bin .add false (.int 10) (.call 95 (.cons (.var 2) (.cons (.bin .pow false (.int 10) (.int 9)) .nil)))) .nil)))) .nil))))
def flaw_s3 : S := (.ite (.or (.cmp .isin (.bl false) (.call 98 (.cons (.var 3) .nil))) (.cmp .isin (.bl false) (.call 100 (.cons (.var 3) .nil)))) (.cons (.ret (.bl false)) .nil) .nil)
def flaw_s4 : S := (.ite (.and (.cmp .eq (.var 1) (.int 0)) (.cmp .isin (.bl false) (.bin .add false (.call 99 .nil) (.call 100 (.cons (.int 8) .nil))))) (.cons (.ret (.bl false)) .nil) .nil)
def flaw_b1 : Ss := (.cons flaw_s1 (.cons flaw_s2 (.cons flaw_s3 (.cons flaw_s4 .nil))))
def flaw_s5 : S := (.for_ (.name 1) (.rng1 (.bin .add false (.int 1) (.blt .min false (.cons (.blt .len false (.cons (.var 0) .nil)) (.cons (.int 2) .nil))))) flaw_b1)
def flaw_s6 : S := (.ret (.bl true))
def flaw : Fn := ⟨4, 1, (.cons flaw_s5 (.cons flaw_s6 .nil))⟩
def fShaft___init___s1 : S := (.expr (.call 15 (.cons (.var 1) .nil)))
def fShaft___init___s2 : S := (.expr (.call 18 (.cons (.var 2) .nil)))
def fShaft___init___s3 : S := (.setF 0 (.var 0) 5 (.var 1))
def fShaft___init___s4 : S := (.setF 0 (.var 0) 6 (.var 2))
def fShaft___init___s5 : S := (.setF 0 (.var 0) 7 (.tup (.cons (.call 27 (.cons (.var 1) .nil)) (.cons (.tup .nil) (.cons (.tup .nil) .nil)))))
def fShaft___init___s6 : S := (.setF 0 (.var 0) 8 (.lst true .nil))
def fShaft___init__ : Fn := ⟨3, 3, (.cons fShaft___init___s1 (.cons fShaft___init___s2 (.cons fShaft___init___s3 (.cons fShaft___init___s4 (.cons fShaft___init___s5 (.cons fShaft___init___s6 .nil))))))⟩
def fShaft_lift : Fn := ⟨1, 1, (.cons (.ret (.fld 0 (.var 0) 5)) .nil)⟩
def fShaft_n : Fn := ⟨1, 1, (.cons (.ret (.fld 0 (.var 0) 6)) .nil)⟩
def fShaft_minute : Fn := ⟨1, 1, (.cons (.ret (.call 9 (.cons (.idx (.idx (.fld 0 (.var 0) 7) (.int 0)) (.int 0)) (.cons (.fld 0 (.var 0) 6) .nil)))) .nil)⟩
def fShaft_floor : Fn := ⟨1, 1, (.cons (.ret (.idx (.idx (.fld 0 (.var 0) 7) (.int 0)) (.int 1))) .nil)⟩
def fShaft_way : Fn := ⟨1, 1, (.cons (.ret (.idx (.idx (.fld 0 (.var 0) 7) (.int 0)) (.int 2))) .nil)⟩
def fShaft_riders : Fn := ⟨1, 1, (.cons (.ret (.blt .list false (.cons (.idx (.idx (.fld 0 (.var 0) 7) (.int 0)) (.int 3)) .nil))) .nil)⟩
def fShaft_stops : Fn := ⟨1, 1, (.cons (.ret (.idx (.fld 0 (.var 0) 7) (.int 2))) .nil)⟩
def fShaft_wanted : Fn := ⟨5, 2, (.cons (.asg (.tup [(.name 2), (.name 3), (.name 4)]) (.var 1)) (.cons (.ret (.call 31 (.cons (.fld 0 (.var 0) 5) (.cons (.var 3) (.cons (.var 2) (.cons (.idx (.call 30 (.cons (.var 3) (.cons (.var 2) (.cons (.fld 0 (.var 0) 6) .nil)))) (.int 0)) .nil)))))) .nil))⟩
def fShaft_one_stop_s1 : S := (.asg (.tup [(.name 2), (.name 3), (.name 4)]) (.var 1))
def fShaft_one_stop_s2 : S := (.asg (.name 5) (.met 0 110 (.var 0) 9 (.cons (.var 1) .nil)))
def fShaft_one_stop_s3 : S := (.ite (.cmp .eq (.var 5) (.lst false .nil)) (.cons (.rais 9 .nil) .nil) .nil)
def fShaft_one_stop_s4 : S := (.asg (.name 6) (.idx (.call 33 (.cons (.idx (.fld 0 (.var 0) 5) (.int 0)) (.cons (.var 2) (.cons (.var 5) (.cons (.fld 0 (.var 0) 6) .nil))))) (.int 0)))
def fShaft_one_stop_s5 : S := (.asg (.tup [(.name 2), (.name 7), (.name 8)]) (.call 34 (.cons (.fld 0 (.var 0) 5) (.cons (.var 3) (.cons (.var 2) (.cons (.var 6) (.cons (.fld 0 (.var 0) 6) .nil)))))))
def fShaft_one_stop_s6 : S := (.asg (.tup [(.name 6), (.name 9), (.name 10), (.name 11)]) (.var 7))
def fShaft_one_stop_s7 : S := (.ret (.tup (.cons (.var 2) (.cons (.var 3) (.cons (.bin .add false (.var 4) (.tup (.cons (.tup (.cons (.call 9 (.cons (.var 9) (.cons (.fld 0 (.var 0) 6) .nil))) (.cons (.var 6) (.cons (.var 10) (.cons (.var 11) .nil))))) .nil))) .nil)))))
def fShaft_one_stop : Fn := ⟨12, 2, (.cons fShaft_one_stop_s1 (.cons fShaft_one_stop_s2 (.cons fShaft_one_stop_s3 (.cons fShaft_one_stop_s4 (.cons fShaft_one_stop_s5 (.cons fShaft_one_stop_s6 (.cons fShaft_one_stop_s7 .nil)))))))⟩
def fShaft_keep : Fn := ⟨2, 2, (.cons (.ite (.cmp .ge (.blt .len false (.cons (.fld 0 (.var 0) 8) .nil)) (.con 4)) (.cons .any .nil) .nil) (.cons (.expr (.mth .append (.fld 0 (.var 0) 8) (.cons (.fld 0 (.var 0) 7) .nil))) (.cons (.setF 0 (.var 0) 7 (.var 1)) .nil)))⟩
def fShaft_call : Fn := ⟨6, 3, (.cons (.ite (.or (.not (.call 4 (.cons (.var 1) .nil))) (.or (.not (.call 4 (.cons (.var 2) .nil))) (.cmp .eq (.var 1) (.var 2)))) (.cons (.rais 5 .nil) .nil) .nil) (.cons (.asg (.tup [(.name 3), (.name 4), (.name 5)]) (.fld 0 (.var 0) 7)) (.cons (.expr (.met 0 112 (.var 0) 10 (.cons (.tup (.cons (.var 3) (.cons (.bin .add false (.var 4) (.tup (.cons (.tup (.cons (.prp 0 105 (.var 0) 3) (.cons (.var 1) (.cons (.var 2) .nil)))) .nil))) (.cons (.var 5) .nil)))) .nil))) (.cons (.ret (.blt .len false (.cons (.var 4) .nil))) .nil))))⟩
def fShaft_go : Fn := ⟨1, 1, (.cons (.expr (.met 0 112 (.var 0) 10 (.cons (.met 0 111 (.var 0) 11 (.cons (.fld 0 (.var 0) 7) .nil)) .nil))) (.cons (.ret (.idx (.idx (.fld 0 (.var 0) 7) (.int 2)) (.neg (.int 1)))) .nil))⟩
def fShaft_wait : Fn := ⟨5, 2, (.cons (.ite (.not (.call 1 (.cons (.var 1) (.cons (.int 1) (.cons (.int 1000) .nil))))) (.cons (.rais 3 .nil) .nil) .nil) (.cons (.asg (.tup [(.name 2), (.name 3), (.name 4)]) (.fld 0 (.var 0) 7)) (.cons (.expr (.met 0 112 (.var 0) 10 (.cons (.tup (.cons (.bin .add false (.tup (.cons (.tup (.cons (.int 0) (.cons (.bin .add false (.prp 0 105 (.var 0) 3) (.var 1)) .nil))) .nil)) (.slc (.var 2) (.some (.int 1)) .none)) (.cons (.var 3) (.cons (.var 4) .nil)))) .nil))) (.cons (.ret (.prp 0 105 (.var 0) 3)) .nil))))⟩
def fShaft_people_b1 : Ss := (.cons (.asg (.name 4) (.bin .add false (.var 4) (.lst false (.cons (.ite (.cmp .isin (.var 5) (.idx (.var 1) (.int 3))) (.str [114, 105, 100, 101, 115]) (.ite (.cmp .isin (.var 5) (.idx (.var 1) (.int 4))) (.str [116, 104, 101, 114, 101]) (.str [119, 97, 105, 116, 115]))) .nil)))) .nil)
def fShaft_people : Fn := ⟨6, 1, (.cons (.asg (.tup [(.name 1), (.name 2), (.name 3)]) (.fld 0 (.var 0) 7)) (.cons (.asg (.name 4) (.lst false .nil)) (.cons (.for_ (.name 5) (.rng1 (.blt .len false (.cons (.var 2) .nil))) fShaft_people_b1) (.cons (.ret (.var 4)) .nil))))⟩
def fShaft___len__ : Fn := ⟨1, 1, (.cons (.ret (.blt .len false (.cons (.fld 0 (.var 0) 8) .nil))) .nil)⟩
def fShaft___bool__ : Fn := ⟨2, 1, (.cons (.ret (.blt .bool false (.cons (.blt .any false (.cons (.lc false [1] (.name 1) (.of (.met 0 116 (.var 0) 12 .nil)) .none (.cmp .ne (.var 1) (.str [116, 104, 101, 114, 101]))) .nil)) .nil))) .nil)⟩
def fPlan___init__ : Fn := ⟨3, 3, (.cons (.expr (.call 15 (.cons (.var 1) .nil))) (.cons (.expr (.call 16 (.cons (.var 2) .nil))) (.cons (.setF 1 (.var 0) 5 (.var 1)) (.cons (.setF 1 (.var 0) 13 (.var 2)) .nil))))⟩
def fPlan_lift : Fn := ⟨1, 1, (.cons (.ret (.fld 1 (.var 0) 5)) .nil)⟩
def fPlan_source : Fn := ⟨1, 1, (.cons (.ret (.fld 1 (.var 0) 13)) .nil)⟩
def fPlan___add__ : Fn := ⟨3, 2, (.cons (.asg (.name 2) (.call 84 (.cons (.bin .add false (.fld 1 (.var 0) 13) (.tup (.cons (.var 1) .nil))) .nil))) (.cons (.ret (.mkR 1 119 1 (.cons (.fld 1 (.var 0) 5) .nil) (.some (.var 2)))) .nil))⟩
def fPlan___call__ : Fn := ⟨2, 2, (.cons (.expr (.call 18 (.cons (.var 1) .nil))) (.cons (.ret (.call 38 (.cons (.fld 1 (.var 0) 5) (.cons (.fld 1 (.var 0) 13) (.cons (.var 1) .nil))))) .nil))⟩
def fPlan___len__ : Fn := ⟨1, 1, (.cons (.ret (.blt .len false (.cons (.fld 1 (.var 0) 13) .nil))) .nil)⟩
def fPlan___bool__ : Fn := ⟨1, 1, (.cons (.ret (.blt .bool false (.cons (.call 89 (.cons (.fld 1 (.var 0) 5) (.cons (.fld 1 (.var 0) 13) .nil))) .nil))) .nil)⟩
def fns : List FnE := [
  ⟨"_wall", ["k"], top 0, f_wall, none⟩,
  ⟨"is_number", ["value", "least", "most"], top 18, fis_number, none⟩,
  ⟨"is_tuple", ["value", "least", "most"], top 19, fis_tuple, none⟩,
  ⟨"is_word", ["value", "some"], top 20, fis_word, none⟩,
  ⟨"is_floor", ["value"], top 21, fis_floor, none⟩,
  ⟨"is_good_lift", ["value"], top 22, fis_good_lift, none⟩,
  ⟨"is_call", ["value"], top 23, fis_call, none⟩,
  ⟨"are_good_calls", ["value", "call", "one", "other"], top 24, fare_good_calls, none⟩,
  ⟨"floor_form", ["floor"], top 25, ffloor_form, none⟩,
  ⟨"worth", ["form", "n"], top 26, fworth, none⟩,
  ⟨"added", ["one", "other"], top 27, fadded, none⟩,
  ⟨"many_times", ["form", "times"], top 28, fmany_times, none⟩,
  ⟨"less", ["one", "other"], top 29, fless, none⟩,
  ⟨"sign_of", ["form", "n", "found"], top 30, fsign_of, none⟩,
  ⟨"same_to", ["form", "n", "a", "b", "sign"], top 31, fsame_to, none⟩,
  ⟨"need_lift", ["value"], top 32, fneed_lift, none⟩,
  ⟨"need_calls", ["value"], top 33, fneed_calls, none⟩,
  ⟨"need_plan", ["lift", "calls"], top 34, fneed_plan, none⟩,
  ⟨"need_n", ["value"], top 35, fneed_n, none⟩,
  ⟨"need_person", ["calls", "value"], top 36, fneed_person, none⟩,
  ⟨"need_floor", ["value"], top 37, fneed_floor, none⟩,
  ⟨"is_lift", ["value"], top 38, fis_lift, none⟩,
  ⟨"are_calls", ["value"], top 39, fare_calls, none⟩,
  ⟨"floor_at", ["n", "floor"], top 40, ffloor_at, none⟩,
  ⟨"far_to", ["floor", "goal"], top 42, ffar_to, none⟩,
  ⟨"way_form", ["floor", "goal", "n", "far"], top 43, fway_form, none⟩,
  ⟨"lies_ahead", ["floor", "goal", "way", "n", "sign"], top 44, flies_ahead, none⟩,
  ⟨"standing_first", ["lift"], top 45, fstanding_first, none⟩,
  ⟨"waiting_ones", ["calls", "state", "person"], top 46, fwaiting_ones, none⟩,
  ⟨"by_then", ["calls", "minute", "people", "person"], top 47, fby_then, none⟩,
  ⟨"heard_ones", ["calls", "state", "n", "people", "forms", "person", "form"], top 48, fheard_ones, none⟩,
  ⟨"wanted_by", ["lift", "calls", "state", "heard", "found", "person"], top 49, fwanted_by, none⟩,
  ⟨"nearest", ["state", "floors", "n", "best", "asked", "goal", "form", "sign"], top 50, fnearest, none⟩,
  ⟨"goal_of", ["rule", "state", "wanted", "n", "floors", "person", "floor", "ahead"], top 51, fgoal_of, none⟩,
  ⟨"stop_at", ["lift", "calls", "state", "goal", "n", "minute", "floor", "way", "riders", "there", "asked", "far", "off", "person", "rest", "people", "forms", "come", "form", "on", "later"], top 52, fstop_at, none⟩,
  ⟨"next_minute", ["calls", "state", "heard", "some", "person"], top 53, fnext_minute, none⟩,
  ⟨"run_with", ["lift", "calls", "n", "state", "stops", "empty", "heard", "forms", "wanted", "goal", "empty_so", "stop", "far", "minute"], top 54, frun_with, none⟩,
  ⟨"ride_forms", ["calls", "stops", "found", "person", "on", "floor", "minute", "out", "into", "off"], top 55, fride_forms, none⟩,
  ⟨"rides_of", ["lift", "calls", "n", "forms", "on", "off"], top 56, frides_of, none⟩,
  ⟨"story", ["lift", "calls", "n"], top 57, fstory, none⟩,
  ⟨"rides", ["lift", "calls", "n"], top 58, frides, none⟩,
  ⟨"until", ["forms", "n", "ends", "form", "end"], top 60, funtil, none⟩,
  ⟨"joined", ["rows", "found", "least", "greatest", "told"], top 61, fjoined, none⟩,
  ⟨"all_runs", ["lift", "calls", "found", "n", "stops", "empty", "asked", "end"], top 62, fall_runs, none⟩,
  ⟨"parted", ["rows", "other_rows", "found", "least", "greatest", "told", "other_least", "other_greatest", "other_told", "low", "high"], top 63, fparted, none⟩,
  ⟨"lesser_end", ["one", "other"], top 64, flesser_end, none⟩,
  ⟨"by_signs", ["least", "greatest", "forms", "found", "n", "end", "form"], top 65, fby_signs, none⟩,
  ⟨"all_rides", ["lift", "calls", "runs", "least", "greatest", "stops", "empty"], top 66, fall_rides, none⟩,
  ⟨"greatest_of", ["forms", "n", "best", "index", "form"], top 67, fgreatest_of, none⟩,
  ⟨"all_pairs", ["forms", "one", "other"], top 68, fall_pairs, none⟩,
  ⟨"end_rows", ["lift", "calls", "found", "least", "greatest", "rides", "forms", "on", "off", "low", "high", "signs"], top 69, fend_rows, none⟩,
  ⟨"table", ["lift", "calls", "least", "greatest", "stops", "empty"], top 70, ftable, none⟩,
  ⟨"rides_table", ["lift", "calls", "person", "rows", "least", "greatest", "rides", "pair"], top 71, frides_table, none⟩,
  ⟨"end_table", ["lift", "calls"], top 72, fend_table, none⟩,
  ⟨"all_forms", ["tables", "rows", "least", "greatest", "form", "other", "low", "high", "forms"], top 74, fall_forms, none⟩,
  ⟨"best_of", ["words", "tables", "found", "least", "greatest", "forms", "low", "high", "signs", "best", "form", "some", "word"], top 75, fbest_of, none⟩,
  ⟨"best_rules", ["lift", "calls", "rule"], top 76, fbest_rules, none⟩,
  ⟨"sign_rows", ["rows", "found", "least", "greatest", "form", "low", "high", "signs"], top 78, fsign_rows, none⟩,
  ⟨"first_with", ["rows", "sign", "some", "least", "greatest", "found"], top 79, ffirst_with, none⟩,
  ⟨"earlier_rows", ["lift", "calls", "one", "other", "rows", "least", "greatest", "rides"], top 80, fearlier_rows, none⟩,
  ⟨"later_rows", ["one_lift", "other_lift", "calls", "person", "rows", "forms", "least", "greatest", "one", "other"], top 81, flater_rows, none⟩,
  ⟨"need_people", ["lift", "calls", "one", "other"], top 82, fneed_people, none⟩,
  ⟨"need_lifts", ["one_lift", "other_lift", "calls", "person"], top 83, fneed_lifts, none⟩,
  ⟨"before", ["lift", "calls", "one", "other", "truths", "least", "greatest", "sign"], top 84, fbefore, none⟩,
  ⟨"first_before", ["lift", "calls", "one", "other"], top 85, ffirst_before, none⟩,
  ⟨"never_later", ["one_lift", "other_lift", "calls", "person"], top 86, fnever_later, none⟩,
  ⟨"first_unlike", ["rows", "other_rows", "least", "greatest", "one", "other", "forms", "pair", "other_pair", "mine", "yours", "low", "high", "signs", "sign"], top 88, ffirst_unlike, none⟩,
  ⟨"unlike_number", ["one_lift", "one_calls", "other_lift", "other_calls"], top 89, funlike_number, none⟩,
  ⟨"without", ["calls", "person"], top 90, fwithout, none⟩,
  ⟨"is_idle", ["lift", "calls", "person", "rows", "least", "greatest", "rides"], top 91, fis_idle, none⟩,
  ⟨"need_two", ["one_lift", "one_calls", "other_lift", "other_calls"], top 92, fneed_two, none⟩,
  ⟨"alike", ["one_lift", "one_calls", "other_lift", "other_calls"], top 93, falike, none⟩,
  ⟨"idle_calls", ["lift", "calls", "person"], top 94, fidle_calls, none⟩,
  ⟨"floor_text", ["floor"], top 97, ffloor_text, none⟩,
  ⟨"lines_of", ["lift", "calls", "rule", "room", "halt", "pace", "home", "way", "found", "minute", "start", "goal"], top 98, flines_of, none⟩,
  ⟨"part_in", ["word", "good", "sign"], top 99, fpart_in, none⟩,
  ⟨"line_in", ["line", "words", "found", "word"], top 100, fline_in, none⟩,
  ⟨"plan_in", ["value", "parts", "line", "calls", "first", "told"], top 101, fplan_in, none⟩,
  ⟨"is_fact", ["calls", "value"], top 107, fis_fact, none⟩,
  ⟨"need_heard", ["calls", "value", "fact"], top 108, fneed_heard, none⟩,
  ⟨"place_of", ["word"], top 109, fplace_of, none⟩,
  ⟨"gathered", ["rows", "found", "least", "greatest"], top 110, fgathered, none⟩,
  ⟨"numbers_told", ["lift", "calls", "heard", "found", "least", "greatest", "rides", "forms", "person", "word", "minute", "low", "high", "signs", "sign"], top 111, fnumbers_told, none⟩,
  ⟨"is_heard", ["lift", "calls", "n", "heard", "found", "person", "word", "minute"], top 112, fis_heard, none⟩,
  ⟨"good_calls", ["value"], top 114, fgood_calls, none⟩,
  ⟨"need_index", ["calls", "value"], top 115, fneed_index, none⟩,
  ⟨"fewer", ["calls", "person"], top 116, ffewer, none⟩,
  ⟨"turned", ["floor"], top 117, fturned, none⟩,
  ⟨"turned_lift", ["lift"], top 118, fturned_lift, none⟩,
  ⟨"in_order", ["lift", "calls", "couples", "one", "other"], top 119, fin_order, none⟩,
  ⟨"wait_forms", ["calls", "rides", "person", "on", "off"], top 122, fwait_forms, none⟩,
  ⟨"longest_rows", ["lift", "calls", "found", "least", "greatest", "rides", "forms", "low", "high", "signs", "person"], top 123, flongest_rows, none⟩,
  ⟨"longest_waits", ["lift", "calls", "least", "greatest", "pair"], top 124, flongest_waits, none⟩,
  ⟨"empty_ways", ["lift", "calls", "least", "greatest", "stops", "empty"], top 125, fempty_ways, none⟩,
  ⟨"_law_source", ["script", "k", "cell"], top 127, f_law_source, none⟩,
  ⟨"_law_draw", ["source", "many", "found"], top 128, f_law_draw, none⟩,
  ⟨"_law_of", ["source", "items"], top 129, f_law_of, none⟩,
  ⟨"_law_great", ["lift", "first", "second"], top 130, f_law_great, none⟩,
  ⟨"_law_first_right", ["n", "lift", "calls", "found", "due", "heard"], top 131, f_law_first_right, none⟩,
  ⟨"_law_second_right", ["lift", "calls", "near", "found", "row"], top 132, f_law_second_right, none⟩,
  ⟨"_law_led_right", ["n", "lift", "calls", "value", "found", "shaft"], top 133, f_law_led_right, none⟩,
  ⟨"law", ["script", "k", "source", "n"], top 134, flaw, none⟩,
  ⟨"__init__", ["self", "lift", "n"], mtd 104 1, fShaft___init__, some ("Shaft", "Shaft.__init__", false)⟩,
  ⟨"lift", ["self"], mtd 104 2, fShaft_lift, some ("Shaft", "Shaft.lift", true)⟩,
  ⟨"n", ["self"], mtd 104 3, fShaft_n, some ("Shaft", "Shaft.n", true)⟩,
  ⟨"minute", ["self"], mtd 104 4, fShaft_minute, some ("Shaft", "Shaft.minute", true)⟩,
  ⟨"floor", ["self"], mtd 104 5, fShaft_floor, some ("Shaft", "Shaft.floor", true)⟩,
  ⟨"way", ["self"], mtd 104 6, fShaft_way, some ("Shaft", "Shaft.way", true)⟩,
  ⟨"riders", ["self"], mtd 104 7, fShaft_riders, some ("Shaft", "Shaft.riders", true)⟩,
  ⟨"stops", ["self"], mtd 104 8, fShaft_stops, some ("Shaft", "Shaft.stops", true)⟩,
  ⟨"wanted", ["self", "now", "state", "calls", "stops"], mtd 104 9, fShaft_wanted, some ("Shaft", "Shaft.wanted", false)⟩,
  ⟨"one_stop", ["self", "now", "state", "calls", "stops", "wanted", "goal", "stop", "far", "form", "off", "on"], mtd 104 10, fShaft_one_stop, some ("Shaft", "Shaft.one_stop", false)⟩,
  ⟨"keep", ["self", "now"], mtd 104 11, fShaft_keep, some ("Shaft", "Shaft.keep", false)⟩,
  ⟨"call", ["self", "start", "goal", "state", "calls", "stops"], mtd 104 12, fShaft_call, some ("Shaft", "Shaft.call", false)⟩,
  ⟨"go", ["self"], mtd 104 13, fShaft_go, some ("Shaft", "Shaft.go", false)⟩,
  ⟨"wait", ["self", "minutes", "state", "calls", "stops"], mtd 104 15, fShaft_wait, some ("Shaft", "Shaft.wait", false)⟩,
  ⟨"people", ["self", "state", "calls", "stops", "found", "person"], mtd 104 18, fShaft_people, some ("Shaft", "Shaft.people", false)⟩,
  ⟨"__len__", ["self"], mtd 104 21, fShaft___len__, some ("Shaft", "Shaft.__len__", false)⟩,
  ⟨"__bool__", ["self", "told"], mtd 104 22, fShaft___bool__, some ("Shaft", "Shaft.__bool__", false)⟩,
  ⟨"__init__", ["self", "lift", "calls"], mtd 120 1, fPlan___init__, some ("Plan", "Plan.__init__", false)⟩,
  ⟨"lift", ["self"], mtd 120 3, fPlan_lift, some ("Plan", "Plan.lift", true)⟩,
  ⟨"source", ["self"], mtd 120 4, fPlan_source, some ("Plan", "Plan.source", true)⟩,
  ⟨"__add__", ["self", "call", "calls"], mtd 120 5, fPlan___add__, some ("Plan", "Plan.__add__", false)⟩,
  ⟨"__call__", ["self", "n"], mtd 120 11, fPlan___call__, some ("Plan", "Plan.__call__", false)⟩,
  ⟨"__len__", ["self"], mtd 120 14, fPlan___len__, some ("Plan", "Plan.__len__", false)⟩,
  ⟨"__bool__", ["self"], mtd 120 15, fPlan___bool__, some ("Plan", "Plan.__bool__", false)⟩]
abbrev i_wall : Nat := 0
abbrev iis_number : Nat := 1
abbrev iis_tuple : Nat := 2
abbrev iis_word : Nat := 3
abbrev iis_floor : Nat := 4
abbrev iis_good_lift : Nat := 5
abbrev iis_call : Nat := 6
abbrev iare_good_calls : Nat := 7
abbrev ifloor_form : Nat := 8
abbrev iworth : Nat := 9
abbrev iadded : Nat := 10
abbrev imany_times : Nat := 11
abbrev iless : Nat := 12
abbrev isign_of : Nat := 13
abbrev isame_to : Nat := 14
abbrev ineed_lift : Nat := 15
abbrev ineed_calls : Nat := 16
abbrev ineed_plan : Nat := 17
abbrev ineed_n : Nat := 18
abbrev ineed_person : Nat := 19
abbrev ineed_floor : Nat := 20
abbrev iis_lift : Nat := 21
abbrev iare_calls : Nat := 22
abbrev ifloor_at : Nat := 23
abbrev ifar_to : Nat := 24
abbrev iway_form : Nat := 25
abbrev ilies_ahead : Nat := 26
abbrev istanding_first : Nat := 27
abbrev iwaiting_ones : Nat := 28
abbrev iby_then : Nat := 29
abbrev iheard_ones : Nat := 30
abbrev iwanted_by : Nat := 31
abbrev inearest : Nat := 32
abbrev igoal_of : Nat := 33
abbrev istop_at : Nat := 34
abbrev inext_minute : Nat := 35
abbrev irun_with : Nat := 36
abbrev iride_forms : Nat := 37
abbrev irides_of : Nat := 38
abbrev istory : Nat := 39
abbrev irides : Nat := 40
abbrev iuntil : Nat := 41
abbrev ijoined : Nat := 42
abbrev iall_runs : Nat := 43
abbrev iparted : Nat := 44
abbrev ilesser_end : Nat := 45
abbrev iby_signs : Nat := 46
abbrev iall_rides : Nat := 47
abbrev igreatest_of : Nat := 48
abbrev iall_pairs : Nat := 49
abbrev iend_rows : Nat := 50
abbrev itable : Nat := 51
abbrev irides_table : Nat := 52
abbrev iend_table : Nat := 53
abbrev iall_forms : Nat := 54
abbrev ibest_of : Nat := 55
abbrev ibest_rules : Nat := 56
abbrev isign_rows : Nat := 57
abbrev ifirst_with : Nat := 58
abbrev iearlier_rows : Nat := 59
abbrev ilater_rows : Nat := 60
abbrev ineed_people : Nat := 61
abbrev ineed_lifts : Nat := 62
abbrev ibefore : Nat := 63
abbrev ifirst_before : Nat := 64
abbrev inever_later : Nat := 65
abbrev ifirst_unlike : Nat := 66
abbrev iunlike_number : Nat := 67
abbrev iwithout : Nat := 68
abbrev iis_idle : Nat := 69
abbrev ineed_two : Nat := 70
abbrev ialike : Nat := 71
abbrev iidle_calls : Nat := 72
abbrev ifloor_text : Nat := 73
abbrev ilines_of : Nat := 74
abbrev ipart_in : Nat := 75
abbrev iline_in : Nat := 76
abbrev iplan_in : Nat := 77
abbrev iis_fact : Nat := 78
abbrev ineed_heard : Nat := 79
abbrev iplace_of : Nat := 80
abbrev igathered : Nat := 81
abbrev inumbers_told : Nat := 82
abbrev iis_heard : Nat := 83
abbrev igood_calls : Nat := 84
abbrev ineed_index : Nat := 85
abbrev ifewer : Nat := 86
abbrev iturned : Nat := 87
abbrev iturned_lift : Nat := 88
abbrev iin_order : Nat := 89
abbrev iwait_forms : Nat := 90
abbrev ilongest_rows : Nat := 91
abbrev ilongest_waits : Nat := 92
abbrev iempty_ways : Nat := 93
abbrev i_law_source : Nat := 94
abbrev i_law_draw : Nat := 95
abbrev i_law_of : Nat := 96
abbrev i_law_great : Nat := 97
abbrev i_law_first_right : Nat := 98
abbrev i_law_second_right : Nat := 99
abbrev i_law_led_right : Nat := 100
abbrev ilaw : Nat := 101
abbrev iShaft___init__ : Nat := 102
abbrev iShaft_lift : Nat := 103
abbrev iShaft_n : Nat := 104
abbrev iShaft_minute : Nat := 105
abbrev iShaft_floor : Nat := 106
abbrev iShaft_way : Nat := 107
abbrev iShaft_riders : Nat := 108
abbrev iShaft_stops : Nat := 109
abbrev iShaft_wanted : Nat := 110
abbrev iShaft_one_stop : Nat := 111
abbrev iShaft_keep : Nat := 112
abbrev iShaft_call : Nat := 113
abbrev iShaft_go : Nat := 114
abbrev iShaft_wait : Nat := 115
abbrev iShaft_people : Nat := 116
abbrev iShaft___len__ : Nat := 117
abbrev iShaft___bool__ : Nat := 118
abbrev iPlan___init__ : Nat := 119
abbrev iPlan_lift : Nat := 120
abbrev iPlan_source : Nat := 121
abbrev iPlan___add__ : Nat := 122
abbrev iPlan___call__ : Nat := 123
abbrev iPlan___len__ : Nat := 124
abbrev iPlan___bool__ : Nat := 125
def txt : Txt := { fns := fns, excs := ["FloorError", "InvalidLift", "InvalidCalls", "InvalidNumber", "InvalidPerson", "InvalidFloor", "InvalidHeard", "InvalidIndex", "Unlike", "Done"], cons := [("RULES", .tup [[102, 105, 114, 115, 116], [110, 101, 97, 114], [115, 99, 97, 110]]), ("LEAST", .int 8), ("MOST", .int 1000000000000000000000000000000), ("FLOORS", .tup [[98, 48], [98, 49], [98, 50], [98, 51], [116, 48], [116, 49], [116, 50], [116, 51]]), ("LIMIT", .int 60), ("FAR", .int 10000000000000000000000000000000)], fuel := 100000, par := [none, some 0, some 0, some 0, some 0, some 0, some 0, some 0, some 0, some 0], ask := [], cls := ["Shaft", "Plan"], nm := ["call", "go", "wait", "minute", "way", "car", "many", "now", "past", "wanted", "keep", "one_stop", "people", "base"], mks := [(0, "Shaft", 102, 3)], mths := [(0, 0, 113, 3), (0, 1, 114, 1), (0, 2, 115, 2), (0, 9, 110, 2), (0, 10, 112, 2), (0, 11, 111, 2), (0, 12, 116, 1)], prps := [(0, 3, 105), (0, 4, 107)], flds := [(0, 5), (0, 6), (0, 7), (0, 8), (1, 5), (1, 13)], mkrs := [(1, "Plan", 119, 1)], duns := [(.add, 1, 122, 2), (.bool, 1, 125, 1), (.call, 1, 123, 2), (.len, 1, 124, 1)] }
def extra : List Str := ["TooMany", "InvalidText"]
end K21
namespace K21
open AF PySem
theorem chk : txt.fns.all (chkFn txt) = true := by decide +kernel
end K21

namespace K21
open AF PySem
abbrev RowK : PySem.W.OpenRow := PySem.W.OpenLaw.row PySem.Challenge.rw_anyfloors_k21_houses_at_every_bound
def loose : List PySem.Str := List.append (List.filter (fun x : PySem.Str => !(x == (PySem.Str.ofString "law"))) (txt.fns.filterMap (fun e => e.gname))) (List.append txt.excs (List.append txt.cls (List.append extra (txt.cons.map (fun c => c.1)))))
def ob (s : PySem.W.SharedT) : AlA := txt.obs 5 (HandSHeadRun.getT s)
theorem ob_eq (s : PySem.W.SharedT) : ob s = (txt.hook 5).obs s.abs := obs_eq s
theorem map_all {α β γ δ ε : Type} {o : Option α} {f : α → β} {g : α → γ} {h1 : α → δ} {h2 : α → ε} {b : β} {c : γ} {d : δ} {e : ε} (e1 : o.map (fun s => (f s, g s)) = some (b, c)) (e2 : o.map h1 = some d) (e3 : o.map h2 = some e) : o.map (fun s => (f s, g s, (h1 s, h2 s))) = some (b, c, (d, e)) := by
  cases o with
  | none => cases e1
  | some a =>
    simp only [Option.map_some, Option.some.injEq, Prod.mk.injEq] at e1 e2 e3 ⊢
    exact ⟨e1.1, e1.2, e2, e3⟩
open PySem.W PySem.Calls PyProof.Rows HandSHeadRun in
set_option maxHeartbeats 0 in
theorem runA (w : World) (os : OsState) : (endF (stepQ (denQ tabQ) RowK.prog w) 12000 RowK.prog w os).map (fun s => (looksF RowK.prog (boot_heap w.params) s.abs, seenQ (PySem.W.view RowK.prog [134]) loose (importedModules RowK.prog.main.body) (fun s => xlAt (PySem.W.view RowK.prog [134]) [] s && recOk RowK.toRowW.records s) s.abs)) = some (true, openGood (PySem.W.view RowK.prog [134]) loose) := by
  kernel_rfl
open PySem.W PySem.Calls PyProof.Rows HandSHeadRun in
set_option maxHeartbeats 0 in
theorem runB1 (w : World) (os : OsState) : (endF (stepQ (denQ tabQ) RowK.prog w) 12000 RowK.prog w os).map (fun s => (txt.fns.take 63).map fun e => fnA (He.frG (HandSHeadRun.getT s) (asX (HandSHeadRun.getT s) 5)) (fadr (He.frG (HandSHeadRun.getT s) (asX (HandSHeadRun.getT s) 5)) e)) = some ((txt.fns.take 63).map FnE.val) := by
  kernel_rfl
open PySem.W PySem.Calls PyProof.Rows HandSHeadRun in
set_option maxHeartbeats 0 in
theorem runB2 (w : World) (os : OsState) : (endF (stepQ (denQ tabQ) RowK.prog w) 12000 RowK.prog w os).map (fun s => (txt.fns.drop 63).map fun e => fnA (He.frG (HandSHeadRun.getT s) (asX (HandSHeadRun.getT s) 5)) (fadr (He.frG (HandSHeadRun.getT s) (asX (HandSHeadRun.getT s) 5)) e)) = some ((txt.fns.drop 63).map FnE.val) := by
  kernel_rfl
open PySem.W PySem.Calls PyProof.Rows HandSHeadRun in
set_option maxHeartbeats 0 in
theorem runC1 (w : World) (os : OsState) : (endF (stepQ (denQ tabQ) RowK.prog w) 12000 RowK.prog w os).map (fun s => txt.cons.all fun c => c.2.ok (He.frG (HandSHeadRun.getT s) (asX (HandSHeadRun.getT s) 5)) c.1) = some (true) := by
  kernel_rfl
open PySem.W PySem.Calls PyProof.Rows HandSHeadRun in
set_option maxHeartbeats 0 in
theorem runC2 (w : World) (os : OsState) : (endF (stepQ (denQ tabQ) RowK.prog w) 12000 RowK.prog w os).map (fun s => txt.askB (He.frG (HandSHeadRun.getT s) (asX (HandSHeadRun.getT s) 5))) = some (true) := by
  kernel_rfl
open PySem.W PySem.Calls PyProof.Rows HandSHeadRun in
set_option maxHeartbeats 0 in
theorem runC3 (w : World) (os : OsState) : (endF (stepQ (denQ tabQ) RowK.prog w) 12000 RowK.prog w os).map (fun s => txt.clsB (He.frG (HandSHeadRun.getT s) (asX (HandSHeadRun.getT s) 5))) = some (true) := by
  kernel_rfl
open PySem.W PySem.Calls PyProof.Rows HandSHeadRun in
set_option maxHeartbeats 0 in
theorem runC4 (w : World) (os : OsState) : (endF (stepQ (denQ tabQ) RowK.prog w) 12000 RowK.prog w os).map (fun s => txt.fa.all fun f => f.ok (He.frG (HandSHeadRun.getT s) (asX (HandSHeadRun.getT s) 5))) = some (true) := by
  kernel_rfl
open PySem.W PySem.Calls PyProof.Rows HandSHeadRun in
set_option maxHeartbeats 0 in
theorem runC5 (w : World) (os : OsState) : (endF (stepQ (denQ tabQ) RowK.prog w) 12000 RowK.prog w os).map (fun s => ((txt.fns.take 63).take 32).all fun e => okA (He.frG (HandSHeadRun.getT s) (asX (HandSHeadRun.getT s) 5)) (fadr (He.frG (HandSHeadRun.getT s) (asX (HandSHeadRun.getT s) 5)) e) e.qual) = some (true) := by
  kernel_rfl
open PySem.W PySem.Calls PyProof.Rows HandSHeadRun in
set_option maxHeartbeats 0 in
theorem runC6 (w : World) (os : OsState) : (endF (stepQ (denQ tabQ) RowK.prog w) 12000 RowK.prog w os).map (fun s => ((txt.fns.take 63).drop 32).all fun e => okA (He.frG (HandSHeadRun.getT s) (asX (HandSHeadRun.getT s) 5)) (fadr (He.frG (HandSHeadRun.getT s) (asX (HandSHeadRun.getT s) 5)) e) e.qual) = some (true) := by
  kernel_rfl
open PySem.W PySem.Calls PyProof.Rows HandSHeadRun in
set_option maxHeartbeats 0 in
theorem runC7 (w : World) (os : OsState) : (endF (stepQ (denQ tabQ) RowK.prog w) 12000 RowK.prog w os).map (fun s => ((txt.fns.drop 63).take 32).all fun e => okA (He.frG (HandSHeadRun.getT s) (asX (HandSHeadRun.getT s) 5)) (fadr (He.frG (HandSHeadRun.getT s) (asX (HandSHeadRun.getT s) 5)) e) e.qual) = some (true) := by
  kernel_rfl
open PySem.W PySem.Calls PyProof.Rows HandSHeadRun in
set_option maxHeartbeats 0 in
theorem runC8 (w : World) (os : OsState) : (endF (stepQ (denQ tabQ) RowK.prog w) 12000 RowK.prog w os).map (fun s => ((txt.fns.drop 63).drop 32).all fun e => okA (He.frG (HandSHeadRun.getT s) (asX (HandSHeadRun.getT s) 5)) (fadr (He.frG (HandSHeadRun.getT s) (asX (HandSHeadRun.getT s) 5)) e) e.qual) = some (true) := by
  kernel_rfl
theorem map_and {α : Type} {o : Option α} {f g : α → Bool} (h1 : o.map f = some true) (h2 : o.map g = some true) : o.map (fun s => f s && g s) = some true := by
  cases o with
  | none => cases h1
  | some a =>
    simp only [Option.map_some, Option.some.injEq] at h1 h2 ⊢
    rw [h1, h2]; rfl
theorem map_apd {α β : Type} {o : Option α} {f g : α → List β} {a b : List β} (h1 : o.map f = some a) (h2 : o.map g = some b) : o.map (fun s => f s ++ g s) = some (a ++ b) := by
  cases o with
  | none => cases h1
  | some a =>
    simp only [Option.map_some, Option.some.injEq] at h1 h2 ⊢
    rw [h1, h2]
open PySem.W PySem.Calls PyProof.Rows HandSHeadRun in
theorem runB (w : World) (os : OsState) : (endF (stepQ (denQ tabQ) RowK.prog w) 12000 RowK.prog w os).map (fun s => (ob s).1) = some (txt.fns.map FnE.val) := by
  have h := map_apd (runB1 w os) (runB2 w os)
  have e1 : (fun s => (ob s).1) = fun s => ((txt.fns.take 63).map fun e => fnA (He.frG (HandSHeadRun.getT s) (asX (HandSHeadRun.getT s) 5)) (fadr (He.frG (HandSHeadRun.getT s) (asX (HandSHeadRun.getT s) 5)) e)) ++ ((txt.fns.drop 63).map fun e => fnA (He.frG (HandSHeadRun.getT s) (asX (HandSHeadRun.getT s) 5)) (fadr (He.frG (HandSHeadRun.getT s) (asX (HandSHeadRun.getT s) 5)) e)) := funext fun s => by
    rw [← List.map_append, List.take_append_drop]; rfl
  have e2 : txt.fns.map FnE.val = (txt.fns.take 63).map FnE.val ++ (txt.fns.drop 63).map FnE.val := by
    rw [← List.map_append, List.take_append_drop]
  rw [e1, e2]; exact h
open PySem.W PySem.Calls PyProof.Rows HandSHeadRun in
theorem runC (w : World) (os : OsState) : (endF (stepQ (denQ tabQ) RowK.prog w) 12000 RowK.prog w os).map (fun s => (ob s).2) = some true := by
  have h := map_and (map_and (map_and (map_and (runC1 w os) (runC2 w os)) (runC3 w os)) (runC4 w os)) (map_and (map_and (runC5 w os) (runC6 w os)) (map_and (runC7 w os) (runC8 w os)))
  have e1 : (fun s => (ob s).2) = fun s => ((txt.cons.all fun c => c.2.ok (He.frG (HandSHeadRun.getT s) (asX (HandSHeadRun.getT s) 5)) c.1) && txt.askB (He.frG (HandSHeadRun.getT s) (asX (HandSHeadRun.getT s) 5)) && txt.clsB (He.frG (HandSHeadRun.getT s) (asX (HandSHeadRun.getT s) 5)) && (txt.fa.all fun f => f.ok (He.frG (HandSHeadRun.getT s) (asX (HandSHeadRun.getT s) 5)))) && (((((txt.fns.take 63).take 32).all fun e => okA (He.frG (HandSHeadRun.getT s) (asX (HandSHeadRun.getT s) 5)) (fadr (He.frG (HandSHeadRun.getT s) (asX (HandSHeadRun.getT s) 5)) e) e.qual) && (((txt.fns.take 63).drop 32).all fun e => okA (He.frG (HandSHeadRun.getT s) (asX (HandSHeadRun.getT s) 5)) (fadr (He.frG (HandSHeadRun.getT s) (asX (HandSHeadRun.getT s) 5)) e) e.qual)) && ((((txt.fns.drop 63).take 32).all fun e => okA (He.frG (HandSHeadRun.getT s) (asX (HandSHeadRun.getT s) 5)) (fadr (He.frG (HandSHeadRun.getT s) (asX (HandSHeadRun.getT s) 5)) e) e.qual) && (((txt.fns.drop 63).drop 32).all fun e => okA (He.frG (HandSHeadRun.getT s) (asX (HandSHeadRun.getT s) 5)) (fadr (He.frG (HandSHeadRun.getT s) (asX (HandSHeadRun.getT s) 5)) e) e.qual))) := funext fun s => by
    rw [← List.all_append, ← List.all_append, ← List.all_append, List.take_append_drop, List.take_append_drop, List.take_append_drop]; rfl
  rw [e1]; exact h
theorem run (w : World) : HandSHeadRun.RunEq RowK (PySem.W.view RowK.prog [134]) (txt.hook 5) ob 12000 loose w := fun os => map_all (runA w os) (runB w os) (runC w os)
end K21

/-! Enc: plain data compared; loops and comprehensions of the core by plain lists. -/
namespace AF
open PySem
/-- ints, texts, tuples, frozen lists, None -/
def plD : Nat → D → Bool
  | 0, _ => false
  | k + 1, d => match d with
    | .non => true
    | .int _ => true
    | .str x => cpsOk x
    | .tup l => l.all (plD k)
    | .lst l => l.all (plD k)
    | _ => false
theorem optAll_some {α β : Type} {f : α → Option β} : ∀ {l : List α}, (∀ a ∈ l, ∃ b, f a = some b) → ∃ r, optAll f l = some r
  | [], _ => ⟨[], rfl⟩
  | a :: l, h => by
    obtain ⟨b, hb⟩ := h a List.mem_cons_self
    obtain ⟨r, hr⟩ := optAll_some (l := l) fun c hc => h c (List.mem_cons_of_mem _ hc)
    exact ⟨b :: r, by simp [optAll, hb, hr]⟩
theorem py_pl (st : Store) : ∀ (k : Nat) (d : D), plD k d = true → ∃ p, py st k d = some p
  | 0, _, h => by simp [plD] at h
  | k + 1, d, h => by
    cases d <;> simp only [plD] at h <;> first | (cases h; done) | skip
    · exact ⟨_, py_non st k⟩
    · exact ⟨_, py_int st k _⟩
    · exact ⟨_, by rw [py_str, if_pos h]⟩
    · rename_i l
      obtain ⟨r, hr⟩ := optAll_some (f := py st k) (l := l) fun a ha => py_pl st k a (List.all_eq_true.mp h a ha)
      exact ⟨_, by rw [py_tup, hr]; rfl⟩
    · rename_i l
      obtain ⟨r, hr⟩ := optAll_some (f := py st k) (l := l) fun a ha => py_pl st k a (List.all_eq_true.mp h a ha)
      exact ⟨_, by rw [py_lst, hr]; rfl⟩
theorem toStr_beq (x y : List Nat) : (toStr x == toStr y) = (x == y) := by
  by_cases h : x = y
  · subst h; simp
  · have h2 : toStr x ≠ toStr y := fun e => h (by unfold toStr at e; simpa using e)
    rw [beq_eq_false_iff_ne.mpr h, beq_eq_false_iff_ne.mpr h2]
theorem eqv_pl (st : Store) : ∀ (k : Nat) (a b : D) (p q : PyData), plD k a = true → plD k b = true → py st k a = some p → py st k b = some q → PyData.eqv p q = D.beq a b
  | 0, _, _, _, _, h, _, _, _ => by simp [plD] at h
  | k + 1, a, b, p, q, h1, h2, e1, e2 => by
    have ihl : ∀ (l m : List D) (ps qs : List PyData), l.all (plD k) = true → m.all (plD k) = true → optAll (py st k) l = some ps → optAll (py st k) m = some qs → PyData.eqvAll ps qs = D.beqs l m := by
      intro l
      induction l with
      | nil =>
        intro m ps qs _ hm f1 f2
        cases f1
        cases m with
        | nil => cases f2; simp [PyData.eqvAll, D.beqs]
        | cons b m =>
          simp only [optAll] at f2
          split at f2
          · split at f2
            · cases f2; simp [PyData.eqvAll, D.beqs]
            · cases f2
          · cases f2
      | cons a l il =>
        intro m ps qs hl hm f1 f2
        simp only [List.all_cons, Bool.and_eq_true] at hl
        simp only [optAll] at f1
        split at f1
        · rename_i p e1
          split at f1
          · rename_i r e2
            cases f1
            cases m with
            | nil => cases f2; simp [PyData.eqvAll, D.beqs]
            | cons b m =>
              simp only [List.all_cons, Bool.and_eq_true] at hm
              simp only [optAll] at f2
              split at f2
              · rename_i q e3
                split at f2
                · rename_i s e4
                  cases f2
                  simp only [PyData.eqvAll, D.beqs]
                  rw [eqv_pl st k a b p q hl.1 hm.1 e1 e3, il m r s hl.2 hm.2 e2 e4]
                · cases f2
              · cases f2
          · cases f1
        · cases f1
    cases a <;> simp only [plD] at h1 <;> first | (cases h1; done) | skip
    all_goals (cases b <;> simp only [plD] at h2 <;> first | (cases h2; done) | skip)
    all_goals simp only [py_non, py_int, py_str, py_tup, py_lst, h1, h2, if_true] at e1 e2
    all_goals first
      | (cases e1; cases e2; simp [PyData.eqv, D.beq, toStr_beq]; done)
      | (obtain ⟨r1, f1, g1⟩ := Option.map_eq_some_iff.mp e1; obtain ⟨r2, f2, g2⟩ := Option.map_eq_some_iff.mp e2; subst g1 g2; simp only [PyData.eqv, D.beq]; exact ihl _ _ _ _ h1 h2 f1 f2)
      | (obtain ⟨r1, f1, g1⟩ := Option.map_eq_some_iff.mp e1; obtain ⟨r2, f2, g2⟩ := Option.map_eq_some_iff.mp e2; subst g1 g2; simp [PyData.eqv, D.beq]; done)
      | (cases e1; obtain ⟨r2, f2, g2⟩ := Option.map_eq_some_iff.mp e2; subst g2; simp [PyData.eqv, D.beq]; done)
      | (cases e2; obtain ⟨r1, f1, g1⟩ := Option.map_eq_some_iff.mp e1; subst g1; simp [PyData.eqv, D.beq]; done)
theorem eqD_pl {a b : D} (st : Store) (ha : plD 24 a = true) (hb : plD 24 b = true) : eqD st a b = some (D.beq a b) := by
  obtain ⟨p, hp⟩ := py_pl st 24 a ha
  obtain ⟨q, hq⟩ := py_pl st 24 b hb
  unfold eqD look PYN
  rw [hp, hq]
  simp only
  rw [eqv_pl st 24 a b p q ha hb hp hq]
theorem optAll_any {f : D → Option PyData} {g : PyData → Bool} {h : D → Bool} : ∀ {l : List D} {r : List PyData}, (∀ a ∈ l, ∀ p, f a = some p → g p = h a) → optAll f l = some r → r.any g = l.any h
  | [], r, _, e => by cases e; rfl
  | a :: l, r, hh, e => by
    simp only [optAll] at e
    split at e
    · rename_i p e1
      split at e
      · rename_i s e2
        cases e
        rw [List.any_cons, List.any_cons, hh a List.mem_cons_self p e1, optAll_any (fun b hb => hh b (List.mem_cons_of_mem _ hb)) e2]
      · cases e
    · cases e
theorem plD_up (st : Store) : ∀ (k : Nat) (d : D), plD k d = true → ∀ p, py st k d = some p → plD (k + 1) d = true ∧ py st (k + 1) d = some p := by
  intro k
  induction k with
  | zero => intro d h; simp [plD] at h
  | succ k ih =>
    intro d h p hp
    have lst : ∀ (l : List D) (r : List PyData), l.all (plD k) = true → optAll (py st k) l = some r → l.all (plD (k + 1)) = true ∧ optAll (py st (k + 1)) l = some r := by
      intro l
      induction l with
      | nil => intro r _ e; exact ⟨rfl, e⟩
      | cons a l il =>
        intro r hl e
        simp only [List.all_cons, Bool.and_eq_true] at hl
        simp only [optAll] at e
        split at e
        · rename_i p e1
          split at e
          · rename_i s e2
            cases e
            obtain ⟨u1, u2⟩ := ih a hl.1 p e1
            obtain ⟨v1, v2⟩ := il s hl.2 e2
            exact ⟨by rw [List.all_cons, u1, v1]; rfl, by simp only [optAll, u2, v2]⟩
          · cases e
        · cases e
    cases d <;> simp only [plD] at h <;> first | (cases h; done) | skip
    · rw [py_non] at hp; exact ⟨rfl, by rw [py_non]; exact hp⟩
    · rw [py_int] at hp; exact ⟨rfl, by rw [py_int]; exact hp⟩
    · rw [py_str] at hp; exact ⟨h, by rw [py_str]; exact hp⟩
    · rename_i l
      rw [py_tup] at hp
      obtain ⟨r, f1, g1⟩ := Option.map_eq_some_iff.mp hp
      obtain ⟨v1, v2⟩ := lst l r h f1
      exact ⟨v1, by rw [py_tup, v2, ← g1]; rfl⟩
    · rename_i l
      rw [py_lst] at hp
      obtain ⟨r, f1, g1⟩ := Option.map_eq_some_iff.mp hp
      obtain ⟨v1, v2⟩ := lst l r h f1
      exact ⟨v1, by rw [py_lst, v2, ← g1]; rfl⟩
theorem plD_up' {k : Nat} {d : D} (h : plD k d = true) : plD (k + 1) d = true := by
  obtain ⟨p, hp⟩ := py_pl [] k d h
  exact (plD_up [] k d h p hp).1
theorem any_pl (st : Store) {a : D} {l : List D} {p : PyData} {r : List PyData} (ha : plD 23 a = true) (hp : py st 24 a = some p) (hl : l.all (plD 23) = true) (hr : optAll (py st 23) l = some r) : (r.any fun z => PyData.eqv z p) = l.any fun z => D.beq z a := by
  refine optAll_any (fun z hz y hy => ?_) hr
  obtain ⟨u1, u2⟩ := plD_up st 23 z (List.all_eq_true.mp hl z hz) y hy
  exact eqv_pl st 24 z a y p u1 (plD_up' ha) u2 hp
theorem inD_plT {a : D} {l : List D} (st : Store) (ha : plD 23 a = true) (hl : l.all (plD 23) = true) : inD st a (.tup l) = some (l.any fun z => D.beq z a) := by
  obtain ⟨p, hp⟩ := py_pl st 24 a (plD_up' ha)
  obtain ⟨q, hq⟩ := optAll_some (f := py st 23) (l := l) fun a ha => py_pl st 23 a (List.all_eq_true.mp hl a ha)
  have hq' : py st 24 (.tup l) = some (.tuple q) := by rw [show (24 : Nat) = 23 + 1 from rfl, py_tup, hq]; rfl
  unfold inD look PYN
  rw [hp, hq']
  simp only
  rw [any_pl st ha hp hl hq]
theorem inD_plL {a : D} {l : List D} (st : Store) (ha : plD 23 a = true) (hl : l.all (plD 23) = true) : inD st a (.lst l) = some (l.any fun z => D.beq z a) := by
  obtain ⟨p, hp⟩ := py_pl st 24 a (plD_up' ha)
  obtain ⟨q, hq⟩ := optAll_some (f := py st 23) (l := l) fun a ha => py_pl st 23 a (List.all_eq_true.mp hl a ha)
  have hq' : py st 24 (.lst l) = some (.list q) := by rw [show (24 : Nat) = 23 + 1 from rfl, py_lst, hq]; rfl
  unfold inD look PYN
  rw [hp, hq']
  simp only
  rw [any_pl st ha hp hl hq]
theorem look_ref {l : List D} {n : Nat} (st : Store) (hn : st[n]? = some (.lst l)) (hl : l.all (plD 23) = true) : ∃ q, optAll (py st 23) l = some q ∧ py st 24 (.ref n) = some (.list q) := by
  obtain ⟨q, hq⟩ := optAll_some (f := py st 23) (l := l) fun a ha => py_pl st 23 a (List.all_eq_true.mp hl a ha)
  refine ⟨q, hq, ?_⟩
  rw [show (24 : Nat) = 23 + 1 from rfl, py]
  simp only [hn, hq]; rfl
theorem inD_plR {a : D} {l : List D} {n : Nat} (st : Store) (hn : st[n]? = some (.lst l)) (ha : plD 23 a = true) (hl : l.all (plD 23) = true) : inD st a (.ref n) = some (l.any fun z => D.beq z a) := by
  obtain ⟨p, hp⟩ := py_pl st 24 a (plD_up' ha)
  obtain ⟨q, hq, hq'⟩ := look_ref st hn hl
  unfold inD look PYN
  rw [hp, hq']
  simp only
  rw [any_pl st ha hp hl hq]
theorem count_plR {a : D} {l : List D} {n : Nat} (st : Store) (hn : st[n]? = some (.lst l)) (ha : plD 23 a = true) (hl : l.all (plD 23) = true) : mth .count (.ref n) [a] st = .ok (.int ((l.filter fun z => D.beq z a).length : Nat)) st := by
  obtain ⟨p, hp⟩ := py_pl st 24 a (plD_up' ha)
  obtain ⟨q, hq, hq'⟩ := look_ref st hn hl
  have key : ∀ (l : List D) (r : List PyData), l.all (plD 23) = true → optAll (py st 23) l = some r → (r.filter fun z => PyData.eqv z p).length = (l.filter fun z => D.beq z a).length := by
    intro l
    induction l with
    | nil => intro r _ e; cases e; rfl
    | cons b l il =>
      intro r hl e
      simp only [List.all_cons, Bool.and_eq_true] at hl
      simp only [optAll] at e
      split at e
      · rename_i y e1
        split at e
        · rename_i s e2
          cases e
          obtain ⟨u1, u2⟩ := plD_up st 23 b hl.1 y e1
          have := eqv_pl st 24 b a y p u1 (plD_up' ha) u2 hp
          rw [List.filter_cons, List.filter_cons, this]
          split
          · simp [il s hl.2 e2]
          · exact il s hl.2 e2
        · cases e
      · cases e
  unfold mth look PYN
  simp only [hp, hq']
  rw [key l q hl hq]

/-! ### loops and comprehensions that change no store -/
theorem evLc_map {α : Type} {gs : List (Nat × List D)} {tg : Tg} {c e : Env → Store → R D} {ρ : Env} {st : Store} (enc : α → D) (p : α → Bool) (g : α → D) (hg : guard gs st = true) :
    ∀ (xs : List α) (acc : List D), acc.length + xs.length ≤ LIM → (∀ x ∈ xs, ∃ ρ1, asg tg (enc x) ρ = some ρ1 ∧ c ρ1 st = .ok (.bl (p x)) st ∧ (p x = true → e ρ1 st = .ok (g x) st)) →
      evLc gs tg c e ρ (xs.map enc) acc st = .ok (acc ++ (xs.filter p).map g) st
  | [], acc, _, _ => by simp [evLc, hg]
  | x :: xs, acc, hl, h => by
    obtain ⟨ρ1, h1, h2, h3⟩ := h x List.mem_cons_self
    simp only [List.length_cons] at hl
    rw [List.map_cons, evLc, if_pos hg, h1]
    simp only [h2]
    cases hp : p x with
    | true =>
      simp only [h3 hp]
      rw [if_pos (by omega), evLc_map enc p g hg xs _ (by simp; omega) fun y hy => h y (List.mem_cons_of_mem _ hy)]
      simp [List.filter_cons, hp]
    | false =>
      simp only
      rw [evLc_map enc p g hg xs acc (by omega) fun y hy => h y (List.mem_cons_of_mem _ hy)]
      simp [List.filter_cons, hp]
/-- a for loop by an invariant of the state s: what the body makes of it is F -/
theorem evFor_fold {α β : Type} {gs : List (Nat × List D)} {tg : Tg} {body : Env → Store → SR} {st : Store} (enc : α → D) (Inv : β → Env → Prop) (F : β → α → β) (hg : guard gs st = true) :
    ∀ (xs : List α) (s : β) (ρ : Env), Inv s ρ → (∀ x ∈ xs, ∀ s ρ, Inv s ρ → ∃ ρ1 ρ2, asg tg (enc x) ρ = some ρ1 ∧ body ρ1 st = .ok .next ρ2 st ∧ Inv (F s x) ρ2) →
      ∃ ρ', evFor gs tg body (xs.map enc) ρ st = .ok .next ρ' st ∧ Inv (xs.foldl F s) ρ'
  | [], s, ρ, h, _ => ⟨ρ, by simp [evFor, hg], h⟩
  | x :: xs, s, ρ, h, hs => by
    obtain ⟨ρ1, ρ2, h1, h2, h3⟩ := hs x List.mem_cons_self s ρ h
    obtain ⟨ρ', h4, h5⟩ := evFor_fold enc Inv F hg xs (F s x) ρ2 h3 fun y hy => hs y (List.mem_cons_of_mem _ hy)
    exact ⟨ρ', by rw [List.map_cons, evFor, if_pos hg, h1]; simp only [h2]; exact h4, h5⟩
/-- .. whose body changes the store -/
theorem evFor_st {α β : Type} {tg : Tg} {body : Env → Store → SR} (enc : α → D) (Inv : β → Env → Store → Prop) (F : β → α → β) :
    ∀ (xs : List α) (s : β) (ρ : Env) (st : Store), Inv s ρ st → (∀ x ∈ xs, ∀ s ρ st, Inv s ρ st → ∃ ρ1 ρ2 st2, asg tg (enc x) ρ = some ρ1 ∧ body ρ1 st = .ok .next ρ2 st2 ∧ Inv (F s x) ρ2 st2) →
      ∃ ρ' st', evFor [] tg body (xs.map enc) ρ st = .ok .next ρ' st' ∧ Inv (xs.foldl F s) ρ' st'
  | [], s, ρ, st, h, _ => ⟨ρ, st, by simp [evFor, guard], h⟩
  | x :: xs, s, ρ, st, h, hs => by
    obtain ⟨ρ1, ρ2, st2, h1, h2, h3⟩ := hs x List.mem_cons_self s ρ st h
    obtain ⟨ρ', st', h4, h5⟩ := evFor_st enc Inv F xs (F s x) ρ2 st2 h3 fun y hy => hs y (List.mem_cons_of_mem _ hy)
    exact ⟨ρ', st', by rw [List.map_cons, evFor, if_pos (by rfl), h1]; simp only [h2]; exact h4, h5⟩
/-- a for loop by an invariant of what it has walked -/
theorem evFor_pre {α : Type} {gs : List (Nat × List D)} {tg : Tg} {body : Env → Store → SR} {st : Store} (enc : α → D) (Inv : List α → Env → Prop) (hg : guard gs st = true) :
    ∀ (xs pre : List α) (ρ : Env), Inv pre ρ → (∀ (p : List α) (x : α) (q : List α) (ρ : Env), pre ++ xs = p ++ x :: q → Inv p ρ → ∃ ρ1 ρ2, asg tg (enc x) ρ = some ρ1 ∧ body ρ1 st = .ok .next ρ2 st ∧ Inv (p ++ [x]) ρ2) →
      ∃ ρ', evFor gs tg body (xs.map enc) ρ st = .ok .next ρ' st ∧ Inv (pre ++ xs) ρ'
  | [], pre, ρ, h, _ => ⟨ρ, by simp [evFor, hg], by simpa using h⟩
  | x :: xs, pre, ρ, h, hs => by
    obtain ⟨ρ1, ρ2, h1, h2, h3⟩ := hs pre x xs ρ rfl h
    obtain ⟨ρ', h4, h5⟩ := evFor_pre enc Inv hg xs (pre ++ [x]) ρ2 h3 fun p y q ρ e => hs p y q ρ (by rw [← e]; simp)
    exact ⟨ρ', by rw [List.map_cons, evFor, if_pos hg, h1]; simp only [h2]; exact h4, by simpa using h5⟩
/-- .. whose body changes the store -/
theorem evFor_preS {α : Type} {tg : Tg} {body : Env → Store → SR} (enc : α → D) (Inv : List α → Env → Store → Prop) :
    ∀ (xs pre : List α) (ρ : Env) (st : Store), Inv pre ρ st → (∀ (p : List α) (x : α) (q : List α) (ρ : Env) (st : Store), pre ++ xs = p ++ x :: q → Inv p ρ st → ∃ ρ1 ρ2 st2, asg tg (enc x) ρ = some ρ1 ∧ body ρ1 st = .ok .next ρ2 st2 ∧ Inv (p ++ [x]) ρ2 st2) →
      ∃ ρ' st', evFor [] tg body (xs.map enc) ρ st = .ok .next ρ' st' ∧ Inv (pre ++ xs) ρ' st'
  | [], pre, ρ, st, h, _ => ⟨ρ, st, by simp [evFor, guard], by simpa using h⟩
  | x :: xs, pre, ρ, st, h, hs => by
    obtain ⟨ρ1, ρ2, st2, h1, h2, h3⟩ := hs pre x xs ρ st rfl h
    obtain ⟨ρ', st', h4, h5⟩ := evFor_preS enc Inv xs (pre ++ [x]) ρ2 st2 h3 fun p y q ρ st e => hs p y q ρ st (by rw [← e]; simp)
    exact ⟨ρ', st', by rw [List.map_cons, evFor, if_pos (by rfl), h1]; simp only [h2]; exact h4, by simpa using h5⟩
theorem cut_none {α : Type} (l : List α) {k : Nat} (h : k ≤ l.length) : cut l none (some (k : Int)) = l.take k := by
  have e : HT.sIx l.length l.length (some (k : Int)) = k := by
    unfold HT.sIx
    simp only
    split <;> omega
  simp only [cut, e]
  simp [HT.sIx]
theorem cut_from {α : Type} (l : List α) {k : Nat} (h : k ≤ l.length) : cut l (some (k : Int)) none = l.drop k := by
  have e : HT.sIx l.length 0 (some (k : Int)) = k := by
    unfold HT.sIx
    simp only
    split <;> omega
  simp only [cut, e]
  simp only [HT.sIx]
  exact List.take_of_length_le (by simp)
theorem cut_take {α : Type} (l : List α) {i : Int} (h : 0 ≤ i) : cut l none (some i) = l.take i.toNat := by
  have e : HT.sIx l.length l.length (some i) = min i.toNat l.length := by
    unfold HT.sIx
    simp only
    split <;> omega
  simp only [cut, e]
  simp only [HT.sIx, List.drop_zero, Nat.sub_zero]
  by_cases hl : i.toNat ≤ l.length
  · rw [Nat.min_eq_left hl]
  · rw [Nat.min_eq_right (by omega), List.take_of_length_le (Nat.le_refl _), List.take_of_length_le (by omega)]
theorem body_ret {kn : Kn} {fn : Fn} {ds : List D} {st st' : Store} {d : D} {ρ' : Env} (hl : ds.length = fn.ps) (h : evSs kn fn.body (envOf fn.n ds) st = .ok (.ret d) ρ' st') : callBody kn fn ds st = .ok d st' := by
  unfold callBody; rw [if_pos hl, h]
theorem body_next {kn : Kn} {fn : Fn} {ds : List D} {st st' : Store} {ρ' : Env} (hl : ds.length = fn.ps) (h : evSs kn fn.body (envOf fn.n ds) st = .ok .next ρ' st') : callBody kn fn ds st = .ok .non st' := by
  unfold callBody; rw [if_pos hl, h]
/-- a row of statements, one by one -/
theorem ss_next {kn : Kn} {s : S} {r : Ss} {ρ ρ' : Env} {st st' : Store} (h : evS kn s ρ st = .ok .next ρ' st') : evSs kn (.cons s r) ρ st = evSs kn r ρ' st' := by
  simp only [evSs, h]
theorem ss_ret {kn : Kn} {s : S} {r : Ss} {ρ ρ' : Env} {st st' : Store} {d : D} (h : evS kn s ρ st = .ok (.ret d) ρ' st') : evSs kn (.cons s r) ρ st = .ok (.ret d) ρ' st' := by
  simp only [evSs, h]
/-- a for loop whose body changes the store, over lists that stay -/
theorem evFor_preG {α : Type} {gs : List (Nat × List D)} {tg : Tg} {body : Env → Store → SR} (enc : α → D) (Inv : List α → Env → Store → Prop) (hg : ∀ p ρ st, Inv p ρ st → guard gs st = true) :
    ∀ (xs pre : List α) (ρ : Env) (st : Store), Inv pre ρ st → (∀ (p : List α) (x : α) (q : List α) (ρ : Env) (st : Store), pre ++ xs = p ++ x :: q → Inv p ρ st → ∃ ρ1 ρ2 st2, asg tg (enc x) ρ = some ρ1 ∧ body ρ1 st = .ok .next ρ2 st2 ∧ Inv (p ++ [x]) ρ2 st2) →
      ∃ ρ' st', evFor gs tg body (xs.map enc) ρ st = .ok .next ρ' st' ∧ Inv (pre ++ xs) ρ' st'
  | [], pre, ρ, st, h, _ => ⟨ρ, st, by simp [evFor, hg _ _ _ h], by simpa using h⟩
  | x :: xs, pre, ρ, st, h, hs => by
    obtain ⟨ρ1, ρ2, st2, h1, h2, h3⟩ := hs pre x xs ρ st rfl h
    obtain ⟨ρ', st', h4, h5⟩ := evFor_preG enc Inv hg xs (pre ++ [x]) ρ2 st2 h3 fun p y q ρ st e => hs p y q ρ st (by rw [← e]; simp)
    exact ⟨ρ', st', by rw [List.map_cons, evFor, if_pos (hg _ _ _ h), h1]; simp only [h2]; exact h4, by simpa using h5⟩
theorem guard1 {n : Nat} {l : List D} {st : Store} (h : st[n]? = some (.lst l)) : guard [(n, l)] st = true := by
  simp [guard, gOne, h, D.beqs_refl]
end AF

/-! Sim: lifts, calls, forms; the story as plain Lean. -/
namespace LF
open AF
abbrev Form := Int × Int
structure Flr where
  top : Bool
  k : Int
deriving DecidableEq
structure Cl where
  t : Int
  a : Flr
  b : Flr
deriving DecidableEq
inductive Rule where
  | first | near | scan
deriving DecidableEq
structure Lf where
  rule : Rule
  room : Int
  halt : Int
  pace : Int
  fl : Flr
  up : Bool
deriving DecidableEq
def Flr.ok (f : Flr) : Prop := 0 ≤ f.k ∧ f.k ≤ 3
def Cl.ok (c : Cl) : Prop := 0 ≤ c.t ∧ c.t ≤ 1000 ∧ c.a.ok ∧ c.b.ok ∧ c.a ≠ c.b
def Lf.ok (l : Lf) : Prop := 1 ≤ l.room ∧ l.room ≤ 4 ∧ 1 ≤ l.halt ∧ l.halt ≤ 20 ∧ 1 ≤ l.pace ∧ l.pace ≤ 5 ∧ l.fl.ok
def CsOk (cs : List Cl) : Prop := cs.length ≤ 4 ∧ (∀ c ∈ cs, c.ok) ∧ cs.Pairwise fun x y => x.t ≤ y.t
/-! ### as values of the core -/
def wFl (t : Bool) : List Nat := if t then [116] else [98]
def wUp (u : Bool) : List Nat := if u then [117, 112] else [100, 111, 119, 110]
def wRule : Rule → List Nat
  | .first => [102, 105, 114, 115, 116]
  | .near => [110, 101, 97, 114]
  | .scan => [115, 99, 97, 110]
abbrev eF (f : Form) : D := .tup [.int f.1, .int f.2]
abbrev eFl (f : Flr) : D := .tup [.str (wFl f.top), .int f.k]
abbrev eCl (c : Cl) : D := .tup [.int c.t, eFl c.a, eFl c.b]
abbrev eCs (cs : List Cl) : D := .tup (cs.map eCl)
abbrev eLf (l : Lf) : D := .tup [.str (wRule l.rule), .int l.room, .int l.halt, .int l.pace, eFl l.fl, .str (wUp l.up)]
abbrev eN (n : Nat) : D := .int (n : Int)
abbrev eNs (ps : List Nat) : List D := ps.map eN
theorem pl_fl (k : Nat) (f : Flr) : plD (k + 2) (eFl f) = true := by
  simp only [plD, List.all_cons, List.all_nil, Bool.and_true]
  cases f.top <;> decide
theorem beq_fl (f g : Flr) : D.beq (eFl f) (eFl g) = decide (f = g) := by
  obtain ⟨t, k⟩ := f
  obtain ⟨u, j⟩ := g
  cases t <;> cases u <;> simp [D.beq, D.beqs, wFl]
  all_goals (by_cases h : k = j <;> simp [h])
theorem eq_fl (st : Store) (f g : Flr) : eqD st (eFl f) (eFl g) = some (decide (f = g)) := by
  rw [eqD_pl st (pl_fl 22 f) (pl_fl 22 g), beq_fl]
theorem eq_str (st : Store) {x y : List Nat} (hx : cpsOk x = true) (hy : cpsOk y = true) : eqD st (.str x) (.str y) = some (x == y) := by
  rw [eqD_pl st (by simpa [plD] using hx) (by simpa [plD] using hy)]
  simp [D.beq]
theorem eq_int (st : Store) (i j : Int) : eqD st (.int i) (.int j) = some (i == j) := by
  rw [eqD_pl st (by simp [plD]) (by simp [plD])]
  simp [D.beq]
/-! ### forms -/
def worth (f : Form) (n : Int) : Int := f.1 * n + f.2
def fadd (f g : Form) : Form := (f.1 + g.1, f.2 + g.2)
def fsub (f g : Form) : Form := (f.1 - g.1, f.2 - g.2)
def fmul (f : Form) (k : Int) : Form := (f.1 * k, f.2 * k)
def sgn (i : Int) : Int := if i > 0 then 1 else if i < 0 then -1 else 0
def Flr.at (f : Flr) (n : Int) : Int := if f.top then n - 1 - f.k else f.k
def Flr.form (f : Flr) : Form := if f.top then (1, -1 - f.k) else (0, f.k)
theorem worth_form (f : Flr) (n : Int) : worth f.form n = f.at n := by
  unfold worth Flr.form Flr.at
  cases f.top <;> simp <;> omega
theorem worth_sub (f g : Form) (n : Int) : worth (fsub f g) n = worth f n - worth g n := by
  simp only [worth, fsub, Int.sub_mul]; omega
theorem worth_add (f g : Form) (n : Int) : worth (fadd f g) n = worth f n + worth g n := by
  simp only [worth, fadd, Int.add_mul]; omega
theorem worth_mul (f : Form) (k n : Int) : worth (fmul f k) n = worth f n * k := by
  simp only [worth, fmul, Int.add_mul]
  rw [Int.mul_assoc, Int.mul_comm k n, ← Int.mul_assoc]
def far (f g : Flr) : Form := fsub g.form f.form
def way (f g : Flr) (n : Int) : Form := if worth (far f g) n < 0 then fmul (far f g) (-1) else far f g
def ahead (f g : Flr) (up : Bool) (n : Int) : Bool := if up then decide (0 ≤ worth (far f g) n) else decide (worth (far f g) n ≤ 0)
theorem worth_far (f g : Flr) (n : Int) : worth (far f g) n = g.at n - f.at n := by
  unfold far; rw [worth_sub, worth_form, worth_form]
/-- small coefficients -/
def Small (b : Int) (f : Form) : Prop := -b ≤ f.1 ∧ f.1 ≤ b ∧ -b ≤ f.2 ∧ f.2 ≤ b
theorem form_small {f : Flr} (h : f.ok) : Small 4 f.form := by
  obtain ⟨h1, h2⟩ := h
  unfold Flr.form Small
  cases f.top <;> simp <;> omega
theorem far_small {f g : Flr} (hf : f.ok) (hg : g.ok) : Small 8 (far f g) := by
  have h1 := form_small hf
  have h2 := form_small hg
  unfold Small far fsub at *
  simp only
  omega
theorem way_small {f g : Flr} (hf : f.ok) (hg : g.ok) (n : Int) : Small 8 (way f g n) := by
  have h := far_small hf hg
  unfold way
  split
  · unfold Small fmul at *
    simp only
    omega
  · exact h
end LF
namespace LF
open AF
structure Sst where
  m : Form
  fl : Flr
  up : Bool
  r : List Nat
  th : List Nat
  asked : List Form
abbrev eSt (s : Sst) : D := .tup [eF s.m, eFl s.fl, .str (wUp s.up), .tup (eNs s.r), .tup (eNs s.th), .tup (s.asked.map eF)]
def waiting (cs : List Cl) (s : Sst) : List Nat := (List.range cs.length).filter fun p => !s.r.contains p && !s.th.contains p
def cAt (cs : List Cl) (p : Nat) : Cl := (cs[p]?).getD ⟨0, ⟨false, 0⟩, ⟨false, 0⟩⟩
/-- a person's call as told at a minute -/
def thenF (cs : List Cl) (m : Form) (p : Nat) : Form := fsub m (0, (cAt cs p).t)
def heard (cs : List Cl) (s : Sst) (n : Int) : List Nat := (waiting cs s).filter fun p => decide (0 ≤ worth (thenF cs s.m p) n)
theorem beq_N (p q : Nat) : D.beq (eN p) (eN q) = (p == q) := by
  simp only [D.beq]
  by_cases h : p = q
  · subst h; simp
  · have : (p : Int) ≠ q := by omega
    rw [beq_eq_false_iff_ne.mpr h, beq_eq_false_iff_ne.mpr this]
theorem any_Ns (r : List Nat) (p : Nat) : (eNs r).any (fun z => D.beq z (eN p)) = r.contains p := by
  induction r with
  | nil => rfl
  | cons a r ih =>
    show ((eN a :: eNs r).any _) = _
    rw [List.any_cons, ih, beq_N, List.contains_cons, show (a == p) = (p == a) from BEq.comm]
theorem all_Ns (k : Nat) (r : List Nat) : (eNs r).all (plD (k + 1)) = true := by
  rw [List.all_eq_true]
  intro d hd
  obtain ⟨a, _, rfl⟩ := List.mem_map.mp hd
  rfl
theorem in_Ns (st : Store) (p : Nat) (r : List Nat) : inD st (eN p) (.tup (eNs r)) = some (r.contains p) := by
  rw [inD_plT st rfl (all_Ns 22 r), any_Ns]
theorem in_NsL (st : Store) (p : Nat) (r : List Nat) : inD st (eN p) (.lst (eNs r)) = some (r.contains p) := by
  rw [inD_plL st rfl (all_Ns 22 r), any_Ns]
theorem rngD_range (n : Nat) : rngD 0 n = (List.range n).map eN := by
  have go : ∀ (n : Nat) (lo : Nat), rngD (lo : Int) n = (List.range' lo n).map eN := by
    intro n
    induction n with
    | zero => intro lo; rfl
    | succ n ih =>
      intro lo
      rw [rngD, List.range'_succ, List.map_cons]
      have := ih (lo + 1)
      rw [show ((lo + 1 : Nat) : Int) = (lo : Int) + 1 by omega] at this
      rw [this]
  have := go n 0
  rw [show ((0 : Nat) : Int) = 0 from rfl] at this
  rw [this, List.range_eq_range']
theorem zipD_map {α : Type} (f g : α → D) : ∀ l : List α, zipD (l.map f) (l.map g) = l.map fun a => .tup [f a, g a]
  | [] => rfl
  | a :: l => by simp [zipD, zipD_map f g l]
theorem itemAt_nat {α : Type} {l : List α} {p : Nat} (h : p < l.length) : itemAt l (p : Int) = l[p]? := by
  have h1 : (0 : Int) ≤ p := by omega
  have h2 : (p : Int) < (l.length : Int) := by omega
  simp only [itemAt, ixI, h1, h2, if_true, Int.toNat_natCast]
theorem item_call {cs : List Cl} {p : Nat} (h : p < cs.length) (st : Store) : idx (eCs cs) (eN p) st = .ok (eCl (cAt cs p)) st := by
  have e : itemAt (cs.map eCl) (p : Int) = some (eCl (cAt cs p)) := by
    rw [itemAt_nat (by rw [List.length_map]; exact h), List.getElem?_map, cAt, List.getElem?_eq_getElem h]; rfl
  simp only [idx, seqOf, e]
end LF
namespace LF
open AF
/-! ### sorted -/
def insN (a : Nat) : List Nat → List Nat
  | [] => [a]
  | b :: r => if a ≤ b then a :: b :: r else b :: insN a r
def sortN : List Nat → List Nat
  | [] => []
  | a :: r => insN a (sortN r)
theorem insI_N (a : Nat) : ∀ l : List Nat, insI (a : Int) (l.map fun (n : Nat) => (n : Int)) = (insN a l).map fun (n : Nat) => (n : Int)
  | [] => rfl
  | b :: r => by
    simp only [List.map_cons, insI, insN]
    by_cases h : a ≤ b
    · rw [if_pos (by omega), if_pos h]; rfl
    · rw [if_neg (by omega), if_neg h, insI_N a r]; rfl
theorem sortI_N : ∀ l : List Nat, sortI (l.map fun (n : Nat) => (n : Int)) = (sortN l).map fun (n : Nat) => (n : Int)
  | [] => rfl
  | a :: r => by rw [List.map_cons, sortI, sortI_N r, insI_N]; rfl
theorem intsOf_N : ∀ l : List Nat, intsOf (eNs l) = some (l.map fun (n : Nat) => (n : Int))
  | [] => rfl
  | a :: r => by
    show intsOf (.int (a : Int) :: eNs r) = _
    rw [intsOf, intsOf_N r]; rfl
theorem sortD_N (l : List Nat) : sortD (eNs l) = some (eNs (sortN l)) := by
  simp only [sortD, intsOf_N, sortI_N, List.map_map]
  rfl
abbrev eW (w : Nat × Flr) : D := .tup [eN w.1, eFl w.2]
def insW (a : Nat × Flr) : List (Nat × Flr) → List (Nat × Flr)
  | [] => [a]
  | b :: r => if a.1 ≤ b.1 then a :: b :: r else b :: insW a r
def sortW : List (Nat × Flr) → List (Nat × Flr)
  | [] => []
  | a :: r => insW a (sortW r)
theorem pairsOf_W : ∀ l : List (Nat × Flr), pairsOf (l.map eW) = some (l.map fun w => ((w.1 : Int), eFl w.2))
  | [] => rfl
  | a :: r => by
    simp only [List.map_cons, pairsOf, pairsOf_W r]
theorem insD_W (a : Nat × Flr) : ∀ l : List (Nat × Flr), insD (a.1 : Int) (eFl a.2) (l.map fun w => ((w.1 : Int), eFl w.2)) = (insW a l).map fun w => ((w.1 : Int), eFl w.2)
  | [] => rfl
  | b :: r => by
    simp only [List.map_cons, insD, insW]
    by_cases h : a.1 ≤ b.1
    · rw [if_pos (by omega), if_pos h]; rfl
    · rw [if_neg (by omega), if_neg h, insD_W a r]; rfl
theorem sortK_W : ∀ l : List (Nat × Flr), sortK (l.map fun w => ((w.1 : Int), eFl w.2)) = (sortW l).map fun w => ((w.1 : Int), eFl w.2)
  | [] => rfl
  | a :: r => by rw [List.map_cons, sortK, sortK_W r, insD_W]; rfl
theorem nodupI_N : ∀ {l : List Nat}, l.Nodup → nodupI (l.map fun (n : Nat) => (n : Int)) = true
  | [], _ => rfl
  | a :: r, h => by
    obtain ⟨h1, h2⟩ := List.nodup_cons.mp h
    simp only [List.map_cons, nodupI, nodupI_N h2, Bool.and_true, Bool.not_eq_true']
    rw [Bool.eq_false_iff]
    intro e
    have := List.contains_iff_mem.mp e
    obtain ⟨b, hb, e2⟩ := List.mem_map.mp this
    have : b = a := by omega
    subst this; exact h1 hb
theorem sortD_W (l : List (Nat × Flr)) (h : (l.map (·.1)).Nodup) : sortD (l.map eW) = some ((sortW l).map eW) := by
  cases l with
  | nil => rfl
  | cons a r =>
    have e1 : intsOf ((a :: r).map eW) = none := rfl
    have e2 := nodupI_N h
    rw [List.map_map] at e2
    have e3 : ((a :: r).map fun w => ((w.1 : Int), eFl w.2)).map (·.1) = (a :: r).map ((fun (n : Nat) => (n : Int)) ∘ fun w => w.1) := by
      rw [List.map_map]; rfl
    simp only [sortD, e1, pairsOf_W]
    rw [e3, e2, sortK_W, List.map_map]
    rfl
end LF
namespace LF
open AF
def wantedRaw (l : Lf) (cs : List Cl) (s : Sst) (hd : List Nat) : List (Nat × Flr) :=
  if (s.r.length : Int) < l.room then s.r.map (fun p => (p, (cAt cs p).b)) ++ hd.map (fun p => (p, (cAt cs p).a)) else s.r.map fun p => (p, (cAt cs p).b)
def wanted (l : Lf) (cs : List Cl) (s : Sst) (hd : List Nat) : List (Nat × Flr) := sortW (wantedRaw l cs s hd)
def nearStep (fl : Flr) (up : Bool) (n : Int) (q : Flr × List Form) (g : Flr) : Flr × List Form :=
  let f := fsub (way fl g n) (way fl q.1 n)
  (if worth f n < 0 ∨ (worth f n = 0 ∧ ahead fl q.1 up n = false) then g else q.1, q.2 ++ [f])
def nearest (fl : Flr) (up : Bool) (n : Int) : List Flr → Flr × List Form
  | [] => (fl, [])
  | g :: gs => gs.foldl (nearStep fl up n) (g, [])
def goalOf (rl : Rule) (s : Sst) (w : List (Nat × Flr)) (n : Int) : Flr × List Form :=
  let fs := w.map (·.2)
  match rl with
  | .first => (fs.headD s.fl, [])
  | .near => nearest s.fl s.up n fs
  | .scan => nearest s.fl s.up n (let a := fs.filter fun f => ahead s.fl f s.up n
    if a = [] then fs else a)
structure Stop where
  fl : Flr
  m : Form
  off : List Nat
  on : List Nat
deriving DecidableEq
abbrev eStop (s : Stop) : D := .tup [eFl s.fl, eF s.m, .tup (eNs s.off), .tup (eNs s.on)]
/-- the ride to a goal, the stop there -/
def stopAt (l : Lf) (cs : List Cl) (s : Sst) (g : Flr) (n : Int) : Sst × Stop × Form :=
  let far' := way s.fl g n
  let m := fadd s.m (fmul far' l.pace)
  let up := if g ≠ s.fl then decide (0 < worth (far s.fl g) n) else s.up
  let off := s.r.filter fun p => decide ((cAt cs p).b = g)
  let rest := s.r.filter fun p => !off.contains p
  let people := (waiting cs s).filter fun p => decide ((cAt cs p).a = g)
  let forms := people.map (thenF cs m)
  let come := people.filter fun p => decide (0 ≤ worth (thenF cs m p) n)
  let on := come.take (l.room - rest.length).toNat
  (⟨fadd m (0, l.halt), g, up, sortN (rest ++ on), s.th ++ off, s.asked ++ forms⟩, ⟨g, m, off, on⟩, far')
end LF
namespace LF
open AF
def late (cs : List Cl) (s : Sst) (hd : List Nat) : List Nat := (waiting cs s).filter fun p => !hd.contains p
def nextMin (cs : List Cl) (s : Sst) (hd : List Nat) : Option Int := minI ((late cs s hd).map fun p => (cAt cs p).t)
/-- what is asked at a look around -/
def askH (cs : List Cl) (s : Sst) : Sst := { s with asked := s.asked ++ (waiting cs s).map (thenF cs s.m) }
def askG (s : Sst) (fs : List Form) : Sst := { s with asked := s.asked ++ fs }
def first0 (l : Lf) : Sst := ⟨(0, 0), l.fl, l.up, [], [], []⟩
/-- one turn: on, with a stop or not; or the end -/
def turn (l : Lf) (cs : List Cl) (n : Int) (s : Sst) (stops : List Stop) (e : Form) : (Sst × List Stop × Form) ⊕ (List Stop × Form × List Form) :=
  let hd := heard cs s n
  let s1 := askH cs s
  match wanted l cs s1 hd with
  | a :: w =>
    let gf := goalOf l.rule s1 (a :: w) n
    let r := stopAt l cs (askG s1 gf.2) gf.1 n
    .inl (r.1, stops ++ [r.2.1], if s.r = [] then fadd e r.2.2 else e)
  | [] => match nextMin cs s1 hd with
    | none => .inr (stops, e, s1.asked)
    | some t => .inl ({ s1 with m := (0, t) }, stops, e)
def run (l : Lf) (cs : List Cl) (n : Int) : Nat → Sst → List Stop → Form → Option (List Stop × Form × List Form)
  | 0, _, _, _ => none
  | k + 1, s, stops, e => match turn l cs n s stops e with
    | .inl (s', st', e') => run l cs n k s' st' e'
    | .inr r => some r
end LF
namespace LF
open AF
inductive Wd where
  | waits | rides | there
deriving DecidableEq
def wWd : Wd → List Nat
  | .waits => [119, 97, 105, 116, 115]
  | .rides => [114, 105, 100, 101, 115]
  | .there => [116, 104, 101, 114, 101]
abbrev eWd (w : Wd) : D := .str (wWd w)
def enumP {α : Type} : Nat → List α → List (Nat × α)
  | _, [] => []
  | i, a :: r => (i, a) :: enumP (i + 1) r
theorem enumD_P {α : Type} (enc : α → D) : ∀ (i : Nat) (l : List α), enumD i (l.map enc) = (enumP i l).map fun q => .tup [eN q.1, enc q.2]
  | _, [] => rfl
  | i, a :: r => by simp only [List.map_cons, enumD, enumP, enumD_P enc (i + 1) r]
def idxs (told : List Wd) (w : Wd) : List Nat := ((enumP 0 told).filter fun q => decide (q.2 = w)).map (·.1)
theorem mem_enumP {α : Type} {p : Nat} {a : α} : ∀ {i : Nat} {l : List α}, (p, a) ∈ enumP i l ↔ i ≤ p ∧ l[p - i]? = some a
  | i, [] => by simp [enumP]
  | i, b :: r => by
    simp only [enumP, List.mem_cons, mem_enumP (i := i + 1) (l := r), Prod.mk.injEq]
    constructor
    · rintro (⟨rfl, rfl⟩ | ⟨h1, h2⟩)
      · simp
      · refine ⟨by omega, ?_⟩
        rw [show p - i = (p - (i + 1)) + 1 by omega]; simpa using h2
    · rintro ⟨h1, h2⟩
      by_cases h : p = i
      · subst h; simp at h2; exact .inl ⟨rfl, h2.symm⟩
      · right
        refine ⟨by omega, ?_⟩
        rw [show p - i = (p - (i + 1)) + 1 by omega] at h2; simpa using h2
theorem mem_idxs {told : List Wd} {w : Wd} {p : Nat} : p ∈ idxs told w ↔ told[p]? = some w := by
  unfold idxs
  simp only [List.mem_map, List.mem_filter, decide_eq_true_eq]
  constructor
  · rintro ⟨⟨q, a⟩, ⟨h1, h2⟩, rfl⟩
    simp only at h2
    subst h2
    have := (mem_enumP.mp h1).2
    simpa using this
  · intro h
    exact ⟨(p, w), ⟨mem_enumP.mpr ⟨Nat.zero_le _, by simpa using h⟩, rfl⟩, rfl⟩
theorem enumP_sorted {α : Type} : ∀ (i : Nat) (l : List α), (enumP i l).Pairwise (fun x y => x.1 < y.1) ∧ ∀ x ∈ enumP i l, i ≤ x.1
  | _, [] => ⟨.nil, fun x h => by cases h⟩
  | i, a :: r => by
    obtain ⟨h1, h2⟩ := enumP_sorted (i + 1) r
    refine ⟨List.pairwise_cons.mpr ⟨fun x hx => by have := h2 x hx; simp only; omega, h1⟩, fun x hx => ?_⟩
    rcases List.mem_cons.mp hx with e | e
    · subst e; exact Nat.le_refl _
    · have := h2 x e; omega
theorem idxs_sorted (told : List Wd) (w : Wd) : (idxs told w).Pairwise (· < ·) := by
  unfold idxs
  rw [List.pairwise_map]
  exact (enumP_sorted 0 told).1.filter _
theorem sorted_eq {a b : List Nat} (ha : a.Pairwise (· < ·)) (hb : b.Pairwise (· < ·)) (h : ∀ x, x ∈ a ↔ x ∈ b) : a = b := by
  induction a generalizing b with
  | nil =>
    cases b with
    | nil => rfl
    | cons y b => exact absurd ((h y).mpr List.mem_cons_self) (by simp)
  | cons x a ih =>
    cases b with
    | nil => exact absurd ((h x).mp List.mem_cons_self) (by simp)
    | cons y b =>
      obtain ⟨a1, a2⟩ := List.pairwise_cons.mp ha
      obtain ⟨b1, b2⟩ := List.pairwise_cons.mp hb
      have e : x = y := by
        rcases List.mem_cons.mp ((h x).mp List.mem_cons_self) with q | q
        · exact q
        · rcases List.mem_cons.mp ((h y).mpr List.mem_cons_self) with r | r
          · exact r.symm
          · have := a1 y r; have := b1 x q; omega
      subst e
      congr 1
      refine ih a2 b2 fun z => ⟨fun hz => ?_, fun hz => ?_⟩
      · rcases List.mem_cons.mp ((h z).mp (List.mem_cons_of_mem _ hz)) with q | q
        · subst q; have := a1 z hz; omega
        · exact q
      · rcases List.mem_cons.mp ((h z).mpr (List.mem_cons_of_mem _ hz)) with q | q
        · subst q; have := b1 z hz; omega
        · exact q
/-- what is told of each person -/
def wdOf (s : Sst) (p : Nat) : Wd := if p ∈ s.r then .rides else if p ∈ s.th then .there else .waits
def toldOf (cs : List Cl) (s : Sst) : List Wd := (List.range cs.length).map (wdOf s)
theorem told_get {cs : List Cl} {s : Sst} {p : Nat} {w : Wd} : (toldOf cs s)[p]? = some w ↔ p < cs.length ∧ wdOf s p = w := by
  unfold toldOf
  rw [List.getElem?_map]
  by_cases h : p < cs.length
  · rw [List.getElem?_eq_getElem (by simpa using h)]
    simp [h]
  · rw [List.getElem?_eq_none (by simpa using h)]
    simp [h]
theorem waiting_sorted {cs : List Cl} {s : Sst} : (waiting cs s).Pairwise (· < ·) := List.pairwise_lt_range.filter _
theorem told_waits (cs : List Cl) (s : Sst) : idxs (toldOf cs s) .waits = waiting cs s := by
  refine sorted_eq (idxs_sorted _ _) waiting_sorted fun p => ?_
  rw [mem_idxs, told_get]
  simp only [waiting, List.mem_filter, List.mem_range, Bool.and_eq_true, Bool.not_eq_true', wdOf]
  by_cases h1 : p ∈ s.r <;> by_cases h2 : p ∈ s.th <;> simp [h1, h2]
theorem told_rides (cs : List Cl) (s : Sst) (hs : s.r.Pairwise (· < ·)) (hl : ∀ p ∈ s.r, p < cs.length) : idxs (toldOf cs s) .rides = s.r := by
  refine sorted_eq (idxs_sorted _ _) hs fun p => ?_
  rw [mem_idxs, told_get]
  unfold wdOf
  constructor
  · rintro ⟨h1, h2⟩
    by_cases h : p ∈ s.r
    · exact h
    · simp only [h, if_false] at h2
      split at h2 <;> cases h2
  · intro h
    exact ⟨hl p h, by simp [h]⟩
end LF
namespace LF
open AF
def tl (m : Nat) (f : Nat → Wd) : List Wd := (List.range m).map f
def updf (f : Nat → Wd) (p : Nat) (w : Wd) : Nat → Wd := fun q => if q = p then w else f q
theorem tl_set (m : Nat) (f : Nat → Wd) (p : Nat) (w : Wd) : ((tl m f).map eWd).set p (eWd w) = (tl m (updf f p w)).map eWd := by
  unfold tl
  apply List.ext_getElem?
  intro i
  by_cases h : i = p
  · subst h
    by_cases hi : i < m
    · rw [List.getElem?_set_self (by simpa using hi)]
      simp [List.getElem?_map, List.getElem?_range hi, updf]
    · rw [List.getElem?_eq_none (by simpa using hi), List.getElem?_eq_none (by simpa using hi)]
  · rw [List.getElem?_set_ne (Ne.symm h)]
    simp only [List.getElem?_map]
    by_cases hi : i < m
    · simp [List.getElem?_range hi, updf, h]
    · rw [List.getElem?_eq_none (by simpa using hi)]; rfl
theorem tl_len (m : Nat) (f : Nat → Wd) : (tl m f).length = m := by simp [tl]
theorem tl_congr {m : Nat} {f g : Nat → Wd} (h : ∀ q, q < m → f q = g q) : tl m f = tl m g := List.map_congr_left fun q hq => h q (List.mem_range.mp hq)
theorem count_tl (m : Nat) (f : Nat → Wd) (w : Wd) : (((tl m f).map eWd).filter fun z => D.beq z (eWd w)).length = ((List.range m).filter fun q => decide (f q = w)).length := by
  unfold tl
  rw [List.map_map, List.filter_map, List.length_map]
  congr 1
  apply List.filter_congr
  intro q _
  simp only [Function.comp, D.beq]
  cases f q <;> cases w <;> decide
theorem count_mem {m : Nat} {l : List Nat} (nd : l.Nodup) (hl : ∀ q ∈ l, q < m) {f : Nat → Bool} (hf : ∀ q, q < m → (f q = true ↔ q ∈ l)) : ((List.range m).filter f).length = l.length := by
  have hp : ((List.range m).filter f).Perm l := by
    rw [List.perm_ext_iff_of_nodup (List.nodup_range.filter _) nd]
    intro q
    rw [List.mem_filter, List.mem_range]
    exact ⟨fun ⟨h1, h2⟩ => (hf q h1).mp h2, fun h => ⟨hl q h, (hf q (hl q h)).mpr h⟩⟩
  exact hp.length_eq
theorem take_snoc {α : Type} (L : List α) (x : α) (K : Nat) : (L ++ [x]).take K = if (L.take K).length < K then L.take K ++ [x] else L.take K := by
  rw [List.length_take]
  by_cases h : L.length < K
  · rw [if_pos (by omega), List.take_of_length_le (by simp; omega), List.take_of_length_le (by omega)]
  · rw [if_neg (by omega), List.take_append_of_le_length (by omega)]
end LF

/-! Sim2: the story ends. -/
namespace LF
open AF
theorem filter_len {α : Type} (p : α → Bool) : ∀ l : List α, l.length = (l.filter p).length + (l.filter fun x => !p x).length
  | [] => rfl
  | a :: l => by
    have := filter_len p l
    rw [List.filter_cons, List.filter_cons]
    cases p a <;> simp <;> omega
theorem nodup_le : ∀ (n : Nat) (l : List Nat), l.Nodup → (∀ x ∈ l, x < n) → l.length ≤ n
  | 0, l, _, h => by
    cases l with
    | nil => simp
    | cons a r => exact absurd (h a List.mem_cons_self) (by omega)
  | n + 1, l, nd, h => by
    have e := filter_len (fun x => decide (x = n)) l
    have h1 : (l.filter fun x => decide (x = n)).length ≤ 1 := by
      have : (l.filter fun x => decide (x = n)).length = l.count n := by
        rw [List.count_eq_length_filter]
        congr 1
      rw [this]
      exact List.nodup_iff_count.mp nd n
    have h2 := nodup_le n (l.filter fun x => !decide (x = n)) (nd.filter _) fun x hx => by
      obtain ⟨m1, m2⟩ := List.mem_filter.mp hx
      have := h x m1
      simp at m2
      omega
    omega
structure Good (l : Lf) (cs : List Cl) (i : Nat) (s : Sst) : Prop where
  nd : (s.r ++ s.th).Nodup
  lt : ∀ p ∈ s.r ++ s.th, p < cs.length
  rm : (s.r.length : Int) ≤ l.room
  m : Small (1000 + 60 * (i : Int)) s.m
  ask : s.asked.length ≤ 20 * i
  fl : s.fl.ok
  so : s.r.Pairwise (· < ·)
section
variable {l : Lf} {cs : List Cl} {i : Nat} {s : Sst} {n : Int}
theorem Good.len (g : Good l cs i s) (hc : CsOk cs) : s.r.length + s.th.length ≤ 4 := by
  have := nodup_le cs.length _ g.nd g.lt
  rw [List.length_append] at this
  exact Nat.le_trans this hc.1
theorem mem_waiting {p : Nat} : p ∈ waiting cs s ↔ p < cs.length ∧ p ∉ s.r ∧ p ∉ s.th := by
  simp [waiting, List.mem_filter, List.mem_range]
theorem waiting_nodup : (waiting cs s).Nodup := List.nodup_range.filter _
theorem mem_heard {p : Nat} : p ∈ heard cs s n ↔ p ∈ waiting cs s ∧ 0 ≤ worth (thenF cs s.m p) n := by
  simp [heard, List.mem_filter]
theorem heard_nodup : (heard cs s n).Nodup := waiting_nodup.filter _
theorem nd_heard (g : Good l cs i s) : (s.r ++ heard cs s n).Nodup := by
  rw [List.nodup_append]
  refine ⟨(List.nodup_append.mp g.nd).1, heard_nodup, fun a ha b hb e => ?_⟩
  subst e
  exact (mem_waiting.mp (mem_heard.mp hb).1).2.1 ha
theorem insN_perm (a : Nat) : ∀ l : List Nat, (insN a l).Perm (a :: l)
  | [] => .refl _
  | b :: r => by
    unfold insN
    split
    · exact .refl _
    · exact ((insN_perm a r).cons b).trans (.swap a b r)
theorem sortN_perm : ∀ l : List Nat, (sortN l).Perm l
  | [] => .refl _
  | a :: r => (insN_perm a (sortN r)).trans ((sortN_perm r).cons a)
theorem insN_sorted (a : Nat) : ∀ {l : List Nat}, a ∉ l → l.Pairwise (· < ·) → (insN a l).Pairwise (· < ·)
  | [], _, _ => by simp [insN]
  | b :: r, ha, h => by
    unfold insN
    obtain ⟨h1, h2⟩ := List.pairwise_cons.mp h
    simp only [List.mem_cons, not_or] at ha
    split
    · rename_i hab
      refine List.pairwise_cons.mpr ⟨fun x hx => ?_, h⟩
      rcases List.mem_cons.mp hx with e | e
      · subst e; omega
      · have := h1 x e; omega
    · refine List.pairwise_cons.mpr ⟨fun x hx => ?_, insN_sorted a ha.2 h2⟩
      rcases List.mem_cons.mp ((insN_perm a r).mem_iff.mp hx) with e | e
      · subst e; omega
      · exact h1 x e
theorem sortN_sorted : ∀ {l : List Nat}, l.Nodup → (sortN l).Pairwise (· < ·)
  | [], _ => .nil
  | a :: r, h => by
    obtain ⟨h1, h2⟩ := List.nodup_cons.mp h
    exact insN_sorted a (fun hm => h1 ((sortN_perm r).mem_iff.mp hm)) (sortN_sorted h2)
theorem insW_perm (a : Nat × Flr) : ∀ l : List (Nat × Flr), (insW a l).Perm (a :: l)
  | [] => .refl _
  | b :: r => by
    unfold insW
    split
    · exact .refl _
    · exact ((insW_perm a r).cons b).trans (.swap a b r)
theorem sortW_perm : ∀ l : List (Nat × Flr), (sortW l).Perm l
  | [] => .refl _
  | a :: r => (insW_perm a (sortW r)).trans ((sortW_perm r).cons a)
theorem mem_wanted {hd : List Nat} {x : Nat × Flr} : x ∈ wanted l cs s hd ↔ x ∈ wantedRaw l cs s hd := (sortW_perm _).mem_iff
theorem raw_ok (hc : CsOk cs) (hr : ∀ p ∈ s.r, p < cs.length) {hd : List Nat} (hh : ∀ p ∈ hd, p < cs.length) {x : Nat × Flr} (hx : x ∈ wantedRaw l cs s hd) : x.2.ok ∧ ((x.1 ∈ s.r ∧ x.2 = (cAt cs x.1).b) ∨ ((s.r.length : Int) < l.room ∧ x.1 ∈ hd ∧ x.2 = (cAt cs x.1).a)) := by
  have hok : ∀ p, p < cs.length → (cAt cs p).ok := fun p hp => by
    have e : cAt cs p ∈ cs := by unfold cAt; rw [List.getElem?_eq_getElem hp]; exact List.getElem_mem hp
    exact hc.2.1 _ e
  have left : x ∈ s.r.map (fun p => (p, (cAt cs p).b)) → x.2.ok ∧ x.1 ∈ s.r ∧ x.2 = (cAt cs x.1).b := fun h => by
    obtain ⟨p, hp, rfl⟩ := List.mem_map.mp h
    exact ⟨(hok p (hr p hp)).2.2.2.1, hp, rfl⟩
  unfold wantedRaw at hx
  split at hx
  · rename_i hlt
    rcases List.mem_append.mp hx with h | h
    · obtain ⟨a, b, c⟩ := left h; exact ⟨a, .inl ⟨b, c⟩⟩
    · obtain ⟨p, hp, rfl⟩ := List.mem_map.mp h
      exact ⟨(hok p (hh p hp)).2.2.1, .inr ⟨hlt, hp, rfl⟩⟩
  · obtain ⟨a, b, c⟩ := left hx; exact ⟨a, .inl ⟨b, c⟩⟩
theorem near_foldl {fl : Flr} {up : Bool} (P : Flr → Prop) : ∀ (gs : List Flr) (q : Flr × List Form), P q.1 → (∀ g ∈ gs, P g) → P (gs.foldl (nearStep fl up n) q).1
  | [], _, h, _ => h
  | g :: gs, q, h, hg => near_foldl P gs _ (by unfold nearStep; simp only; split <;> first | exact hg g List.mem_cons_self | exact h) fun x hx => hg x (List.mem_cons_of_mem _ hx)
theorem goal_mem (rl : Rule) (a : Nat × Flr) (w : List (Nat × Flr)) : (goalOf rl s (a :: w) n).1 ∈ (a :: w).map (·.2) := by
  have near : ∀ g gs, (nearest s.fl s.up n (g :: gs)).1 ∈ g :: gs := fun g gs => near_foldl (· ∈ g :: gs) gs (g, []) List.mem_cons_self fun x hx => List.mem_cons_of_mem _ hx
  unfold goalOf
  cases rl with
  | first => exact List.mem_cons_self
  | near => exact near _ _
  | scan =>
    simp only
    split
    · exact near _ _
    · rename_i h
      cases e : ((a :: w).map (·.2)).filter fun f => ahead s.fl f s.up n with
      | nil => exact absurd e h
      | cons b F =>
        have := near b F
        rw [← e] at this ⊢
        exact (List.mem_filter.mp this).1
theorem near_len2 {fl : Flr} {up : Bool} : ∀ (gs : List Flr) (q : Flr × List Form), (gs.foldl (nearStep fl up n) q).2.length = q.2.length + gs.length
  | [], _ => rfl
  | g :: gs, q => by rw [List.foldl_cons, near_len2 gs]; simp [nearStep]; omega
theorem goal_len (rl : Rule) (w : List (Nat × Flr)) : (goalOf rl s w n).2.length ≤ w.length := by
  have near : ∀ gs, (nearest s.fl s.up n gs).2.length ≤ gs.length := fun gs => by
    cases gs with
    | nil => simp [nearest]
    | cons g gs => simp [nearest, near_len2]
  unfold goalOf
  cases rl with
  | first => simp
  | near => exact Nat.le_trans (near _) (by simp)
  | scan =>
    simp only
    split
    · exact Nat.le_trans (near _) (by simp)
    · exact Nat.le_trans (near _) (Nat.le_trans (List.length_filter_le _ _) (by simp))
theorem way_nn (f g : Flr) : 0 ≤ worth (way f g n) n := by
  unfold way
  split
  · rw [worth_mul]; omega
  · omega
def phi (s : Sst) : Nat := s.r.length + 2 * s.th.length
theorem waiting_len (hc : CsOk cs) : (waiting cs s).length ≤ 4 := Nat.le_trans (List.length_filter_le _ _) (by rw [List.length_range]; exact hc.1)
theorem thenF_worth (m : Form) (p : Nat) : worth (thenF cs m p) n = worth m n - (cAt cs p).t := by
  unfold thenF
  rw [worth_sub]
  simp [worth]
theorem mv_small {m : Form} {b : Int} {f g : Flr} (hm : Small b m) (hl : l.ok) (hf : f.ok) (hg : g.ok) : Small (b + 40) (fadd m (fmul (way f g n) l.pace)) := by
  have h := way_small hf hg n
  obtain ⟨_, _, _, _, h1, h2, _⟩ := hl
  unfold Small fadd fmul at *
  simp only
  obtain ⟨a1, a2, a3, a4⟩ := h
  have p1 : (way f g n).1 * l.pace ≤ 8 * 5 := Int.le_trans (Int.mul_le_mul_of_nonneg_right a2 (by omega)) (by omega)
  have p2 : -(8 * 5) ≤ (way f g n).1 * l.pace := by
    have := Int.mul_le_mul_of_nonneg_right a1 (show 0 ≤ l.pace by omega); omega
  have p3 : (way f g n).2 * l.pace ≤ 8 * 5 := Int.le_trans (Int.mul_le_mul_of_nonneg_right a4 (by omega)) (by omega)
  have p4 : -(8 * 5) ≤ (way f g n).2 * l.pace := by
    have := Int.mul_le_mul_of_nonneg_right a3 (show 0 ≤ l.pace by omega); omega
  omega
/-- behind a stop -/
theorem stop_good (hl : l.ok) (hc : CsOk cs) (g0 : Good l cs i s) {s1 : Sst} (e1 : s1.r = s.r) (e2 : s1.th = s.th) (e3 : s1.m = s.m) (e4 : s1.fl = s.fl) (ha : s1.asked.length ≤ 20 * i + 12) {g : Flr} (hg : g.ok) :
    Good l cs (i + 1) (stopAt l cs s1 g n).1 ∧ phi (stopAt l cs s1 g n).1 = phi s + (stopAt l cs s1 g n).2.1.off.length + (stopAt l cs s1 g n).2.1.on.length := by
  have hw4 : (waiting cs s1).length ≤ 4 := waiting_len hc
  simp only [stopAt]
  generalize hm1 : fadd s1.m (fmul (way s1.fl g n) l.pace) = m1
  generalize hoff : (s1.r.filter fun p => decide ((cAt cs p).b = g)) = off
  generalize hrest : (s1.r.filter fun p => !off.contains p) = rest
  generalize hpeo : ((waiting cs s1).filter fun p => decide ((cAt cs p).a = g)) = peo
  generalize hcome : (peo.filter fun p => decide (0 ≤ worth (thenF cs m1 p) n)) = come
  generalize hon : come.take (l.room - rest.length).toNat = on
  have ndr : s1.r.Nodup := by rw [e1]; exact (List.nodup_append.mp g0.nd).1
  have ndt : s1.th.Nodup := by rw [e2]; exact (List.nodup_append.mp g0.nd).2.1
  have djt : ∀ a ∈ s1.r, ∀ b ∈ s1.th, a ≠ b := by rw [e1, e2]; exact (List.nodup_append.mp g0.nd).2.2
  have m_off : ∀ p, p ∈ off ↔ p ∈ s1.r ∧ (cAt cs p).b = g := fun p => by rw [← hoff]; simp [List.mem_filter]
  have m_rest : ∀ p, p ∈ rest ↔ p ∈ s1.r ∧ p ∉ off := fun p => by rw [← hrest]; simp [List.mem_filter]
  have m_on : ∀ p ∈ on, p ∈ waiting cs s1 := fun p hp => by
    rw [← hon] at hp
    have h1 := List.mem_of_mem_take hp
    rw [← hcome] at h1
    have h2 := (List.mem_filter.mp h1).1
    rw [← hpeo] at h2
    exact (List.mem_filter.mp h2).1
  have nd_off : off.Nodup := by rw [← hoff]; exact ndr.filter _
  have nd_rest : rest.Nodup := by rw [← hrest]; exact ndr.filter _
  have nd_on : on.Nodup := by
    rw [← hon]
    refine List.Nodup.sublist (List.take_sublist _ _) ?_
    rw [← hcome, ← hpeo]
    exact (waiting_nodup.filter _).filter _
  have len_r : s1.r.length = off.length + rest.length := by
    have h1 := filter_len (fun p => off.contains p) s1.r
    have h2 : (s1.r.filter fun p => off.contains p) = off := by
      rw [← hoff]
      apply List.filter_congr
      intro p hp
      rw [Bool.eq_iff_iff]
      simp [List.mem_filter, hp]
    rw [h2, hrest] at h1; exact h1
  have nd_ro : (rest ++ on).Nodup := by
    rw [List.nodup_append]
    refine ⟨nd_rest, nd_on, fun a ha b hb e => ?_⟩
    subst e
    exact (mem_waiting.mp (m_on a hb)).2.1 ((m_rest a).mp ha).1
  have on_le : (on.length : Int) ≤ l.room - rest.length ∨ on.length = 0 := by
    rw [← hon, List.length_take]
    by_cases h : 0 ≤ l.room - rest.length
    · left; omega
    · right
      have : (l.room - rest.length).toNat = 0 := by omega
      rw [this]; simp
  have r_le : (rest.length : Int) ≤ l.room := by
    have := g0.rm; rw [← e1] at this; omega
  constructor
  · refine ⟨?_, ?_, ?_, ?_, ?_, hg, sortN_sorted nd_ro⟩
    · rw [List.nodup_append]
      refine ⟨(sortN_perm _).nodup_iff.mpr nd_ro, ?_, fun a ha b hb e => ?_⟩
      · rw [List.nodup_append]
        exact ⟨ndt, nd_off, fun a ha b hb e => djt b ((m_off b).mp hb).1 a ha e.symm⟩
      · subst e
        have ha := (sortN_perm _).mem_iff.mp ha
        rcases List.mem_append.mp ha with ha | ha <;> rcases List.mem_append.mp hb with hb | hb
        · exact djt a ((m_rest a).mp ha).1 a hb rfl
        · exact ((m_rest a).mp ha).2 hb
        · exact (mem_waiting.mp (m_on a ha)).2.2 hb
        · exact (mem_waiting.mp (m_on a ha)).2.1 ((m_off a).mp hb).1
    · intro p hp
      rcases List.mem_append.mp hp with hp | hp
      · rcases List.mem_append.mp ((sortN_perm _).mem_iff.mp hp) with hp | hp
        · exact g0.lt p (List.mem_append_left _ (by rw [← e1]; exact ((m_rest p).mp hp).1))
        · exact (mem_waiting.mp (m_on p hp)).1
      · rcases List.mem_append.mp hp with hp | hp
        · exact g0.lt p (List.mem_append_right _ (by rw [← e2]; exact hp))
        · exact g0.lt p (List.mem_append_left _ (by rw [← e1]; exact ((m_off p).mp hp).1))
    · show ((sortN (rest ++ on)).length : Int) ≤ l.room
      rw [(sortN_perm _).length_eq, List.length_append]
      omega
    · have h := mv_small (n := n) (g := g) (by rw [e3]; exact g0.m) hl (by rw [e4]; exact g0.fl) hg (l := l) (m := s1.m) (f := s1.fl)
      rw [hm1] at h
      have hh1 := hl.2.2.1
      have hh2 := hl.2.2.2.1
      unfold Small fadd at *
      simp only at *
      omega
    · show (s1.asked ++ peo.map (thenF cs m1)).length ≤ 20 * (i + 1)
      have : peo.length ≤ 4 := by rw [← hpeo]; exact Nat.le_trans (List.length_filter_le _ _) hw4
      rw [List.length_append, List.length_map]
      omega
  · show (sortN (rest ++ on)).length + 2 * (s1.th ++ off).length = phi s + off.length + on.length
    rw [(sortN_perm _).length_eq, List.length_append, List.length_append]
    unfold phi
    rw [← e1, ← e2, len_r]
    omega
theorem stop_more (hl : l.ok) (hc : CsOk cs) (g0 : Good l cs i s) {s1 : Sst} (e1 : s1.r = s.r) (e2 : s1.th = s.th) (e3 : s1.m = s.m) {x : Nat × Flr} (hx : x ∈ wantedRaw l cs s1 (heard cs s n)) : 1 ≤ (stopAt l cs s1 x.2 n).2.1.off.length + (stopAt l cs s1 x.2 n).2.1.on.length := by
  have hr : ∀ p ∈ s1.r, p < cs.length := fun p hp => g0.lt p (List.mem_append_left _ (by rw [← e1]; exact hp))
  have hh : ∀ p ∈ heard cs s n, p < cs.length := fun p hp => (mem_waiting.mp (mem_heard.mp hp).1).1
  obtain ⟨_, h⟩ := raw_ok hc hr hh hx
  simp only [stopAt]
  rcases h with ⟨h1, h2⟩ | ⟨h1, h2, h3⟩
  · have : x.1 ∈ s1.r.filter fun p => decide ((cAt cs p).b = x.2) := by simp [List.mem_filter, h1, h2]
    have := List.length_pos_of_mem this
    omega
  · have hb := mem_heard.mp h2
    have hwt : x.1 ∈ waiting cs s1 := mem_waiting.mpr (by rw [e1, e2]; exact mem_waiting.mp hb.1)
    have hp : x.1 ∈ (waiting cs s1).filter fun p => decide ((cAt cs p).a = x.2) := by simp [List.mem_filter, hwt, h3]
    have hn : 0 ≤ worth (thenF cs (fadd s1.m (fmul (way s1.fl x.2 n) l.pace)) x.1) n := by
      rw [thenF_worth, worth_add, worth_mul]
      have q1 := hb.2
      rw [thenF_worth, ← e3] at q1
      have q2 := Int.mul_nonneg (way_nn (n := n) s1.fl x.2) (show 0 ≤ l.pace by have := hl.2.2.2.2.1; omega)
      omega
    have hcm : x.1 ∈ ((waiting cs s1).filter fun p => decide ((cAt cs p).a = x.2)).filter fun p => decide (0 ≤ worth (thenF cs (fadd s1.m (fmul (way s1.fl x.2 n) l.pace)) p) n) := by
      rw [List.mem_filter]; exact ⟨hp, by simpa using hn⟩
    have hlen := List.length_pos_of_mem hcm
    have hrest : (s1.r.filter fun p => !(s1.r.filter fun p => decide ((cAt cs p).b = x.2)).contains p).length ≤ s1.r.length := List.length_filter_le _ _
    have : 1 ≤ ((((waiting cs s1).filter fun p => decide ((cAt cs p).a = x.2)).filter fun p => decide (0 ≤ worth (thenF cs (fadd s1.m (fmul (way s1.fl x.2 n) l.pace)) p) n)).take (l.room - (s1.r.filter fun p => !(s1.r.filter fun p => decide ((cAt cs p).b = x.2)).contains p).length).toNat).length := by
      rw [List.length_take]
      omega
    omega
theorem minI_mem : ∀ {L : List Int} {t : Int}, minI L = some t → t ∈ L
  | [], t, h => by simp [minI] at h
  | a :: r, t, h => by
    simp only [minI, Option.some.injEq] at h
    subst h
    have go : ∀ (r : List Int) (a : Int), r.foldl (fun m x => if x < m then x else m) a ∈ a :: r := by
      intro r
      induction r with
      | nil => intro a; simp
      | cons b r ih =>
        intro a
        rw [List.foldl_cons]
        split
        · exact List.mem_cons_of_mem _ (ih b)
        · rcases List.mem_cons.mp (ih a) with e | e
          · rw [e]; exact List.mem_cons_self
          · exact List.mem_cons_of_mem _ (List.mem_cons_of_mem _ e)
    exact go r a
theorem ask_good (hc : CsOk cs) (g0 : Good l cs i s) : (askH cs s).asked.length ≤ 20 * i + 4 := by
  have h := waiting_len (s := s) hc
  have h2 := g0.ask
  simp only [askH, List.length_append, List.length_map]
  omega
/-- behind a wait -/
theorem wait_good (hc : CsOk cs) (g0 : Good l cs i s) {t : Int} (ht : nextMin cs (askH cs s) (heard cs s n) = some t) : Good l cs (i + 1) { askH cs s with m := (0, t) } ∧ 0 ≤ t ∧ t ≤ 1000 ∧ heard cs { askH cs s with m := (0, t) } n ≠ [] := by
  have hm := minI_mem ht
  obtain ⟨p, hp, rfl⟩ := List.mem_map.mp hm
  have hw := mem_waiting.mp (List.mem_filter.mp hp).1
  have hok : (cAt cs p).ok := by
    have e : cAt cs p ∈ cs := by unfold cAt; rw [List.getElem?_eq_getElem hw.1]; exact List.getElem_mem hw.1
    exact hc.2.1 _ e
  obtain ⟨t0, t1, _⟩ := hok
  have ha := ask_good hc g0
  refine ⟨⟨g0.nd, g0.lt, g0.rm, ?_, by show (askH cs s).asked.length ≤ _; omega, g0.fl, g0.so⟩, t0, t1, fun e => ?_⟩
  · unfold Small; simp only; omega
  · have : p ∈ heard cs { askH cs s with m := (0, (cAt cs p).t) } n := by
      rw [mem_heard]
      refine ⟨mem_waiting.mpr hw, ?_⟩
      rw [thenF_worth]
      simp [worth]
    rw [e] at this; cases this
def busy (l : Lf) (cs : List Cl) (s : Sst) (n : Int) : Nat := if wanted l cs s (heard cs s n) = [] then 1 else 0
theorem raw_nil {hd : List Nat} : wanted l cs s hd = [] ↔ wantedRaw l cs s hd = [] := by
  unfold wanted
  constructor
  · intro h
    have := (sortW_perm (wantedRaw l cs s hd)).length_eq
    rw [h] at this
    exact List.length_eq_zero_iff.mp this.symm
  · intro h; rw [h]; rfl
theorem wanted_ask (hd : List Nat) : wanted l cs (askH cs s) hd = wanted l cs s hd := rfl
/-- the story ends -/
theorem run_ends (hl : l.ok) (hc : CsOk cs) : ∀ (N i : Nat) (s : Sst) (stops : List Stop) (e : Form), Good l cs i s → 2 * (8 - phi s) + busy l cs s n + 1 ≤ N → ∃ res, run l cs n N s stops e = some res
  | 0, _, _, _, _, _, h => by omega
  | N + 1, i, s, stops, e, g0, h => by
    have hr : ∀ p ∈ s.r, p < cs.length := fun p hp => g0.lt p (List.mem_append_left _ hp)
    have hh : ∀ p ∈ heard cs s n, p < cs.length := fun p hp => (mem_waiting.mp (mem_heard.mp hp).1).1
    unfold run turn
    simp only [wanted_ask]
    cases hw : wanted l cs s (heard cs s n) with
    | cons a w =>
      simp only
      have hmem := goal_mem (s := askH cs s) (n := n) l.rule a w
      obtain ⟨x, hx, ex⟩ := List.mem_map.mp hmem
      have hx' : x ∈ wantedRaw l cs s (heard cs s n) := mem_wanted.mp (by rw [hw]; exact hx)
      have hok := (raw_ok hc hr hh hx').1
      rw [← ex]
      have hlen : (wantedRaw l cs s (heard cs s n)).length ≤ 8 := by
        have h1 := g0.len hc
        have h2 : (heard cs s n).length ≤ 4 := Nat.le_trans (List.length_filter_le _ _) (waiting_len hc)
        unfold wantedRaw
        split <;> simp <;> omega
      have hlw : (a :: w).length ≤ 8 := by
        rw [← hw]; unfold wanted; rw [(sortW_perm _).length_eq]; exact hlen
      have hgl := goal_len (s := askH cs s) (n := n) l.rule (a :: w)
      have ha := ask_good hc g0
      obtain ⟨g1, p1⟩ := stop_good (n := n) hl hc g0 (s1 := askG (askH cs s) (goalOf l.rule (askH cs s) (a :: w) n).2) rfl rfl rfl rfl (by simp only [askG, List.length_append]; omega) hok
      have more := stop_more (n := n) hl hc g0 (s1 := askG (askH cs s) (goalOf l.rule (askH cs s) (a :: w) n).2) rfl rfl rfl hx'
      have hphi : phi (stopAt l cs (askG (askH cs s) (goalOf l.rule (askH cs s) (a :: w) n).2) x.2 n).1 ≤ 8 := by
        have := g1.len hc
        unfold phi; omega
      refine run_ends hl hc N (i + 1) _ _ _ g1 ?_
      have hb : busy l cs (stopAt l cs (askG (askH cs s) (goalOf l.rule (askH cs s) (a :: w) n).2) x.2 n).1 n ≤ 1 := by unfold busy; split <;> omega
      omega
    | nil =>
      simp only
      cases ht : nextMin cs (askH cs s) (heard cs s n) with
      | none => exact ⟨_, rfl⟩
      | some t =>
        simp only
        obtain ⟨g1, _, _, hne⟩ := wait_good hc g0 ht
        refine run_ends hl hc N (i + 1) _ _ _ g1 ?_
        have hb0 : busy l cs s n = 1 := by unfold busy; rw [if_pos hw]
        have hraw := raw_nil.mp hw
        have hr0 : s.r = [] := by
          unfold wantedRaw at hraw
          split at hraw
          · simp at hraw; exact hraw.1
          · simpa using hraw
        have hb1 : busy l cs { askH cs s with m := (0, t) } n = 0 := by
          unfold busy
          rw [if_neg]
          intro e
          have hraw := raw_nil.mp e
          unfold wantedRaw at hraw
          rw [if_pos (by show ((askH cs s).r.length : Int) < l.room; rw [show (askH cs s).r = [] from hr0]; have := hl.1; simp; omega)] at hraw
          simp only [List.append_eq_nil_iff, List.map_eq_nil_iff] at hraw
          exact hne hraw.2
        have hp : phi { askH cs s with m := (0, t) } = phi s := rfl
        show 2 * (8 - phi { askH cs s with m := (0, t) }) + busy l cs { askH cs s with m := (0, t) } n + 1 ≤ N
        rw [hb1, hp]
        omega
theorem first_good (hl : l.ok) : Good l cs 0 (first0 l) := by
  refine ⟨by simp [first0], by simp [first0], ?_, by simp [first0, Small], by simp [first0], hl.2.2.2.2.2.2, by simp [first0]⟩
  have := hl.1
  simp [first0]; omega
theorem run_all (hl : l.ok) (hc : CsOk cs) (n : Int) : ∃ res, run l cs n 18 (first0 l) [] (0, 0) = some res := by
  refine run_ends hl hc 18 0 (first0 l) [] (0, 0) (first_good hl) ?_
  have h : busy l cs (first0 l) n ≤ 1 := by unfold busy; split <;> omega
  have h2 : phi (first0 l) = 0 := rfl
  rw [h2]; omega
end
end LF

namespace LF
open AF
structure InvR (stops : List Stop) (s : Sst) : Prop where
  on : ∀ p ∈ s.r ++ s.th, ∃ x ∈ stops, p ∈ x.on
  off : ∀ p ∈ s.th, ∃ x ∈ stops, p ∈ x.off
theorem run_rides {l : Lf} {cs : List Cl} {n : Int} (hl : l.ok) : ∀ (N : Nat) (s : Sst) (stops : List Stop) (e : Form) (res : List Stop × Form × List Form), InvR stops s → LF.run l cs n N s stops e = some res →
    res.1.length ≤ stops.length + N ∧ ∀ p < cs.length, (∃ x ∈ res.1, p ∈ x.on) ∧ ∃ x ∈ res.1, p ∈ x.off
  | 0, _, _, _, _, _, h => by simp [LF.run] at h
  | N + 1, s, stops, e, res, g, h => by
    unfold LF.run turn at h
    simp only [wanted_ask] at h
    cases hw : wanted l cs s (heard cs s n) with
    | cons a w =>
      rw [hw] at h
      simp only at h
      generalize hq : stopAt l cs (askG (askH cs s) (goalOf l.rule (askH cs s) (a :: w) n).2) (goalOf l.rule (askH cs s) (a :: w) n).1 n = q at h
      obtain ⟨s', stp, f⟩ := q
      have e1 : s'.r = sortN ((s.r.filter fun p => !stp.off.contains p) ++ stp.on) := by
        have := congrArg (fun x => (x.1.r, x.2.1)) hq
        simp only [Prod.mk.injEq] at this
        rw [← this.1, ← this.2]; rfl
      have e2 : s'.th = s.th ++ stp.off := by
        have := congrArg (fun x => (x.1.th, x.2.1)) hq
        simp only [Prod.mk.injEq] at this
        rw [← this.1, ← this.2]; rfl
      have e3 : ∀ p ∈ stp.off, p ∈ s.r := by
        have := congrArg (fun x => x.2.1.off) hq
        simp only at this
        intro p hp
        rw [← this] at hp
        exact (List.mem_filter.mp hp).1
      have := run_rides hl N s' (stops ++ [stp]) _ res ⟨fun p hp => ?_, fun p hp => ?_⟩ h
      · refine ⟨?_, this.2⟩
        have h1 := this.1
        simp only [List.length_append, List.length_cons, List.length_nil] at h1
        omega
      · have old : p ∈ s.r ++ s.th → ∃ x ∈ stops ++ [stp], p ∈ x.on := fun hp => by
          obtain ⟨x, hx, hx2⟩ := g.on p hp
          exact ⟨x, List.mem_append_left _ hx, hx2⟩
        rcases List.mem_append.mp hp with q | q
        · rw [e1, (sortN_perm _).mem_iff] at q
          rcases List.mem_append.mp q with q | q
          · exact old (List.mem_append_left _ (List.mem_filter.mp q).1)
          · exact ⟨stp, by simp, q⟩
        · rw [e2] at q
          rcases List.mem_append.mp q with q | q
          · exact old (List.mem_append_right _ q)
          · exact old (List.mem_append_left _ (e3 p q))
      · rw [e2] at hp
        rcases List.mem_append.mp hp with q | q
        · obtain ⟨x, hx, hx2⟩ := g.off p q
          exact ⟨x, List.mem_append_left _ hx, hx2⟩
        · exact ⟨stp, by simp, q⟩
    | nil =>
      rw [hw] at h
      simp only at h
      cases ht : nextMin cs (askH cs s) (heard cs s n) with
      | some t =>
        rw [ht] at h
        simp only at h
        have := run_rides hl N { askH cs s with m := (0, t) } stops e res ⟨g.on, g.off⟩ h
        exact ⟨by omega, this.2⟩
      | none =>
        rw [ht] at h
        cases h
        refine ⟨by simp, fun p hp => ?_⟩
        have hraw := raw_nil.mp hw
        have hr0 : s.r = [] := by
          unfold wantedRaw at hraw
          split at hraw
          · simp at hraw; exact hraw.1
          · simpa using hraw
        have h0 : heard cs s n = [] := by
          unfold wantedRaw at hraw
          rw [if_pos (by rw [hr0]; have := hl.1; simp; omega)] at hraw
          simpa [hr0] using hraw
        have hwn : waiting cs s = [] := by
          unfold nextMin late at ht
          rw [h0] at ht
          have e1 : ((waiting cs (askH cs s)).filter fun p => !([] : List Nat).contains p) = waiting cs s := by
            show ((waiting cs s).filter fun p => !([] : List Nat).contains p) = waiting cs s
            simp
          rw [e1] at ht
          cases hq : waiting cs s with
          | nil => rfl
          | cons z zs => rw [hq] at ht; simp [minI] at ht
        have hth : p ∈ s.th := by
          refine Classical.byContradiction fun q => ?_
          have : p ∈ waiting cs s := mem_waiting.mpr ⟨hp, by rw [hr0]; simp, q⟩
          rw [hwn] at this; cases this
        exact ⟨g.on p (List.mem_append_right _ hth), g.off p hth⟩
/-- where a person gets on, and off -/
def onOf (stops : List Stop) (p : Nat) : Form := (((stops.filter fun x => x.on.contains p).map (·.m)).head?).getD (0, 0)
def offOf (stops : List Stop) (p : Nat) : Form := (((stops.filter fun x => x.off.contains p).map (·.m)).head?).getD (0, 0)
theorem on_cons {stops : List Stop} {p : Nat} (h : ∃ x ∈ stops, p ∈ x.on) : ∃ t, (stops.filter fun x => x.on.contains p).map (·.m) = onOf stops p :: t := by
  obtain ⟨x, hx, hp⟩ := h
  have : x ∈ stops.filter fun x => x.on.contains p := List.mem_filter.mpr ⟨hx, by simpa using hp⟩
  unfold onOf
  cases hq : stops.filter fun x => x.on.contains p with
  | nil => rw [hq] at this; cases this
  | cons y ys => exact ⟨_, rfl⟩
theorem off_cons {stops : List Stop} {p : Nat} (h : ∃ x ∈ stops, p ∈ x.off) : ∃ t, (stops.filter fun x => x.off.contains p).map (·.m) = offOf stops p :: t := by
  obtain ⟨x, hx, hp⟩ := h
  have : x ∈ stops.filter fun x => x.off.contains p := List.mem_filter.mpr ⟨hx, by simpa using hp⟩
  unfold offOf
  cases hq : stops.filter fun x => x.off.contains p with
  | nil => rw [hq] at this; cases this
  | cons y ys => exact ⟨_, rfl⟩
/-- every stop's minute has small parts -/
theorem run_small {l : Lf} {cs : List Cl} {n : Int} (hl : l.ok) (hc : CsOk cs) : ∀ (N i : Nat) (s : Sst) (stops : List Stop) (e : Form) (res : List Stop × Form × List Form), i + N ≤ 60 → Good l cs i s → (∀ x ∈ stops, Small 50100 x.m) → LF.run l cs n N s stops e = some res → ∀ x ∈ res.1, Small 50100 x.m
  | 0, _, _, _, _, _, _, _, _, h => by simp [LF.run] at h
  | N + 1, i, s, stops, e, res, hi, g0, hx, h => by
    have hr : ∀ p ∈ s.r, p < cs.length := fun p hp => g0.lt p (List.mem_append_left _ hp)
    have hh : ∀ p ∈ heard cs s n, p < cs.length := fun p hp => (mem_waiting.mp (mem_heard.mp hp).1).1
    have hm : Small 50000 s.m := by
      have := g0.m
      unfold Small at *
      omega
    unfold LF.run turn at h
    simp only [wanted_ask] at h
    cases hw : wanted l cs s (heard cs s n) with
    | cons a w =>
      rw [hw] at h
      simp only at h
      have hx' : ∀ x ∈ a :: w, x ∈ wantedRaw l cs s (heard cs s n) := fun x hx => mem_wanted.mp (by rw [hw]; exact hx)
      obtain ⟨y, hy, ey⟩ := List.mem_map.mp (goal_mem (s := askH cs s) (n := n) l.rule a w)
      have hgok : (goalOf l.rule (askH cs s) (a :: w) n).1.ok := by rw [← ey]; exact (raw_ok hc hr hh (hx' y hy)).1
      have hlen : (wantedRaw l cs s (heard cs s n)).length ≤ 8 := by
        have h1 := g0.len hc
        have h2 : (heard cs s n).length ≤ 4 := Nat.le_trans (List.length_filter_le _ _) (waiting_len hc)
        unfold wantedRaw
        split <;> simp <;> omega
      have hlw : (a :: w).length ≤ 8 := by
        rw [← hw]; unfold wanted; rw [(sortW_perm _).length_eq]; exact hlen
      have hgl := goal_len (s := askH cs s) (n := n) l.rule (a :: w)
      obtain ⟨g1, _⟩ := stop_good (n := n) hl hc g0 (s1 := askG (askH cs s) (goalOf l.rule (askH cs s) (a :: w) n).2) rfl rfl rfl rfl (by have := ask_good hc g0; simp only [askG, List.length_append]; omega) hgok
      refine run_small hl hc N (i + 1) _ _ _ res (by omega) g1 (fun x q => ?_) h
      rcases List.mem_append.mp q with q | q
      · exact hx x q
      · rw [List.mem_singleton] at q
        subst q
        have := mv_small (n := n) hm hl g0.fl hgok
        show Small 50100 (fadd s.m (fmul (way s.fl (goalOf l.rule (askH cs s) (a :: w) n).1 n) l.pace))
        unfold Small at *
        omega
    | nil =>
      rw [hw] at h
      simp only at h
      cases ht : nextMin cs (askH cs s) (heard cs s n) with
      | some t =>
        rw [ht] at h
        simp only at h
        obtain ⟨g1, _⟩ := wait_good hc g0 ht
        exact run_small hl hc N (i + 1) { askH cs s with m := (0, t) } stops e res (by omega) g1 hx h
      | none =>
        rw [ht] at h
        cases h
        exact hx
end LF

/-! Tab: until where the signs of forms stay. -/
namespace LF
open AF
def iabs (i : Int) : Int := if i < 0 then -i else i
def sameS (s : Int) (f : Form) (n : Int) : Option Int :=
  if f.1 = 0 then none else if s = 0 then some n else if 0 < s * f.1 then none else if s * f.1 < 0 then some ((iabs f.2 - 1) / iabs f.1) else none
def sameTo (f : Form) (n : Int) : Option Int := sameS (sgn (worth f n)) f n
def untilF (fs : List Form) (n : Int) : Option Int := minI (fs.filterMap fun f => sameTo f n)
def hiLe (m : Int) : Option Int → Prop
  | none => True
  | some e => m ≤ e
theorem sgn_cases (i : Int) : (sgn i = 1 ∧ 0 < i) ∨ (sgn i = 0 ∧ i = 0) ∨ (sgn i = -1 ∧ i < 0) := by
  unfold sgn; split
  · exact .inl ⟨rfl, by omega⟩
  · split
    · exact .inr (.inr ⟨rfl, by omega⟩)
    · exact .inr (.inl ⟨rfl, by omega⟩)
theorem sgn_eq_of {i j : Int} (h1 : 0 < i ↔ 0 < j) (h2 : i < 0 ↔ j < 0) : sgn i = sgn j := by
  rcases sgn_cases i with ⟨e1, q1⟩ | ⟨e1, q1⟩ | ⟨e1, q1⟩ <;> rcases sgn_cases j with ⟨e2, q2⟩ | ⟨e2, q2⟩ | ⟨e2, q2⟩ <;> omega
theorem sgn_neg' (i : Int) : sgn (-i) = - sgn i := by
  rcases sgn_cases i with ⟨e1, q1⟩ | ⟨e1, q1⟩ | ⟨e1, q1⟩ <;> rcases sgn_cases (-i) with ⟨e2, q2⟩ | ⟨e2, q2⟩ | ⟨e2, q2⟩ <;> omega
def fneg (f : Form) : Form := (-f.1, -f.2)
theorem worth_neg (f : Form) (n : Int) : worth (fneg f) n = - worth f n := by
  simp only [worth, fneg, Int.neg_mul]; omega
theorem iabs_neg (i : Int) : iabs (-i) = iabs i := by unfold iabs; split <;> split <;> omega
theorem sameTo_neg (f : Form) (n : Int) : sameTo (fneg f) n = sameTo f n := by
  unfold sameTo
  rw [worth_neg, sgn_neg']
  generalize sgn (worth f n) = s
  unfold sameS
  simp only [fneg, iabs_neg, Int.neg_mul_neg, Int.neg_eq_zero]
theorem sameTo_pos {f : Form} {n : Int} (hn : 0 ≤ n) (ha : 0 < f.1) :
    (sameTo f n = none → ∀ m, n ≤ m → sgn (worth f m) = sgn (worth f n)) ∧ (∀ e, sameTo f n = some e → n ≤ e ∧ e ≤ iabs f.2 ∧ ∀ m, n ≤ m → m ≤ e → sgn (worth f m) = sgn (worth f n)) := by
  obtain ⟨a, b⟩ := f
  simp only at ha
  have hab : ∀ x : Int, 0 ≤ x → x ≤ a * x := fun x hx => by
    have := Int.mul_le_mul_of_nonneg_right (show 1 ≤ a by omega) hx
    omega
  have han := hab n hn
  rw [show sameTo (a, b) n = sameS (sgn (a * n + b)) (a, b) n from rfl]
  simp only [worth]
  rcases sgn_cases (a * n + b) with ⟨e1, q1⟩ | ⟨e1, q1⟩ | ⟨e1, q1⟩
  · rw [e1]
    simp only [sameS, Int.one_mul]
    rw [if_neg (by omega), if_neg (by decide), if_pos ha]
    refine ⟨fun _ m hm => ?_, fun e h => by cases h⟩
    have := Int.mul_le_mul_of_nonneg_left hm (show 0 ≤ a by omega)
    rcases sgn_cases (a * m + b) with ⟨e2, q2⟩ | ⟨e2, q2⟩ | ⟨e2, q2⟩ <;> omega
  · rw [e1]
    simp only [sameS]
    rw [if_neg (by omega), if_pos trivial]
    refine ⟨fun h => (by cases h), fun e h => ?_⟩
    cases h
    refine ⟨Int.le_refl _, by unfold iabs; split <;> omega, fun m h1 h2 => ?_⟩
    have : m = n := by omega
    subst this; exact e1
  · rw [e1]
    simp only [sameS]
    rw [if_neg (by omega), if_neg (by decide), if_neg (by omega), if_pos (by omega)]
    refine ⟨fun h => (by cases h), fun e h => ?_⟩
    cases h
    have hb : b < 0 := by omega
    have hia : iabs a = a := by unfold iabs; split <;> omega
    have hib : iabs b = -b := by unfold iabs; split <;> omega
    rw [hia, hib]
    have hq := Int.mul_ediv_self_le (x := -b - 1) (k := a) (by omega)
    have hle : n ≤ (-b - 1) / a := (Int.le_ediv_iff_mul_le ha).mpr (by rw [Int.mul_comm]; omega)
    have hq0 : 0 ≤ (-b - 1) / a := by omega
    have hqq := hab _ hq0
    refine ⟨hle, by omega, fun m h1 h2 => ?_⟩
    have := Int.mul_le_mul_of_nonneg_left h2 (show 0 ≤ a by omega)
    rcases sgn_cases (a * m + b) with ⟨e2, q2⟩ | ⟨e2, q2⟩ | ⟨e2, q2⟩ <;> omega
theorem sameTo_spec (f : Form) {n : Int} (hn : 0 ≤ n) :
    (sameTo f n = none → ∀ m, n ≤ m → sgn (worth f m) = sgn (worth f n)) ∧ (∀ e, sameTo f n = some e → n ≤ e ∧ e ≤ iabs f.2 ∧ ∀ m, n ≤ m → m ≤ e → sgn (worth f m) = sgn (worth f n)) := by
  by_cases h0 : f.1 = 0
  · have e : ∀ m, worth f m = f.2 := fun m => by simp [worth, h0]
    unfold sameTo sameS
    rw [if_pos h0]
    exact ⟨fun _ m _ => by rw [e, e], fun e h => by cases h⟩
  · by_cases hp : 0 < f.1
    · exact sameTo_pos hn hp
    · have := sameTo_pos (f := fneg f) hn (by show 0 < -f.1; omega)
      rw [sameTo_neg] at this
      simp only [worth_neg, sgn_neg'] at this
      rw [show (fneg f).2 = - f.2 from rfl, iabs_neg] at this
      refine ⟨fun h m hm => by have := this.1 h m hm; omega, fun e h => ?_⟩
      obtain ⟨h1, h2, h3⟩ := this.2 e h
      exact ⟨h1, h2, fun m a b => by have := h3 m a b; omega⟩
theorem minI_le : ∀ {L : List Int} {t : Int}, minI L = some t → ∀ x ∈ L, t ≤ x := by
  have key : ∀ (L : List Int) (a : Int), (L.foldl (fun m x => if x < m then x else m) a) ≤ a ∧ ∀ x ∈ L, (L.foldl (fun m x => if x < m then x else m) a) ≤ x := by
    intro L
    induction L with
    | nil => intro a; exact ⟨Int.le_refl _, fun x h => by cases h⟩
    | cons b L ih =>
      intro a
      rw [List.foldl_cons]
      obtain ⟨h1, h2⟩ := ih (if b < a then b else a)
      refine ⟨by revert h1; split <;> omega, fun x hx => ?_⟩
      rcases List.mem_cons.mp hx with e | e
      · subst e; revert h1; split <;> omega
      · exact h2 x e
  intro L t h x hx
  cases L with
  | nil => cases h
  | cons a r =>
    cases h
    obtain ⟨h1, h2⟩ := key r a
    rcases List.mem_cons.mp hx with e | e
    · subst e; exact h1
    · exact h2 x e
theorem minI_none' {L : List Int} : minI L = none ↔ L = [] := by cases L <;> simp [minI]
def SameSg (fs : List Form) (n m : Int) : Prop := ∀ f ∈ fs, sgn (worth f m) = sgn (worth f n)
theorem SameSg.left {a b : List Form} {n m : Int} (h : SameSg (a ++ b) n m) : SameSg a n m := fun f hf => h f (List.mem_append_left _ hf)
theorem SameSg.right {a b : List Form} {n m : Int} (h : SameSg (a ++ b) n m) : SameSg b n m := fun f hf => h f (List.mem_append_right _ hf)
theorem SameSg.sub {a b : List Form} {n m : Int} (h : SameSg b n m) (hs : ∀ f ∈ a, f ∈ b) : SameSg a n m := fun f hf => h f (hs f hf)
theorem until_spec {fs : List Form} {n B : Int} (hn : 0 ≤ n) (hB : ∀ f ∈ fs, iabs f.2 ≤ B) :
    (∀ e, untilF fs n = some e → n ≤ e ∧ e ≤ B) ∧ ∀ m, n ≤ m → hiLe m (untilF fs n) → SameSg fs n m := by
  constructor
  · intro e h
    obtain ⟨f, hf, q⟩ := List.mem_filterMap.mp (minI_mem h)
    obtain ⟨h1, h2, _⟩ := (sameTo_spec f hn).2 e q
    exact ⟨h1, Int.le_trans h2 (hB f hf)⟩
  · intro m hm hle f hf
    cases q : sameTo f n with
    | none => exact (sameTo_spec f hn).1 q m hm
    | some e =>
      refine ((sameTo_spec f hn).2 e q).2.2 m hm ?_
      have hmem : e ∈ fs.filterMap fun f => sameTo f n := List.mem_filterMap.mpr ⟨f, hf, q⟩
      cases u : untilF fs n with
      | none =>
        rw [untilF, minI_none'] at u
        rw [u] at hmem; cases hmem
      | some t =>
        rw [u] at hle
        exact Int.le_trans hle (minI_le u e hmem)
end LF

/-! Tab2: where all signs that were asked stay, the run stays. -/
namespace LF
open AF
theorem sgn_le {i j : Int} (h : sgn i = sgn j) : (i < 0 ↔ j < 0) ∧ (0 ≤ i ↔ 0 ≤ j) ∧ (0 < i ↔ 0 < j) ∧ (i ≤ 0 ↔ j ≤ 0) ∧ (i = 0 ↔ j = 0) := by
  rcases sgn_cases i with ⟨e1, q1⟩ | ⟨e1, q1⟩ | ⟨e1, q1⟩ <;> rcases sgn_cases j with ⟨e2, q2⟩ | ⟨e2, q2⟩ | ⟨e2, q2⟩ <;> omega
section
variable {n m : Int}
theorem far_const {f g : Flr} (hf : f.ok) (hg : g.ok) (hn : 8 ≤ n) (hm : 8 ≤ m) : sgn (worth (far f g) m) = sgn (worth (far f g) n) := by
  rw [worth_far, worth_far]
  obtain ⟨a1, a2⟩ := hf
  obtain ⟨b1, b2⟩ := hg
  refine sgn_eq_of ?_ ?_
  · unfold Flr.at; cases f.top <;> cases g.top <;> simp <;> omega
  · unfold Flr.at; cases f.top <;> cases g.top <;> simp <;> omega
theorem way_const {f g : Flr} (hf : f.ok) (hg : g.ok) (hn : 8 ≤ n) (hm : 8 ≤ m) : way f g m = way f g n := by
  have := sgn_le (far_const hf hg hn hm)
  unfold way
  by_cases h : worth (far f g) n < 0
  · rw [if_pos h, if_pos (this.1.mpr h)]
  · rw [if_neg h, if_neg fun q => h (this.1.mp q)]
theorem ahead_const {f g : Flr} (up : Bool) (hf : f.ok) (hg : g.ok) (hn : 8 ≤ n) (hm : 8 ≤ m) : ahead f g up m = ahead f g up n := by
  have := sgn_le (far_const hf hg hn hm)
  unfold ahead
  cases up <;> simp [this.2.1, this.2.2.2.1]
theorem heard_const {cs : List Cl} {s : Sst} (h : SameSg ((waiting cs s).map (thenF cs s.m)) n m) : heard cs s m = heard cs s n := by
  unfold heard
  refine List.filter_congr fun p hp => ?_
  have := (sgn_le (h _ (List.mem_map_of_mem hp))).2.1
  simp [this]
theorem near_sub {fl : Flr} {up : Bool} : ∀ (gs : List Flr) (q : Flr × List Form), ∀ f ∈ q.2, f ∈ (gs.foldl (nearStep fl up n) q).2
  | [], q, f, h => h
  | g :: gs, q, f, h => near_sub gs _ f (by unfold nearStep; exact List.mem_append_left _ h)
theorem near_const {fl : Flr} {up : Bool} (hf : fl.ok) (hn : 8 ≤ n) (hm : 8 ≤ m) : ∀ (gs : List Flr) (q : Flr × List Form), q.1.ok → (∀ g ∈ gs, g.ok) → SameSg (gs.foldl (nearStep fl up n) q).2 n m → gs.foldl (nearStep fl up m) q = gs.foldl (nearStep fl up n) q
  | [], q, _, _, _ => rfl
  | g :: gs, q, hq, hg, h => by
    have hgk := hg g List.mem_cons_self
    rw [List.foldl_cons, List.foldl_cons] at *
    have e : nearStep fl up m q g = nearStep fl up n q g := by
      have hm2 := near_sub (n := n) (fl := fl) (up := up) gs (nearStep fl up n q g) (fsub (way fl g n) (way fl q.1 n)) (by unfold nearStep; simp)
      have := sgn_le (h _ hm2)
      unfold nearStep
      simp only [way_const hf hgk hn hm, way_const hf hq hn hm, ahead_const up hf hq hn hm, this.1, this.2.2.2.2]
    rw [e]
    refine near_const hf hn hm gs _ ?_ (fun g' h' => hg g' (List.mem_cons_of_mem _ h')) h
    unfold nearStep
    simp only
    split
    · exact hgk
    · exact hq
theorem nearest_const {fl : Flr} {up : Bool} (hf : fl.ok) (hn : 8 ≤ n) (hm : 8 ≤ m) (fs : List Flr) (hg : ∀ g ∈ fs, g.ok) (h : SameSg (nearest fl up n fs).2 n m) : nearest fl up m fs = nearest fl up n fs := by
  cases fs with
  | nil => rfl
  | cons g gs => exact near_const hf hn hm gs _ (hg g List.mem_cons_self) (fun g' h' => hg g' (List.mem_cons_of_mem _ h')) h
theorem goal_const {rl : Rule} {s : Sst} {w : List (Nat × Flr)} (hf : s.fl.ok) (hw : ∀ x ∈ w, x.2.ok) (hn : 8 ≤ n) (hm : 8 ≤ m) (h : SameSg (goalOf rl s w n).2 n m) : goalOf rl s w m = goalOf rl s w n := by
  have hfs : ∀ g ∈ w.map (·.2), g.ok := fun g hg => by obtain ⟨x, hx, rfl⟩ := List.mem_map.mp hg; exact hw x hx
  cases rl with
  | first => rfl
  | near => exact nearest_const hf hn hm _ hfs h
  | scan =>
    unfold goalOf at h ⊢
    simp only at h ⊢
    have e : ((w.map (·.2)).filter fun f => ahead s.fl f s.up m) = ((w.map (·.2)).filter fun f => ahead s.fl f s.up n) := List.filter_congr fun g hg => ahead_const s.up hf (hfs g hg) hn hm
    rw [e]
    refine nearest_const hf hn hm _ (fun g hg => hfs g ?_) h
    revert hg
    split
    · exact id
    · exact fun q => (List.mem_filter.mp q).1
theorem stop_const {l : Lf} {cs : List Cl} {s : Sst} {g : Flr} (hf : s.fl.ok) (hg : g.ok) (hn : 8 ≤ n) (hm : 8 ≤ m) (h : SameSg (stopAt l cs s g n).1.asked n m) : stopAt l cs s g m = stopAt l cs s g n := by
  unfold stopAt at h ⊢
  simp only at h ⊢
  have ew := way_const hf hg hn hm
  have eu : decide (0 < worth (far s.fl g) m) = decide (0 < worth (far s.fl g) n) := by
    have := (sgn_le (far_const hf hg hn hm)).2.2.1
    simp [this]
  have h2 := h.right
  rw [ew, eu]
  have ec : (((waiting cs s).filter fun p => decide ((cAt cs p).a = g)).filter fun p => decide (0 ≤ worth (thenF cs (fadd s.m (fmul (way s.fl g n) l.pace)) p) m)) = (((waiting cs s).filter fun p => decide ((cAt cs p).a = g)).filter fun p => decide (0 ≤ worth (thenF cs (fadd s.m (fmul (way s.fl g n) l.pace)) p) n)) := by
    refine List.filter_congr fun p hp => ?_
    have := (sgn_le (h2 _ (List.mem_map_of_mem hp))).2.1
    simp [this]
  rw [ec]
end
theorem stop_asked (l : Lf) (cs : List Cl) (s : Sst) (g : Flr) (n : Int) : ∀ f ∈ s.asked, f ∈ (stopAt l cs s g n).1.asked := fun f hf => List.mem_append_left _ hf
theorem turn_asked {l : Lf} {cs : List Cl} {n : Int} {s : Sst} {stops : List Stop} {e : Form} : ∀ f ∈ (askH cs s).asked, (∀ r, turn l cs n s stops e = .inl r → f ∈ r.1.asked) ∧ ∀ r, turn l cs n s stops e = .inr r → f ∈ r.2.2 := by
  intro f hf
  unfold turn
  simp only
  split
  · refine ⟨fun r h => ?_, fun r h => by cases h⟩
    cases h
    exact stop_asked _ _ _ _ _ f (List.mem_append_left _ hf)
  · split
    · exact ⟨fun r h => (by cases h), fun r h => by cases h; exact hf⟩
    · refine ⟨fun r h => ?_, fun r h => by cases h⟩
      cases h; exact hf
theorem run_asked {l : Lf} {cs : List Cl} {n : Int} : ∀ (N : Nat) (s : Sst) (stops : List Stop) (e : Form) (res : List Stop × Form × List Form), run l cs n N s stops e = some res → ∀ f ∈ s.asked, f ∈ res.2.2
  | 0, _, _, _, _, h, _, _ => by simp [run] at h
  | N + 1, s, stops, e, res, h, f, hf => by
    have hfa : f ∈ (askH cs s).asked := List.mem_append_left _ hf
    have := turn_asked (l := l) (n := n) (stops := stops) (e := e) f hfa
    unfold run at h
    split at h
    · rename_i s' st' e' ht
      exact run_asked N s' st' e' res h f (this.1 _ ht)
    · rename_i r ht
      cases h
      exact this.2 _ ht
theorem run_const {l : Lf} {cs : List Cl} {n m : Int} (hl : l.ok) (hc : CsOk cs) (hn : 8 ≤ n) (hm : 8 ≤ m) : ∀ (N i : Nat) (s : Sst) (stops : List Stop) (e : Form) (res : List Stop × Form × List Form), Good l cs i s → run l cs n N s stops e = some res → SameSg res.2.2 n m → run l cs m N s stops e = some res
  | 0, _, _, _, _, _, _, h, _ => by simp [run] at h
  | N + 1, i, s, stops, e, res, g0, h, hs => by
    have hr : ∀ p ∈ s.r, p < cs.length := fun p hp => g0.lt p (List.mem_append_left _ hp)
    have hh : ∀ p ∈ heard cs s n, p < cs.length := fun p hp => (mem_waiting.mp (mem_heard.mp hp).1).1
    have hall := run_asked (N + 1) s stops e res h
    unfold run at h ⊢
    have hta : ∀ f ∈ (askH cs s).asked, f ∈ res.2.2 := by
      intro f hf
      have := turn_asked (l := l) (n := n) (stops := stops) (e := e) f hf
      split at h
      · rename_i s' st' e' ht
        exact run_asked N s' st' e' res h f (this.1 _ ht)
      · rename_i r ht
        cases h
        exact this.2 _ ht
    have eh : heard cs s m = heard cs s n := heard_const (hs.sub fun f hf => hta f (List.mem_append_right _ hf))
    unfold turn at h ⊢
    simp only [wanted_ask] at h ⊢
    rw [eh]
    cases hw : wanted l cs s (heard cs s n) with
    | cons a w =>
      rw [hw] at h
      simp only at h ⊢
      have hx' : ∀ x ∈ a :: w, x ∈ wantedRaw l cs s (heard cs s n) := fun x hx => mem_wanted.mp (by rw [hw]; exact hx)
      have hwok : ∀ x ∈ a :: w, x.2.ok := fun x hx => (raw_ok hc hr hh (hx' x hx)).1
      obtain ⟨y, hy, ey⟩ := List.mem_map.mp (goal_mem (s := askH cs s) (n := n) l.rule a w)
      have hgok : (goalOf l.rule (askH cs s) (a :: w) n).1.ok := by rw [← ey]; exact hwok y hy
      have hlen : (wantedRaw l cs s (heard cs s n)).length ≤ 8 := by
        have h1 := g0.len hc
        have h2 : (heard cs s n).length ≤ 4 := Nat.le_trans (List.length_filter_le _ _) (waiting_len hc)
        unfold wantedRaw
        split <;> simp <;> omega
      have hlw : (a :: w).length ≤ 8 := by
        rw [← hw]; unfold wanted; rw [(sortW_perm _).length_eq]; exact hlen
      have hgl := goal_len (s := askH cs s) (n := n) l.rule (a :: w)
      obtain ⟨g1, _⟩ := stop_good (n := n) hl hc g0 (s1 := askG (askH cs s) (goalOf l.rule (askH cs s) (a :: w) n).2) rfl rfl rfl rfl (by have := ask_good hc g0; simp only [askG, List.length_append]; omega) hgok
      have hsub := run_asked N _ _ _ res h
      have eg : goalOf l.rule (askH cs s) (a :: w) m = goalOf l.rule (askH cs s) (a :: w) n := goal_const g0.fl hwok hn hm (hs.sub fun f hf => hsub f (stop_asked _ _ _ _ _ f (List.mem_append_right _ hf)))
      rw [eg]
      have es : stopAt l cs (askG (askH cs s) (goalOf l.rule (askH cs s) (a :: w) n).2) (goalOf l.rule (askH cs s) (a :: w) n).1 m = stopAt l cs (askG (askH cs s) (goalOf l.rule (askH cs s) (a :: w) n).2) (goalOf l.rule (askH cs s) (a :: w) n).1 n := stop_const g0.fl hgok hn hm (hs.sub hsub)
      rw [es]
      exact run_const hl hc hn hm N (i + 1) _ _ _ res g1 h hs
    | nil =>
      rw [hw] at h
      simp only at h ⊢
      cases ht : nextMin cs (askH cs s) (heard cs s n) with
      | some t =>
        rw [ht] at h
        simp only at h ⊢
        obtain ⟨g1, _⟩ := wait_good hc g0 ht
        exact run_const hl hc hn hm N (i + 1) { askH cs s with m := (0, t) } stops e res g1 h hs
      | none =>
        rw [ht] at h
        exact h
/-- the whole run: story, empty way, asked -/
def runF (l : Lf) (cs : List Cl) (n : Int) : List Stop × Form × List Form := (run l cs n 18 (first0 l) [] (0, 0)).getD ([], (0, 0), [])
theorem runF_eq {l : Lf} {cs : List Cl} (hl : l.ok) (hc : CsOk cs) (n : Int) : run l cs n 18 (first0 l) [] (0, 0) = some (runF l cs n) := by
  obtain ⟨res, h⟩ := run_all hl hc n
  rw [runF, h]; rfl
theorem runF_const {l : Lf} {cs : List Cl} {n m : Int} (hl : l.ok) (hc : CsOk cs) (hn : 8 ≤ n) (hm : 8 ≤ m) (h : SameSg (runF l cs n).2.2 n m) : runF l cs m = runF l cs n := by
  have := run_const hl hc hn hm 18 0 (first0 l) [] (0, 0) _ (first_good hl) (runF_eq hl hc n) h
  rw [runF, this]; rfl
end LF

/-! Tab3: rows of stretches. -/
namespace LF
open AF
section small
variable {l : Lf} {cs : List Cl} {n : Int}
theorem Small.mono' {a b : Int} {f : Form} (h : Small a f) (hab : a ≤ b) : Small b f := by unfold Small at *; omega
theorem sub_small' {f g : Form} {a b : Int} (h1 : Small a f) (h2 : Small b g) : Small (a + b) (fsub f g) := by
  unfold Small fsub at *; simp only; omega
theorem near_small {fl : Flr} {up : Bool} (hf : fl.ok) : ∀ (gs : List Flr) (q : Flr × List Form), q.1.ok → (∀ g ∈ gs, g.ok) → (∀ f ∈ q.2, Small 16 f) → ∀ f ∈ (gs.foldl (nearStep fl up n) q).2, Small 16 f
  | [], q, _, _, h => h
  | g :: gs, q, hq, hg, h => by
    rw [List.foldl_cons]
    refine near_small hf gs _ ?_ (fun g' h' => hg g' (List.mem_cons_of_mem _ h')) ?_
    · unfold nearStep
      simp only
      split
      · exact hg g List.mem_cons_self
      · exact hq
    · intro f hfm
      unfold nearStep at hfm
      simp only at hfm
      rcases List.mem_append.mp hfm with e | e
      · exact h f e
      · rw [List.mem_singleton] at e
        subst e
        exact sub_small' (a := 8) (b := 8) (way_small hf (hg g List.mem_cons_self) n) (way_small hf hq n)
theorem goal_smallF {rl : Rule} {s : Sst} {w : List (Nat × Flr)} (hf : s.fl.ok) (hw : ∀ x ∈ w, x.2.ok) : ∀ f ∈ (goalOf rl s w n).2, Small 16 f := by
  have hfs : ∀ g ∈ w.map (·.2), g.ok := fun g hg => by obtain ⟨x, hx, rfl⟩ := List.mem_map.mp hg; exact hw x hx
  have key : ∀ fs : List Flr, (∀ g ∈ fs, g.ok) → ∀ f ∈ (nearest s.fl s.up n fs).2, Small 16 f := by
    intro fs h
    cases fs with
    | nil => intro f h; cases h
    | cons g gs => exact near_small hf gs _ (h g List.mem_cons_self) (fun g' h' => h g' (List.mem_cons_of_mem _ h')) (fun f h => by cases h)
  cases rl with
  | first => intro f h; cases h
  | near => exact key _ hfs
  | scan =>
    refine key _ fun g hg => hfs g ?_
    revert hg
    simp only
    split
    · exact id
    · exact fun q => (List.mem_filter.mp q).1
theorem then_small' (hc : CsOk cs) {m : Form} {b : Int} (h : Small b m) {p : Nat} (hp : p < cs.length) : Small (b + 1000) (thenF cs m p) := by
  have e : cs[p] = cAt cs p := by unfold cAt; rw [List.getElem?_eq_getElem hp]; rfl
  have := hc.2.1 cs[p] (List.getElem_mem hp)
  rw [e] at this
  obtain ⟨h1, h2, _⟩ := this
  unfold Small thenF fsub at *
  simp only
  omega
theorem run_smallT (hl : l.ok) (hc : CsOk cs) : ∀ (N i : Nat) (s : Sst) (stops : List Stop) (e : Form) (res : List Stop × Form × List Form), i + N ≤ 18 → Good l cs i s → (∀ x ∈ stops, Small 2200 x.m) → (∀ f ∈ s.asked, Small 3300 f) → LF.run l cs n N s stops e = some res → (∀ x ∈ res.1, Small 2200 x.m) ∧ ∀ f ∈ res.2.2, Small 3300 f
  | 0, _, _, _, _, _, _, _, _, _, h => by simp [LF.run] at h
  | N + 1, i, s, stops, e, res, hi, g0, hx, ha, h => by
    have hr : ∀ p ∈ s.r, p < cs.length := fun p hp => g0.lt p (List.mem_append_left _ hp)
    have hh : ∀ p ∈ heard cs s n, p < cs.length := fun p hp => (mem_waiting.mp (mem_heard.mp hp).1).1
    have hwt : ∀ p ∈ waiting cs s, p < cs.length := fun p hp => (mem_waiting.mp hp).1
    have hm : Small 2100 s.m := by
      have := g0.m
      unfold Small at *
      omega
    have haH : ∀ f ∈ (askH cs s).asked, Small 3300 f := by
      intro f hf
      rcases List.mem_append.mp hf with q | q
      · exact ha f q
      · obtain ⟨p, hp, rfl⟩ := List.mem_map.mp q
        exact (then_small' hc hm (hwt p hp)).mono' (by decide)
    unfold LF.run turn at h
    simp only [wanted_ask] at h
    cases hw : wanted l cs s (heard cs s n) with
    | cons a w =>
      rw [hw] at h
      simp only at h
      have hx' : ∀ x ∈ a :: w, x ∈ wantedRaw l cs s (heard cs s n) := fun x hx => mem_wanted.mp (by rw [hw]; exact hx)
      have hwok : ∀ x ∈ a :: w, x.2.ok := fun x hx => (raw_ok hc hr hh (hx' x hx)).1
      obtain ⟨y, hy, ey⟩ := List.mem_map.mp (goal_mem (s := askH cs s) (n := n) l.rule a w)
      have hgok : (goalOf l.rule (askH cs s) (a :: w) n).1.ok := by rw [← ey]; exact (raw_ok hc hr hh (hx' y hy)).1
      have hlen : (wantedRaw l cs s (heard cs s n)).length ≤ 8 := by
        have h1 := g0.len hc
        have h2 : (heard cs s n).length ≤ 4 := Nat.le_trans (List.length_filter_le _ _) (waiting_len hc)
        unfold wantedRaw
        split <;> simp <;> omega
      have hlw : (a :: w).length ≤ 8 := by
        rw [← hw]; unfold wanted; rw [(sortW_perm _).length_eq]; exact hlen
      have hgl := goal_len (s := askH cs s) (n := n) l.rule (a :: w)
      obtain ⟨g1, _⟩ := stop_good (n := n) hl hc g0 (s1 := askG (askH cs s) (goalOf l.rule (askH cs s) (a :: w) n).2) rfl rfl rfl rfl (by have := ask_good hc g0; simp only [askG, List.length_append]; omega) hgok
      have hmv : Small 2140 (fadd s.m (fmul (way s.fl (goalOf l.rule (askH cs s) (a :: w) n).1 n) l.pace)) := mv_small (b := 2100) (n := n) hm hl g0.fl hgok
      refine run_smallT hl hc N (i + 1) _ _ _ res (by omega) g1 (fun x q => ?_) (fun f q => ?_) h
      · rcases List.mem_append.mp q with q | q
        · exact hx x q
        · rw [List.mem_singleton] at q
          subst q
          exact Small.mono' hmv (by decide)
      · rcases List.mem_append.mp q with q | q
        · rcases List.mem_append.mp q with q | q
          · exact haH f q
          · exact (goal_smallF (s := askH cs s) g0.fl hwok f q).mono' (by decide)
        · obtain ⟨p, hp, rfl⟩ := List.mem_map.mp q
          exact (then_small' hc hmv (hwt p (List.mem_filter.mp hp).1)).mono' (by decide)
    | nil =>
      rw [hw] at h
      simp only at h
      cases ht : nextMin cs (askH cs s) (heard cs s n) with
      | some t =>
        rw [ht] at h
        simp only at h
        obtain ⟨g1, _⟩ := wait_good hc g0 ht
        exact run_smallT hl hc N (i + 1) { askH cs s with m := (0, t) } stops e res (by omega) g1 hx haH h
      | none =>
        rw [ht] at h
        cases h
        exact ⟨hx, haH⟩
theorem runF_small (hl : l.ok) (hc : CsOk cs) (n : Int) : (∀ x ∈ (runF l cs n).1, Small 2200 x.m) ∧ ∀ f ∈ (runF l cs n).2.2, Small 3300 f :=
  run_smallT hl hc 18 0 (first0 l) [] (0, 0) _ (by omega) (first_good hl) (by simp) (by simp [first0]) (runF_eq hl hc n)
theorem iabs_le {b : Int} {f : Form} (h : Small b f) : iabs f.2 ≤ b := by
  unfold Small at h; unfold iabs; split <;> omega
end small
/-! ### rows -/
abbrev Row (τ : Type) := Int × Option Int × τ
def Cov {τ : Type} (F : Int → τ) (hi : Option Int) : Int → List (Row τ) → Prop
  | _, [] => False
  | lo, (l, h, t) :: r => l = lo ∧ (∀ n, lo ≤ n → hiLe n h → F n = t) ∧ ((r = [] ∧ h = hi ∧ hiLe lo h) ∨ ∃ e, h = some e ∧ lo ≤ e ∧ hiLe e hi ∧ Cov F hi (e + 1) r)
def Adj {τ : Type} : List (Row τ) → Prop
  | [] => True
  | [_] => True
  | a :: b :: r => a.2.2 ≠ b.2.2 ∧ Adj (b :: r)
section rows
variable {τ : Type} {F : Int → τ}
theorem Cov.lo_le {hi : Option Int} : ∀ {rows : List (Row τ)} {lo : Int}, Cov F hi lo rows → hiLe lo hi
  | [], _, h => h.elim
  | (l, g, t) :: r, lo, h => by
    obtain ⟨_, _, q | ⟨e, _, q1, q2, _⟩⟩ := h
    · rw [← q.2.1]; exact q.2.2
    · cases hi with
      | none => trivial
      | some x => exact Int.le_trans q1 q2
theorem Cov.append {hi : Option Int} {e : Int} {r2 : List (Row τ)} (he : hiLe e hi) : ∀ {r1 : List (Row τ)} {lo : Int}, Cov F (some e) lo r1 → Cov F hi (e + 1) r2 → Cov F hi lo (r1 ++ r2)
  | [], _, h, _ => h.elim
  | (l, g, t) :: r, lo, h, h2 => by
    obtain ⟨a1, a2, q | ⟨e', q1, q2, q3, q4⟩⟩ := h
    · obtain ⟨rfl, rfl, q⟩ := q
      exact ⟨a1, a2, .inr ⟨e, rfl, q, he, h2⟩⟩
    · refine ⟨a1, a2, .inr ⟨e', q1, q2, ?_, Cov.append he q4 h2⟩⟩
      cases hi with
      | none => trivial
      | some x => exact Int.le_trans q3 he
theorem Cov.one {hi : Option Int} {lo : Int} {t : τ} (h1 : hiLe lo hi) (h2 : ∀ n, lo ≤ n → hiLe n hi → F n = t) : Cov F hi lo [(lo, hi, t)] := ⟨rfl, h2, .inl ⟨rfl, rfl, h1⟩⟩
/-- the last row goes on -/
theorem Cov.ext {e : Int} {h : Option Int} {l' : Int} {g : Option Int} {t : τ} (h1 : hiLe (e + 1) h) (h2 : ∀ n, e + 1 ≤ n → hiLe n h → F n = t) : ∀ {D : List (Row τ)} {lo : Int}, Cov F (some e) lo (D ++ [(l', g, t)]) → g = some e ∧ Cov F h lo (D ++ [(l', h, t)])
  | [], lo, c => by
    obtain ⟨a1, a2, q | ⟨e', _, _, _, q4⟩⟩ := c
    · obtain ⟨_, rfl, q⟩ := q
      refine ⟨rfl, a1, fun n q1 q2 => ?_, .inl ⟨rfl, rfl, ?_⟩⟩
      · by_cases hn : n ≤ e
        · exact a2 n q1 hn
        · exact h2 n (by omega) q2
      · cases h with
        | none => trivial
        | some x => exact Int.le_trans (show lo ≤ e + 1 from by have : lo ≤ e := q; omega) h1
    · exact q4.elim
  | (l, g', t') :: r, lo, c => by
    obtain ⟨a1, a2, q | ⟨e', q1, q2, q3, q4⟩⟩ := c
    · have := q.1; simp at this
    · obtain ⟨w1, w2⟩ := Cov.ext h1 h2 q4
      refine ⟨w1, a1, a2, .inr ⟨e', q1, q2, ?_, w2⟩⟩
      cases h with
      | none => trivial
      | some x => have h1 : e + 1 ≤ x := h1; have q3 : e' ≤ e := q3; show e' ≤ x; omega
theorem Cov.last {e : Int} : ∀ {rows : List (Row τ)} {lo : Int}, Cov F (some e) lo rows → ∃ D l' t, rows = D ++ [(l', some e, t)]
  | [], _, h => h.elim
  | (l, g, t) :: r, lo, h => by
    obtain ⟨_, _, q | ⟨e', _, _, _, q4⟩⟩ := h
    · obtain ⟨rfl, rfl, _⟩ := q; exact ⟨[], l, t, rfl⟩
    · obtain ⟨D, l', t', w⟩ := Cov.last q4
      exact ⟨(l, g, t) :: D, l', t', by rw [w]; rfl⟩
theorem Adj.snoc : ∀ {D : List (Row τ)} {a b : Row τ}, Adj (D ++ [a]) → a.2.2 ≠ b.2.2 → Adj (D ++ [a] ++ [b])
  | [], a, b, _, h => ⟨h, trivial⟩
  | [c], a, b, q, h => ⟨q.1, h, trivial⟩
  | c :: d :: D, a, b, q, h => ⟨q.1, Adj.snoc (D := d :: D) q.2 h⟩
theorem Adj.chg : ∀ {D : List (Row τ)} {l' : Int} {g h : Option Int} {t : τ}, Adj (D ++ [(l', g, t)]) → Adj (D ++ [(l', h, t)])
  | [], _, _, _, _, _ => trivial
  | [c], _, _, _, _, q => ⟨q.1, trivial⟩
  | c :: d :: D, _, _, _, _, q => ⟨q.1, Adj.chg (D := d :: D) q.2⟩
variable [DecidableEq τ]
/-- rows side by side with the same are one -/
def joinStep (found : List (Row τ)) (r : Row τ) : List (Row τ) := match found.getLast? with
  | some x => if x.2.2 = r.2.2 then found.dropLast ++ [(x.1, r.2.1, r.2.2)] else found ++ [r]
  | none => found ++ [r]
def joinF (rows : List (Row τ)) : List (Row τ) := rows.foldl joinStep []
theorem joinStep_snoc (D : List (Row τ)) (x r : Row τ) : joinStep (D ++ [x]) r = if x.2.2 = r.2.2 then D ++ [(x.1, r.2.1, r.2.2)] else D ++ [x] ++ [r] := by
  simp [joinStep]
theorem join_go {hi : Option Int} {lo0 : Int} : ∀ {rows : List (Row τ)} {found : List (Row τ)} {e : Int}, Cov F (some e) lo0 found → Adj found → hiLe e hi → Cov F hi (e + 1) rows → Cov F hi lo0 (rows.foldl joinStep found) ∧ Adj (rows.foldl joinStep found)
  | [], _, _, _, _, _, h => h.elim
  | (l, g, t) :: r, found, e, c, a, he, h => by
    obtain ⟨a1, a2, q⟩ := h
    subst a1
    obtain ⟨D, l', t', rfl⟩ := c.last
    rw [List.foldl_cons, joinStep_snoc]
    simp only
    have hg : hiLe (e + 1) g := by
      rcases q with q | ⟨e', q1, q2, _⟩
      · exact q.2.2
      · rw [q1]; exact q2
    have hC : Cov F g lo0 (if t' = t then D ++ [(l', g, t)] else D ++ [(l', some e, t')] ++ [(e + 1, g, t)]) ∧ Adj (if t' = t then D ++ [(l', g, t)] else D ++ [(l', some e, t')] ++ [(e + 1, g, t)]) := by
      by_cases ht : t' = t
      · subst ht
        rw [if_pos rfl]
        exact ⟨(Cov.ext hg a2 c).2, a.chg⟩
      · rw [if_neg ht]
        refine ⟨Cov.append ?_ c (Cov.one hg a2), a.snoc ht⟩
        cases g with
        | none => trivial
        | some x => have hg : e + 1 ≤ x := hg; show e ≤ x; omega
    generalize (if t' = t then D ++ [(l', g, t)] else D ++ [(l', some e, t')] ++ [(e + 1, g, t)]) = nf at *
    rcases q with ⟨q1, q2, q3⟩ | ⟨e', q1, q2, q3, q4⟩
    · subst q1 q2; exact hC
    · subst q1
      exact join_go hC.1 hC.2 q3 q4
theorem join_cov {hi : Option Int} {lo : Int} {rows : List (Row τ)} (h : Cov F hi lo rows) : Cov F hi lo (joinF rows) ∧ Adj (joinF rows) := by
  cases rows with
  | nil => exact h.elim
  | cons x r =>
    obtain ⟨l, g, t⟩ := x
    obtain ⟨a1, a2, q⟩ := h
    subst a1
    have e0 : joinF ((l, g, t) :: r) = r.foldl joinStep [(l, g, t)] := rfl
    rw [e0]
    rcases q with ⟨q1, q2, q3⟩ | ⟨e', q1, q2, q3, q4⟩
    · subst q1 q2; exact ⟨Cov.one q3 a2, trivial⟩
    · subst q1
      exact join_go (Cov.one q2 a2) trivial q3 q4
end rows
end LF

/-! Tab4: rows made turn by turn, rows in both of two. -/
namespace LF
open AF
def lesserEnd (a b : Option Int) : Option Int := match a, b with
  | none, b => b
  | some x, none => some x
  | some x, some y => if x < y then some x else some y
theorem hiLe_lesser {m : Int} {a b : Option Int} : hiLe m (lesserEnd a b) ↔ hiLe m a ∧ hiLe m b := by
  cases a with
  | none => cases b <;> simp [lesserEnd, hiLe]
  | some x =>
    cases b with
    | none => simp [lesserEnd, hiLe]
    | some y =>
      show hiLe m (if x < y then some x else some y) ↔ m ≤ x ∧ m ≤ y
      split
      · show m ≤ x ↔ _; omega
      · show m ≤ y ↔ _; omega
section
variable {τ : Type}
def tile (G : Int → Option Int) (T : Int → τ) (hi : Option Int) : Nat → Int → List (Row τ)
  | 0, _ => []
  | k + 1, n => (n, G n, T n) :: (if G n = hi then [] else match G n with | none => [] | some e => tile G T hi k (e + 1))
structure TileOk (G : Int → Option Int) (hi : Option Int) (lo0 B : Int) : Prop where
  ok : ∀ n, lo0 ≤ n → hiLe n hi → hiLe n (G n) ∧ (G n = hi ∨ ∃ e, G n = some e ∧ e ≤ B ∧ hiLe (e + 1) hi)
theorem hiLe_mono {a b : Int} {h : Option Int} (hab : a ≤ b) (q : hiLe b h) : hiLe a h := by
  cases h with
  | none => trivial
  | some x => exact Int.le_trans hab q
theorem tile_cov {F : Int → τ} {G : Int → Option Int} {T : Int → τ} {hi : Option Int} {lo0 B : Int} (hG : TileOk G hi lo0 B) (hF : ∀ n, lo0 ≤ n → hiLe n hi → ∀ m, n ≤ m → hiLe m (G n) → F m = T n) :
    ∀ (k : Nat) (n : Int), lo0 ≤ n → hiLe n hi → B < n + k → Cov F hi n (tile G T hi (k + 1) n)
  | k, n, h1, h2, h3 => by
    obtain ⟨a1, a2⟩ := hG.ok n h1 h2
    unfold tile
    refine ⟨rfl, hF n h1 h2, ?_⟩
    rcases a2 with e | ⟨e, e1, e2, e3⟩
    · rw [if_pos e]
      exact .inl ⟨rfl, e, a1⟩
    · by_cases eq : G n = hi
      · rw [if_pos eq]
        exact .inl ⟨rfl, eq, a1⟩
      · rw [if_neg eq]
        rw [e1] at a1
        have a1 : n ≤ e := a1
        refine .inr ⟨e, e1, a1, hiLe_mono (by omega) e3, ?_⟩
        rw [e1]
        simp only
        cases k with
        | zero => simp at h3; omega
        | succ k => exact tile_cov hG hF k (e + 1) (by omega) e3 (by omega)
theorem tile_len {G : Int → Option Int} {T : Int → τ} {hi : Option Int} : ∀ (k : Nat) (n : Int), (tile G T hi k n).length ≤ k
  | 0, n => Nat.le_refl _
  | k + 1, n => by
    unfold tile
    rw [List.length_cons]
    split
    · exact Nat.succ_le_succ (Nat.zero_le _)
    · split
      · exact Nat.succ_le_succ (Nat.zero_le _)
      · exact Nat.succ_le_succ (tile_len k _)
/-! rows in both -/
def hiLeB (m : Int) : Option Int → Bool
  | none => true
  | some e => decide (m ≤ e)
theorem hiLeB_iff {m : Int} {h : Option Int} : hiLeB m h = true ↔ hiLe m h := by cases h <;> simp [hiLeB, hiLe]
variable {β : Type}
def interRow (r : Row τ) (q : Row β) : Option (Row (τ × β)) :=
  if hiLeB (if r.1 > q.1 then r.1 else q.1) (lesserEnd r.2.1 q.2.1) then some (if r.1 > q.1 then r.1 else q.1, lesserEnd r.2.1 q.2.1, (r.2.2, q.2.2)) else none
def interF (rows : List (Row τ)) (others : List (Row β)) : List (Row (τ × β)) := rows.flatMap fun r => others.filterMap (interRow r)
def mx (a b : Int) : Int := if a > b then a else b
theorem inter_row {t : τ} {G : Int → β} {hi2 : Option Int} {l : Int} {h : Option Int} (hlh : hiLe l h) : ∀ {others : List (Row β)} {lo2 : Int}, Cov G hi2 lo2 others →
    (hiLe (mx l lo2) (lesserEnd h hi2) → Cov (fun n => (t, G n)) (lesserEnd h hi2) (mx l lo2) (others.filterMap (interRow (l, h, t)))) ∧ (¬ hiLe (mx l lo2) (lesserEnd h hi2) → others.filterMap (interRow (l, h, t)) = [])
  | [], _, c => c.elim
  | (l2, h2, u) :: r, lo2, c => by
    obtain ⟨a1, a2, q⟩ := c
    subst a1
    rw [List.filterMap_cons]
    have er : interRow (l, h, t) (l2, h2, u) = if hiLeB (mx l l2) (lesserEnd h h2) then some (mx l l2, lesserEnd h h2, (t, u)) else none := rfl
    rw [er]
    have hmx2 : l2 ≤ mx l l2 := by unfold mx; split <;> omega
    rcases q with ⟨q1, q2, q3⟩ | ⟨e, q1, q2, q3, q4⟩
    · subst q1 q2
      constructor
      · intro hh
        rw [if_pos (hiLeB_iff.mpr hh)]
        exact Cov.one hh fun n n1 n2 => by
          show (t, G n) = (t, u)
          rw [a2 n (Int.le_trans hmx2 n1) (hiLe_lesser.mp n2).2]
      · intro hh
        rw [if_neg (fun z => hh (hiLeB_iff.mp z))]
        rfl
    · subst q1
      obtain ⟨i1, i2⟩ := inter_row (t := t) hlh q4
      have hle2 := q4.lo_le
      by_cases hel : e < l
      · have m1 : mx l l2 = l := by unfold mx; split <;> omega
        have m2 : mx l (e + 1) = l := by unfold mx; split <;> omega
        rw [m2] at i1 i2
        have hn : ¬ (hiLeB (mx l l2) (lesserEnd h (some e)) = true) := fun z => by
          have := (hiLe_lesser.mp (hiLeB_iff.mp z)).2
          rw [m1] at this
          have : l ≤ e := this
          omega
        rw [if_neg hn, m1]
        exact ⟨i1, i2⟩
      · have m3 : mx l (e + 1) = e + 1 := by unfold mx; split <;> omega
        rw [m3] at i1 i2
        have mle : mx l l2 ≤ e := by unfold mx; split <;> omega
        by_cases hx : hiLe (e + 1) h
        · -- the whole of this row, and on
          have el : lesserEnd h (some e) = some e := by
            cases h with
            | none => rfl
            | some x => have hx : e + 1 ≤ x := hx; simp only [lesserEnd]; rw [if_neg (by omega)]
          rw [el]
          have hp : hiLeB (mx l l2) (some e) = true := hiLeB_iff.mpr mle
          rw [if_pos hp]
          have hgo : hiLe (e + 1) (lesserEnd h hi2) := hiLe_lesser.mpr ⟨hx, hle2⟩
          refine ⟨fun _ => ?_, fun z => absurd (hiLe_mono (by omega) hgo) z⟩
          refine ⟨rfl, fun n n1 n2 => ?_, .inr ⟨e, rfl, mle, hiLe_mono (by omega) hgo, i1 hgo⟩⟩
          show (t, G n) = (t, u)
          rw [a2 n (Int.le_trans hmx2 n1) n2]
        · obtain ⟨x, rfl⟩ : ∃ x, h = some x := by cases h with
            | none => exact absurd trivial hx
            | some x => exact ⟨x, rfl⟩
          have hx : ¬ (e + 1 ≤ x) := hx
          have hrest := i2 fun z => hx (hiLe_lesser.mp z).1
          rw [hrest]
          have el : lesserEnd (some x) (some e) = some x := by
            simp only [lesserEnd]
            split
            · rfl
            · congr 1; omega
          have el2 : lesserEnd (some x) hi2 = some x := by
            cases hi2 with
            | none => rfl
            | some y =>
              have hle2 : e + 1 ≤ y := hle2
              simp only [lesserEnd]
              rw [if_pos (by omega)]
          rw [el, el2]
          constructor
          · intro hh
            rw [if_pos (hiLeB_iff.mpr hh)]
            exact Cov.one hh fun n n1 n2 => by
              show (t, G n) = (t, u)
              have n2 : n ≤ x := n2
              rw [a2 n (Int.le_trans hmx2 n1) (show n ≤ e by omega)]
          · intro hh
            rw [if_neg (fun z => hh (hiLeB_iff.mp z))]
theorem inter_cov {F : Int → τ} {G : Int → β} {hi : Option Int} {others : List (Row β)} {lo2 : Int} (c2 : Cov G none lo2 others) : ∀ {rows : List (Row τ)} {lo : Int}, lo2 ≤ lo → Cov F hi lo rows → Cov (fun n => (F n, G n)) hi lo (interF rows others)
  | [], _, _, c => c.elim
  | (l, h, t) :: r, lo, hl, c => by
    obtain ⟨a1, a2, q⟩ := c
    subst a1
    have hlh : hiLe l h := by
      rcases q with q | ⟨e, q1, q2, _⟩
      · exact q.2.2
      · rw [q1]; exact q2
    have hm : mx l lo2 = l := by unfold mx; split <;> omega
    have ln : lesserEnd h none = h := by cases h <;> rfl
    have i1 := (inter_row (t := t) hlh c2).1 (by rw [hm, ln]; exact hlh)
    rw [hm, ln] at i1
    have i2 : Cov (fun n => (F n, G n)) h l (others.filterMap (interRow (l, h, t))) := by
      have : ∀ (rows : List (Row (τ × β))) (lo : Int), l ≤ lo → (∀ e, hiLe e h ∨ True) → Cov (fun n => (t, G n)) h lo rows → Cov (fun n => (F n, G n)) h lo rows := by
        intro rows
        induction rows with
        | nil => intro _ _ _ c; exact c
        | cons x r ih =>
          obtain ⟨l', h', t'⟩ := x
          intro lo hlo _ c
          obtain ⟨b1, b2, b3⟩ := c
          have hb : hiLe lo h' ∧ ∀ n, hiLe n h' → hiLe n h := by
            rcases b3 with b | ⟨e, w1, w2, w3, _⟩
            · exact ⟨b.2.2, fun n z => by rw [← b.2.1]; exact z⟩
            · rw [w1]; exact ⟨w2, fun n z => hiLe_mono z w3⟩
          refine ⟨b1, fun n n1 n2 => ?_, ?_⟩
          · have := b2 n n1 n2
            simp only at this ⊢
            rw [a2 n (by omega) (hb.2 n n2)]; exact this
          · rcases b3 with b | ⟨e, w1, w2, w3, w4⟩
            · exact .inl b
            · exact .inr ⟨e, w1, w2, w3, ih (e + 1) (by omega) (fun _ => .inr trivial) w4⟩
      exact this _ l (Int.le_refl _) (fun _ => .inr trivial) i1
    show Cov _ hi l (others.filterMap (interRow (l, h, t)) ++ interF r others)
    rcases q with ⟨q1, q2, q3⟩ | ⟨e, q1, q2, q3, q4⟩
    · subst q1 q2
      rw [show interF [] others = [] from rfl, List.append_nil]
      exact i2
    · subst q1
      exact Cov.append q3 i2 (inter_cov c2 (by omega) q4)
end
/-! the stretches of the runs, of signs -/
def RB : Nat := 20000
theorem until_tile {fs : Int → List Form} {hi : Option Int} {B : Int} (hB : ∀ n, 8 ≤ n → ∀ f ∈ fs n, iabs f.2 ≤ B) : TileOk (fun n => lesserEnd (untilF (fs n) n) hi) hi 8 B := by
  refine ⟨fun n h1 h2 => ?_⟩
  obtain ⟨u1, _⟩ := until_spec (fs := fs n) (n := n) (B := B) (by omega) (hB n h1)
  show hiLe n (lesserEnd (untilF (fs n) n) hi) ∧ (lesserEnd (untilF (fs n) n) hi = hi ∨ ∃ e, lesserEnd (untilF (fs n) n) hi = some e ∧ e ≤ B ∧ hiLe (e + 1) hi)
  cases hu : untilF (fs n) n with
  | none =>
    have : lesserEnd none hi = hi := rfl
    rw [this]; exact ⟨h2, .inl rfl⟩
  | some e =>
    obtain ⟨v1, v2⟩ := u1 e hu
    refine ⟨hiLe_lesser.mpr ⟨v1, h2⟩, ?_⟩
    cases hi with
    | none => exact .inr ⟨e, rfl, v2, trivial⟩
    | some x =>
      simp only [lesserEnd]
      by_cases hx : e < x
      · rw [if_pos hx]; exact .inr ⟨e, rfl, v2, by show e + 1 ≤ x; omega⟩
      · rw [if_neg hx]; exact .inl rfl
def signsL (fs : List Form) (n : Int) : List Int := fs.map fun f => sgn (worth f n)
def bySigns (lo : Int) (hi : Option Int) (fs : List Form) : List (Row (List Int)) := tile (fun n => lesserEnd (untilF fs n) hi) (signsL fs) hi RB lo
theorem signs_same {fs : List Form} {n m : Int} : signsL fs m = signsL fs n ↔ SameSg fs n m := by
  unfold signsL SameSg
  rw [List.map_inj_left]
theorem bySigns_cov {lo : Int} {hi : Option Int} {fs : List Form} {B : Int} (h8 : 8 ≤ lo) (hl : hiLe lo hi) (hB : ∀ f ∈ fs, iabs f.2 ≤ B) (hB2 : B ≤ 19990) : Cov (signsL fs) hi lo (bySigns lo hi fs) :=
  tile_cov (until_tile (fs := fun _ => fs) (fun n _ => hB)) (fun n h1 h2 m m1 m2 => signs_same.mpr ((until_spec (by omega) hB).2 m m1 (hiLe_lesser.mp m2).1)) 19999 lo h8 hl (by show B < lo + (19999 : Nat); omega)
def runRows (l : Lf) (cs : List Cl) : List (Row (List Stop × Form)) := tile (fun n => untilF (runF l cs n).2.2 n) (fun n => ((runF l cs n).1, (runF l cs n).2.1)) none RB 8
theorem less_none (a : Option Int) : lesserEnd a none = a := by cases a <;> rfl
theorem runRows_cov {l : Lf} {cs : List Cl} (hl : l.ok) (hc : CsOk cs) : Cov (fun n => ((runF l cs n).1, (runF l cs n).2.1)) none 8 (runRows l cs) := by
  have hB : ∀ n, 8 ≤ n → ∀ f ∈ (runF l cs n).2.2, iabs f.2 ≤ 3300 := fun n _ f hf => iabs_le ((runF_small hl hc n).2 f hf)
  have ht := until_tile (fs := fun n => (runF l cs n).2.2) (hi := none) hB
  simp only [less_none] at ht
  refine tile_cov ht (fun n h1 _ m m1 m2 => ?_) 19999 8 (by omega) trivial (by decide)
  have hs := (until_spec (by omega) (hB n h1)).2 m m1 m2
  have := runF_const hl hc h1 (by omega : 8 ≤ m) hs
  simp only [this]
/-! the greatest of forms -/
def allPairs (fs : List Form) : List Form := fs.flatMap fun a => fs.map fun b => fsub a b
def gStep (fs : List Form) (n : Int) (best : Nat) (q : Nat × Form) : Nat := if 0 < worth (fsub q.2 ((fs[best]?).getD (0, 0))) n then q.1 else best
def greatestOf (fs : List Form) (n : Int) : Nat := (enumP 0 fs).foldl (gStep fs n) 0
theorem pair_mem {fs : List Form} {a b : Form} (ha : a ∈ fs) (hb : b ∈ fs) : fsub a b ∈ allPairs fs := List.mem_flatMap.mpr ⟨a, ha, List.mem_map_of_mem hb⟩
theorem enum_lt {α : Type} {i : Nat} {l : List α} {q : Nat × α} (h : q ∈ enumP i l) : q.1 < i + l.length ∧ q.2 ∈ l := by
  obtain ⟨p, a⟩ := q
  obtain ⟨h1, h2⟩ := mem_enumP.mp h
  have h3 := (List.getElem?_eq_some_iff.mp h2).1
  exact ⟨by simp only; omega, List.mem_of_getElem? h2⟩
theorem greatest_const {fs : List Form} {n m : Int} (h : SameSg (allPairs fs) n m) : greatestOf fs m = greatestOf fs n := by
  unfold greatestOf
  have key : ∀ (L : List (Nat × Form)) (b : Nat), (∀ q ∈ L, q.1 < fs.length ∧ q.2 ∈ fs) → b < fs.length → L.foldl (gStep fs m) b = L.foldl (gStep fs n) b := by
    intro L
    induction L with
    | nil => intro b _ _; rfl
    | cons q L ih =>
      intro b hL hb
      obtain ⟨q1, q2⟩ := hL q List.mem_cons_self
      rw [List.foldl_cons, List.foldl_cons]
      have hbm : (fs[b]?).getD (0, 0) ∈ fs := by rw [List.getElem?_eq_getElem hb]; exact List.getElem_mem hb
      have hs := sgn_le (h _ (pair_mem q2 hbm))
      have e : gStep fs m b q = gStep fs n b q := by
        unfold gStep
        by_cases hq : 0 < worth (fsub q.2 ((fs[b]?).getD (0, 0))) n
        · rw [if_pos hq, if_pos (hs.2.2.1.mpr hq)]
        · rw [if_neg hq, if_neg fun z => hq (hs.2.2.1.mp z)]
      rw [e]
      refine ih _ (fun z hz => hL z (List.mem_cons_of_mem _ hz)) ?_
      unfold gStep
      split
      · exact q1
      · exact hb
  cases hf : fs with
  | nil => rfl
  | cons a r =>
    rw [← hf]
    exact key _ 0 (fun q hq => by have := enum_lt hq; exact ⟨by omega, this.2⟩) (by rw [hf]; simp)
theorem greatest_lt {fs : List Form} (n : Int) (h : fs ≠ []) : greatestOf fs n < fs.length := by
  unfold greatestOf
  have key : ∀ (L : List (Nat × Form)) (b : Nat), (∀ q ∈ L, q.1 < fs.length) → b < fs.length → L.foldl (gStep fs n) b < fs.length := by
    intro L
    induction L with
    | nil => intro b _ h; exact h
    | cons q L ih =>
      intro b hL hb
      rw [List.foldl_cons]
      refine ih _ (fun z hz => hL z (List.mem_cons_of_mem _ hz)) ?_
      unfold gStep
      split
      · exact hL q List.mem_cons_self
      · exact hb
  exact key _ 0 (fun q hq => by have := enum_lt hq; omega) (List.length_pos_iff.mpr h)
end LF

/-! Tab5: rows as values of the core. -/
namespace LF
open AF
theorem run_lenA {l : Lf} {cs : List Cl} {n : Int} (hl : l.ok) (hc : CsOk cs) : ∀ (N i : Nat) (s : Sst) (stops : List Stop) (e : Form) (res : List Stop × Form × List Form), Good l cs i s → LF.run l cs n N s stops e = some res → res.2.2.length ≤ 20 * (i + N) + 4
  | 0, _, _, _, _, _, _, h => by simp [LF.run] at h
  | N + 1, i, s, stops, e, res, g0, h => by
    have hr : ∀ p ∈ s.r, p < cs.length := fun p hp => g0.lt p (List.mem_append_left _ hp)
    have hh : ∀ p ∈ heard cs s n, p < cs.length := fun p hp => (mem_waiting.mp (mem_heard.mp hp).1).1
    unfold LF.run turn at h
    simp only [wanted_ask] at h
    cases hw : wanted l cs s (heard cs s n) with
    | cons a w =>
      rw [hw] at h
      simp only at h
      have hx' : ∀ x ∈ a :: w, x ∈ wantedRaw l cs s (heard cs s n) := fun x hx => mem_wanted.mp (by rw [hw]; exact hx)
      obtain ⟨y, hy, ey⟩ := List.mem_map.mp (goal_mem (s := askH cs s) (n := n) l.rule a w)
      have hgok : (goalOf l.rule (askH cs s) (a :: w) n).1.ok := by rw [← ey]; exact (raw_ok hc hr hh (hx' y hy)).1
      have hlen : (wantedRaw l cs s (heard cs s n)).length ≤ 8 := by
        have h1 := g0.len hc
        have h2 : (heard cs s n).length ≤ 4 := Nat.le_trans (List.length_filter_le _ _) (waiting_len hc)
        unfold wantedRaw
        split <;> simp <;> omega
      have hlw : (a :: w).length ≤ 8 := by
        rw [← hw]; unfold wanted; rw [(sortW_perm _).length_eq]; exact hlen
      have hgl := goal_len (s := askH cs s) (n := n) l.rule (a :: w)
      obtain ⟨g1, _⟩ := stop_good (n := n) hl hc g0 (s1 := askG (askH cs s) (goalOf l.rule (askH cs s) (a :: w) n).2) rfl rfl rfl rfl (by have := ask_good hc g0; simp only [askG, List.length_append]; omega) hgok
      have := run_lenA hl hc N (i + 1) _ _ _ res g1 h
      omega
    | nil =>
      rw [hw] at h
      simp only at h
      cases ht : nextMin cs (askH cs s) (heard cs s n) with
      | some t =>
        rw [ht] at h
        simp only at h
        obtain ⟨g1, _⟩ := wait_good hc g0 ht
        have := run_lenA hl hc N (i + 1) { askH cs s with m := (0, t) } stops e res g1 h
        omega
      | none =>
        rw [ht] at h
        cases h
        have := ask_good hc g0
        simp only
        omega
theorem runF_lenA {l : Lf} {cs : List Cl} (hl : l.ok) (hc : CsOk cs) (n : Int) : (runF l cs n).2.2.length ≤ 364 := by
  have := run_lenA hl hc 18 0 (first0 l) [] (0, 0) _ (first_good hl) (runF_eq hl hc n)
  omega
theorem runF_rides {l : Lf} {cs : List Cl} (hl : l.ok) (hc : CsOk cs) (n : Int) : (runF l cs n).1.length ≤ 18 ∧ ∀ p < cs.length, (∃ x ∈ (runF l cs n).1, p ∈ x.on) ∧ ∃ x ∈ (runF l cs n).1, p ∈ x.off := by
  have := run_rides (n := n) hl 18 (first0 l) [] (0, 0) _ ⟨by simp [first0], by simp [first0]⟩ (runF_eq hl hc n)
  exact ⟨by have := this.1; simp at this; omega, this.2⟩
def ridesF (cs : List Cl) (stops : List Stop) : List (Form × Form) := (List.range cs.length).map fun p => (onOf stops p, offOf stops p)
theorem ridesF_len (cs : List Cl) (stops : List Stop) : (ridesF cs stops).length = cs.length := by rw [ridesF, List.length_map, List.length_range]
theorem cov_map {α β : Type} {F : Int → α} (g : α → β) {hi : Option Int} : ∀ {rows : List (Row α)} {lo : Int}, Cov F hi lo rows → Cov (fun n => g (F n)) hi lo (rows.map fun r => (r.1, r.2.1, g r.2.2))
  | [], _, h => h
  | (l, h, t) :: r, lo, c => by
    obtain ⟨a1, a2, q⟩ := c
    refine ⟨a1, fun n n1 n2 => congrArg g (a2 n n1 n2), ?_⟩
    rcases q with ⟨q1, q2, q3⟩ | ⟨e, q1, q2, q3, q4⟩
    · exact .inl ⟨by rw [q1]; rfl, q2, q3⟩
    · exact .inr ⟨e, q1, q2, q3, cov_map g q4⟩
theorem joinF_len {τ : Type} [DecidableEq τ] (rows : List (Row τ)) : (joinF rows).length ≤ rows.length := by
  have : ∀ (L : List (Row τ)) (f : List (Row τ)), (L.foldl joinStep f).length ≤ f.length + L.length := by
    intro L
    induction L with
    | nil => intro f; exact Nat.le_refl _
    | cons a L ih =>
      intro f
      rw [List.foldl_cons]
      have h1 := ih (joinStep f a)
      have h2 : (joinStep f a).length ≤ f.length + 1 := by
        unfold joinStep
        split
        · split
          · rename_i x hx _
            have : f ≠ [] := by intro e; rw [e] at hx; cases hx
            have := List.length_pos_iff.mpr this
            rw [List.length_append, List.length_dropLast, List.length_singleton]; omega
          · simp
        · simp
      simp only [List.length_cons]
      omega
  have := this rows []
  simpa [joinF] using this
/-- each row is within, and what it tells is so -/
theorem Cov.mem {α : Type} {F : Int → α} {hi : Option Int} : ∀ {rows : List (Row α)} {lo : Int}, Cov F hi lo rows → ∀ r ∈ rows, lo ≤ r.1 ∧ hiLe r.1 r.2.1 ∧ (∀ n, r.1 ≤ n → hiLe n r.2.1 → F n = r.2.2 ∧ hiLe n hi)
  | [], _, h, _, _ => h.elim
  | (l, h, t) :: q, lo, c, r, hr => by
    obtain ⟨a1, a2, z⟩ := c
    subst a1
    have hh : hiLe l h ∧ ∀ n, hiLe n h → hiLe n hi := by
      rcases z with b | ⟨e, w1, w2, w3, _⟩
      · exact ⟨b.2.2, fun n y => by rw [← b.2.1]; exact y⟩
      · rw [w1]; exact ⟨w2, fun n y => hiLe_mono y w3⟩
    rcases List.mem_cons.mp hr with e | e
    · subst e
      exact ⟨Int.le_refl _, hh.1, fun n n1 n2 => ⟨a2 n n1 n2, hh.2 n n2⟩⟩
    · rcases z with b | ⟨e', w1, w2, w3, w4⟩
      · rw [b.1] at e; cases e
      · obtain ⟨y1, y2, y3⟩ := Cov.mem w4 r e
        exact ⟨by omega, y2, y3⟩
def eO : Option Int → D
  | none => .non
  | some e => .int e
def eRow {τ : Type} (enc : τ → D) (r : Row τ) : D := .tup [.int r.1, eO r.2.1, enc r.2.2]
structure EncOk {τ : Type} [DecidableEq τ] (enc : τ → D) : Prop where
  pl : ∀ a, plD 20 (enc a) = true
  eq : ∀ a b, D.beq (enc a) (enc b) = decide (a = b)
theorem pl_up {k : Nat} : ∀ (j : Nat) {d : D}, plD k d = true → plD (k + j) d = true
  | 0, _, h => h
  | j + 1, _, h => plD_up' (pl_up j h)
theorem plT (k : Nat) (l : List D) : plD (k + 1) (.tup l) = l.all (plD k) := rfl
theorem plL (k : Nat) (l : List D) : plD (k + 1) (.lst l) = l.all (plD k) := rfl
theorem pl_map {α : Type} {k : Nat} {f : α → D} (h : ∀ a, plD k (f a) = true) (l : List α) : (l.map f).all (plD k) = true := by
  rw [List.all_eq_true]
  intro d hd
  obtain ⟨a, _, rfl⟩ := List.mem_map.mp hd
  exact h a
theorem pl_eO (k : Nat) (h : Option Int) : plD (k + 1) (eO h) = true := by cases h <;> rfl
theorem pl_eRow {τ : Type} [DecidableEq τ] {enc : τ → D} (he : EncOk enc) (r : Row τ) : plD 21 (eRow enc r) = true := by
  rw [eRow, plT 20]
  simp only [List.all_cons, List.all_nil, he.pl, pl_eO 19, show plD 20 (.int r.1) = true from rfl, Bool.and_true]
theorem beqs_map {α : Type} [DecidableEq α] {f : α → D} (h : ∀ a b, D.beq (f a) (f b) = decide (a = b)) : ∀ l m : List α, D.beqs (l.map f) (m.map f) = decide (l = m)
  | [], [] => by simp [D.beqs]
  | [], _ :: _ => by simp [D.beqs]
  | _ :: _, [] => by simp [D.beqs]
  | a :: l, b :: m => by
    simp only [List.map_cons, D.beqs, h, beqs_map h l m, List.cons.injEq]
    by_cases h1 : a = b <;> by_cases h2 : l = m <;> simp [h1, h2]
theorem eqF_beq (f g : Form) : D.beq (eF f) (eF g) = decide (f = g) := by
  obtain ⟨a, b⟩ := f
  obtain ⟨c, d⟩ := g
  simp only [D.beq, D.beqs, Bool.and_true, Prod.mk.injEq]
  by_cases h1 : a = c <;> by_cases h2 : b = d <;> simp [h1, h2]
theorem enc_F : EncOk eF := ⟨fun a => rfl, eqF_beq⟩
theorem beq_eN (p q : Nat) : D.beq (eN p) (eN q) = decide (p = q) := by
  rw [beq_N]; by_cases h : p = q <;> simp [h]
theorem stop_beq (a b : Stop) : D.beq (eStop a) (eStop b) = decide (a = b) := by
  obtain ⟨a1, a2, a3, a4⟩ := a
  obtain ⟨b1, b2, b3, b4⟩ := b
  have h1 := beqs_map beq_eN a3 b3
  have h2 := beqs_map beq_eN a4 b4
  have h3 := beq_fl a1 b1
  have h4 := eqF_beq a2 b2
  rw [show D.beq (eStop ⟨a1, a2, a3, a4⟩) (eStop ⟨b1, b2, b3, b4⟩) = (D.beq (eFl a1) (eFl b1) && (D.beq (eF a2) (eF b2) && (D.beqs (a3.map eN) (b3.map eN) && (D.beqs (a4.map eN) (b4.map eN) && true)))) from rfl, h1, h2, h3, h4]
  simp only [Stop.mk.injEq]
  by_cases q1 : a1 = b1 <;> by_cases q2 : a2 = b2 <;> by_cases q3 : a3 = b3 <;> by_cases q4 : a4 = b4 <;> simp [q1, q2, q3, q4]
theorem pl_eN (k : Nat) (l : List Nat) : plD (k + 2) (.tup (eNs l)) = true := (plT (k + 1) _).trans (all_Ns k l)
theorem pl_stopK (k : Nat) (s : Stop) : plD (k + 3) (eStop s) = true := by
  have h1 : plD (k + 2) (.tup (eNs s.off)) = true := pl_eN k _
  have h2 : plD (k + 2) (.tup (eNs s.on)) = true := pl_eN k _
  have h3 : plD (k + 2) (eFl s.fl) = true := pl_fl k s.fl
  have h4 : plD (k + 2) (eF s.m) = true := rfl
  rw [eStop, plT (k + 2)]
  simp only [List.all_cons, List.all_nil, h1, h2, h3, h4, Bool.and_true]
abbrev eStops (L : List Stop) : D := .tup (L.map eStop)
theorem enc_stops : EncOk eStops := ⟨fun a => (plT 19 _).trans (pl_map (pl_stopK 16) a), fun a b => beqs_map stop_beq a b⟩
abbrev eRun (p : List Stop × Form) : D := .tup [eStops p.1, eF p.2]
theorem pair_beq {α β : Type} [DecidableEq α] [DecidableEq β] {f : α → D} {g : β → D} (hf : ∀ a b, D.beq (f a) (f b) = decide (a = b)) (hg : ∀ a b, D.beq (g a) (g b) = decide (a = b)) (p q : α × β) : D.beq (.tup [f p.1, g p.2]) (.tup [f q.1, g q.2]) = decide (p = q) := by
  obtain ⟨a, b⟩ := p
  obtain ⟨c, d⟩ := q
  simp only [D.beq, D.beqs, Bool.and_true, hf, hg, Prod.mk.injEq]
  by_cases h1 : a = c <;> by_cases h2 : b = d <;> simp [h1, h2]
theorem enc_run : EncOk eRun := ⟨fun a => by
    rw [eRun, plT 19]
    have : plD 19 (eStops a.1) = true := (plT 18 _).trans (pl_map (pl_stopK 15) a.1)
    simp only [List.all_cons, List.all_nil, this, show plD 19 (eF a.2) = true from rfl, Bool.and_true], fun a b => pair_beq enc_stops.eq eqF_beq a b⟩
abbrev eRide (q : Form × Form) : D := .tup [eF q.1, eF q.2]
theorem ride_beq (a b : Form × Form) : D.beq (eRide a) (eRide b) = decide (a = b) := pair_beq eqF_beq eqF_beq a b
theorem enc_ride : EncOk eRide := ⟨fun a => rfl, ride_beq⟩
abbrev eRides (L : List (Form × Form)) : D := .lst (L.map eRide)
theorem enc_rides : EncOk eRides := ⟨fun a => (plL 19 _).trans (pl_map (fun a => rfl) a), fun a b => beqs_map ride_beq a b⟩
theorem eq_enc {τ : Type} [DecidableEq τ] {enc : τ → D} (he : EncOk enc) (a b : τ) (st : Store) : eqD st (enc a) (enc b) = some (decide (a = b)) := by
  rw [eqD_pl st (pl_up 4 (he.pl a)) (pl_up 4 (he.pl b)), he.eq]
theorem itemAt_last {α : Type} (l : List α) (x : α) : itemAt (l ++ [x]) (-1) = some x := by
  have h2 : (-((l ++ [x]).length : Int)) ≤ -1 := by simp; omega
  have h3 : ((-1 : Int) + ((l ++ [x]).length : Nat)).toNat = l.length := by rw [List.length_append, List.length_singleton]; omega
  simp only [itemAt, ixI, if_neg (show ¬ (0 : Int) ≤ -1 by decide), if_pos h2, h3]
  simp
theorem cut_last {α : Type} (l : List α) (x : α) : cut (l ++ [x]) none (some (-1)) = l := by
  have e : HT.sIx (l ++ [x]).length (l ++ [x]).length (some (-1)) = l.length := by
    unfold HT.sIx
    simp
    omega
  simp only [cut, e]
  simp [HT.sIx]
end LF

/-! Tab6: the program's rows. -/
namespace LF
open AF
def tableF (l : Lf) (cs : List Cl) : List (Row (List Stop)) := joinF ((joinF (runRows l cs)).map fun r => (r.1, r.2.1, r.2.2.1))
def ridesR (l : Lf) (cs : List Cl) : List (Row (List (Form × Form))) := joinF ((joinF (runRows l cs)).map fun r => (r.1, r.2.1, ridesF cs r.2.2.1))
theorem runs_len (l : Lf) (cs : List Cl) : (joinF (runRows l cs)).length ≤ 20000 := Nat.le_trans (joinF_len _) (tile_len _ _)
theorem ridesR_len (l : Lf) (cs : List Cl) : (ridesR l cs).length ≤ 20000 := Nat.le_trans (joinF_len _) (by rw [List.length_map]; exact runs_len l cs)
theorem tableF_cov {l : Lf} {cs : List Cl} (hl : l.ok) (hc : CsOk cs) : Cov (fun n => (runF l cs n).1) none 8 (tableF l cs) ∧ Adj (tableF l cs) :=
  join_cov (cov_map (·.1) (join_cov (runRows_cov hl hc)).1)
theorem ridesR_cov {l : Lf} {cs : List Cl} (hl : l.ok) (hc : CsOk cs) : Cov (fun n => ridesF cs (runF l cs n).1) none 8 (ridesR l cs) ∧ Adj (ridesR l cs) :=
  join_cov (cov_map (fun p : List Stop × Form => ridesF cs p.1) (join_cov (runRows_cov hl hc)).1)
/-- what a row of the runs tells is a run's -/
theorem runs_mem {l : Lf} {cs : List Cl} (hl : l.ok) (hc : CsOk cs) : ∀ r ∈ joinF (runRows l cs), 8 ≤ r.1 ∧ (runF l cs r.1).1 = r.2.2.1 := fun r hr => by
  obtain ⟨h1, h2, h3⟩ := (join_cov (runRows_cov hl hc)).1.mem r hr
  have := (h3 r.1 (Int.le_refl _) h2).1
  exact ⟨h1, by rw [← this]⟩
end LF

/-! Tab7: bounds of rows, their shape. -/
namespace LF
open AF
section
variable {τ : Type}
def EndB (B : Int) (rows : List (Row τ)) : Prop := ∀ r ∈ rows, ∀ e, r.2.1 = some e → e ≤ B
theorem EndB.map {β : Type} {B : Int} {rows : List (Row τ)} (g : τ → β) (h : EndB B rows) : EndB B (rows.map fun r => (r.1, r.2.1, g r.2.2)) := fun r hr => by
  obtain ⟨a, ha, rfl⟩ := List.mem_map.mp hr
  exact h a ha
theorem EndB.join [DecidableEq τ] {B : Int} {rows : List (Row τ)} (h : EndB B rows) : EndB B (joinF rows) := by
  have key : ∀ (L f : List (Row τ)), EndB B L → EndB B f → EndB B (L.foldl joinStep f) := by
    intro L
    induction L with
    | nil => intro f _ hf; exact hf
    | cons a L ih =>
      intro f hL hf
      rw [List.foldl_cons]
      refine ih _ (fun r hr => hL r (List.mem_cons_of_mem _ hr)) ?_
      have ha := hL a List.mem_cons_self
      intro r hr
      unfold joinStep at hr
      split at hr
      · split at hr
        · rcases List.mem_append.mp hr with q | q
          · exact hf r (List.dropLast_subset _ q)
          · rw [List.mem_singleton] at q; subst q; exact ha
        · rcases List.mem_append.mp hr with q | q
          · exact hf r q
          · rw [List.mem_singleton] at q; subst q; exact ha
      · rcases List.mem_append.mp hr with q | q
        · exact hf r q
        · rw [List.mem_singleton] at q; subst q; exact ha
  exact key rows [] h (fun r hr => by cases hr)
theorem EndB.tile {G : Int → Option Int} {T : Int → τ} {hi : Option Int} {lo0 B C : Int} (hG : TileOk G hi lo0 B) (hBC : B ≤ C) (hC : ∀ e, hi = some e → e ≤ C) : ∀ (k : Nat) (n : Int), lo0 ≤ n → hiLe n hi → EndB C (tile G T hi k n)
  | 0, _, _, _ => fun r hr => by simp [LF.tile] at hr
  | k + 1, n, h1, h2 => by
    obtain ⟨a1, a2⟩ := hG.ok n h1 h2
    unfold LF.tile
    intro r hr e he
    rcases List.mem_cons.mp hr with q | q
    · subst q
      simp only at he
      rcases a2 with z | ⟨e', e1, e2, _⟩
      · exact hC e (by rw [← z]; exact he)
      · rw [e1] at he; cases he; omega
    · split at q
      · cases q
      · rename_i hne
        rcases a2 with z | ⟨e', e1, e2, e3⟩
        · exact absurd z hne
        · rw [e1] at q a1
          have a1 : n ≤ e' := a1
          exact EndB.tile hG hBC hC k (e' + 1) (by omega) e3 r q e he
theorem Cov.lowB {F : Int → τ} {hi : Option Int} {B : Int} : ∀ {rows : List (Row τ)} {lo : Int}, Cov F hi lo rows → EndB B rows → ∀ r ∈ rows, r.1 = lo ∨ r.1 ≤ B + 1
  | [], _, h, _, _, _ => h.elim
  | (l, h, t) :: q, lo, c, hb, r, hr => by
    obtain ⟨a1, a2, z⟩ := c
    subst a1
    rcases List.mem_cons.mp hr with e | e
    · subst e; exact .inl rfl
    · rcases z with b | ⟨e', w1, w2, w3, w4⟩
      · rw [b.1] at e; cases e
      · have := hb (l, h, t) List.mem_cons_self e' w1
        rcases Cov.lowB w4 (fun r hr => hb r (List.mem_cons_of_mem _ hr)) r e with y | y
        · right; omega
        · exact .inr y
theorem Cov.lastNone {F : Int → τ} : ∀ {rows : List (Row τ)} {lo : Int}, Cov F none lo rows → ∃ D l t, rows = D ++ [(l, none, t)]
  | [], _, h => h.elim
  | (l, g, t) :: r, lo, h => by
    obtain ⟨_, _, q | ⟨e', _, _, _, q4⟩⟩ := h
    · obtain ⟨rfl, rfl, _⟩ := q; exact ⟨[], l, t, rfl⟩
    · obtain ⟨D, l', t', w⟩ := Cov.lastNone q4
      exact ⟨(l, g, t) :: D, l', t', by rw [w]; rfl⟩
theorem cov_zip {F : Int → τ} {hi : Option Int} : ∀ {rows : List (Row τ)} {lo : Int}, Cov F hi lo rows → Adj rows → ∀ q ∈ rows.zip (rows.drop 1), ∃ e, q.1.2.1 = some e ∧ q.1.1 ≤ e ∧ q.2.1 = e + 1 ∧ q.1.2.2 ≠ q.2.2.2
  | [], _, h, _, _, _ => h.elim
  | [x], _, _, _, q, hq => by simp at hq
  | (l, h, t) :: (l2, h2, t2) :: r, lo, c, ad, q, hq => by
    have hq' : q ∈ ((l, h, t), (l2, h2, t2)) :: ((l2, h2, t2) :: r).zip (((l2, h2, t2) :: r).drop 1) := by simpa using hq
    obtain ⟨a1, a2, z⟩ := c
    subst a1
    rcases z with b | ⟨e, w1, w2, w3, w4⟩
    · cases b.1
    · rcases List.mem_cons.mp hq' with y | y
      · subst y
        exact ⟨e, w1, w2, w4.1, ad.1⟩
      · exact cov_zip w4 ad.2 q y
theorem cov_at {F : Int → τ} {hi : Option Int} {n : Int} (hn : hiLe n hi) : ∀ {rows : List (Row τ)} {lo : Int}, Cov F hi lo rows → lo ≤ n → ∃ D x, rows.filter (fun r => decide (r.1 ≤ n)) = D ++ [x] ∧ x.2.2 = F n ∧ x.1 ≤ n ∧ hiLe n x.2.1 ∧ x ∈ rows
  | [], _, h, _ => h.elim
  | (l, h, t) :: r, lo, c, hlo => by
    obtain ⟨a1, a2, z⟩ := c
    subst a1
    rw [List.filter_cons, if_pos (by simpa using hlo)]
    rcases z with ⟨b1, b2, b3⟩ | ⟨e, w1, w2, w3, w4⟩
    · subst b1 b2
      exact ⟨[], (l, h, t), rfl, (a2 n hlo hn).symm, hlo, hn, List.mem_cons_self⟩
    · by_cases he : e + 1 ≤ n
      · obtain ⟨D, x, y1, y2, y3, y4, y5⟩ := cov_at hn w4 he
        exact ⟨(l, h, t) :: D, x, by rw [y1]; rfl, y2, y3, y4, List.mem_cons_of_mem _ y5⟩
      · have : r.filter (fun r => decide (r.1 ≤ n)) = [] := by
          rw [List.filter_eq_nil_iff]
          intro x hx
          have := (w4.mem x hx).1
          simp; omega
        rw [this]
        subst w1
        have hne : n ≤ e := by omega
        exact ⟨[], (l, some e, t), rfl, (a2 n hlo hne).symm, hlo, hne, List.mem_cons_self⟩
/-- a row whose telling takes several places -/
def eRowG (rest : τ → List D) (r : Row τ) : D := .tup (.int r.1 :: eO r.2.1 :: rest r.2.2)
structure EncL [DecidableEq τ] (rest : τ → List D) : Prop where
  pl : ∀ a, plD 20 (.tup (rest a)) = true
  eq : ∀ a b, D.beq (.tup (rest a)) (.tup (rest b)) = decide (a = b)
theorem EncOk.l [DecidableEq τ] {enc : τ → D} (h : EncOk enc) (h2 : ∀ a, plD 19 (enc a) = true) : EncL fun a => [enc a] := ⟨fun a => by rw [plT 19, List.all_cons, h2 a]; rfl, fun a b => by
  rw [show D.beq (.tup [enc a]) (.tup [enc b]) = (D.beq (enc a) (enc b) && true) from rfl, h.eq, Bool.and_true]⟩
theorem pl_eRowG [DecidableEq τ] {rest : τ → List D} (he : EncL rest) (r : Row τ) : plD 21 (eRowG rest r) = true := by
  have h := he.pl r.2.2
  rw [plT 19] at h
  rw [eRowG, plT 20]
  simp only [List.all_cons, pl_eO 19, show plD 20 (.int r.1) = true from rfl, Bool.true_and]
  rw [List.all_eq_true] at h ⊢
  exact fun d hd => plD_up' (h d hd)
end
theorem tableF_end {l : Lf} {cs : List Cl} (hl : l.ok) (hc : CsOk cs) : EndB 3300 (joinF (runRows l cs)) := by
  have hB : ∀ n, 8 ≤ n → ∀ f ∈ (runF l cs n).2.2, iabs f.2 ≤ 3300 := fun n _ f hf => iabs_le ((runF_small hl hc n).2 f hf)
  have ht := until_tile (fs := fun n => (runF l cs n).2.2) (hi := none) hB
  simp only [less_none] at ht
  exact (EndB.tile ht (Int.le_refl _) (fun e h => by cases h) _ 8 (by omega) trivial).join
end LF

/-! Tab8: stretches within stretches. -/
namespace LF
open AF
section
variable {τ β : Type}
theorem cov_mapL {F : Int → τ} {G : Int → β} {g : Row τ → β} {hi : Option Int} : ∀ {rows : List (Row τ)} {lo : Int}, Cov F hi lo rows → (∀ r ∈ rows, ∀ n, r.1 ≤ n → hiLe n r.2.1 → G n = g r) → Cov G hi lo (rows.map fun r => (r.1, r.2.1, g r))
  | [], _, h, _ => h
  | (l, h, t) :: r, lo, c, hg => by
    obtain ⟨a1, a2, q⟩ := c
    subst a1
    refine ⟨rfl, fun n n1 n2 => hg (l, h, t) List.mem_cons_self n n1 n2, ?_⟩
    rcases q with ⟨q1, q2, q3⟩ | ⟨e, q1, q2, q3, q4⟩
    · exact .inl ⟨by rw [q1]; rfl, q2, q3⟩
    · exact .inr ⟨e, q1, q2, q3, cov_mapL q4 fun r hr => hg r (List.mem_cons_of_mem _ hr)⟩
theorem cov_sub {F : Int → τ} {G : Int → β} {sub : Row τ → List (Row β)} {hi : Option Int} : ∀ {rows : List (Row τ)} {lo : Int}, Cov F hi lo rows → (∀ r ∈ rows, Cov G r.2.1 r.1 (sub r)) → Cov G hi lo (rows.flatMap sub)
  | [], _, h, _ => h.elim
  | (l, h, t) :: r, lo, c, hg => by
    obtain ⟨a1, a2, q⟩ := c
    subst a1
    have h1 := hg (l, h, t) List.mem_cons_self
    rw [List.flatMap_cons]
    rcases q with ⟨q1, q2, q3⟩ | ⟨e, q1, q2, q3, q4⟩
    · subst q1 q2
      rw [List.flatMap_nil, List.append_nil]
      exact h1
    · subst q1
      exact Cov.append q3 h1 (cov_sub q4 fun r hr => hg r (List.mem_cons_of_mem _ hr))
theorem EndB.flat {B : Int} {rows : List (Row τ)} {sub : Row τ → List (Row β)} (h : ∀ r ∈ rows, EndB B (sub r)) : EndB B (rows.flatMap sub) := fun r hr => by
  obtain ⟨a, ha, hb⟩ := List.mem_flatMap.mp hr
  exact h a ha r hb
theorem EndB.mapL {B : Int} {rows : List (Row τ)} {g : Row τ → β} (h : EndB B rows) : EndB B (rows.map fun r => (r.1, r.2.1, g r)) := fun r hr => by
  obtain ⟨a, ha, rfl⟩ := List.mem_map.mp hr
  exact h a ha
theorem EndB.mono {B C : Int} {rows : List (Row τ)} (h : EndB B rows) (hBC : B ≤ C) : EndB C rows := fun r hr e he => Int.le_trans (h r hr e he) hBC
end
theorem Cov.len {τ : Type} {F : Int → τ} {hi : Option Int} {B : Int} : ∀ {rows : List (Row τ)} {lo : Int}, Cov F hi lo rows → EndB B rows → lo ≤ B + 1 → rows.length ≤ (B + 2 - lo).toNat
  | [], _, h, _, _ => h.elim
  | (l, h, t) :: r, lo, c, hE, hlo => by
    obtain ⟨a1, a2, q⟩ := c
    subst a1
    rcases q with ⟨q1, q2, q3⟩ | ⟨e, q1, q2, q3, q4⟩
    · subst q1; simp only [List.length_cons, List.length_nil]; omega
    · have he := hE (l, h, t) List.mem_cons_self e q1
      have := Cov.len q4 (fun r hr => hE r (List.mem_cons_of_mem _ hr)) (by omega)
      rw [List.length_cons]; omega
theorem bySigns_end {lo : Int} {hi : Option Int} {fs : List Form} {B C : Int} (h8 : 8 ≤ lo) (hl : hiLe lo hi) (hB : ∀ f ∈ fs, iabs f.2 ≤ B) (hBC : B ≤ C) (hC : ∀ e, hi = some e → e ≤ C) : EndB C (bySigns lo hi fs) :=
  EndB.tile (until_tile (fs := fun _ => fs) (fun n _ => hB)) hBC hC _ lo h8 hl
theorem bySigns_mem {lo : Int} {hi : Option Int} {fs : List Form} {B : Int} (h8 : 8 ≤ lo) (hl : hiLe lo hi) (hB : ∀ f ∈ fs, iabs f.2 ≤ B) (hB2 : B ≤ 19990) : ∀ r ∈ bySigns lo hi fs, lo ≤ r.1 ∧ hiLe r.1 hi ∧ r.2.2 = signsL fs r.1 ∧ ∀ n, r.1 ≤ n → hiLe n r.2.1 → SameSg fs r.1 n := fun r hr => by
  obtain ⟨h1, h2, h3⟩ := (bySigns_cov h8 hl hB hB2).mem r hr
  obtain ⟨z1, z2⟩ := h3 r.1 (Int.le_refl _) h2
  exact ⟨h1, z2, z1.symm, fun n n1 n2 => signs_same.mp ((h3 n n1 n2).1.trans z1.symm)⟩
theorem bySigns_len (lo : Int) (hi : Option Int) (fs : List Form) : (bySigns lo hi fs).length ≤ 20000 := tile_len _ _
/-- parts of small forms -/
def SmallR (b : Int) (L : List (Form × Form)) : Prop := ∀ q ∈ L, Small b q.1 ∧ Small b q.2
theorem head_small' {b : Int} (hb : 0 ≤ b) {L : List Stop} (h : ∀ x ∈ L, Small b x.m) : Small b (((L.map (·.m)).head?).getD (0, 0)) := by
  cases L with
  | nil => simp [Small]; omega
  | cons x r => simpa using h x List.mem_cons_self
theorem ridesF_small {l : Lf} {cs : List Cl} (hl : l.ok) (hc : CsOk cs) (n : Int) : SmallR 2200 (ridesF cs (runF l cs n).1) := by
  intro q hq
  obtain ⟨p, _, rfl⟩ := List.mem_map.mp hq
  have h := (runF_small hl hc n).1
  exact ⟨head_small' (by decide) fun x hx => h x (List.mem_filter.mp hx).1, head_small' (by decide) fun x hx => h x (List.mem_filter.mp hx).1⟩
/-- what a row of rides tells -/
theorem ridesR_mem {l : Lf} {cs : List Cl} (hl : l.ok) (hc : CsOk cs) : ∀ r ∈ ridesR l cs, 8 ≤ r.1 ∧ hiLe r.1 r.2.1 ∧ r.2.2 = ridesF cs (runF l cs r.1).1 ∧ r.1 ≤ 3301 ∧ (∀ e, r.2.1 = some e → e ≤ 3300) := fun r hr => by
  have hC := (ridesR_cov hl hc).1
  obtain ⟨h1, h2, h3⟩ := hC.mem r hr
  have hE : EndB 3300 (ridesR l cs) := ((tableF_end hl hc).map (fun p : List Stop × Form => ridesF cs p.1)).join
  have := hC.lowB hE r hr
  exact ⟨h1, h2, ((h3 r.1 (Int.le_refl _) h2).1).symm, by omega, hE r hr⟩
theorem ridesR_end {l : Lf} {cs : List Cl} (hl : l.ok) (hc : CsOk cs) : EndB 3300 (ridesR l cs) := ((tableF_end hl hc).map (fun p : List Stop × Form => ridesF cs p.1)).join
theorem pairs_small {b : Int} {fs : List Form} (h : ∀ f ∈ fs, Small b f) : ∀ f ∈ allPairs fs, Small (b + b) f := by
  intro f hf
  obtain ⟨a, ha, hb⟩ := List.mem_flatMap.mp hf
  obtain ⟨c, hc, rfl⟩ := List.mem_map.mp hb
  exact sub_small' (h a ha) (h c hc)
theorem pairs_len (fs : List Form) : (allPairs fs).length = fs.length * fs.length := by
  unfold allPairs
  rw [List.length_flatMap]
  simp only [List.length_map]
  have key : ∀ (L : List Form) (k : Nat), (L.map fun _ => k).sum = L.length * k := by
    intro L k
    induction L with
    | nil => simp
    | cons a L ih => rw [List.map_cons, List.sum_cons, ih, List.length_cons, Nat.succ_mul]; omega
  exact key fs fs.length
def lastOf (fs : List Form) (n : Int) : Form := (fs[greatestOf fs n]?).getD (0, 0)
def offs (L : List (Form × Form)) : List Form := L.map (·.2)
def endRaw (rows : List (Row (List (Form × Form)))) : List (Row Form) := rows.flatMap fun r => (bySigns r.1 r.2.1 (allPairs (offs r.2.2))).map fun q => (q.1, q.2.1, lastOf (offs r.2.2) q.1)
def endF (l : Lf) (cs : List Cl) : List (Row Form) := if cs = [] then [(8, none, (0, 0))] else joinF (endRaw (ridesR l cs))
/-- the form of the minute at which the last one gets off -/
def endAt (l : Lf) (cs : List Cl) (n : Int) : Form := if cs = [] then (0, 0) else lastOf (offs (ridesF cs (runF l cs n).1)) n
theorem offs_small {l : Lf} {cs : List Cl} (hl : l.ok) (hc : CsOk cs) (n : Int) : ∀ f ∈ offs (ridesF cs (runF l cs n).1), Small 2200 f := fun f hf => by
  obtain ⟨q, hq, rfl⟩ := List.mem_map.mp hf
  exact (ridesF_small hl hc n q hq).2
theorem offs_len (cs : List Cl) (S : List Stop) : (offs (ridesF cs S)).length = cs.length := by rw [offs, List.length_map, ridesF_len]
theorem end_sub {l : Lf} {cs : List Cl} (hl : l.ok) (hc : CsOk cs) : ∀ r ∈ ridesR l cs, ∀ f ∈ allPairs (offs r.2.2), Small 4400 f := fun r hr => by
  obtain ⟨_, _, h, _⟩ := ridesR_mem hl hc r hr
  rw [h]
  exact pairs_small (offs_small hl hc r.1)
theorem endRaw_ok {l : Lf} {cs : List Cl} (hl : l.ok) (hc : CsOk cs) : Cov (fun n => lastOf (offs (ridesF cs (runF l cs n).1)) n) none 8 (endRaw (ridesR l cs)) ∧ EndB 4400 (endRaw (ridesR l cs)) ∧ (endRaw (ridesR l cs)).length ≤ 4400 := by
  have hE : EndB 4400 (endRaw (ridesR l cs)) := EndB.flat fun r hr => by
    obtain ⟨h1, h2, h3, h4, h5⟩ := ridesR_mem hl hc r hr
    exact EndB.mapL (bySigns_end h1 h2 (fun f hf => iabs_le (end_sub hl hc r hr f hf)) (Int.le_refl _) (fun e he => by have := h5 e he; omega))
  have hC : Cov (fun n => lastOf (offs (ridesF cs (runF l cs n).1)) n) none 8 (endRaw (ridesR l cs)) := by
    refine cov_sub (ridesR_cov hl hc).1 fun r hr => ?_
    obtain ⟨h1, h2, h3, h4, h5⟩ := ridesR_mem hl hc r hr
    have hB : ∀ f ∈ allPairs (offs r.2.2), iabs f.2 ≤ 4400 := fun f hf => iabs_le (end_sub hl hc r hr f hf)
    refine cov_mapL (bySigns_cov h1 h2 hB (by decide)) fun q hq n n1 n2 => ?_
    obtain ⟨y1, y2, y3, y4⟩ := bySigns_mem h1 h2 hB (by decide) q hq
    obtain ⟨_, _, z3⟩ := (bySigns_cov h1 h2 hB (by decide)).mem q hq
    obtain ⟨_, _, w3⟩ := (ridesR_cov hl hc).1.mem r hr
    rw [(w3 n (Int.le_trans y1 n1) (z3 n n1 n2).2).1]
    unfold lastOf
    rw [greatest_const (y4 n n1 n2)]
  have := hC.len hE (by decide)
  exact ⟨hC, hE, by omega⟩
theorem endF_cov {l : Lf} {cs : List Cl} (hl : l.ok) (hc : CsOk cs) : Cov (endAt l cs) none 8 (endF l cs) ∧ Adj (endF l cs) ∧ EndB 4400 (endF l cs) := by
  unfold endF endAt
  by_cases h0 : cs = []
  · simp only [if_pos h0]
    exact ⟨⟨rfl, fun n _ _ => rfl, .inl ⟨rfl, rfl, trivial⟩⟩, trivial, fun r hr e he => by rw [List.mem_singleton] at hr; subst hr; cases he⟩
  · simp only [if_neg h0]
    obtain ⟨hC, hE, _⟩ := endRaw_ok hl hc
    exact ⟨(join_cov hC).1, (join_cov hC).2, hE.join⟩
def rideAt (L : List (Form × Form)) (p : Nat) : Form × Form := (L[p]?).getD ((0, 0), (0, 0))
def ridesP (l : Lf) (cs : List Cl) (p : Nat) : List (Row (Form × Form)) := joinF ((ridesR l cs).map fun r => (r.1, r.2.1, rideAt r.2.2 p))
abbrev rest2 (q : Form × Form) : List D := [eF q.1, eF q.2]
theorem enc_rest2 : EncL rest2 := ⟨fun a => rfl, fun a b => pair_beq eqF_beq eqF_beq a b⟩
theorem ridesP_ok {l : Lf} {cs : List Cl} (hl : l.ok) (hc : CsOk cs) (p : Nat) : Cov (fun n => rideAt (ridesF cs (runF l cs n).1) p) none 8 (ridesP l cs p) ∧ Adj (ridesP l cs p) ∧ EndB 3300 (ridesP l cs p) := by
  have h := join_cov (cov_map (fun L => rideAt L p) (ridesR_cov hl hc).1)
  exact ⟨h.1, h.2, ((ridesR_end hl hc).map (fun L => rideAt L p)).join⟩
/-! who waits longest -/
def waitF (cs : List Cl) (L : List (Form × Form)) : List Form := (enumP 0 L).map fun q => fsub q.2.2 (0, (cAt cs q.1).t)
theorem enumP_len {α : Type} : ∀ (i : Nat) (l : List α), (enumP i l).length = l.length
  | _, [] => rfl
  | i, a :: r => by rw [enumP, List.length_cons, List.length_cons, enumP_len (i + 1) r]
theorem waitF_len (cs : List Cl) (L : List (Form × Form)) : (waitF cs L).length = L.length := by rw [waitF, List.length_map, enumP_len]
def longOf (fs : List Form) (n : Int) : Nat × Form := (greatestOf fs n, lastOf fs n)
def longRaw (cs : List Cl) (rows : List (Row (List (Form × Form)))) : List (Row (Nat × Form)) := rows.flatMap fun r => (bySigns r.1 r.2.1 (allPairs (waitF cs r.2.2))).map fun q => (q.1, q.2.1, longOf (waitF cs r.2.2) q.1)
def longF (l : Lf) (cs : List Cl) : List (Row (Nat × Form)) := joinF (longRaw cs (ridesR l cs))
theorem waits_small {l : Lf} {cs : List Cl} (hl : l.ok) (hc : CsOk cs) (n : Int) : ∀ f ∈ waitF cs (ridesF cs (runF l cs n).1), Small 3200 f := fun f hf => by
  obtain ⟨q, hq, rfl⟩ := List.mem_map.mp hf
  obtain ⟨h1, h2⟩ := enum_lt hq
  rw [ridesF_len] at h1
  have hs := (ridesF_small hl hc n q.2 h2).2
  have e : cs[q.1] = cAt cs q.1 := by unfold cAt; rw [List.getElem?_eq_getElem (by omega)]; rfl
  have := hc.2.1 cs[q.1] (List.getElem_mem (by omega))
  rw [e] at this
  obtain ⟨t1, t2, _⟩ := this
  unfold Small fsub at *
  simp only
  omega
theorem wait_sub {l : Lf} {cs : List Cl} (hl : l.ok) (hc : CsOk cs) : ∀ r ∈ ridesR l cs, ∀ f ∈ allPairs (waitF cs r.2.2), Small 6400 f := fun r hr => by
  obtain ⟨_, _, h, _⟩ := ridesR_mem hl hc r hr
  rw [h]
  exact pairs_small (waits_small hl hc r.1)
theorem longRaw_ok {l : Lf} {cs : List Cl} (hl : l.ok) (hc : CsOk cs) : Cov (fun n => longOf (waitF cs (ridesF cs (runF l cs n).1)) n) none 8 (longRaw cs (ridesR l cs)) ∧ EndB 6400 (longRaw cs (ridesR l cs)) ∧ (longRaw cs (ridesR l cs)).length ≤ 6400 := by
  have hE : EndB 6400 (longRaw cs (ridesR l cs)) := EndB.flat fun r hr => by
    obtain ⟨h1, h2, h3, h4, h5⟩ := ridesR_mem hl hc r hr
    exact EndB.mapL (bySigns_end h1 h2 (fun f hf => iabs_le (wait_sub hl hc r hr f hf)) (Int.le_refl _) (fun e he => by have := h5 e he; omega))
  have hC : Cov (fun n => longOf (waitF cs (ridesF cs (runF l cs n).1)) n) none 8 (longRaw cs (ridesR l cs)) := by
    refine cov_sub (ridesR_cov hl hc).1 fun r hr => ?_
    obtain ⟨h1, h2, h3, h4, h5⟩ := ridesR_mem hl hc r hr
    have hB : ∀ f ∈ allPairs (waitF cs r.2.2), iabs f.2 ≤ 6400 := fun f hf => iabs_le (wait_sub hl hc r hr f hf)
    refine cov_mapL (bySigns_cov h1 h2 hB (by decide)) fun q hq n n1 n2 => ?_
    obtain ⟨y1, y2, y3, y4⟩ := bySigns_mem h1 h2 hB (by decide) q hq
    obtain ⟨_, _, z3⟩ := (bySigns_cov h1 h2 hB (by decide)).mem q hq
    obtain ⟨_, _, w3⟩ := (ridesR_cov hl hc).1.mem r hr
    rw [(w3 n (Int.le_trans y1 n1) (z3 n n1 n2).2).1]
    unfold longOf lastOf
    rw [greatest_const (y4 n n1 n2)]
  have := hC.len hE (by decide)
  exact ⟨hC, hE, by omega⟩
abbrev eLong (q : Nat × Form) : D := .tup [eN q.1, eF q.2]
abbrev restLong (q : Nat × Form) : List D := [eN q.1, eF q.2]
theorem long_beq (a b : Nat × Form) : D.beq (eLong a) (eLong b) = decide (a = b) := pair_beq beq_eN eqF_beq a b
theorem enc_long : EncOk eLong := ⟨fun a => rfl, long_beq⟩
theorem enc_restLong : EncL restLong := ⟨fun a => rfl, long_beq⟩
theorem longF_ok {l : Lf} {cs : List Cl} (hl : l.ok) (hc : CsOk cs) : Cov (fun n => longOf (waitF cs (ridesF cs (runF l cs n).1)) n) none 8 (longF l cs) ∧ Adj (longF l cs) ∧ EndB 6400 (longF l cs) := by
  obtain ⟨hC, hE, _⟩ := longRaw_ok hl hc
  exact ⟨(join_cov hC).1, (join_cov hC).2, hE.join⟩
def emptyF (l : Lf) (cs : List Cl) : List (Row Form) := joinF ((joinF (runRows l cs)).map fun r => (r.1, r.2.1, r.2.2.2))
theorem emptyF_ok {l : Lf} {cs : List Cl} (hl : l.ok) (hc : CsOk cs) : Cov (fun n => (runF l cs n).2.1) none 8 (emptyF l cs) ∧ Adj (emptyF l cs) ∧ EndB 3300 (emptyF l cs) := by
  have h := join_cov (cov_map (fun p : List Stop × Form => p.2) (join_cov (runRows_cov hl hc)).1)
  exact ⟨h.1, h.2, ((tableF_end hl hc).map (fun p : List Stop × Form => p.2)).join⟩
end LF

/-! Tab9: several tables at once. -/
namespace LF
open AF
section
variable {τ β : Type}
theorem EndB.inter {B : Int} {rows : List (Row τ)} {others : List (Row β)} (h1 : EndB B rows) (h2 : EndB B others) : EndB B (interF rows others) := fun r hr e he => by
  obtain ⟨a, ha, hq⟩ := List.mem_flatMap.mp hr
  obtain ⟨b, hb, hc⟩ := List.mem_filterMap.mp hq
  clear hq
  rw [show interRow a b = if hiLeB (if a.1 > b.1 then a.1 else b.1) (lesserEnd a.2.1 b.2.1) then some (if a.1 > b.1 then a.1 else b.1, lesserEnd a.2.1 b.2.1, (a.2.2, b.2.2)) else none from rfl] at hc
  generalize (if a.1 > b.1 then a.1 else b.1) = lo at hc
  by_cases hq : hiLeB lo (lesserEnd a.2.1 b.2.1) = true
  · rw [if_pos hq] at hc
    cases hc
    simp only at he
    cases e1 : a.2.1 with
    | none =>
      rw [e1] at he
      exact h2 b hb e he
    | some x =>
      cases e2 : b.2.1 with
      | none =>
        rw [e1, e2] at he
        cases he
        exact h1 a ha e e1
      | some y =>
        rw [e1, e2] at he
        have he : (if x < y then some x else some y) = some e := he
        by_cases hxy : x < y
        · rw [if_pos hxy] at he; cases he; exact h1 a ha e e1
        · rw [if_neg hxy] at he; cases he; exact h2 b hb e e2
  · rw [if_neg hq] at hc; cases hc
abbrev ePair (f : τ → D) (g : β → D) (p : τ × β) : D := .tup [f p.1, g p.2]
end
/-! the greatest one is so -/
theorem greatest_spec (fs : List Form) (n : Int) : ∀ f ∈ fs, worth f n ≤ worth ((fs[greatestOf fs n]?).getD (0, 0)) n := by
  have key : ∀ (L : List (Nat × Form)) (b : Nat), (∀ q ∈ L, (fs[q.1]?).getD (0, 0) = q.2) → worth ((fs[b]?).getD (0, 0)) n ≤ worth ((fs[L.foldl (gStep fs n) b]?).getD (0, 0)) n ∧ ∀ q ∈ L, worth q.2 n ≤ worth ((fs[L.foldl (gStep fs n) b]?).getD (0, 0)) n := by
    intro L
    induction L with
    | nil => intro b _; exact ⟨Int.le_refl _, fun q hq => by cases hq⟩
    | cons q L ih =>
      intro b hL
      rw [List.foldl_cons]
      have hq := hL q List.mem_cons_self
      obtain ⟨i1, i2⟩ := ih (gStep fs n b q) fun z hz => hL z (List.mem_cons_of_mem _ hz)
      have hstep : worth ((fs[b]?).getD (0, 0)) n ≤ worth ((fs[gStep fs n b q]?).getD (0, 0)) n ∧ worth q.2 n ≤ worth ((fs[gStep fs n b q]?).getD (0, 0)) n := by
        unfold gStep
        rw [worth_sub]
        split
        · rw [hq]; constructor <;> omega
        · constructor <;> omega
      refine ⟨Int.le_trans hstep.1 i1, fun z hz => ?_⟩
      rcases List.mem_cons.mp hz with e | e
      · subst e; exact Int.le_trans hstep.2 i1
      · exact i2 z e
  intro f hf
  obtain ⟨j, hj, e⟩ := List.mem_iff_getElem.mp hf
  have hm : (j, f) ∈ enumP 0 fs := mem_enumP.mpr ⟨Nat.zero_le _, by rw [Nat.sub_zero, List.getElem?_eq_getElem hj, e]⟩
  exact (key (enumP 0 fs) 0 (fun q hq => by
    have := (mem_enumP.mp hq).2
    rw [Nat.sub_zero] at this
    rw [this]; rfl)).2 (j, f) hm
/-! rules and ways -/
inductive Bw where
  | first | near | scan | down | up
deriving DecidableEq
def wBw : Bw → List Nat
  | .first => [102, 105, 114, 115, 116]
  | .near => [110, 101, 97, 114]
  | .scan => [115, 99, 97, 110]
  | .down => [100, 111, 119, 110]
  | .up => [117, 112]
abbrev eBw (w : Bw) : D := .str (wBw w)
abbrev eWs (L : List Bw) : D := .tup (L.map eBw)
theorem bw_beq (a b : Bw) : D.beq (eBw a) (eBw b) = decide (a = b) := by cases a <;> cases b <;> decide
theorem bw_pl (k : Nat) (a : Bw) : plD (k + 1) (eBw a) = true := by cases a <;> rfl
theorem enc_ws : EncOk eWs := ⟨fun a => (plT 19 _).trans (pl_map (bw_pl 18) a), fun a b => beqs_map bw_beq a b⟩
theorem enc_wsl : EncL fun a => [eWs a] := enc_ws.l fun a => (plT 18 _).trans (pl_map (bw_pl 17) a)
def negs (fs : List Form) : List Form := fs.map fun f => fsub (0, 0) f
def bestForm (fs : List Form) (n : Int) : Form := (fs[greatestOf (negs fs) n]?).getD (0, 0)
def bestWords (ws : List Bw) (fs : List Form) (n : Int) : List Bw := ((ws.zip fs).filter fun p => decide (worth (fsub p.2 (bestForm fs n)) n = 0)).map (·.1)
theorem negs_len (fs : List Form) : (negs fs).length = fs.length := by rw [negs, List.length_map]
theorem best_mem {fs : List Form} (n : Int) (h : fs ≠ []) : bestForm fs n ∈ fs := by
  have hl := greatest_lt (fs := negs fs) n (by intro e; exact h (by have := congrArg List.length e; rw [negs_len] at this; exact List.length_eq_zero_iff.mp this))
  rw [negs_len] at hl
  unfold bestForm
  rw [List.getElem?_eq_getElem hl]
  exact List.getElem_mem hl
theorem best_le (fs : List Form) (n : Int) (h : fs ≠ []) : ∀ f ∈ fs, worth (bestForm fs n) n ≤ worth f n := by
  intro f hf
  have := greatest_spec (negs fs) n (fsub (0, 0) f) (List.mem_map_of_mem hf)
  have hl := greatest_lt (fs := negs fs) n (by intro e; exact h (by have := congrArg List.length e; rw [negs_len] at this; exact List.length_eq_zero_iff.mp this))
  rw [negs_len] at hl
  have e : ((negs fs)[greatestOf (negs fs) n]?).getD (0, 0) = fsub (0, 0) (bestForm fs n) := by
    unfold bestForm
    rw [negs, List.getElem?_map, ← negs, List.getElem?_eq_getElem hl]; rfl
  rw [e, worth_sub, worth_sub] at this
  omega
theorem best_const (ws : List Bw) {fs : List Form} {n m : Int} (h : SameSg (allPairs fs) n m) : bestWords ws fs m = bestWords ws fs n := by
  have hneg : SameSg (allPairs (negs fs)) n m := by
    intro f hf
    obtain ⟨a, ha, hb⟩ := List.mem_flatMap.mp hf
    obtain ⟨c, hc, rfl⟩ := List.mem_map.mp hb
    obtain ⟨a', ha', rfl⟩ := List.mem_map.mp ha
    obtain ⟨c', hc', rfl⟩ := List.mem_map.mp hc
    have := h _ (pair_mem hc' ha')
    rw [worth_sub, worth_sub] at this
    rw [worth_sub, worth_sub, worth_sub, worth_sub, worth_sub, worth_sub]
    rw [show worth (0, 0) m - worth a' m - (worth (0, 0) m - worth c' m) = worth c' m - worth a' m by omega, show worth (0, 0) n - worth a' n - (worth (0, 0) n - worth c' n) = worth c' n - worth a' n by omega]
    exact this
  have hb : bestForm fs m = bestForm fs n := by unfold bestForm; rw [greatest_const hneg]
  unfold bestWords
  rw [hb]
  congr 1
  refine List.filter_congr fun p hp => ?_
  have hp2 : p.2 ∈ fs := (List.of_mem_zip hp).2
  have hne : fs ≠ [] := fun e => by rw [e] at hp2; cases hp2
  have := (sgn_le (h _ (pair_mem hp2 (best_mem n hne)))).2.2.2.2
  simp [this]
def initF (t : List (Row Form)) : List (Row (List Form)) := t.map fun r => (r.1, r.2.1, [r.2.2])
def addF (rows : List (Row (List Form))) (o : List (Row Form)) : List (Row (List Form)) := (interF rows o).map fun r => (r.1, r.2.1, r.2.2.1 ++ [r.2.2.2])
structure TabOk (B : Int) {τ : Type} (F : Int → τ) (rows : List (Row τ)) : Prop where
  c : Cov F none 8 rows
  e : EndB B rows
theorem TabOk.len {B : Int} {τ : Type} {F : Int → τ} {rows : List (Row τ)} (h : TabOk B F rows) (hB : 7 ≤ B) : rows.length ≤ (B - 6).toNat := by
  have := h.c.len h.e (by omega)
  omega
theorem TabOk.inter {B : Int} {τ β : Type} {F : Int → τ} {G : Int → β} {rows : List (Row τ)} {o : List (Row β)} (h1 : TabOk B F rows) (h2 : TabOk B G o) : TabOk B (fun n => (F n, G n)) (interF rows o) :=
  ⟨inter_cov h2.c (Int.le_refl _) h1.c, h1.e.inter h2.e⟩
theorem TabOk.map {B : Int} {τ β : Type} {F : Int → τ} {rows : List (Row τ)} (h : TabOk B F rows) (g : τ → β) : TabOk B (fun n => g (F n)) (rows.map fun r => (r.1, r.2.1, g r.2.2)) :=
  ⟨cov_map g h.c, h.e.map g⟩
theorem TabOk.init {B : Int} {F : Int → Form} {rows : List (Row Form)} (h : TabOk B F rows) : TabOk B (fun n => [F n]) (initF rows) := h.map fun f => [f]
theorem TabOk.add {B : Int} {F : Int → List Form} {G : Int → Form} {rows : List (Row (List Form))} {o : List (Row Form)} (h1 : TabOk B F rows) (h2 : TabOk B G o) : TabOk B (fun n => F n ++ [G n]) (addF rows o) := (h1.inter h2).map fun p => p.1 ++ [p.2]
def bestRaw (ws : List Bw) (rows : List (Row (List Form))) : List (Row (List Bw)) := rows.flatMap fun r => (bySigns r.1 r.2.1 (allPairs r.2.2)).map fun q => (q.1, q.2.1, bestWords ws r.2.2 q.1)
/-- what a row of a table tells -/
theorem TabOk.mem {B : Int} {τ : Type} {F : Int → τ} {rows : List (Row τ)} (h : TabOk B F rows) (hB : 7 ≤ B) : ∀ r ∈ rows, 8 ≤ r.1 ∧ hiLe r.1 r.2.1 ∧ r.2.2 = F r.1 ∧ r.1 ≤ B + 1 ∧ (∀ e, r.2.1 = some e → e ≤ B) := fun r hr => by
  obtain ⟨h1, h2, h3⟩ := h.c.mem r hr
  have := h.c.lowB h.e r hr
  exact ⟨h1, h2, ((h3 r.1 (Int.le_refl _) h2).1).symm, by omega, h.e r hr⟩
theorem bestRaw_ok (ws : List Bw) {F : Int → List Form} {rows : List (Row (List Form))} (h : TabOk 4400 F rows) (hs : ∀ n, ∀ f ∈ F n, Small 2200 f) : TabOk 4400 (fun n => bestWords ws (F n) n) (bestRaw ws rows) := by
  have hp : ∀ r ∈ rows, ∀ f ∈ allPairs r.2.2, iabs f.2 ≤ 4400 := fun r hr f hf => by
    obtain ⟨_, _, e, _⟩ := h.mem (by decide) r hr
    rw [e] at hf
    exact iabs_le (pairs_small (hs r.1) f hf)
  constructor
  · refine cov_sub h.c fun r hr => ?_
    obtain ⟨h1, h2, h3, h4, h5⟩ := h.mem (by decide) r hr
    refine cov_mapL (bySigns_cov h1 h2 (hp r hr) (by decide)) fun q hq n n1 n2 => ?_
    obtain ⟨y1, y2, y3, y4⟩ := bySigns_mem h1 h2 (hp r hr) (by decide) q hq
    obtain ⟨_, _, z3⟩ := (bySigns_cov h1 h2 (hp r hr) (by decide)).mem q hq
    obtain ⟨_, _, w3⟩ := h.c.mem r hr
    rw [(w3 n (Int.le_trans y1 n1) (z3 n n1 n2).2).1]
    exact best_const ws (y4 n n1 n2)
  · exact EndB.flat fun r hr => by
      obtain ⟨h1, h2, h3, h4, h5⟩ := h.mem (by decide) r hr
      exact EndB.mapL (bySigns_end h1 h2 (hp r hr) (Int.le_refl _) (fun e he => by have := h5 e he; omega))
theorem endF_tab {l : Lf} {cs : List Cl} (hl : l.ok) (hc : CsOk cs) : TabOk 4400 (endAt l cs) (endF l cs) := ⟨(endF_cov hl hc).1, (endF_cov hl hc).2.2⟩
theorem endAt_small {l : Lf} {cs : List Cl} (hl : l.ok) (hc : CsOk cs) (n : Int) : Small 2200 (endAt l cs n) := by
  unfold endAt
  split
  · unfold Small; decide
  · rename_i h0
    have hne : offs (ridesF cs (runF l cs n).1) ≠ [] := fun z => h0 (List.length_eq_zero_iff.mp (by rw [← offs_len cs (runF l cs n).1, z]; rfl))
    have hlt := greatest_lt n hne
    unfold lastOf
    rw [List.getElem?_eq_getElem hlt]
    exact offs_small hl hc n _ (List.getElem_mem hlt)
end LF

/-! Txt: plain laws of texts: split and join by one sign, digits. -/
namespace AF
open PySem
/-- the parts between the signs c -/
def spl1 (c : Nat) : List Nat → List (List Nat)
  | [] => [[]]
  | d :: r => if d = c then [] :: spl1 c r else (match spl1 c r with
    | [] => [[d]]
    | p :: ps => (d :: p) :: ps)
theorem spl1_ne (c : Nat) : ∀ a, spl1 c a ≠ []
  | [] => by simp [spl1]
  | d :: r => by
    unfold spl1
    split
    · simp
    · split <;> simp
theorem pre1 (c d : Nat) (r : List Nat) : TL.pre [c] (d :: r) = decide (d = c) := by
  simp [TL.pre]
  cases h : decide (d = c) <;> simp_all
theorem spl_1 (c : Nat) : ∀ (a acc : List Nat), TL.spl [c] 0 acc a = (match spl1 c a with | [] => [acc] | p :: ps => (acc ++ p) :: ps)
  | [], acc => by simp [TL.spl, spl1]
  | d :: r, acc => by
    have ih := spl_1 c r
    simp only [TL.spl, pre1, List.length_singleton, Nat.sub_self]
    by_cases h : d = c
    · rw [if_pos (by simpa using h), ih]
      simp only [spl1, if_pos h]
      cases e : spl1 c r with
      | nil => exact absurd e (spl1_ne c r)
      | cons p ps => simp
    · rw [if_neg (by simpa using h), ih]
      simp only [spl1, if_neg h]
      cases e : spl1 c r with
      | nil => exact absurd e (spl1_ne c r)
      | cons p ps => simp
theorem spl_eq (c : Nat) (a : List Nat) : TL.spl [c] 0 [] a = spl1 c a := by
  rw [spl_1]
  cases e : spl1 c a with
  | nil => exact absurd e (spl1_ne c a)
  | cons p ps => simp
theorem join_cons (c : Nat) (p : List Nat) {ps : List (List Nat)} (h : ps ≠ []) : TL.joinL [c] (p :: ps) = p ++ c :: TL.joinL [c] ps := by
  cases ps with
  | nil => exact absurd rfl h
  | cons q qs => simp [TL.joinL]
/-- what is split and joined again is as it was -/
theorem join_spl (c : Nat) : ∀ a : List Nat, TL.joinL [c] (spl1 c a) = a
  | [] => rfl
  | d :: r => by
    have ih := join_spl c r
    have ne := spl1_ne c r
    unfold spl1
    split
    · rename_i h
      rw [join_cons c [] ne, ih, h]; rfl
    · cases e : spl1 c r with
      | nil => exact absurd e ne
      | cons p ps =>
        rw [e] at ih
        show TL.joinL [c] ((d :: p) :: ps) = d :: r
        cases ps with
        | nil =>
          simp only [TL.joinL] at ih ⊢
          rw [ih]
        | cons q qs =>
          rw [join_cons c _ (by simp)] at ih ⊢
          rw [List.cons_append, ih]
theorem spl1_free (c : Nat) : ∀ a : List Nat, ∀ p ∈ spl1 c a, c ∉ p
  | [], p, h => by
    simp [spl1] at h; subst h; simp
  | d :: r, p, h => by
    have ih := spl1_free c r
    unfold spl1 at h
    split at h
    · rcases List.mem_cons.mp h with h | h
      · subst h; simp
      · exact ih p h
    · rename_i hd
      cases e : spl1 c r with
      | nil => exact absurd e (spl1_ne c r)
      | cons q qs =>
        rw [e] at h
        rcases List.mem_cons.mp h with h | h
        · subst h
          intro z
          rcases List.mem_cons.mp z with z | z
          · exact hd z.symm
          · exact ih q (by rw [e]; exact List.mem_cons_self) z
        · exact ih p (by rw [e]; exact List.mem_cons_of_mem _ h)
theorem spl1_join {c : Nat} {parts : List (List Nat)} (hne : parts ≠ []) (h : ∀ p ∈ parts, c ∉ p) : spl1 c (TL.joinL [c] parts) = parts := by
  rw [← spl_eq]; exact TL.spl_join hne h
/-! ### numbers as texts -/
theorem strI_nat (n : Nat) : strI (n : Int) = TL.numL n := TL.tl_num n
theorem toStr_strI (i : Int) : toStr (strI i) = Str.ofString (toString i) := by simp [toStr, strI]
theorem int_strI {n : Nat} (h : n < 10 ^ 10) : PySem.intText? (toStr (strI n)) = some (n : Int) := by
  rw [toStr_strI]
  exact TL.int_num (Nat.le_trans (TL.numL_len (k := 10) (by decide) h) (by decide))
theorem strI_dig {n : Nat} : ∀ c ∈ strI (n : Int), 48 ≤ c ∧ c ≤ 57 := by
  rw [strI_nat]; exact TL.numL_digits n
theorem strI_ne {n : Nat} : strI (n : Int) ≠ [] := by rw [strI_nat]; exact TL.numL_ne n
theorem strI_len {n k : Nat} (hk : 0 < k) (h : n < 10 ^ k) : (strI (n : Int)).length ≤ k := by rw [strI_nat]; exact TL.numL_len hk h
theorem strI_inj {m n : Nat} (h : strI (m : Int) = strI (n : Int)) : m = n := by
  rw [strI_nat, strI_nat] at h; exact TL.numL_inj h
/-- a text of digits as a number -/
theorem int_dig {w : List Nat} (h : ∀ c ∈ w, 48 ≤ c ∧ c ≤ 57) (h1 : w ≠ []) (h2 : w.length ≤ 4300) : PySem.intText? (toStr w) = some ((PySem.NumText.digitsVal w : Nat) : Int) := by
  have e : (toStr w).cps.toList = w := by simp [toStr]
  have := PySem.intText_digits (x := toStr w) (by rw [e]; exact h) (by rw [e]; exact h1) (by simpa [toStr, Str.length] using h2)
  rw [e] at this
  exact this
end AF

/-! Ev: one step of the evaluator each. -/
namespace AF
section
variable {kn : Kn} {ρ : Env} {st st1 st2 : Store} {a b c : E} {es : Es} {x y : D} {r : R D}
theorem ee_cmp {op : CO} (h1 : evE kn a ρ st = .ok x st1) (h2 : evE kn b ρ st1 = .ok y st2) (h3 : cmp op x y st2 = r) : evE kn (.cmp op a b) ρ st = r := by
  rw [evE, h1]; simp only [R.bind_ok, h2, h3]
theorem ee_bin {op : BO} {m : Bool} (h1 : evE kn a ρ st = .ok x st1) (h2 : evE kn b ρ st1 = .ok y st2) (h3 : bin op m x y st2 = r) : evE kn (.bin op m a b) ρ st = r := by
  rw [evE, h1]; simp only [R.bind_ok, h2, h3]
theorem ee_idx (h1 : evE kn a ρ st = .ok x st1) (h2 : evE kn b ρ st1 = .ok y st2) (h3 : idx x y st2 = r) : evE kn (.idx a b) ρ st = r := by
  rw [evE, h1]; simp only [R.bind_ok, h2, h3]
theorem ee_call {f : Nat} {ds : List D} (h1 : evEs kn es ρ st = .ok ds st1) (h2 : kn.call f ds st1 = r) : evE kn (.call f es) ρ st = r := by
  rw [evE, h1]; simp only [R.bind_ok, h2]
theorem ee_blt {f : BF} {m : Bool} {ds : List D} (h1 : evEs kn es ρ st = .ok ds st1) (h2 : blt f m ds st1 = r) : evE kn (.blt f m es) ρ st = r := by
  rw [evE, h1]; simp only [R.bind_ok, h2]
theorem ee_not (h1 : evE kn a ρ st = .ok (.bl v) st1) : evE kn (.not a) ρ st = .ok (.bl !v) st1 := by
  rw [evE, h1]; rfl
theorem ee_or_t (h1 : evE kn a ρ st = .ok (.bl true) st1) : evE kn (.or a b) ρ st = .ok (.bl true) st1 := by
  rw [evE, h1]; rfl
theorem ee_or_f (h1 : evE kn a ρ st = .ok (.bl false) st1) (h2 : evE kn b ρ st1 = r) : evE kn (.or a b) ρ st = r := by
  rw [evE, h1]; exact h2
theorem ee_and_f (h1 : evE kn a ρ st = .ok (.bl false) st1) : evE kn (.and a b) ρ st = .ok (.bl false) st1 := by
  rw [evE, h1]; rfl
theorem ee_and_t (h1 : evE kn a ρ st = .ok (.bl true) st1) (h2 : evE kn b ρ st1 = r) : evE kn (.and a b) ρ st = r := by
  rw [evE, h1]; exact h2
theorem ee_ite_t (h1 : evE kn c ρ st = .ok (.bl true) st1) (h2 : evE kn a ρ st1 = r) : evE kn (.ite c a b) ρ st = r := by
  rw [evE, h1]; exact h2
theorem ee_ite_f (h1 : evE kn c ρ st = .ok (.bl false) st1) (h2 : evE kn b ρ st1 = r) : evE kn (.ite c a b) ρ st = r := by
  rw [evE, h1]; exact h2
theorem ee_tup {ds : List D} (h1 : evEs kn es ρ st = .ok ds st1) : evE kn (.tup es) ρ st = .ok (.tup ds) st1 := by
  rw [evE, h1]; rfl
theorem ee_lst {ds : List D} (h1 : evEs kn es ρ st = .ok ds st1) : evE kn (.lst false es) ρ st = .ok (.lst ds) st1 := by
  rw [evE, h1]; rfl
theorem es_nil : evEs kn .nil ρ st = .ok [] st := by rw [evEs]
theorem es_cons {e : E} {ds : List D} (h1 : evE kn e ρ st = .ok x st1) (h2 : evEs kn es ρ st1 = .ok ds st2) : evEs kn (.cons e es) ρ st = .ok (x :: ds) st2 := by
  rw [evEs, h1]; simp only [R.bind_ok, h2]
theorem ee_var {i : Nat} (h : ρ[i]? = some (some x)) : evE kn (.var i) ρ st = .ok x st := by rw [evE, h]
theorem ss_if_t {s r : Ss} (h : evE kn c ρ st = .ok (.bl true) st1) : evS kn (.ite c s r) ρ st = evSs kn s ρ st1 := by
  rw [evS, h]; rfl
theorem ss_if_f {s r : Ss} (h : evE kn c ρ st = .ok (.bl false) st1) : evS kn (.ite c s r) ρ st = evSs kn r ρ st1 := by
  rw [evS, h]; rfl
/-- a test that does not hold, with nothing for it -/
theorem ss_skip {s : Ss} (h : evE kn c ρ st = .ok (.bl false) st1) : evS kn (.ite c s .nil) ρ st = .ok .next ρ st1 := by
  rw [ss_if_f h]; rfl
theorem ss_asg {t : Tg} {e : E} {ρ' : Env} (h : evE kn e ρ st = .ok x st1) (h2 : asg t x ρ = some ρ') : evS kn (.asg t e) ρ st = .ok .next ρ' st1 := by
  rw [evS, h]; simp only [lift_ok, h2]
theorem ss_ret' {e : E} (h : evE kn e ρ st = .ok x st1) : evS kn (.ret e) ρ st = .ok (.ret x) ρ st1 := by
  rw [evS, h]; rfl
theorem ss_expr {e : E} (h : evE kn e ρ st = .ok x st1) : evS kn (.expr e) ρ st = .ok .next ρ st1 := by
  rw [evS, h]; rfl
theorem ee_slc {lo hi : Oe} {l h : Option Int} {st3 : Store} (h1 : evE kn a ρ st = .ok x st1) (h2 : evOe kn lo ρ st1 = .ok l st2) (h3 : evOe kn hi ρ st2 = .ok h st3) (h4 : slc x l h st3 = r) : evE kn (.slc a lo hi) ρ st = r := by
  rw [evE, h1]; simp only [R.bind_ok, h2, h3, h4]
theorem ss_last {s : S} {ρ' : Env} (h : evS kn s ρ st = .ok .next ρ' st1) : evSs kn (.cons s .nil) ρ st = .ok .next ρ' st1 := by
  rw [ss_next h]; rfl
theorem cmp_eqb {d e : D} {b : Bool} (h : eqD st d e = some b) : cmp .eq d e st = .ok (.bl b) st := by simp only [cmp, h]
theorem cmp_neb {d e : D} {b : Bool} (h : eqD st d e = some b) : cmp .ne d e st = .ok (.bl (!b)) st := by simp only [cmp, h]
theorem ss_whl {s : Ss} {q : SR} (h : evWhile (evE kn c) (evSs kn s) kn.fuel ρ st = q) : evS kn (.whl c s) ρ st = q := by
  rw [evS]; exact h
theorem ss_for {tg : Tg} {it : It} {s : Ss} {sr : Src} {q : SR} (h : evIt kn it ρ st = .ok sr st1) (h2 : evFor sr.gs tg (evSs kn s) sr.its ρ st1 = q) : evS kn (.for_ tg it s) ρ st = q := by
  rw [evS, h]; exact h2
theorem it_of {d : D} {sr : R Src} (h : evE kn a ρ st = .ok d st1) (h2 : srcOf d st1 = sr) : evIt kn (.of a) ρ st = sr := by
  rw [evIt, h]; exact h2
theorem ee_lc {own : List Nat} {tg : Tg} {it : It} {oc : Oe} {e : E} {sr : Src} {l : List D} {m : Bool} (h : evIt kn it ρ st = .ok sr st1) (h2 : evLc sr.gs tg (evOc kn oc) (evE kn e) (wipeE ρ own) sr.its [] st1 = .ok l st2) : evE kn (.lc m own tg it oc e) ρ st = mkL m l st2 := by
  rw [evE, h]; simp only [R.bind_ok, h2]
theorem ne_same {d : D} (h : eqD st d d = some true) : cmp .ne d d st = .ok (.bl false) st := by simp only [cmp, h]; rfl
theorem eq_yes {d e : D} (h : eqD st d e = some true) : cmp .eq d e st = .ok (.bl true) st := by simp only [cmp, h]
end
theorem evLc2_map {α β : Type} {gs : List (Nat × List D)} {tg tg1 : Tg} {own1 : List Nat} {src : Env → Store → R Src} {e : Env → Store → R D} {ρ : Env} {st : Store} (enc1 : α → D) (enc2 : β → D) (ys : α → List β) (g : α → β → D) (hg : guard gs st = true) :
    ∀ (xs : List α) (acc : List D), acc.length + (xs.flatMap ys).length ≤ LIM → (∀ x ∈ xs, ∃ ρ1, asg tg (enc1 x) ρ = some ρ1 ∧ src ρ1 st = .ok ⟨(ys x).map enc2, []⟩ st ∧ ∀ y ∈ ys x, ∃ ρ2, asg tg1 (enc2 y) (wipeE ρ1 own1) = some ρ2 ∧ e ρ2 st = .ok (g x y) st) →
      evLc2 gs tg src own1 tg1 e ρ (xs.map enc1) acc st = .ok (acc ++ xs.flatMap fun x => (ys x).map (g x)) st
  | [], acc, _, _ => by simp [evLc2, hg]
  | x :: xs, acc, hl, h => by
    obtain ⟨ρ1, h1, h2, h3⟩ := h x List.mem_cons_self
    rw [List.flatMap_cons, List.length_append] at hl
    rw [List.map_cons, evLc2, if_pos hg, h1]
    simp only [h2]
    rw [evLc_map (gs := []) enc2 (fun _ => true) (g x) rfl (ys x) acc (by omega) (fun y hy => by
      obtain ⟨ρ2, w1, w2⟩ := h3 y hy
      exact ⟨ρ2, w1, rfl, fun _ => w2⟩), List.filter_eq_self.mpr fun _ _ => rfl]
    simp only
    rw [evLc2_map enc1 enc2 ys g hg xs _ (by rw [List.length_append, List.length_map]; omega) fun y hy => h y (List.mem_cons_of_mem _ hy)]
    rw [List.flatMap_cons, List.append_assoc]
end AF

/-! Abs: the evaluator over numbers a * v.v + b, v between two bounds; what it finds holds for each v. -/
namespace AF
open PySem
structure Rng where
  lo : Int
  hi : Int
def lin (a b : Int) : D := if a = 0 then .int b else .exn 0 [.int a, .int b]
def asLin : D → Option (Int × Int)
  | .int b => some (0, b)
  | .exn 0 [.int a, .int b] => some (a, b)
  | _ => none
/-- the number, and what stands in the store ahead -/
structure Sh where
  v : Int
  pre : Store
mutual
def gm (v : Sh) : D → D
  | .exn c fs => (match asLin (.exn c fs) with | some (a, b) => .int (a * v.v + b) | none => .exn c fs)
  | .tup l => .tup (gms v l)
  | .lst l => .lst (gms v l)
  | .non => .non
  | .bl b => .bl b
  | .int i => .int i
  | .str x => .str x
  | .scr ns => .scr ns
  | .ref n => .ref (v.pre.length + n)
  | .glo n => .glo n
def gms (v : Sh) : List D → List D
  | [] => []
  | d :: r => gm v d :: gms v r
end
def gmO (v : Sh) : Ob → Ob
  | .lst l => .lst (gms v l)
  | .ins c fs => .ins c (fs.map fun p => (p.1, gm v p.2))
def gmS (v : Sh) (st : Store) : Store := v.pre ++ st.map (gmO v)
def gmE (v : Sh) (ρ : Env) : Env := ρ.map (Option.map (gm v))
def gmF (v : Sh) : Fl → Fl
  | .ret d => .ret (gm v d)
  | f => f
section
variable {v : Sh}
theorem gms_map : ∀ l : List D, gms v l = l.map (gm v)
  | [] => by simp [gms]
  | d :: r => by simp [gms, gms_map r]
theorem gms_len (l : List D) : (gms v l).length = l.length := by rw [gms_map]; simp
theorem gms_app (l k : List D) : gms v (l ++ k) = gms v l ++ gms v k := by rw [gms_map, gms_map, gms_map]; simp
theorem gms_get (l : List D) (i : Nat) : (gms v l)[i]? = (l[i]?).map (gm v) := by rw [gms_map]; simp
theorem lin_gm (a b : Int) : gm v (lin a b) = .int (a * v.v + b) := by
  unfold lin
  split
  · rename_i h; subst h; simp [gm]
  · simp [gm, asLin]
theorem asLin_gm {d : D} {a b : Int} (h : asLin d = some (a, b)) : gm v d = .int (a * v.v + b) := by
  unfold asLin at h
  split at h
  · cases h; simp [gm]
  · cases h; simp [gm, asLin]
  · cases h
theorem gmS_get (st : Store) (n : Nat) : (gmS v st)[v.pre.length + n]? = (st[n]?).map (gmO v) := by unfold gmS; rw [List.getElem?_append_right (by omega)]; simp
theorem gmS_len (st : Store) : (gmS v st).length = v.pre.length + st.length := by unfold gmS; simp
theorem gmS_app (st : Store) (o : Ob) : gmS v (st ++ [o]) = gmS v st ++ [gmO v o] := by unfold gmS; simp
theorem gmS_set (st : Store) (n : Nat) (o : Ob) : gmS v (st.set n o) = (gmS v st).set (v.pre.length + n) (gmO v o) := by unfold gmS; rw [List.set_append_right _ _ (by omega), List.map_set]; congr 2; omega
theorem gmE_get (ρ : Env) (i : Nat) : (gmE v ρ)[i]? = (ρ[i]?).map (Option.map (gm v)) := by unfold gmE; simp
theorem gmE_len (ρ : Env) : (gmE v ρ).length = ρ.length := by unfold gmE; simp
theorem gmE_set (ρ : Env) (i : Nat) (d : D) : gmE v (ρ.set i (some d)) = (gmE v ρ).set i (some (gm v d)) := by unfold gmE; rw [List.map_set]; rfl
theorem gmE_set0 (ρ : Env) (i : Nat) : gmE v (ρ.set i none) = (gmE v ρ).set i none := by unfold gmE; rw [List.map_set]; rfl
theorem gmE_wipe (ρ : Env) : ∀ vs : List Nat, gmE v (wipeE ρ vs) = wipeE (gmE v ρ) vs
  | [] => rfl
  | i :: vs => by simp only [wipeE]; rw [gmE_set0, gmE_wipe ρ vs]
theorem gmE_env (n : Nat) (ds : List D) : gmE v (envOf n ds) = envOf n (gms v ds) := by
  unfold envOf gmE
  rw [List.map_append, List.map_map, List.map_replicate, gms_len, gms_map]
  simp [Function.comp_def]
theorem lstOf_gm (st : Store) (d : D) : lstOf (gmS v st) (gm v d) = (lstOf st d).map (gms v) := by
  cases d with
  | lst l => rfl
  | ref n =>
    simp only [gm, lstOf]
    rw [gmS_get]
    cases st[n]? with
    | none => rfl
    | some o => cases o <;> rfl
  | exn c fs =>
    simp only [gm]
    split <;> rfl
  | _ => rfl
theorem seqOf_gm (st : Store) (d : D) : seqOf (gmS v st) (gm v d) = (seqOf st d).map (gms v) := by
  cases d with
  | tup l => rfl
  | exn c fs =>
    simp only [gm]
    split <;> rfl
  | lst l => rfl
  | ref n => exact lstOf_gm (v := v) st (.ref n)
  | _ => rfl
end
/-! ### signs -/
def gt0 (r : Rng) (a b : Int) : Option Bool := if 0 < a * r.lo + b ∧ 0 < a * r.hi + b then some true else if a * r.lo + b ≤ 0 ∧ a * r.hi + b ≤ 0 then some false else none
def eq0 (r : Rng) (a b : Int) : Option Bool := if a = 0 then some (b == 0) else if (0 < a * r.lo + b ∧ 0 < a * r.hi + b) ∨ (a * r.lo + b < 0 ∧ a * r.hi + b < 0) then some false else none
structure In (r : Rng) (v : Int) : Prop where
  lo : r.lo ≤ v
  hi : v ≤ r.hi
section
variable {r : Rng} {v : Sh} (hv : In r v.v)
include hv
theorem between (a b : Int) : (a * r.lo + b ≤ a * v.v + b ∧ a * v.v + b ≤ a * r.hi + b) ∨ (a * r.hi + b ≤ a * v.v + b ∧ a * v.v + b ≤ a * r.lo + b) := by
  rcases Int.le_total 0 a with h | h
  · exact .inl ⟨Int.add_le_add_right (Int.mul_le_mul_of_nonneg_left hv.lo h) b, Int.add_le_add_right (Int.mul_le_mul_of_nonneg_left hv.hi h) b⟩
  · exact .inr ⟨Int.add_le_add_right (Int.mul_le_mul_of_nonpos_left h hv.hi) b, Int.add_le_add_right (Int.mul_le_mul_of_nonpos_left h hv.lo) b⟩
theorem gt0_ok {a b : Int} {c : Bool} (h : gt0 r a b = some c) : decide (0 < a * v.v + b) = c := by
  unfold gt0 at h
  have bt := between hv a b
  split at h
  · cases h; simp only [decide_eq_true_eq]; omega
  · split at h
    · cases h; simp only [decide_eq_false_iff_not]; omega
    · cases h
theorem eq0_ok {a b : Int} {c : Bool} (h : eq0 r a b = some c) : decide (a * v.v + b = 0) = c := by
  unfold eq0 at h
  have bt := between hv a b
  split at h
  · rename_i e; subst e; cases h; simp; rfl
  · split at h
    · cases h; simp only [decide_eq_false_iff_not]; omega
    · cases h
end
/-! ### equality -/
/-- plain data, numbers a * v.v + b too -/
def plA : Nat → D → Bool
  | 0, _ => false
  | k + 1, d => match d with
    | .non => true
    | .str x => cpsOk x
    | .tup l => l.all (plA k)
    | .lst l => l.all (plA k)
    | d => (asLin d).isSome
theorem plA_ok {v : Sh} : ∀ (k : Nat) (d : D), plA k d = true → plD k (gm v d) = true
  | 0, _, h => by simp [plA] at h
  | k + 1, d, h => by
    have hl : ∀ l : List D, l.all (plA k) = true → (gms v l).all (plD k) = true := fun l hl => by
      rw [gms_map, List.all_map]
      exact List.all_eq_true.mpr fun a ha => plA_ok k a (List.all_eq_true.mp hl a ha)
    cases d <;> simp only [plA] at h <;> first | (simp [asLin] at h; done) | skip
    · simp [gm, plD]
    · simp [gm, plD]
    · simpa [gm, plD] using h
    · simpa [gm, plD] using hl _ h
    · simpa [gm, plD] using hl _ h
    · obtain ⟨⟨a, b⟩, e⟩ := Option.isSome_iff_exists.mp h
      rw [asLin_gm e]; simp [plD]
mutual
def beqA (r : Rng) : D → D → Option Bool
  | .tup l, .tup m => beqsA r l m
  | .lst l, .lst m => beqsA r l m
  | .non, .non => some true
  | .str x, .str y => some (x == y)
  | a, b => (match asLin a, asLin b with
    | some p, some q => eq0 r (p.1 - q.1) (p.2 - q.2)
    | _, _ => none)
def beqsA (r : Rng) : List D → List D → Option Bool
  | [], [] => some true
  | [], _ :: _ => some false
  | _ :: _, [] => some false
  | a :: x, b :: y => (match beqA r a b with
    | some true => beqsA r x y
    | some false => some false
    | none => none)
end
theorem sub_lin (a b c d v : Int) : a * v + b - (c * v + d) = (a - c) * v + (b - d) := by rw [Int.sub_mul]; omega
section
variable {r : Rng} {v : Sh} (hv : In r v.v)
include hv
theorem beq_lin {a b : D} {c : Bool} (h : (match asLin a, asLin b with | some p, some q => eq0 r (p.1 - q.1) (p.2 - q.2) | _, _ => none) = some c) : D.beq (gm v a) (gm v b) = c := by
  split at h
  · rename_i p q e1 e2
    rw [asLin_gm e1, asLin_gm e2]
    have := eq0_ok hv h
    rw [← sub_lin] at this
    simp only [D.beq]
    rw [← this]
    by_cases z : p.1 * v.v + p.2 = q.1 * v.v + q.2
    · rw [z]; simp
    · have : ¬ (p.1 * v.v + p.2 - (q.1 * v.v + q.2) = 0) := by omega
      simp [z, this]
  · cases h
mutual
theorem beqA_ok : ∀ (a b : D) {c : Bool}, beqA r a b = some c → D.beq (gm v a) (gm v b) = c
  | .tup l, b, c, h => by
    cases b <;> simp only [beqA] at h <;> first | (simpa [gm, D.beq] using beqsA_ok l _ h) | (exact beq_lin hv h) | (simp [asLin] at h)
  | .lst l, b, c, h => by
    cases b <;> simp only [beqA] at h <;> first | (simpa [gm, D.beq] using beqsA_ok l _ h) | (exact beq_lin hv h) | (simp [asLin] at h)
  | .non, b, c, h => by
    cases b <;> simp only [beqA] at h <;> first | (cases h; simp [gm, D.beq]; done) | (exact beq_lin hv h) | (simp [asLin] at h)
  | .str x, b, c, h => by
    cases b <;> simp only [beqA] at h <;> first | (cases h; simp [gm, D.beq]; done) | (exact beq_lin hv h) | (simp [asLin] at h)
  | .bl x, b, c, h => by simp only [beqA] at h; exact beq_lin hv h
  | .int x, b, c, h => by simp only [beqA] at h; exact beq_lin hv h
  | .scr x, b, c, h => by simp only [beqA] at h; exact beq_lin hv h
  | .ref x, b, c, h => by simp only [beqA] at h; exact beq_lin hv h
  | .glo x, b, c, h => by simp only [beqA] at h; exact beq_lin hv h
  | .exn x y, b, c, h => by simp only [beqA] at h; exact beq_lin hv h
theorem beqsA_ok : ∀ (a b : List D) {c : Bool}, beqsA r a b = some c → D.beqs (gms v a) (gms v b) = c
  | [], [], c, h => by simp only [beqsA] at h; cases h; simp [gms, D.beqs]
  | [], _ :: _, c, h => by simp only [beqsA] at h; cases h; simp [gms, D.beqs]
  | _ :: _, [], c, h => by simp only [beqsA] at h; cases h; simp [gms, D.beqs]
  | a :: x, b :: y, c, h => by
    simp only [beqsA] at h
    split at h
    · rename_i e
      simp only [gms, D.beqs, beqA_ok a b e, Bool.true_and]
      exact beqsA_ok x y h
    · rename_i e
      cases h
      simp only [gms, D.beqs, beqA_ok a b e, Bool.false_and]
    · cases h
end
end
/-- a list of the store, as a frozen one -/
def drf (st : Store) (d : D) : D := match d with
  | .ref n => (match st[n]? with | some (.lst l) => .lst l | _ => d)
  | d => d
theorem drf_look (st : Store) (d : D) : look st (drf st d) = look st d := by
  unfold drf look
  split
  · rename_i n
    split
    · rename_i l e
      show py st (23 + 1) (.lst l) = py st (23 + 1) (.ref n)
      rw [py_lst, py, e]
    · rfl
  · rfl
theorem drf_gm {v : Sh} (st : Store) (d : D) : drf (gmS v st) (gm v d) = gm v (drf st d) := by
  cases d with
  | ref n =>
    simp only [gm, drf]
    rw [gmS_get]
    cases e : st[n]? with
    | none => rfl
    | some o => cases o <;> rfl
  | exn c fs =>
    show drf _ (gm v (.exn c fs)) = gm v (.exn c fs)
    simp only [gm]
    cases asLin (.exn c fs) <;> rfl
  | _ => rfl
def eqA (r : Rng) (st : Store) (a b : D) : Option Bool := match a, b with
  | .bl x, .bl y => some (x == y)
  | a, b => if plA 24 (drf st a) && plA 24 (drf st b) then beqA r (drf st a) (drf st b) else none
theorem eqA_ok {r : Rng} {v : Sh} (hv : In r v.v) {st : Store} {a b : D} {c : Bool} (h : eqA r st a b = some c) : eqD (gmS v st) (gm v a) (gm v b) = some c := by
  unfold eqA at h
  split at h
  · cases h
    simp only [gm, eqD]
    have e : ∀ z : Bool, look (gmS v st) (.bl z) = some (.bool z) := fun z => py_bl _ _ _
    rw [e, e]
    simp only [PyData.eqv]
  split at h
  · rename_i hp
    simp only [Bool.and_eq_true] at hp
    have e := eqD_pl (gmS v st) (plA_ok (v := v) 24 _ hp.1) (plA_ok (v := v) 24 _ hp.2)
    rw [← drf_gm, ← drf_gm] at e
    unfold eqD at e ⊢
    rw [drf_look, drf_look] at e
    rw [e, drf_gm, drf_gm, beqA_ok hv _ _ h]
  · cases h
/-- one of some items -/
def anyA (r : Rng) (a : D) : List D → Option Bool
  | [] => some false
  | z :: l => (match beqA r z a with
    | some true => some true
    | some false => anyA r a l
    | none => none)
theorem anyA_ok {r : Rng} {v : Sh} (hv : In r v.v) {a : D} : ∀ {l : List D} {c : Bool}, anyA r a l = some c → ((gms v l).any fun z => D.beq z (gm v a)) = c
  | [], c, h => by simp only [anyA] at h; cases h; simp [gms]
  | z :: l, c, h => by
    simp only [anyA] at h
    split at h
    · rename_i e
      cases h
      simp [gms, beqA_ok hv _ _ e]
    · rename_i e
      simp only [gms, List.any_cons, beqA_ok hv _ _ e, Bool.false_or]
      exact anyA_ok hv h
    · cases h
def inA (r : Rng) (st : Store) (a b : D) : Option Bool := match seqOf st b with
  | some l => if plA 23 a && l.all (plA 23) then anyA r a l else none
  | none => none
theorem inA_ok {r : Rng} {v : Sh} (hv : In r v.v) {st : Store} {a b : D} {c : Bool} (h : inA r st a b = some c) : inD (gmS v st) (gm v a) (gm v b) = some c := by
  unfold inA at h
  split at h
  · rename_i l hl
    split at h
    · rename_i hp
      simp only [Bool.and_eq_true] at hp
      have h1 := plA_ok (v := v) 23 _ hp.1
      have h2 : (gms v l).all (plD 23) = true := by
        rw [gms_map, List.all_map]
        exact List.all_eq_true.mpr fun z hz => plA_ok 23 z (List.all_eq_true.mp hp.2 z hz)
      have h3 := anyA_ok hv h
      cases b <;> simp only [seqOf, lstOf] at hl <;> first | (cases hl; done) | skip
      · cases hl
        simp only [gm]
        rw [inD_plT _ h1 h2, h3]
      · cases hl
        simp only [gm]
        rw [inD_plL _ h1 h2, h3]
      · rename_i n
        split at hl
        · rename_i l' e
          cases hl
          simp only [gm]
          rw [inD_plR _ (by rw [gmS_get, e]; rfl) h1 h2, h3]
        · cases hl
    · cases h
  · cases h
end AF

/-! Abs2: operations. -/
namespace AF
open PySem
def UpG {α β : Type} (g : α → β) (v : Sh) (r : Option (α × Store)) (q : R β) : Prop := ∀ a st, r = some (a, st) → q = .ok (g a) (gmS v st)
def bindA {α β : Type} (r : Option (α × Store)) (f : α → Store → Option (β × Store)) : Option (β × Store) := match r with
  | some (a, st) => f a st
  | none => none
abbrev Up (v : Sh) (r : Option (D × Store)) (q : R D) : Prop := UpG (gm v) v r q
section
variable {v : Sh}
theorem up_bind {α β α' β' : Type} {g : α → α'} {g' : β → β'} {r : Option (α × Store)} {q : R α'} {f : α → Store → Option (β × Store)} {f' : α' → Store → R β'} (h : UpG g v r q) (k : ∀ a st, UpG g' v (f a st) (f' (g a) (gmS v st))) : UpG g' v (bindA r f) (q.bind f') := by
  intro b st e
  cases r with
  | none => cases e
  | some p =>
    obtain ⟨a, s⟩ := p
    rw [h a s rfl, R.bind_ok]
    exact k a s b st e
theorem up_none {α β : Type} {g : α → β} {q : R β} : UpG g v none q := fun _ _ e => by cases e
theorem up_ok {α β : Type} {g : α → β} {a : α} {st : Store} {q : R β} (h : q = .ok (g a) (gmS v st)) : UpG g v (some (a, st)) q := fun _ _ e => by cases e; exact h
end
def mkA (m : Bool) (l : List D) (st : Store) : Option (D × Store) := if m then some (.ref st.length, st ++ [.lst l]) else some (.lst l, st)
theorem up_mk {v : Sh} {m : Bool} {l : List D} {st : Store} : Up v (mkA m l st) (mkL m (gms v l) (gmS v st)) := by
  unfold mkA mkL
  cases m with
  | true => exact up_ok (by simp only [if_true, gmS_app, gmO, gm, gmS_len])
  | false => exact up_ok (by simp [gm])
theorem bin_lst {m : Bool} {x y : D} {p q : List D} {st : Store} (h1 : lstOf st x = some p) (h2 : lstOf st y = some q) : bin .add m x y st = if p.length + q.length ≤ LIM then mkL m (p ++ q) st else .bad := by
  cases x <;> simp only [lstOf] at h1 <;> first | (cases h1; done) | skip
  · cases h1
    cases y <;> simp only [lstOf] at h2 <;> first | (cases h2; done) | skip
    · cases h2; rfl
    · simp only [bin, lstOf, h2]
  · cases y <;> simp only [lstOf] at h2 <;> first | (cases h2; done) | skip
    · cases h2; simp only [bin, lstOf, h1]
    · simp only [bin, lstOf, h1, h2]
def linA (op : BO) (a b c d : Int) : Option D := match op with
  | .add => some (lin (a + c) (b + d))
  | .sub => some (lin (a - c) (b - d))
  | .mul => if a = 0 ∧ small64 b = true then some (lin (b * c) (b * d)) else if c = 0 ∧ small64 d = true then some (lin (a * d) (b * d)) else none
  | .fdiv => if c = 0 ∧ 0 < d ∧ d < 10 ^ 100 ∧ a % d = 0 then some (lin (a / d) (b / d)) else none
  | .mod => if a = 0 ∧ c = 0 ∧ 0 < d then some (.int (b % d)) else none
  | .pow => if a = 0 ∧ c = 0 ∧ 0 ≤ d ∧ d ≤ 1000 ∧ small64 b = true then some (.int (b ^ d.toNat)) else none
theorem linA_ok {v : Sh} {op : BO} {m : Bool} {a b c d : Int} {z : D} {st : Store} (h : linA op a b c d = some z) : bin op m (.int (a * v.v + b)) (.int (c * v.v + d)) st = .ok (gm v z) st := by
  cases op <;> simp only [linA] at h
  · cases h; simp only [bin, lin_gm, Int.add_mul]; congr 2; omega
  · cases h; simp only [bin, lin_gm, Int.sub_mul]; congr 2; omega
  · split at h
    · rename_i hc
      cases h
      obtain ⟨rfl, hs⟩ := hc
      simp only [bin, lin_gm, Int.zero_mul, Int.zero_add, hs, Bool.true_or, if_true]
      congr 2
      rw [Int.mul_add, Int.mul_assoc]
    · split at h
      · rename_i hc
        cases h
        obtain ⟨rfl, hs⟩ := hc
        simp only [bin, lin_gm, Int.zero_mul, Int.zero_add, hs, Bool.or_true, if_true]
        congr 2
        rw [Int.add_mul, Int.mul_assoc, Int.mul_assoc, Int.mul_comm v.v d]
      · cases h
  · split at h
    · rename_i hc
      cases h
      obtain ⟨rfl, h1, h2, h3⟩ := hc
      have hb : bin .fdiv m (.int (a * v.v + b)) (.int d) st = .ok (.int ((a * v.v + b) / d)) st := by
        simp only [bin]; rw [if_pos ⟨h1, h2⟩]
      have e : (0 : Int) * v.v + d = d := by omega
      rw [e, hb, lin_gm]
      congr 2
      have ha : a = d * (a / d) := by have := Int.emod_add_mul_ediv a d; omega
      rw [show a * v.v + b = b + d * (a / d * v.v) by rw [← Int.mul_assoc, ← ha]; omega, Int.add_mul_ediv_left _ _ (by omega : d ≠ 0)]
      omega
    · cases h
  · split at h
    · rename_i hc
      cases h
      obtain ⟨rfl, rfl, h1⟩ := hc
      simp [bin, gm, h1]
    · cases h
  · split at h
    · rename_i hc
      cases h
      obtain ⟨rfl, rfl, h1, h2, h3⟩ := hc
      simp [bin, gm, h1, h2, h3]
    · cases h
def binA (op : BO) (m : Bool) (x y : D) (st : Store) : Option (D × Store) := match asLin x, asLin y with
  | some p, some q => (match linA op p.1 p.2 q.1 q.2 with | some z => some (z, st) | none => none)
  | _, _ => (match op with
    | .add => (match x, y with
      | .tup p, .tup q => if p.length + q.length ≤ LIM then some (.tup (p ++ q), st) else none
      | .str p, .str q => if p.length + q.length ≤ LIM then some (.str (p ++ q), st) else none
      | x, y => (match lstOf st x, lstOf st y with
        | some p, some q => if p.length + q.length ≤ LIM then mkA m (p ++ q) st else none
        | _, _ => none))
    | _ => none)
theorem up_bin {v : Sh} {op : BO} {m : Bool} {x y : D} {st : Store} : Up v (binA op m x y st) (bin op m (gm v x) (gm v y) (gmS v st)) := by
  unfold binA
  split
  · rename_i p q e1 e2
    split
    · rename_i z hz
      rw [asLin_gm e1, asLin_gm e2]
      exact up_ok (linA_ok hz)
    · exact up_none
  · split
    · split
      · rename_i p q
        split
        · rename_i hl
          refine up_ok ?_
          simp only [gm, bin, gms_len, gms_app]; rw [if_pos hl]
        · exact up_none
      · rename_i p q
        split
        · rename_i hl
          refine up_ok ?_
          simp only [gm, bin]; rw [if_pos hl]
        · exact up_none
      · split
        · rename_i p q h1 h2
          split
          · rename_i hl
            have e := bin_lst (m := m) (st := gmS v st) (x := gm v x) (y := gm v y) (p := gms v p) (q := gms v q) (by rw [lstOf_gm, h1]; rfl) (by rw [lstOf_gm, h2]; rfl)
            rw [e, gms_len, gms_len, if_pos hl, ← gms_app]
            exact up_mk
          · exact up_none
        · exact up_none
    · exact up_none
theorem isNon_gm {v : Sh} (d : D) : isNon (gm v d) = isNon d := by
  cases d <;> simp only [gm] <;> first | rfl | (split <;> rfl)
def cmpA (r : Rng) (op : CO) (a b : D) (st : Store) : Option (D × Store) := match op with
  | .eq => (match eqA r st a b with | some c => some (.bl c, st) | none => none)
  | .ne => (match eqA r st a b with | some c => some (.bl (!c), st) | none => none)
  | .lt => (match asLin a, asLin b with | some p, some q => (match gt0 r (q.1 - p.1) (q.2 - p.2) with | some c => some (.bl c, st) | none => none) | _, _ => none)
  | .le => (match asLin a, asLin b with | some p, some q => (match gt0 r (p.1 - q.1) (p.2 - q.2) with | some c => some (.bl (!c), st) | none => none) | _, _ => none)
  | .gt => (match asLin a, asLin b with | some p, some q => (match gt0 r (p.1 - q.1) (p.2 - q.2) with | some c => some (.bl c, st) | none => none) | _, _ => none)
  | .ge => (match asLin a, asLin b with | some p, some q => (match gt0 r (q.1 - p.1) (q.2 - p.2) with | some c => some (.bl (!c), st) | none => none) | _, _ => none)
  | .isin => (match inA r st a b with | some c => some (.bl c, st) | none => none)
  | .notin => (match inA r st a b with | some c => some (.bl (!c), st) | none => none)
  | .is_ => (match b with
    | .non => some (.bl (isNon a), st)
    | .bl c => (match a with | .bl d => some (.bl (d == c), st) | .non => some (.bl false, st) | _ => none)
    | _ => none)
  | .isnot => (match b with
    | .non => some (.bl (!isNon a), st)
    | _ => none)
theorem up_cmp {r : Rng} {v : Sh} (hv : In r v.v) {op : CO} {a b : D} {st : Store} : Up v (cmpA r op a b st) (cmp op (gm v a) (gm v b) (gmS v st)) := by
  cases op <;> simp only [cmpA]
  · split
    · rename_i c e; exact up_ok (by simp only [cmp, eqA_ok hv e, gm])
    · exact up_none
  · split
    · rename_i c e; exact up_ok (by simp only [cmp, eqA_ok hv e, gm])
    · exact up_none
  · split
    · rename_i p q e1 e2
      split
      · rename_i c e
        refine up_ok ?_
        have := gt0_ok hv e
        rw [← sub_lin] at this
        rw [asLin_gm e1, asLin_gm e2]
        simp only [cmp, gm, ← this]
        congr 3
        exact propext (by omega)
      · exact up_none
    · exact up_none
  · split
    · rename_i p q e1 e2
      split
      · rename_i c e
        refine up_ok ?_
        have := gt0_ok hv e
        rw [← sub_lin] at this
        rw [asLin_gm e1, asLin_gm e2]
        simp only [cmp, gm, ← this, ← decide_not]
        congr 3
        exact propext (by omega)
      · exact up_none
    · exact up_none
  · split
    · rename_i p q e1 e2
      split
      · rename_i c e
        refine up_ok ?_
        have := gt0_ok hv e
        rw [← sub_lin] at this
        rw [asLin_gm e1, asLin_gm e2]
        simp only [cmp, gm, ← this]
        congr 3
        exact propext (by omega)
      · exact up_none
    · exact up_none
  · split
    · rename_i p q e1 e2
      split
      · rename_i c e
        refine up_ok ?_
        have := gt0_ok hv e
        rw [← sub_lin] at this
        rw [asLin_gm e1, asLin_gm e2]
        simp only [cmp, gm, ← this, ← decide_not]
        congr 3
        exact propext (by omega)
      · exact up_none
    · exact up_none
  · split
    · rename_i c e; exact up_ok (by simp only [cmp, inA_ok hv e, gm])
    · exact up_none
  · split
    · rename_i c e; exact up_ok (by simp only [cmp, inA_ok hv e, gm])
    · exact up_none
  · split
    · exact up_ok (by simp only [cmp, gm, isNon_gm])
    · split
      · exact up_ok (by simp only [cmp, gm])
      · exact up_ok (by simp only [cmp, gm])
      · exact up_none
    · exact up_none
  · split
    · exact up_ok (by simp only [cmp, gm, isNon_gm])
    · exact up_none
theorem item_gm {v : Sh} (l : List D) (i : Int) : itemAt (gms v l) i = (itemAt l i).map (gm v) := by
  unfold itemAt
  rw [gms_len]
  cases ixI l.length i with
  | none => rfl
  | some j => exact gms_get l j
def idxA (a b : D) (st : Store) : Option (D × Store) := match b with
  | .int i => (match a with
    | .str x => if x.length ≤ LIM then (match itemAt x i with | some c => some (.str [c], st) | none => none) else none
    | a => (match seqOf st a with
      | some l => (match itemAt l i with | some d => some (d, st) | none => none)
      | none => none))
  | _ => none
theorem idx_seq {a : D} {l : List D} {i : Int} {d : D} {st : Store} (h : seqOf st a = some l) (e : itemAt l i = some d) : idx a (.int i) st = .ok d st := by
  cases a <;> simp only [seqOf, lstOf] at h <;> first | (cases h; done) | skip
  · cases h; simp only [idx, seqOf, e]
  · cases h; simp only [idx, seqOf, lstOf, e]
  · simp only [idx, seqOf, lstOf, h, e]
theorem up_idx {v : Sh} {a b : D} {st : Store} : Up v (idxA a b st) (idx (gm v a) (gm v b) (gmS v st)) := by
  unfold idxA
  split
  · rename_i i
    split
    · rename_i x
      split
      · rename_i hl
        split
        · rename_i c e
          refine up_ok ?_
          simp only [gm, idx, hl, e, if_true]
        · exact up_none
      · exact up_none
    · split
      · rename_i l hl
        split
        · rename_i d e
          refine up_ok ?_
          simp only [gm]
          exact idx_seq (by rw [seqOf_gm, hl]; rfl) (by rw [item_gm, e]; rfl)
        · exact up_none
      · exact up_none
  · exact up_none
theorem cut_gm {v : Sh} (l : List D) (lo hi : Option Int) : cut (gms v l) lo hi = gms v (cut l lo hi) := by
  unfold cut
  rw [gms_len, gms_map, gms_map, ← List.map_drop, ← List.map_take]
def slcA (a : D) (lo hi : Option Int) (st : Store) : Option (D × Store) := match a with
  | .tup l => some (.tup (cut l lo hi), st)
  | .str x => if x.length ≤ LIM then some (.str (cut x lo hi), st) else none
  | d => (match lstOf st d with
    | some l => some (.lst (cut l lo hi), st)
    | none => none)
theorem up_slc {v : Sh} {a : D} {lo hi : Option Int} {st : Store} : Up v (slcA a lo hi st) (slc (gm v a) lo hi (gmS v st)) := by
  unfold slcA
  split
  · exact up_ok (by simp only [gm, slc, cut_gm])
  · split
    · rename_i h; exact up_ok (by simp only [gm, slc, h, if_true])
    · exact up_none
  · split
    · rename_i l hl
      refine up_ok ?_
      have e : lstOf (gmS v st) (gm v a) = some (gms v l) := by rw [lstOf_gm, hl]; rfl
      cases a <;> simp only [lstOf] at hl <;> first | (cases hl; done) | skip
      · cases hl; simp only [gm, slc, lstOf, cut_gm]
      · simp only [gm] at e ⊢
        simp only [slc, e, cut_gm]
    · exact up_none
/-! ### built-in functions -/
mutual
/-- without numbers a * v.v + b -/
def clo : D → Bool
  | .exn _ _ => false
  | .ref _ => false
  | .tup l => clos l
  | .lst l => clos l
  | _ => true
def clos : List D → Bool
  | [] => true
  | d :: l => clo d && clos l
end
mutual
theorem clo_gm {v : Sh} : ∀ d : D, clo d = true → gm v d = d
  | .exn _ _, h => by simp [clo] at h
  | .tup l, h => by simp only [clo] at h; simp only [gm, clos_gm l h]
  | .lst l, h => by simp only [clo] at h; simp only [gm, clos_gm l h]
  | .non, _ => by simp [gm]
  | .bl _, _ => by simp [gm]
  | .int _, _ => by simp [gm]
  | .str _, _ => by simp [gm]
  | .scr _, _ => by simp [gm]
  | .ref _, h => by simp [clo] at h
  | .glo _, _ => by simp [gm]
theorem clos_gm {v : Sh} : ∀ l : List D, clos l = true → gms v l = l
  | [], _ => by simp [gms]
  | d :: l, h => by
    simp only [clos, Bool.and_eq_true] at h
    simp only [gms, clo_gm d h.1, clos_gm l h.2]
end
theorem bools_gm {v : Sh} : ∀ {l : List D} {bs : List Bool}, bools l = some bs → gms v l = l
  | [], _, _ => by simp [gms]
  | d :: l, bs, h => by
    cases d <;> simp only [bools] at h <;> first | (cases h; done) | skip
    split at h
    · rename_i s e
      simp only [gms, gm, bools_gm e]
    · cases h
theorem ints_gm {v : Sh} : ∀ {l : List D} {bs : List Int}, intsOf l = some bs → gms v l = l
  | [], _, _ => by simp [gms]
  | d :: l, bs, h => by
    cases d <;> simp only [intsOf] at h <;> first | (cases h; done) | skip
    split at h
    · rename_i s e
      simp only [gms, gm, ints_gm e]
    · cases h
def linsOf : List D → Option (List (Int × Int))
  | [] => some []
  | d :: l => (match asLin d, linsOf l with
    | some p, some ps => some (p :: ps)
    | _, _ => none)
theorem linsOf_ok {v : Sh} : ∀ {l : List D} {ps : List (Int × Int)}, linsOf l = some ps → intsOf (gms v l) = some (ps.map fun p => p.1 * v.v + p.2)
  | [], ps, h => by cases h; simp [gms, intsOf]
  | d :: l, ps, h => by
    simp only [linsOf] at h
    split at h
    · rename_i p qs e1 e2
      cases h
      simp only [gms, asLin_gm e1, intsOf, linsOf_ok e2, List.map_cons]
    · cases h
def minP (r : Rng) (m : Int × Int) : List (Int × Int) → Option (Int × Int)
  | [] => some m
  | x :: l => (match gt0 r (m.1 - x.1) (m.2 - x.2) with
    | some true => minP r x l
    | some false => minP r m l
    | none => none)
theorem minP_ok {r : Rng} {v : Sh} (hv : In r v.v) : ∀ {l : List (Int × Int)} {m q : Int × Int}, minP r m l = some q → (l.map fun p => p.1 * v.v + p.2).foldl (fun m x => if x < m then x else m) (m.1 * v.v + m.2) = q.1 * v.v + q.2
  | [], m, q, h => by cases h; rfl
  | x :: l, m, q, h => by
    simp only [minP] at h
    simp only [List.map_cons, List.foldl_cons]
    split at h
    · rename_i e
      have := gt0_ok hv e
      rw [← sub_lin] at this
      simp only [decide_eq_true_eq] at this
      rw [if_pos (by omega)]
      exact minP_ok hv h
    · rename_i e
      have := gt0_ok hv e
      rw [← sub_lin] at this
      simp only [decide_eq_false_iff_not] at this
      rw [if_neg (by omega)]
      exact minP_ok hv h
    · cases h
def minA (r : Rng) (l : List D) : Option D := match linsOf l with
  | some (p :: ps) => (match minP r p ps with | some q => some (lin q.1 q.2) | none => none)
  | _ => none
theorem minA_ok {r : Rng} {v : Sh} (hv : In r v.v) {l : List D} {d : D} {st : Store} (h : minA r l = some d) : minD st (gms v l) = some (gm v d) := by
  unfold minA at h
  split at h
  · rename_i p ps e
    split at h
    · rename_i q e2
      cases h
      unfold minD
      rw [linsOf_ok e]
      simp only [List.map_cons, minI, Option.map_some, minP_ok hv e2, lin_gm]
    · cases h
  · cases h
def bltA (r : Rng) (f : BF) (m : Bool) (xs : List D) (st : Store) : Option (D × Store) := match f, xs with
  | .len, [d] => (match d with
    | .str x => if x.length ≤ LIM then some (.int x.length, st) else none
    | d => (match seqOf st d with | some l => some (.int l.length, st) | none => none))
  | .int, [d] => (match d with
    | .bl b => some (.int (if b then 1 else 0), st)
    | d => if (asLin d).isSome then some (d, st) else none)
  | .bool, [.bl b] => some (.bl b, st)
  | .abs, [d] => (match asLin d with
    | some p => (match gt0 r (-p.1) (-p.2) with
      | some true => some (lin (-p.1) (-p.2), st)
      | some false => some (lin p.1 p.2, st)
      | none => none)
    | none => none)
  | .min, [d] => (match lstOf st d with
    | some l => if l.length ≤ LIM then (match minA r l with | some e => some (e, st) | none => none) else none
    | none => none)
  | .sorted, [d] => (match seqOf st d with
    | some l => if l.length ≤ 60 ∧ clos l = true then (match sortD l with | some s => if clos s then mkA m s st else none | none => none) else none
    | none => none)
  | .tuple, [d] => (match seqOf st d with
    | some l => some (.tup l, st)
    | none => none)
  | .list, [d] => (match seqOf st d with | some l => mkA m l st | none => none)
  | .all, [d] => (match lstOf st d with | some l => (match bools l with | some bs => some (.bl (bs.all id), st) | none => none) | none => none)
  | .any, [d] => (match lstOf st d with | some l => (match bools l with | some bs => some (.bl (bs.any id), st) | none => none) | none => none)
  | _, _ => none
theorem seq_cases {st : Store} {d : D} {l : List D} (h : seqOf st d = some l) : d = .tup l ∨ lstOf st d = some l := by
  cases d <;> simp only [seqOf, lstOf] at h ⊢ <;> first | (cases h; done) | (cases h; exact .inl rfl) | exact .inr h
theorem up_blt {r : Rng} {v : Sh} (hv : In r v.v) {f : BF} {m : Bool} {xs : List D} {st : Store} : Up v (bltA r f m xs st) (blt f m (gms v xs) (gmS v st)) := by
  unfold bltA
  split
  · rename_i d
    split
    · rename_i x
      split
      · rename_i hl; exact up_ok (by simp only [gms, gm, blt, hl, if_true])
      · exact up_none
    · split
      · rename_i l hl
        refine up_ok ?_
        have e : seqOf (gmS v st) (gm v d) = some (gms v l) := by rw [seqOf_gm, hl]; rfl
        simp only [gms]
        cases d <;> simp only [seqOf, lstOf] at hl <;> first | (cases hl; done) | skip
        all_goals
          simp only [gm] at e ⊢
          simp only [blt, e, gms_len]
      · exact up_none
  · rename_i d
    split
    · exact up_ok (by simp only [gms, gm, blt])
    · split
      · rename_i e
        obtain ⟨⟨a, b⟩, e⟩ := Option.isSome_iff_exists.mp e
        exact up_ok (by simp only [gms, asLin_gm e, blt])
      · exact up_none
  · exact up_ok (by simp only [gms, gm, blt])
  · rename_i d
    split
    · rename_i p e
      have hn : ∀ c, gt0 r (-p.1) (-p.2) = some c → decide (p.1 * v.v + p.2 < 0) = c := fun c h => by
        have := gt0_ok hv h
        rw [← this]
        congr 1
        exact propext (by rw [Int.neg_mul]; omega)
      split
      · rename_i h
        have := hn _ h
        simp only [decide_eq_true_eq] at this
        refine up_ok ?_
        simp only [gms, asLin_gm e, blt, lin_gm, this, if_true]
        congr 2
        rw [Int.neg_mul]; omega
      · rename_i h
        have := hn _ h
        simp only [decide_eq_false_iff_not] at this
        refine up_ok ?_
        simp only [gms, asLin_gm e, blt, lin_gm, this, if_false]
      · exact up_none
    · exact up_none
  · rename_i d
    split
    · rename_i l hl
      split
      · rename_i hn
        split
        · rename_i e he
          refine up_ok ?_
          have e1 : lstOf (gmS v st) (gm v d) = some (gms v l) := by rw [lstOf_gm, hl]; rfl
          simp only [gms, blt, e1, gms_len, hn, if_true, minA_ok hv he]
        · exact up_none
      · exact up_none
    · exact up_none
  · rename_i d
    split
    · rename_i l hl
      split
      · rename_i hc
        split
        · rename_i s hs
          split
          · rename_i hs2
            have e1 : seqOf (gmS v st) (gm v d) = some l := by rw [seqOf_gm, hl]; exact congrArg some (clos_gm l hc.2)
            simp only [gms, blt, e1, hc.1, if_true, hs]
            have := up_mk (v := v) (m := m) (l := s) (st := st)
            rw [clos_gm s hs2] at this
            exact this
          · exact up_none
        · exact up_none
      · exact up_none
    · exact up_none
  · rename_i d
    split
    · rename_i l hl
      refine up_ok ?_
      rcases seq_cases hl with rfl | h
      · simp only [gms, gm, blt]
      · have e1 : lstOf (gmS v st) (gm v d) = some (gms v l) := by rw [lstOf_gm, h]; rfl
        simp only [gms]
        cases d <;> simp only [lstOf] at h <;> first | (cases h; done) | skip
        all_goals
          simp only [gm] at e1 ⊢
          simp only [blt, e1]
    · exact up_none
  · rename_i d
    split
    · rename_i l hl
      have e1 : seqOf (gmS v st) (gm v d) = some (gms v l) := by rw [seqOf_gm, hl]; rfl
      simp only [gms, blt, e1]
      exact up_mk
    · exact up_none
  · rename_i d
    split
    · rename_i l hl
      split
      · rename_i bs hb
        refine up_ok ?_
        have e1 : lstOf (gmS v st) (gm v d) = some l := by rw [lstOf_gm, hl]; exact congrArg some (bools_gm hb)
        simp only [gms, blt, e1, hb, gm]
      · exact up_none
    · exact up_none
  · rename_i d
    split
    · rename_i l hl
      split
      · rename_i bs hb
        refine up_ok ?_
        have e1 : lstOf (gmS v st) (gm v d) = some l := by rw [lstOf_gm, hl]; exact congrArg some (bools_gm hb)
        simp only [gms, blt, e1, hb, gm]
      · exact up_none
    · exact up_none
  · exact up_none
end AF

/-! Abs3: methods, instances, sources, loops. -/
namespace AF
open PySem
theorem look_bools {st : Store} {l : List D} {bs : List Bool} (h : bools l = some bs) : optAll (py st 23) l = some (bs.map .bool) := by
  induction l generalizing bs with
  | nil => cases h; rfl
  | cons d l ih =>
    cases d <;> simp only [bools] at h <;> first | (cases h; done) | skip
    split at h
    · rename_i s e
      cases h
      simp only [optAll, py_bl, ih e, List.map_cons]
    · cases h
theorem filt_bools (c : Bool) (bs : List Bool) : ((bs.map PyData.bool).filter fun z => PyData.eqv z (.bool c)).length = (bs.filter (· == c)).length := by
  induction bs with
  | nil => rfl
  | cons b bs ih =>
    simp only [List.map_cons, List.filter_cons, PyData.eqv]
    by_cases hb : (b == c) = true <;> simp [hb, ih]
def mthA (f : BM) (a : D) (xs : List D) (st : Store) : Option (D × Store) := match f, a, xs with
  | .append, .ref n, [d] => (match st[n]? with
    | some (.lst l) => if l.length < LIM then some (.non, st.set n (.lst (l ++ [d]))) else none
    | _ => none)
  | .count, d, [.bl c] => (match lstOf st d with
    | some l => (match bools l with | some bs => some (.int ((bs.filter (· == c)).length : Nat), st) | none => none)
    | none => none)
  | _, _, _ => none
theorem lst_look {st : Store} {d : D} {l : List D} (h : lstOf st d = some l) : look st d = (optAll (py st 23) l).map .list := by
  cases d <;> simp only [lstOf] at h <;> first | (cases h; done) | skip
  · cases h; exact py_lst _ _ _
  · split at h
    · rename_i e
      cases h
      show py st (23 + 1) (.ref _) = _
      rw [py, e]
    · cases h
theorem up_mth {v : Sh} {f : BM} {a : D} {xs : List D} {st : Store} : Up v (mthA f a xs st) (mth f (gm v a) (gms v xs) (gmS v st)) := by
  unfold mthA
  split
  · rename_i n d
    split
    · rename_i l e
      split
      · rename_i hl
        refine up_ok ?_
        have e1 : (gmS v st)[v.pre.length + n]? = some (.lst (gms v l)) := by rw [gmS_get, e]; rfl
        simp only [gm, gms, mth, e1, gms_len, hl, if_true, gmS_set, gmO, gms_app]
      · exact up_none
    · exact up_none
  · rename_i c
    split
    · rename_i l hl
      split
      · rename_i bs hb
        refine up_ok ?_
        have e1 : lstOf (gmS v st) (gm v a) = some l := by rw [lstOf_gm, hl]; exact congrArg some (bools_gm hb)
        have e2 := lst_look e1
        rw [look_bools hb] at e2
        have e3 : look (gmS v st) (.bl c) = some (.bool c) := py_bl _ _ _
        simp only [gms, gm, mth, e2, e3, Option.map_some, filt_bools]
      · exact up_none
    · exact up_none
  · exact up_none
def mthK : BM → Bool
  | .append => true
  | .count => true
  | _ => false
theorem recv_gm {v : Sh} {f : BM} {a : D} {st : Store} (h : mthK f = true) (hr : recvOk f a st = true) : recvOk f (gm v a) (gmS v st) = true := by
  cases f <;> first | (cases h; done) | skip
  all_goals
    simp only [recvOk] at hr ⊢
    rw [lstOf_gm]
    simpa using hr
def isiA (t : TY) (a : D) (st : Store) : Option Bool := match a with
  | .exn c fs => if (asLin (.exn c fs)).isSome then some (match t with | .int => true | _ => false) else none
  | a => isiD t a st
theorem isi_gm {v : Sh} {t : TY} {a : D} {st : Store} {b : Bool} (h : isiA t a st = some b) : isiD t (gm v a) (gmS v st) = some b := by
  unfold isiA at h
  split at h
  · split at h
    · rename_i e
      cases h
      obtain ⟨⟨x, y⟩, e⟩ := Option.isSome_iff_exists.mp e
      rw [asLin_gm e]; rfl
    · cases h
  · rename_i hne
    cases a <;> simp only [gm] <;> first | exact h | skip
    · rename_i n
      simp only [isiD] at h ⊢
      rw [gmS_get]
      cases e : st[n]? with
      | none => rw [e] at h; cases h
      | some o => rw [e] at h; cases o <;> first | exact h | (cases h)
    · exact absurd rfl (hne _ _)
/-! instances -/
def gmP (v : Sh) (fs : List (Nat × D)) : List (Nat × D) := fs.map fun p => (p.1, gm v p.2)
theorem ins_gm {v : Sh} (st : Store) (d : D) : insAt (gmS v st) (gm v d) = (insAt st d).map fun p => (p.1, gmP v p.2) := by
  cases d with
  | ref n =>
    simp only [gm, insAt]
    rw [gmS_get]
    cases st[n]? with
    | none => rfl
    | some o => cases o <;> rfl
  | exn c fs =>
    simp only [gm]
    split <;> rfl
  | _ => rfl
theorem lookup_gm {v : Sh} (f : Nat) : ∀ fs : List (Nat × D), (gmP v fs).lookup f = (fs.lookup f).map (gm v)
  | [] => rfl
  | (g, d) :: fs => by
    show List.lookup f ((g, gm v d) :: gmP v fs) = _
    simp only [List.lookup]
    cases (f == g) with
    | true => rfl
    | false => exact lookup_gm f fs
theorem put_gm {v : Sh} (f : Nat) (d : D) : ∀ fs : List (Nat × D), gmP v (putD f d fs) = putD f (gm v d) (gmP v fs)
  | [] => rfl
  | (g, e) :: fs => by
    show gmP v (putD f d ((g, e) :: fs)) = putD f (gm v d) ((g, gm v e) :: gmP v fs)
    simp only [putD]
    split
    · rfl
    · show (g, gm v e) :: gmP v (putD f d fs) = _
      rw [put_gm f d fs]
def fldA (c f : Nat) (d : D) (st : Store) : Option (D × Store) := match insAt st d with
  | some (k, fs) => if k == c then (match fs.lookup f with | some x => some (x, st) | none => none) else none
  | none => none
theorem up_fld {v : Sh} {c f : Nat} {d : D} {st : Store} : Up v (fldA c f d st) (fldI c f (gm v d) (gmS v st)) := by
  unfold fldA
  split
  · rename_i k fs e
    split
    · rename_i hk
      split
      · rename_i x hx
        refine up_ok ?_
        unfold fldI
        rw [ins_gm, e]
        simp only [Option.map_some, hk, if_true, lookup_gm, hx]
      · exact up_none
    · exact up_none
  · exact up_none
theorem insOk_gm {v : Sh} {c m : Nat} {d : D} {st : Store} (h : insOk c m d st = true) : insOk c m (gm v d) (gmS v st) = true := by
  unfold insOk at h ⊢
  rw [ins_gm]
  cases e : insAt st d with
  | none => rw [e] at h; cases h
  | some p =>
    obtain ⟨k, fs⟩ := p
    rw [e] at h
    simp only [Option.map_some, lookup_gm, Option.isNone_map]
    exact h
def setFA (c f : Nat) (x d : D) (st : Store) : Option Store := match x with
  | .ref n => (match st[n]? with
    | some (.ins k fs) => if k == c && decide (fs.length < 1000) then some (st.set n (.ins k (putD f d fs))) else none
    | _ => none)
  | _ => none
theorem setF_gm {v : Sh} {c f : Nat} {x d : D} {st st' : Store} (h : setFA c f x d st = some st') : setFI c f (gm v x) (gm v d) (gmS v st) = .ok () (gmS v st') := by
  unfold setFA at h
  split at h
  · rename_i n
    split at h
    · rename_i k fs e
      split at h
      · rename_i hk
        cases h
        simp only [gm, setFI]
        rw [gmS_get, e]
        simp only [Option.map_some, gmO, List.length_map, hk, if_true, gmS_set]
        congr 2
        have := put_gm (v := v) f d fs
        unfold gmP at this
        rw [this]
      · cases h
    · cases h
  · cases h
/-! targets, sources -/
mutual
theorem asg_gm {v : Sh} : ∀ (t : Tg) {d : D} {ρ ρ' : Env}, asg t d ρ = some ρ' → asg t (gm v d) (gmE v ρ) = some (gmE v ρ')
  | .name i, d, ρ, ρ', h => by
    simp only [asg] at h ⊢
    split at h
    · rename_i hl
      cases h
      rw [if_pos (by rw [gmE_len]; exact hl), gmE_set]
    · cases h
  | .tup ts, d, ρ, ρ', h => by
    simp only [asg] at h
    split at h
    · simp only [gm, asg]
      exact asgs_gm ts h
    · cases h
theorem asgs_gm {v : Sh} : ∀ (ts : List Tg) {ds : List D} {ρ ρ' : Env}, asgs ts ds ρ = some ρ' → asgs ts (gms v ds) (gmE v ρ) = some (gmE v ρ')
  | [], [], ρ, ρ', h => by simp only [asgs] at h; cases h; simp [asgs, gms]
  | [], _ :: _, _, _, h => by simp [asgs] at h
  | _ :: _, [], _, _, h => by simp [asgs] at h
  | t :: ts, d :: ds, ρ, ρ', h => by
    simp only [asgs] at h
    split at h
    · rename_i ρ1 e
      simp only [gms, asgs, asg_gm t e]
      exact asgs_gm ts h
    · cases h
end
def gmG (v : Sh) (gs : List (Nat × List D)) : List (Nat × List D) := gs.map fun p => (v.pre.length + p.1, gms v p.2)
theorem guard_gm {v : Sh} {gs : List (Nat × List D)} {st : Store} (h : guard gs st = true) : guard (gmG v gs) (gmS v st) = true := by
  unfold guard gmG at *
  rw [List.all_map]
  refine List.all_eq_true.mpr fun p hp => ?_
  have := List.all_eq_true.mp h p hp
  simp only [Function.comp_apply]
  unfold gOne at this ⊢
  rw [gmS_get]
  cases e : st[p.1]? with
  | none => rw [e] at this; cases this
  | some o =>
    rw [e] at this
    cases o with
    | lst l =>
      have := D.beqs_eq this
      subst this
      exact D.beqs_refl _
    | ins c fs => cases this
def gmSrc (v : Sh) (s : Src) : Src := ⟨gms v s.its, gmG v s.gs⟩
def srcA (d : D) (st : Store) : Option (Src × Store) := match d with
  | .tup l => some (⟨l, []⟩, st)
  | .lst l => some (⟨l, []⟩, st)
  | .ref n => (match st[n]? with | some (.lst l) => some (⟨l, [(n, l)]⟩, st) | _ => none)
  | _ => none
theorem up_src {v : Sh} {d : D} {st : Store} : UpG (gmSrc v) v (srcA d st) (srcOf (gm v d) (gmS v st)) := by
  unfold srcA
  split
  · exact up_ok (by simp only [gm, srcOf]; rfl)
  · exact up_ok (by simp only [gm, srcOf]; rfl)
  · split
    · rename_i l e
      refine up_ok ?_
      simp only [gm, srcOf]
      rw [gmS_get, e]
      rfl
    · exact up_none
  · exact up_none
theorem zip_gm {v : Sh} : ∀ l k : List D, zipD (gms v l) (gms v k) = gms v (zipD l k)
  | [], k => by simp [gms, zipD]
  | a :: l, [] => by simp [gms, zipD]
  | a :: l, b :: k => by simp only [gms, zipD, gm, zip_gm l k]
theorem enum_gm {v : Sh} : ∀ (n : Nat) (l : List D), enumD n (gms v l) = gms v (enumD n l)
  | n, [] => by simp [gms, enumD]
  | n, a :: l => by simp only [gms, enumD, gm, enum_gm (n + 1) l]
theorem rng_gm {v : Sh} : ∀ (n : Nat) (lo : Int), gms v (rngD lo n) = rngD lo n
  | 0, lo => by simp [gms, rngD]
  | n + 1, lo => by simp only [gms, rngD, gm, rng_gm n (lo + 1)]
def isLR : D → Bool
  | .lst _ => true
  | .ref _ => true
  | _ => false
def zipA (x y : D) (st : Store) : Option (Src × Store) := match x, y with
  | .tup l, .tup k => some (⟨zipD l k, []⟩, st)
  | x, y => if isLR x && isLR y then bindA (srcA x st) fun s st => bindA (srcA y st) fun t st => some (⟨zipD s.its t.its, s.gs ++ t.gs⟩, st) else none
def zipI (x y : D) (st : Store) : R Src := match x, y with
  | .tup l, .tup k => .ok ⟨zipD l k, []⟩ st
  | x, y => (match x, y with
    | .tup _, _ => .bad
    | _, .tup _ => .bad
    | x, y => (srcOf x st).bind fun s st => (srcOf y st).bind fun t st => .ok ⟨zipD s.its t.its, s.gs ++ t.gs⟩ st)
theorem up_zip {v : Sh} {x y : D} {st : Store} : UpG (gmSrc v) v (zipA x y st) (zipI (gm v x) (gm v y) (gmS v st)) := by
  unfold zipA
  split
  · exact up_ok (by simp only [gm, zipI, zip_gm]; rfl)
  · split
    · rename_i hx
      simp only [Bool.and_eq_true] at hx
      have e : zipI (gm v x) (gm v y) (gmS v st) = (srcOf (gm v x) (gmS v st)).bind fun s st => (srcOf (gm v y) st).bind fun t st => .ok ⟨zipD s.its t.its, s.gs ++ t.gs⟩ st := by
        obtain ⟨h1, h2⟩ := hx
        cases x <;> first | (simp [isLR] at h1; done) | skip
        all_goals
          cases y <;> first | (simp [isLR] at h2; done) | skip
          all_goals simp only [gm, zipI]
      rw [e]
      refine up_bind up_src fun s st => up_bind up_src fun t st => up_ok ?_
      simp only [gmSrc, zip_gm, gmG, List.map_append]
    · exact up_none
/-! loops -/
def UpS (v : Sh) (r : Option (Fl × Env × Store)) (q : SR) : Prop := ∀ f ρ st, r = some (f, ρ, st) → q = .ok (gmF v f) (gmE v ρ) (gmS v st)
def forA (gs : List (Nat × List D)) (tg : Tg) (body : Env → Store → Option (Fl × Env × Store)) : List D → Env → Store → Option (Fl × Env × Store)
  | [], ρ, st => if guard gs st then some (.next, ρ, st) else none
  | x :: xs, ρ, st => if guard gs st then (match asg tg x ρ with
      | none => none
      | some ρ1 => (match body ρ1 st with
        | some (.next, ρ2, st2) => forA gs tg body xs ρ2 st2
        | some (.cont, ρ2, st2) => forA gs tg body xs ρ2 st2
        | some (.brk, ρ2, st2) => some (.next, ρ2, st2)
        | some (.ret d, ρ2, st2) => some (.ret d, ρ2, st2)
        | none => none))
    else none
theorem ups_none {v : Sh} {q : SR} : UpS v none q := fun _ _ _ e => by cases e
theorem up_for {v : Sh} {gs : List (Nat × List D)} {tg : Tg} {body : Env → Store → Option (Fl × Env × Store)} {body' : Env → Store → SR} (hb : ∀ ρ st, UpS v (body ρ st) (body' (gmE v ρ) (gmS v st))) :
    ∀ (xs : List D) (ρ : Env) (st : Store), UpS v (forA gs tg body xs ρ st) (evFor (gmG v gs) tg body' (gms v xs) (gmE v ρ) (gmS v st))
  | [], ρ, st => by
    intro f ρ' st' h
    simp only [forA] at h
    split at h
    · rename_i g
      cases h
      simp only [gms, evFor, guard_gm g, if_true, gmF]
    · cases h
  | x :: xs, ρ, st => by
    intro f ρ' st' h
    simp only [forA] at h
    split at h
    · rename_i g
      split at h
      · cases h
      · rename_i ρ1 e1
        simp only [gms, evFor, guard_gm g, if_true, asg_gm tg e1]
        split at h
        · rename_i ρ2 st2 e2
          rw [hb ρ1 st _ _ _ e2]
          exact up_for hb xs ρ2 st2 _ _ _ h
        · rename_i ρ2 st2 e2
          rw [hb ρ1 st _ _ _ e2]
          exact up_for hb xs ρ2 st2 _ _ _ h
        · rename_i ρ2 st2 e2
          rw [hb ρ1 st _ _ _ e2]
          cases h
          simp only [gmF]
        · rename_i d ρ2 st2 e2
          rw [hb ρ1 st _ _ _ e2]
          cases h
          simp only [gmF]
        · cases h
    · cases h
def whlA (c : Env → Store → Option (D × Store)) (body : Env → Store → Option (Fl × Env × Store)) : Nat → Env → Store → Option (Fl × Env × Store)
  | 0, _, _ => none
  | k + 1, ρ, st => (match c ρ st with
    | some (.bl true, st1) => (match body ρ st1 with
      | some (.next, ρ2, st2) => whlA c body k ρ2 st2
      | some (.cont, ρ2, st2) => whlA c body k ρ2 st2
      | some (.brk, ρ2, st2) => some (.next, ρ2, st2)
      | some (.ret d, ρ2, st2) => some (.ret d, ρ2, st2)
      | none => none)
    | some (.bl false, st1) => some (.next, ρ, st1)
    | _ => none)
theorem up_whl {v : Sh} {c : Env → Store → Option (D × Store)} {c' : Env → Store → R D} {body : Env → Store → Option (Fl × Env × Store)} {body' : Env → Store → SR} (hc : ∀ ρ st, Up v (c ρ st) (c' (gmE v ρ) (gmS v st))) (hb : ∀ ρ st, UpS v (body ρ st) (body' (gmE v ρ) (gmS v st))) :
    ∀ (k : Nat) (ρ : Env) (st : Store), UpS v (whlA c body k ρ st) (evWhile c' body' k (gmE v ρ) (gmS v st))
  | 0, ρ, st => by intro f ρ' st' h; cases h
  | k + 1, ρ, st => by
    intro f ρ' st' h
    simp only [whlA] at h
    split at h
    · rename_i st1 e1
      have := hc ρ st _ _ e1
      simp only [gm] at this
      simp only [evWhile, this]
      split at h
      · rename_i ρ2 st2 e2
        rw [hb ρ st1 _ _ _ e2]
        exact up_whl hc hb k ρ2 st2 _ _ _ h
      · rename_i ρ2 st2 e2
        rw [hb ρ st1 _ _ _ e2]
        exact up_whl hc hb k ρ2 st2 _ _ _ h
      · rename_i ρ2 st2 e2
        rw [hb ρ st1 _ _ _ e2]
        cases h
        simp only [gmF]
      · rename_i d ρ2 st2 e2
        rw [hb ρ st1 _ _ _ e2]
        cases h
        simp only [gmF]
      · cases h
    · rename_i st1 e1
      have := hc ρ st _ _ e1
      simp only [gm] at this
      simp only [evWhile, this]
      cases h
      simp only [gmF]
    · cases h
def lcA (gs : List (Nat × List D)) (tg : Tg) (c : Env → Store → Option (D × Store)) (e : Env → Store → Option (D × Store)) (ρ : Env) : List D → List D → Store → Option (List D × Store)
  | [], acc, st => if guard gs st then some (acc, st) else none
  | x :: xs, acc, st => if guard gs st then (match asg tg x ρ with
      | none => none
      | some ρ1 => (match c ρ1 st with
        | some (.bl true, st1) => (match e ρ1 st1 with
          | some (d, st2) => if acc.length < LIM then lcA gs tg c e ρ xs (acc ++ [d]) st2 else none
          | none => none)
        | some (.bl false, st1) => lcA gs tg c e ρ xs acc st1
        | _ => none))
    else none
theorem up_lc {v : Sh} {gs : List (Nat × List D)} {tg : Tg} {c e : Env → Store → Option (D × Store)} {c' e' : Env → Store → R D} (hc : ∀ ρ st, Up v (c ρ st) (c' (gmE v ρ) (gmS v st))) (he : ∀ ρ st, Up v (e ρ st) (e' (gmE v ρ) (gmS v st))) {ρ : Env} :
    ∀ (xs acc : List D) (st : Store), UpG (gms v) v (lcA gs tg c e ρ xs acc st) (evLc (gmG v gs) tg c' e' (gmE v ρ) (gms v xs) (gms v acc) (gmS v st))
  | [], acc, st => by
    intro l st' h
    simp only [lcA] at h
    split at h
    · rename_i g
      cases h
      simp only [gms, evLc, guard_gm g, if_true]
    · cases h
  | x :: xs, acc, st => by
    intro l st' h
    simp only [lcA] at h
    split at h
    · rename_i g
      split at h
      · cases h
      · rename_i ρ1 e1
        simp only [gms, evLc, guard_gm g, if_true, asg_gm tg e1]
        split at h
        · rename_i st1 e2
          have := hc ρ1 st _ _ e2
          simp only [gm] at this
          simp only [this]
          split at h
          · rename_i d st2 e3
            split at h
            · rename_i hl
              simp only [he ρ1 st1 _ _ e3, gms_len, hl, if_true]
              have := up_lc hc he xs (acc ++ [d]) st2 _ _ h
              rw [gms_app] at this
              exact this
            · cases h
          · cases h
        · rename_i st1 e2
          have := hc ρ1 st _ _ e2
          simp only [gm] at this
          simp only [this]
          exact up_lc hc he xs acc st1 _ _ h
        · cases h
    · cases h
def lc2A (gs : List (Nat × List D)) (tg : Tg) (src : Env → Store → Option (Src × Store)) (own1 : List Nat) (tg1 : Tg) (e : Env → Store → Option (D × Store)) (ρ : Env) : List D → List D → Store → Option (List D × Store)
  | [], acc, st => if guard gs st then some (acc, st) else none
  | x :: xs, acc, st => if guard gs st then (match asg tg x ρ with
      | none => none
      | some ρ1 => (match src ρ1 st with
        | some (s, st1) => (match lcA s.gs tg1 (fun _ st => some (.bl true, st)) e (wipeE ρ1 own1) s.its acc st1 with
          | some (acc1, st2) => lc2A gs tg src own1 tg1 e ρ xs acc1 st2
          | none => none)
        | none => none))
    else none
theorem up_lc2 {v : Sh} {gs : List (Nat × List D)} {tg tg1 : Tg} {own1 : List Nat} {src : Env → Store → Option (Src × Store)} {src' : Env → Store → R Src} {e : Env → Store → Option (D × Store)} {e' : Env → Store → R D} (hs : ∀ ρ st, UpG (gmSrc v) v (src ρ st) (src' (gmE v ρ) (gmS v st)))
    (he : ∀ ρ st, Up v (e ρ st) (e' (gmE v ρ) (gmS v st))) {ρ : Env} : ∀ (xs acc : List D) (st : Store), UpG (gms v) v (lc2A gs tg src own1 tg1 e ρ xs acc st) (evLc2 (gmG v gs) tg src' own1 tg1 e' (gmE v ρ) (gms v xs) (gms v acc) (gmS v st))
  | [], acc, st => by
    intro l st' h
    simp only [lc2A] at h
    split at h
    · rename_i g
      cases h
      simp only [gms, evLc2, guard_gm g, if_true]
    · cases h
  | x :: xs, acc, st => by
    intro l st' h
    simp only [lc2A] at h
    split at h
    · rename_i g
      split at h
      · cases h
      · rename_i ρ1 e1
        simp only [gms, evLc2, guard_gm g, if_true, asg_gm tg e1]
        split at h
        · rename_i s st1 e2
          simp only [hs ρ1 st _ _ e2]
          split at h
          · rename_i acc1 st2 e3
            have := up_lc (c' := fun _ st => .ok (.bl true) st) (fun ρ st => up_ok (by simp only [gm])) he _ _ _ _ _ e3
            rw [gmE_wipe] at this
            simp only [gmSrc, this]
            exact up_lc2 hs he xs acc1 st2 _ _ h
          · cases h
        · cases h
    · cases h
end AF

/-! Abs4: the evaluator. -/
namespace AF
open PySem
structure KnA where
  cons : List D
  fuel : Nat
  call : Nat → List D → Store → Option (D × Store)
  call1 : Nat → List D → Store → Option (D × Store)
def dunPA (u : DU) (d : D) (st : Store) : Option (D × Store) := match u, d with
  | .len, .int n => if 0 ≤ n ∧ n < 2 ^ 63 then some (.int n, st) else none
  | .bool, .bl b => some (.bl b, st)
  | .add, d => some (d, st)
  | .call, d => some (d, st)
  | _, _ => none
def dunA (kn : KnA) (u : DU) (c g : Nat) (ds : List D) (st : Store) : Option (D × Store) := match ds with
  | x :: r => if insB c x st && dunArgs u r then bindA (kn.call1 g (x :: r) st) fun d st => dunPA u d st else none
  | [] => none
def mkRA (kn : KnA) (c g r : Nat) (ds : List D) (st : Store) : Option (D × Store) := if r ≤ ds.length ∧ ds.length ≤ 1000 then bindA (kn.call1 g (.ref st.length :: (ds.take r ++ [.tup (ds.drop r)])) (st ++ [.ins c []])) fun x st' => (match x with | .non => some (.ref st.length, st') | _ => none) else none
section
variable (r : Rng)
mutual
def eA (kn : KnA) : E → Env → Store → Option (D × Store)
  | .var i, ρ, st => (match ρ[i]? with | some (some d) => some (d, st) | _ => none)
  | .non, _, st => some (.non, st)
  | .bl b, _, st => some (.bl b, st)
  | .int i, _, st => some (.int i, st)
  | .str x, _, st => some (.str x, st)
  | .con i, _, st => (match kn.cons[i]? with | some d => some (d, st) | none => none)
  | .tup es, ρ, st => bindA (esA kn es ρ st) fun ds st => some (.tup ds, st)
  | .lst m es, ρ, st => bindA (esA kn es ρ st) fun ds st => mkA m ds st
  | .any, _, _ => none
  | .mk c g es, ρ, st => bindA (esA kn es ρ st) fun ds st => bindA (kn.call1 g (.ref st.length :: ds) (st ++ [.ins c []])) fun d st' => (match d with | .non => some (.ref st.length, st') | _ => none)
  | .mkR c g r es s, ρ, st => bindA (esA kn es ρ st) fun ds st => bindA (stA kn s ρ st) fun l st => mkRA kn c g r (ds ++ l) st
  | .dun u c g a es, ρ, st => bindA (eA kn a ρ st) fun x st => if insB c x st then bindA (esA kn es ρ st) fun ds st => dunA kn u c g (x :: ds) st else none
  | .fld c a f, ρ, st => bindA (eA kn a ρ st) fun x st => fldA c f x st
  | .prp c g a f, ρ, st => bindA (eA kn a ρ st) fun x st => if insOk c f x st then kn.call1 g [x] st else none
  | .met c g a m es, ρ, st => bindA (eA kn a ρ st) fun x st => if insOk c m x st then bindA (esA kn es ρ st) fun ds st => kn.call g (x :: ds) st else none
  | .isC _ _, _, _ => none
  | .fst _, _, _ => none
  | .bin op m a b, ρ, st => bindA (eA kn a ρ st) fun x st => bindA (eA kn b ρ st) fun y st => binA op m x y st
  | .neg a, ρ, st => bindA (eA kn a ρ st) fun x st => (match asLin x with | some p => some (lin (-p.1) (-p.2), st) | none => none)
  | .not a, ρ, st => bindA (eA kn a ρ st) fun x st => (match x with | .bl b => some (.bl (!b), st) | _ => none)
  | .and a b, ρ, st => bindA (eA kn a ρ st) fun x st => (match x with | .bl true => eA kn b ρ st | .bl false => some (.bl false, st) | _ => none)
  | .or a b, ρ, st => bindA (eA kn a ρ st) fun x st => (match x with | .bl true => some (.bl true, st) | .bl false => eA kn b ρ st | _ => none)
  | .cmp op a b, ρ, st => bindA (eA kn a ρ st) fun x st => bindA (eA kn b ρ st) fun y st => cmpA r op x y st
  | .chn op op' a b c, ρ, st => bindA (eA kn a ρ st) fun x st => bindA (eA kn b ρ st) fun y st => bindA (cmpA r op x y st) fun q st =>
      (match q with | .bl true => bindA (eA kn c ρ st) fun z st => cmpA r op' y z st | .bl false => some (.bl false, st) | _ => none)
  | .ite c a b, ρ, st => bindA (eA kn c ρ st) fun x st => (match x with | .bl true => eA kn a ρ st | .bl false => eA kn b ρ st | _ => none)
  | .idx a b, ρ, st => bindA (eA kn a ρ st) fun x st => bindA (eA kn b ρ st) fun y st => idxA x y st
  | .slc a lo hi, ρ, st => bindA (eA kn a ρ st) fun x st => bindA (oeA kn lo ρ st) fun l st => bindA (oeA kn hi ρ st) fun h st => slcA x l h st
  | .call f es, ρ, st => bindA (esA kn es ρ st) fun ds st => kn.call f ds st
  | .blt f m es, ρ, st => bindA (esA kn es ρ st) fun ds st => bltA r f m ds st
  | .isi t a, ρ, st => bindA (eA kn a ρ st) fun x st => (match isiA t x st with | some b => some (.bl b, st) | none => none)
  | .mth f a es, ρ, st => bindA (eA kn a ρ st) fun x st => if mthK f && recvOk f x st then bindA (esA kn es ρ st) fun ds st => mthA f x ds st else none
  | .lc m own tg it c e, ρ, st => bindA (itA kn it ρ st) fun s st =>
      bindA (lcA s.gs tg (ocA kn c) (eA kn e) (wipeE ρ own) s.its [] st) fun l st => mkA m l st
  | .lc2 m own own1 tg it tg1 it1 e, ρ, st => bindA (itA kn it ρ st) fun s st =>
      bindA (lc2A s.gs tg (itA kn it1) own1 tg1 (eA kn e) (wipeE ρ own) s.its [] st) fun l st => mkA m l st
def esA (kn : KnA) : Es → Env → Store → Option (List D × Store)
  | .nil, _, st => some ([], st)
  | .cons e es, ρ, st => bindA (eA kn e ρ st) fun d st => bindA (esA kn es ρ st) fun ds st => some (d :: ds, st)
def oeA (kn : KnA) : Oe → Env → Store → Option (Option Int × Store)
  | .none, _, st => some (none, st)
  | .some e, ρ, st => bindA (eA kn e ρ st) fun d st => (match d with | .int i => some (some i, st) | _ => none)
def stA (kn : KnA) : Oe → Env → Store → Option (List D × Store)
  | .none, _, st => some ([], st)
  | .some e, ρ, st => bindA (eA kn e ρ st) fun d st => (match seqOf st d with | some l => some (l, st) | none => none)
def ocA (kn : KnA) : Oe → Env → Store → Option (D × Store)
  | .none, _, st => some (.bl true, st)
  | .some e, ρ, st => eA kn e ρ st
def itA (kn : KnA) : It → Env → Store → Option (Src × Store)
  | .of a, ρ, st => bindA (eA kn a ρ st) fun d st => srcA d st
  | .rng1 a, ρ, st => bindA (eA kn a ρ st) fun d st => (match d with
    | .int j => if okR j then some (⟨rngD 0 j.toNat, []⟩, st) else none
    | _ => none)
  | .rng2 a b, ρ, st => bindA (eA kn a ρ st) fun x st => bindA (eA kn b ρ st) fun y st => (match x, y with
    | .int i, .int j => if okR i && okR j then some (⟨rngD i (j - i).toNat, []⟩, st) else none
    | _, _ => none)
  | .zip a b, ρ, st => bindA (eA kn a ρ st) fun x st => bindA (eA kn b ρ st) fun y st => zipA x y st
  | .enum a, ρ, st => bindA (eA kn a ρ st) fun x st => if isLR x then bindA (srcA x st) fun s st => some (⟨enumD 0 s.its, s.gs⟩, st) else none
end
def liftA (q : Option (D × Store)) (k : D → Store → Option (Fl × Env × Store)) : Option (Fl × Env × Store) := match q with
  | some (d, st) => k d st
  | none => none
mutual
def sA (kn : KnA) : S → Env → Store → Option (Fl × Env × Store)
  | .asg t e, ρ, st => liftA (eA r kn e ρ st) fun d st => (match asg t d ρ with | some ρ' => some (.next, ρ', st) | none => none)
  | .setI _ _ _, _, _ => none
  | .expr e, ρ, st => liftA (eA r kn e ρ st) fun _ st => some (.next, ρ, st)
  | .ret e, ρ, st => liftA (eA r kn e ρ st) fun d st => some (.ret d, ρ, st)
  | .retN, ρ, st => some (.ret .non, ρ, st)
  | .any, _, _ => none
  | .setF c a f e, ρ, st => liftA (eA r kn e ρ st) fun d st => liftA (eA r kn a ρ st) fun x st => (match setFA c f x d st with | some st => some (.next, ρ, st) | none => none)
  | .pass, ρ, st => some (.next, ρ, st)
  | .brk, ρ, st => some (.brk, ρ, st)
  | .cont, ρ, st => some (.cont, ρ, st)
  | .ite c a b, ρ, st => liftA (eA r kn c ρ st) fun x st => (match x with | .bl true => ssA kn a ρ st | .bl false => ssA kn b ρ st | _ => none)
  | .whl c a, ρ, st => whlA (eA r kn c) (ssA kn a) kn.fuel ρ st
  | .for_ tg it a, ρ, st => (match itA r kn it ρ st with
    | some (s, st) => forA s.gs tg (ssA kn a) s.its ρ st
    | none => none)
  | .rais _ _, _, _ => none
  | .tryr _ _, _, _ => none
def ssA (kn : KnA) : Ss → Env → Store → Option (Fl × Env × Store)
  | .nil, ρ, st => some (.next, ρ, st)
  | .cons s rr, ρ, st => (match sA kn s ρ st with
    | some (.next, ρ1, st1) => ssA kn rr ρ1 st1
    | x => x)
end
def bodyA (kn : KnA) (f : Fn) (ds : List D) (st : Store) : Option (D × Store) :=
  if ds.length = f.ps then (match ssA r kn f.body (envOf f.n ds) st with
    | some (.next, _, st) => some (.non, st)
    | some (.ret d, _, st) => some (d, st)
    | _ => none)
  else none
def callA (P : Prog) : Nat → Nat → List D → Store → Option (D × Store)
  | 0 => fun _ _ _ => none
  | k + 1 => fun f ds st => (match P.fns[f]? with
    | some fn => bodyA r ⟨P.cons, P.fuel, callA P k, match k with | 0 => fun _ _ _ => none | j + 1 => callA P j⟩ fn ds st
    | none => none)
def _root_.AF.Prog.knA (P : Prog) (k : Nat) : KnA := ⟨P.cons, P.fuel, callA r P k, callA r P (k - 1)⟩
theorem callA_zero (P : Prog) (f : Nat) (ds : List D) (st : Store) : callA r P 0 f ds st = none := rfl
theorem callA_succ (P : Prog) (k f : Nat) (ds : List D) (st : Store) : callA r P (k + 1) f ds st = (match P.fns[f]? with
    | some fn => bodyA r (P.knA r k) fn ds st
    | none => none) := by
  cases k with
  | zero =>
    rw [callA.eq_def]
    dsimp only
    cases h : P.fns[f]? <;> rfl
  | succ j =>
    rw [callA.eq_def]
    dsimp only
    cases h : P.fns[f]? <;> rfl
end
/-! ### what it finds is so -/
structure KOk (v : Sh) (kA : KnA) (kn : Kn) : Prop where
  cons : kn.cons = gms v kA.cons
  fuel : kn.fuel = kA.fuel
  call : ∀ f ds st, Up v (kA.call f ds st) (kn.call f (gms v ds) (gmS v st))
  call1 : ∀ f ds st, Up v (kA.call1 f ds st) (kn.call1 f (gms v ds) (gmS v st))
theorem insB_gm {v : Sh} {c : Nat} {x : D} {st : Store} (h : insB c x st = true) : insB c (gm v x) (gmS v st) = true := by
  unfold insB at h ⊢
  rw [ins_gm]
  cases e : insAt st x with
  | none => rw [e] at h; cases h
  | some p => rw [e] at h; exact h
theorem dunArgs_gm {v : Sh} {u : DU} {ds : List D} (h : dunArgs u ds = true) : dunArgs u (gms v ds) = true := by
  unfold dunArgs at h
  split at h
  · rfl
  · rfl
  · simp [gms, gm, dunArgs]
  · simp [gms, dunArgs]
  · cases h
theorem up_post {v : Sh} {u : DU} {d : D} {st : Store} : Up v (dunPA u d st) (dunPost u (gm v d) (gmS v st)) := by
  unfold dunPA
  split
  · split
    · rename_i h; exact up_ok (by simp only [gm, dunPost]; rw [if_pos h])
    · exact up_none
  · exact up_ok (by simp only [gm, dunPost])
  · exact up_ok (by simp only [dunPost])
  · exact up_ok (by simp only [dunPost])
  · exact up_none
theorem noExc_up {v : Sh} {q : Option (D × Store)} {q' : R D} (h : Up v q q') : Up v q (noExc q') := fun d st e => by rw [h d st e]; rfl
theorem up_dun {v : Sh} {kA : KnA} {kn : Kn} (K : KOk v kA kn) {u : DU} {c g : Nat} {ds : List D} {st : Store} : Up v (dunA kA u c g ds st) (dunI kn u c g (gms v ds) (gmS v st)) := by
  unfold dunA
  split
  · rename_i x r
    split
    · rename_i h
      simp only [Bool.and_eq_true] at h
      simp only [gms, dunI]
      rw [if_pos (by rw [insB_gm h.1, dunArgs_gm h.2]; rfl)]
      have hc := K.call1 g (x :: r) st
      simp only [gms] at hc
      exact up_bind (noExc_up hc) fun d st => up_post
    · exact up_none
  · exact up_none
theorem up_mkR {v : Sh} {kA : KnA} {kn : Kn} (K : KOk v kA kn) {c g r : Nat} {ds : List D} {st : Store} : Up v (mkRA kA c g r ds st) (mkRI kn c g r (gms v ds) (gmS v st)) := by
  unfold mkRA
  split
  · rename_i h
    unfold mkRI
    rw [if_pos (by rw [gms_len]; exact h)]
    have hc := K.call1 g (.ref st.length :: (ds.take r ++ [.tup (ds.drop r)])) (st ++ [.ins c []])
    have e1 : gms v (ds.take r ++ [.tup (ds.drop r)]) = (gms v ds).take r ++ [.tup ((gms v ds).drop r)] := by
      rw [gms_app]
      simp only [gms, gm]
      rw [gms_map, gms_map, gms_map, List.map_take, List.map_drop]
    simp only [gms, gm, gmS_app, gmO, List.map_nil, e1] at hc
    rw [gmS_len]
    refine up_bind (noExc_up hc) fun d st' => ?_
    split
    · exact up_ok (by simp only [gm])
    · exact up_none
  · exact up_none
section
variable {r : Rng} {v : Sh} (hv : In r v.v) {kA : KnA} {kn : Kn} (K : KOk v kA kn)
include hv K
theorem up_test {α β : Type} {g : α → β} {q : Option (D × Store)} {q' : R D} {f1 f2 : Store → Option (α × Store)} {g1 g2 : Store → R β} (h : Up v q q') (h1 : ∀ st, UpG g v (f1 st) (g1 (gmS v st))) (h2 : ∀ st, UpG g v (f2 st) (g2 (gmS v st))) :
    UpG g v (bindA q fun x st => match x with | .bl true => f1 st | .bl false => f2 st | _ => none) (q'.bind fun x st => match x with | .bl true => g1 st | .bl false => g2 st | _ => .bad) := by
  refine up_bind h fun x st => ?_
  cases x with
  | bl b =>
    cases b with
    | true => simp only [gm]; exact h1 st
    | false => simp only [gm]; exact h2 st
  | _ => exact up_none
mutual
theorem eA_ok : ∀ (e : E) (ρ : Env) (st : Store), Up v (eA r kA e ρ st) (evE kn e (gmE v ρ) (gmS v st))
  | .var i, ρ, st => by
    simp only [eA, evE]
    split
    · rename_i d e
      rw [gmE_get, e]
      exact up_ok rfl
    · exact up_none
  | .non, ρ, st => by simp only [eA, evE]; exact up_ok rfl
  | .bl b, ρ, st => by simp only [eA, evE]; exact up_ok rfl
  | .int i, ρ, st => by simp only [eA, evE]; exact up_ok rfl
  | .str x, ρ, st => by simp only [eA, evE]; exact up_ok rfl
  | .con i, ρ, st => by
    simp only [eA, evE]
    split
    · rename_i d e
      rw [K.cons, gms_get, e]
      exact up_ok rfl
    · exact up_none
  | .tup es, ρ, st => by
    simp only [eA, evE]
    exact up_bind (esA_ok es ρ st) fun ds st => up_ok (by simp only [gm])
  | .lst m es, ρ, st => by
    simp only [eA, evE]
    exact up_bind (esA_ok es ρ st) fun ds st => up_mk
  | .any, ρ, st => by simp only [eA]; exact up_none
  | .mk c g es, ρ, st => by
    simp only [eA, evE]
    refine up_bind (esA_ok es ρ st) fun ds st => ?_
    unfold mkI
    have h := K.call1 g (.ref st.length :: ds) (st ++ [.ins c []])
    simp only [gms, gm, gmS_app, gmO, List.map_nil] at h
    rw [gmS_len]
    refine up_bind h fun d st' => ?_
    split
    · exact up_ok (by simp only [gm])
    · exact up_none
  | .mkR c g r es s, ρ, st => by
    simp only [eA, evE]
    refine up_bind (esA_ok es ρ st) fun ds st => up_bind (stA_ok s ρ st) fun l st => ?_
    rw [← gms_app]
    exact up_mkR K
  | .dun u c g a es, ρ, st => by
    simp only [eA, evE]
    refine up_bind (eA_ok a ρ st) fun x st => ?_
    split
    · rename_i h
      rw [if_pos (insB_gm h)]
      refine up_bind (esA_ok es ρ st) fun ds st => ?_
      have := up_dun K (u := u) (c := c) (g := g) (ds := x :: ds) (st := st)
      simp only [gms] at this
      exact this
    · exact up_none
  | .fld c a f, ρ, st => by
    simp only [eA, evE]
    exact up_bind (eA_ok a ρ st) fun x st => up_fld
  | .prp c g a f, ρ, st => by
    simp only [eA, evE]
    refine up_bind (eA_ok a ρ st) fun x st => ?_
    split
    · rename_i h
      rw [if_pos (insOk_gm h)]
      intro d st' e
      have := K.call1 g [x] st d st' e
      simp only [gms] at this
      rw [this]
      rfl
    · exact up_none
  | .met c g a m es, ρ, st => by
    simp only [eA, evE]
    refine up_bind (eA_ok a ρ st) fun x st => ?_
    split
    · rename_i h
      rw [if_pos (insOk_gm h)]
      refine up_bind (esA_ok es ρ st) fun ds st => ?_
      have := K.call g (x :: ds) st
      simp only [gms] at this
      exact this
    · exact up_none
  | .isC _ _, ρ, st => by simp only [eA]; exact up_none
  | .fst _, ρ, st => by simp only [eA]; exact up_none
  | .bin op m a b, ρ, st => by
    simp only [eA, evE]
    exact up_bind (eA_ok a ρ st) fun x st => up_bind (eA_ok b ρ st) fun y st => up_bin
  | .neg a, ρ, st => by
    simp only [eA, evE]
    refine up_bind (eA_ok a ρ st) fun x st => ?_
    split
    · rename_i p e
      rw [asLin_gm e]
      have ez : -(p.1 * v.v + p.2) = -p.1 * v.v + -p.2 := by rw [Int.neg_mul]; omega
      exact up_ok (by rw [lin_gm, ← ez])
    · exact up_none
  | .not a, ρ, st => by
    simp only [eA, evE]
    refine up_bind (eA_ok a ρ st) fun x st => ?_
    split
    · exact up_ok (by simp only [gm])
    · exact up_none
  | .and a b, ρ, st => by
    simp only [eA, evE]
    exact up_test hv K (f1 := fun st => eA r kA b ρ st) (f2 := fun st => some (.bl false, st)) (g1 := fun st => evE kn b (gmE v ρ) st) (g2 := fun st => .ok (.bl false) st) (eA_ok a ρ st) (fun st => eA_ok b ρ st) (fun st => up_ok (by simp only [gm]))
  | .or a b, ρ, st => by
    simp only [eA, evE]
    exact up_test hv K (f1 := fun st => some (.bl true, st)) (f2 := fun st => eA r kA b ρ st) (g1 := fun st => .ok (.bl true) st) (g2 := fun st => evE kn b (gmE v ρ) st) (eA_ok a ρ st) (fun st => up_ok (by simp only [gm])) (fun st => eA_ok b ρ st)
  | .cmp op a b, ρ, st => by
    simp only [eA, evE]
    exact up_bind (eA_ok a ρ st) fun x st => up_bind (eA_ok b ρ st) fun y st => up_cmp hv
  | .chn op op' a b c, ρ, st => by
    simp only [eA, evE]
    refine up_bind (eA_ok a ρ st) fun x st => up_bind (eA_ok b ρ st) fun y st => ?_
    exact up_test hv K (f1 := fun st => bindA (eA r kA c ρ st) fun z st => cmpA r op' y z st) (f2 := fun st => some (.bl false, st)) (g1 := fun st => (evE kn c (gmE v ρ) st).bind fun z st => cmp op' (gm v y) z st) (g2 := fun st => .ok (.bl false) st)
      (up_cmp hv) (fun st => up_bind (eA_ok c ρ st) fun z st => up_cmp hv) (fun st => up_ok (by simp only [gm]))
  | .ite c a b, ρ, st => by
    simp only [eA, evE]
    exact up_test hv K (f1 := fun st => eA r kA a ρ st) (f2 := fun st => eA r kA b ρ st) (g1 := fun st => evE kn a (gmE v ρ) st) (g2 := fun st => evE kn b (gmE v ρ) st) (eA_ok c ρ st) (fun st => eA_ok a ρ st) (fun st => eA_ok b ρ st)
  | .idx a b, ρ, st => by
    simp only [eA, evE]
    exact up_bind (eA_ok a ρ st) fun x st => up_bind (eA_ok b ρ st) fun y st => up_idx
  | .slc a lo hi, ρ, st => by
    simp only [eA, evE]
    exact up_bind (eA_ok a ρ st) fun x st => up_bind (oeA_ok lo ρ st) fun l st => up_bind (oeA_ok hi ρ st) fun h st => up_slc
  | .call f es, ρ, st => by
    simp only [eA, evE]
    exact up_bind (esA_ok es ρ st) fun ds st => K.call f ds st
  | .blt f m es, ρ, st => by
    simp only [eA, evE]
    exact up_bind (esA_ok es ρ st) fun ds st => up_blt hv
  | .isi t a, ρ, st => by
    simp only [eA, evE]
    refine up_bind (eA_ok a ρ st) fun x st => ?_
    split
    · rename_i b e
      rw [isi_gm e]
      exact up_ok (by simp only [gm])
    · exact up_none
  | .mth f a es, ρ, st => by
    simp only [eA, evE]
    refine up_bind (eA_ok a ρ st) fun x st => ?_
    split
    · rename_i h
      simp only [Bool.and_eq_true] at h
      rw [if_pos (recv_gm h.1 h.2)]
      exact up_bind (esA_ok es ρ st) fun ds st => up_mth
    · exact up_none
  | .lc m own tg it c e, ρ, st => by
    simp only [eA, evE]
    refine up_bind (itA_ok it ρ st) fun s st => ?_
    have h := up_lc (gs := s.gs) (tg := tg) (fun ρ st => ocA_ok c ρ st) (fun ρ st => eA_ok e ρ st) (ρ := wipeE ρ own) s.its [] st
    rw [gmE_wipe] at h
    simp only [gms] at h
    exact up_bind h fun l st => up_mk
  | .lc2 m own own1 tg it tg1 it1 e, ρ, st => by
    simp only [eA, evE]
    refine up_bind (itA_ok it ρ st) fun s st => ?_
    have h := up_lc2 (gs := s.gs) (tg := tg) (tg1 := tg1) (own1 := own1) (fun ρ st => itA_ok it1 ρ st) (fun ρ st => eA_ok e ρ st) (ρ := wipeE ρ own) s.its [] st
    rw [gmE_wipe] at h
    simp only [gms] at h
    exact up_bind h fun l st => up_mk
theorem esA_ok : ∀ (es : Es) (ρ : Env) (st : Store), UpG (gms v) v (esA r kA es ρ st) (evEs kn es (gmE v ρ) (gmS v st))
  | .nil, ρ, st => by simp only [esA, evEs]; exact up_ok (by simp only [gms])
  | .cons e es, ρ, st => by
    simp only [esA, evEs]
    exact up_bind (eA_ok e ρ st) fun d st => up_bind (esA_ok es ρ st) fun ds st => up_ok (by simp only [gms])
theorem oeA_ok : ∀ (e : Oe) (ρ : Env) (st : Store), UpG id v (oeA r kA e ρ st) (evOe kn e (gmE v ρ) (gmS v st))
  | .none, ρ, st => by simp only [oeA, evOe]; exact up_ok rfl
  | .some e, ρ, st => by
    simp only [oeA, evOe]
    refine up_bind (eA_ok e ρ st) fun d st => ?_
    split
    · exact up_ok (by simp only [gm]; rfl)
    · exact up_none
theorem stA_ok : ∀ (s : Oe) (ρ : Env) (st : Store), UpG (gms v) v (stA r kA s ρ st) (evSt kn s (gmE v ρ) (gmS v st))
  | .none, ρ, st => by simp only [stA, evSt]; exact up_ok (by simp only [gms])
  | .some e, ρ, st => by
    simp only [stA, evSt]
    refine up_bind (eA_ok e ρ st) fun d st => ?_
    split
    · rename_i l hl
      rw [seqOf_gm, hl]
      exact up_ok rfl
    · exact up_none
theorem ocA_ok : ∀ (e : Oe) (ρ : Env) (st : Store), Up v (ocA r kA e ρ st) (evOc kn e (gmE v ρ) (gmS v st))
  | .none, ρ, st => by simp only [ocA, evOc]; exact up_ok (by simp only [gm])
  | .some e, ρ, st => by simp only [ocA, evOc]; exact eA_ok e ρ st
theorem itA_ok : ∀ (it : It) (ρ : Env) (st : Store), UpG (gmSrc v) v (itA r kA it ρ st) (evIt kn it (gmE v ρ) (gmS v st))
  | .of a, ρ, st => by
    simp only [itA, evIt]
    exact up_bind (eA_ok a ρ st) fun d st => up_src
  | .rng1 a, ρ, st => by
    simp only [itA, evIt]
    refine up_bind (eA_ok a ρ st) fun d st => ?_
    split
    · rename_i j
      simp only [gm]
      split
      · exact up_ok (by simp only [gmSrc, rng_gm, gmG, List.map_nil])
      · exact up_none
    · exact up_none
  | .rng2 a b, ρ, st => by
    simp only [itA, evIt]
    refine up_bind (eA_ok a ρ st) fun x st => up_bind (eA_ok b ρ st) fun y st => ?_
    split
    · rename_i i j
      simp only [gm]
      split
      · exact up_ok (by simp only [gmSrc, rng_gm, gmG, List.map_nil])
      · exact up_none
    · exact up_none
  | .zip a b, ρ, st => by
    simp only [itA, evIt]
    exact up_bind (eA_ok a ρ st) fun x st => up_bind (eA_ok b ρ st) fun y st => up_zip
  | .enum a, ρ, st => by
    simp only [itA, evIt]
    refine up_bind (eA_ok a ρ st) fun x st => ?_
    split
    · rename_i h
      have e : (match gm v x with | .tup _ => (.bad : R Src) | x => (srcOf x (gmS v st)).bind fun s st => .ok ⟨enumD 0 s.its, s.gs⟩ st) = (srcOf (gm v x) (gmS v st)).bind fun s st => .ok ⟨enumD 0 s.its, s.gs⟩ st := by
        cases x <;> first | (simp [isLR] at h; done) | skip
        all_goals simp only [gm]
      refine Eq.mpr (congrArg (UpG (gmSrc v) v _) e) ?_
      exact up_bind up_src fun s st => up_ok (by simp only [gmSrc, enum_gm])
    · exact up_none
end
theorem ups_lift {q : Option (D × Store)} {q' : R D} {ρ' : Env} {k : D → Store → Option (Fl × Env × Store)} {k' : D → Store → SR} (h : Up v q q') (hk : ∀ d st, UpS v (k d st) (k' (gm v d) (gmS v st))) : UpS v (liftA q k) (lift q' ρ' k') := by
  intro f ρ st e
  cases q with
  | none => cases e
  | some p =>
    obtain ⟨d, s⟩ := p
    rw [h d s rfl, lift_ok]
    exact hk d s _ _ _ e
theorem ups_ok {f : Fl} {ρ : Env} {st : Store} {q : SR} (h : q = .ok (gmF v f) (gmE v ρ) (gmS v st)) : UpS v (some (f, ρ, st)) q := fun _ _ _ e => by cases e; exact h
mutual
theorem sA_ok : ∀ (s : S) (ρ : Env) (st : Store), UpS v (sA r kA s ρ st) (evS kn s (gmE v ρ) (gmS v st))
  | .asg t e, ρ, st => by
    simp only [sA, evS]
    refine ups_lift hv K (eA_ok hv K e ρ st) fun d st => ?_
    split
    · rename_i ρ' h
      rw [asg_gm t h]
      exact ups_ok hv K rfl
    · exact ups_none
  | .setI _ _ _, ρ, st => by simp only [sA]; exact ups_none
  | .expr e, ρ, st => by
    simp only [sA, evS]
    exact ups_lift hv K (eA_ok hv K e ρ st) fun d st => ups_ok hv K rfl
  | .ret e, ρ, st => by
    simp only [sA, evS]
    exact ups_lift hv K (eA_ok hv K e ρ st) fun d st => ups_ok hv K rfl
  | .retN, ρ, st => by simp only [sA, evS]; exact ups_ok hv K (by simp only [gmF, gm])
  | .any, ρ, st => by simp only [sA]; exact ups_none
  | .setF c a f e, ρ, st => by
    simp only [sA, evS]
    refine ups_lift hv K (eA_ok hv K e ρ st) fun d st => ups_lift hv K (eA_ok hv K a ρ st) fun x st => ?_
    split
    · rename_i st' h
      rw [setF_gm h]
      exact ups_ok hv K rfl
    · exact ups_none
  | .pass, ρ, st => by simp only [sA, evS]; exact ups_ok hv K rfl
  | .brk, ρ, st => by simp only [sA, evS]; exact ups_ok hv K rfl
  | .cont, ρ, st => by simp only [sA, evS]; exact ups_ok hv K rfl
  | .ite c a b, ρ, st => by
    simp only [sA, evS]
    refine ups_lift hv K (eA_ok hv K c ρ st) fun x st => ?_
    cases x with
    | bl b' =>
      cases b' with
      | true => simp only [gm]; exact ssA_ok a ρ st
      | false => simp only [gm]; exact ssA_ok b ρ st
    | _ => exact ups_none
  | .whl c a, ρ, st => by
    simp only [sA, evS]
    rw [K.fuel]
    exact up_whl (fun ρ st => eA_ok hv K c ρ st) (fun ρ st => ssA_ok a ρ st) _ ρ st
  | .for_ tg it a, ρ, st => by
    simp only [sA, evS]
    split
    · rename_i s st' h
      rw [itA_ok hv K it ρ st _ _ h]
      exact up_for (fun ρ st => ssA_ok a ρ st) s.its ρ st'
    · exact ups_none
  | .rais _ _, ρ, st => by simp only [sA]; exact ups_none
  | .tryr _ _, ρ, st => by simp only [sA]; exact ups_none
theorem ssA_ok : ∀ (s : Ss) (ρ : Env) (st : Store), UpS v (ssA r kA s ρ st) (evSs kn s (gmE v ρ) (gmS v st))
  | .nil, ρ, st => by simp only [ssA, evSs]; exact ups_ok hv K rfl
  | .cons s rr, ρ, st => by
    simp only [ssA, evSs]
    have h := sA_ok s ρ st
    cases e : sA r kA s ρ st with
    | none => exact ups_none
    | some p =>
      obtain ⟨f, ρ1, st1⟩ := p
      rw [h _ _ _ e]
      cases f with
      | next => exact ssA_ok rr ρ1 st1
      | _ => exact ups_ok hv K rfl
end
theorem bodyA_ok (f : Fn) (ds : List D) (st : Store) : Up v (bodyA r kA f ds st) (callBody kn f (gms v ds) (gmS v st)) := by
  intro d st' h
  unfold bodyA at h
  unfold callBody
  split at h
  · rename_i hl
    rw [if_pos (by rw [gms_len]; exact hl), ← gmE_env]
    split at h
    · rename_i ρ st1 e
      cases h
      rw [ssA_ok hv K f.body _ _ _ _ _ e]
      simp only [gmF, gm]
    · rename_i d ρ st1 e
      cases h
      rw [ssA_ok hv K f.body _ _ _ _ _ e]
      simp only [gmF]
    · cases h
  · cases h
end
theorem callA_ok0 {r : Rng} {v : Sh} (hv : In r v.v) {P : Prog} (hc : gms v P.cons = P.cons) : ∀ k, (∀ f ds st, Up v (callA r P k f ds st) (evCall P k f (gms v ds) (gmS v st))) ∧ (∀ f ds st, Up v (callA r P (k - 1) f ds st) (evCall P (k - 1) f (gms v ds) (gmS v st))) := by
  intro k
  induction k with
  | zero =>
    have z : ∀ f ds st, Up v (callA r P 0 f ds st) (evCall P 0 f (gms v ds) (gmS v st)) := fun f ds st => by rw [callA_zero]; exact up_none
    exact ⟨z, z⟩
  | succ k ih =>
    refine ⟨fun f ds st => ?_, ih.1⟩
    rw [callA_succ, evCall_succ]
    cases P.fns[f]? with
    | some fn => exact bodyA_ok hv (⟨hc.symm, rfl, ih.1, ih.2⟩ : KOk v (P.knA r k) (P.kn k)) _ _ _
    | none => exact up_none
theorem callA_ok {r : Rng} {v : Sh} (hv : In r v.v) {P : Prog} (hc : clos P.cons = true) {k f : Nat} {ds : List D} {st st' : Store} {d : D} (h : callA r P k f ds st = some (d, st')) : evCall P k f (gms v ds) (gmS v st) = .ok (gm v d) (gmS v st') :=
  (callA_ok0 hv (clos_gm _ hc) k).1 f ds st d st' h
end AF

namespace K21
open AF PySem LF
abbrev P : Prog := txt.prog
def kn (k : Nat) : Kn := P.kn k
theorem call_of {f : Nat} {fn : Fn} (h : P.fns[f]? = some fn) (k : Nat) (ds : List D) (st : Store) : evCall P (k + 1) f ds st = callBody (kn k) fn ds st := by
  rw [evCall_succ, h]; rfl
theorem kn_call (k f : Nat) (ds : List D) (st : Store) : (kn k).call f ds st = evCall P k f ds st := rfl
theorem mul_ok {i j : Int} {st : Store} {m : Bool} (h : small64 i = true) : bin .mul m (.int i) (.int j) st = .ok (.int (i * j)) st := by simp [bin, h]
theorem small_of {b : Int} {i : Int} (h1 : -b ≤ i) (h2 : i ≤ b) (hb : b < 2 ^ 64) : small64 i = true := by
  simp only [small64, Bool.and_eq_true, decide_eq_true_eq]; omega
theorem filt_true {α : Type} (l : List α) : l.filter (fun _ => true) = l := List.filter_eq_self.mpr fun _ _ => rfl
end K21

namespace K21
open AF PySem LF
/-- what a step of the store leaves alone -/
structure Keep (X : List Nat) (st st' : Store) : Prop where
  len : st.length ≤ st'.length
  get : ∀ j, j < st.length → j ∉ X → st'[j]? = st[j]?
theorem Keep.refl {X : List Nat} {st : Store} : Keep X st st := ⟨Nat.le_refl _, fun _ _ _ => rfl⟩
theorem Keep.set {a : Nat} {st : Store} {x : Ob} : Keep [a] st (st.set a x) := ⟨by rw [List.length_set]; exact Nat.le_refl _, fun j _ hj => List.getElem?_set_ne (by simpa using Ne.symm (by simpa using hj))⟩
theorem Keep.snoc {st : Store} {x : Ob} : Keep [] st (st ++ [x]) := ⟨by simp, fun j hj _ => List.getElem?_append_left hj⟩
theorem Keep.trans {X : List Nat} {a b c : Store} (h1 : Keep X a b) (h2 : Keep X b c) : Keep X a c := ⟨Nat.le_trans h1.len h2.len, fun j hj hx => (h2.get j (Nat.lt_of_lt_of_le hj h1.len) hx).trans (h1.get j hj hx)⟩
theorem Keep.mono {X Y : List Nat} {a b : Store} (h : Keep X a b) (hxy : ∀ j ∈ X, j ∈ Y) : Keep Y a b := ⟨h.len, fun j hj hx => h.get j hj fun z => hx (hxy j z)⟩
theorem Keep.at {X : List Nat} {a b : Store} (h : Keep X a b) {j : Nat} {o : Ob} (e : a[j]? = some o) (hj : j ∉ X) : b[j]? = some o := (h.get j (List.getElem?_eq_some_iff.mp e).1 hj).trans e
theorem lt_of {st : Store} {j : Nat} {o : Ob} (e : st[j]? = some o) : j < st.length := (List.getElem?_eq_some_iff.mp e).1
theorem get_last {st : Store} {x : Ob} {n : Nat} (h : st.length = n) : (st ++ [x])[n]? = some x := by subst h; simp
end K21

namespace K21
open AF PySem LF
/-- the law's source of chance, at a place of the store -/
def Src2 (r : Nat) (st : Store) : Prop := ∃ a b : Int, st[r]? = some (.lst [.int a, .int b]) ∧ 0 ≤ a ∧ 0 ≤ b ∧ b < 2147483648
theorem lw_draw (k : Nat) (r : Nat) (m : Int) (st : Store) (hr : Src2 r st) (hm : 0 < m) (hm2 : m < 10 ^ 100) :
    ∃ (i : Int) (st' : Store), evCall P (k + 1) i_law_draw [.ref r, .int m] st = .ok (.int i) st' ∧ 0 ≤ i ∧ i < m ∧ Src2 r st' ∧ Keep [r] st st' ∧ st'.length = st.length := by
  obtain ⟨a, b, h, ha, hb, hb2⟩ := hr
  have hl := lt_of h
  rw [call_of (fn := f_law_draw) rfl]
  by_cases hp : 0 < a
  · refine ⟨a % m, st.set r (.lst [.int (a / m), .int b]), ?_, Int.emod_nonneg _ (by omega), Int.emod_lt_of_pos _ hm, ⟨a / m, b, List.getElem?_set_self hl, Int.ediv_nonneg ha (by omega), hb, hb2⟩, Keep.set, by simp⟩
    have hdv : bin .fdiv false (.int a) (.int m) st = .ok (.int (a / m)) st := by simp only [bin]; rw [if_pos ⟨hm, by omega⟩]
    have hmd : bin .mod false (.int a) (.int m) st = .ok (.int (a % m)) st := by simp only [bin]; rw [if_pos hm]
    simp only [callBody, f_law_draw, AF.envOf, evSs, evS, evE, evEs]
    simp [idx, seqOf, lstOf, h, itemAt, ixI, cmp, hp, blt, hdv, hmd, asg, setI]
  · have hv0 : 0 ≤ b * 48271 % 2147483647 := Int.emod_nonneg _ (by decide)
    have hv1 : b * 48271 % 2147483647 < 2147483647 := Int.emod_lt_of_pos _ (by decide)
    have hsm : small64 (b * 48271 % 2147483647) = true := small_of (b := 2147483647) (by omega) (by omega) (by decide)
    refine ⟨(b * 48271 % 2147483647 * (b * 48271 % 2147483647) % 2147483629 / 64) % m, st.set r (.lst [.int a, .int (b * 48271 % 2147483647)]), ?_, Int.emod_nonneg _ (by omega), Int.emod_lt_of_pos _ hm, ⟨a, _, List.getElem?_set_self hl, ha, hv0, by omega⟩, Keep.set, by simp⟩
    have hmu : bin .mul false (.int b) (.int 48271) st = .ok (.int (b * 48271)) st := by simp only [bin]; rw [if_pos (by simp [small64])]
    have hmo : bin .mod false (.int (b * 48271)) (.int 2147483647) st = .ok (.int (b * 48271 % 2147483647)) st := by simp only [bin]; rw [if_pos (by decide)]
    generalize b * 48271 % 2147483647 = v at *
    generalize hS : st.set r (.lst [.int a, .int v]) = S
    have hS1 : S[r]? = some (.lst [.int a, .int v]) := by rw [← hS]; exact List.getElem?_set_self hl
    have h1 : bin .mul false (.int v) (.int v) S = .ok (.int (v * v)) S := by simp only [bin]; rw [if_pos (by rw [hsm]; rfl)]
    have h2 : bin .mod false (.int (v * v)) (.int 2147483629) S = .ok (.int (v * v % 2147483629)) S := by simp only [bin]; rw [if_pos (by decide)]
    have h3 : bin .fdiv false (.int (v * v % 2147483629)) (.int 64) S = .ok (.int (v * v % 2147483629 / 64)) S := by simp only [bin]; rw [if_pos ⟨by decide, by decide⟩]
    have h4 : bin .mod false (.int (v * v % 2147483629 / 64)) (.int m) S = .ok (.int (v * v % 2147483629 / 64 % m)) S := by simp only [bin]; rw [if_pos hm]
    simp only [callBody, f_law_draw, AF.envOf, evSs, evS, evE, evEs]
    simp [idx, seqOf, lstOf, h, itemAt, ixI, cmp, hp, blt, hmu, hmo, asg, setI, hS, hS1, h1, h2, h3, h4]
end K21

namespace K21
open AF PySem LF
theorem lw_of (k : Nat) (r : Nat) (L : List D) (st : Store) (hr : Src2 r st) (h1 : 0 < L.length) (h2 : L.length < 1000) :
    ∃ (d : D) (st' : Store), evCall P (k + 2) i_law_of [.ref r, .lst L] st = .ok d st' ∧ d ∈ L ∧ Src2 r st' ∧ Keep [r] st st' ∧ st'.length = st.length := by
  obtain ⟨i, st', q1, q2, q3, q4, q5, q6⟩ := lw_draw k r (L.length : Int) st hr (by omega) (by omega)
  have hi : i.toNat < L.length := by omega
  refine ⟨L[i.toNat], st', ?_, List.getElem_mem hi, q4, q5, q6⟩
  rw [call_of (fn := f_law_of) rfl]
  simp [callBody, f_law_of, AF.envOf, evSs, evS, evE, evEs, kn_call, blt, seqOf, lstOf, q1, idx, itemAt, ixI, q2, q3, hi]
end K21

namespace K21
open AF PySem LF
theorem scr_item {ns : List Int} {i : Nat} (h : i < ns.length) (st : Store) : ∃ v, idx (.scr ns) (eN i) st = .ok (.int v) st := by
  have e : itemAt ns (i : Int) = some ns[i] := by rw [itemAt_nat h, List.getElem?_eq_getElem h]
  exact ⟨ns[i], by simp only [idx, e]⟩
theorem lw_source (k : Nat) (ns : List Int) (i : Nat) (st : Store) : ∃ a b : Int, evCall P (k + 1) i_law_source [.scr ns, eN i] st = .ok (.ref st.length) (st ++ [Ob.lst [.int a, .int b]]) ∧ 0 ≤ a ∧ 0 ≤ b ∧ b < 2147483648 := by
  rw [call_of (fn := f_law_source) rfl]
  have key : ∃ c : Int, 0 ≤ c ∧ evSs (kn k) f_law_source.body (AF.envOf 3 [.scr ns, eN i]) st = evSs (kn k) (match f_law_source.body with | .cons _ (.cons _ r) => r | x => x) [some (.scr ns), some (eN i), some (.int c)] st := by
    by_cases hi : i < ns.length
    · obtain ⟨v, hv⟩ := scr_item hi st
      refine ⟨if v < 0 then -v else v, by split <;> omega, ?_⟩
      simp only [f_law_source, AF.envOf, evSs, evS, evE, evEs]
      simp [asg, blt, cmp, hi, hv]
    · refine ⟨0, by omega, ?_⟩
      simp only [f_law_source, AF.envOf, evSs, evS, evE, evEs]
      simp [asg, blt, cmp, hi]
  obtain ⟨c, hc, e⟩ := key
  have hm : ∀ x : Int, 0 ≤ x % 2147483646 ∧ x % 2147483646 < 2147483646 := fun x => ⟨Int.emod_nonneg _ (by decide), Int.emod_lt_of_pos _ (by decide)⟩
  by_cases h : c < 1000000000000000000
  · refine ⟨0, 1 + (c * 7919 + 104729 * (i : Int)) % 2147483646, ?_, by omega, by have := hm (c * 7919 + 104729 * (i : Int)); omega, by have := hm (c * 7919 + 104729 * (i : Int)); omega⟩
    rw [callBody, if_pos (show [D.scr ns, eN i].length = f_law_source.ps from rfl), show f_law_source.n = 3 from rfl, e]
    simp only [f_law_source, evSs, evS, evE, evEs]
    simp [cmp, bin, small64, h, blt, mkL, LIM]
  · refine ⟨c, 1 + (c + (i : Int)) % 2147483646, ?_, by omega, by have := hm (c + (i : Int)); omega, by have := hm (c + (i : Int)); omega⟩
    rw [callBody, if_pos (show [D.scr ns, eN i].length = f_law_source.ps from rfl), show f_law_source.n = 3 from rfl, e]
    simp only [f_law_source, evSs, evS, evE, evEs]
    simp [cmp, bin, small64, h, blt, mkL, LIM]
end K21

namespace K21
open AF PySem LF
def okA (q : Option (D × Store)) : Bool := match q with
  | some (d, st) => (match lstOf st d with | some l => (match bools l with | some bs => bs.all id | none => false) | none => false)
  | none => false
theorem notin_bools {st : Store} {d : D} {l : List D} {bs : List Bool} (h : lstOf st d = some l) (hb : bools l = some bs) (ha : bs.all id = true) : inD st (.bl false) d = some false := by
  have e1 := lst_look h
  rw [look_bools hb] at e1
  have e2 : look st (.bl false) = some (.bool false) := py_bl _ _ _
  unfold inD
  rw [e1, e2]
  simp only [Option.map_some]
  congr 1
  rw [List.any_map, List.any_eq_false]
  intro b hb
  have := List.all_eq_true.mp ha b hb
  simp only [id] at this
  simp [PyData.eqv, this]
theorem okA_use {r : Rng} {k f : Nat} {ds : List D} (h : okA (callA r P k f ds []) = true) {v : Int} (h1 : r.lo ≤ v) (h2 : v ≤ r.hi) (pre : Store) :
    ∃ d st', evCall P k f (gms ⟨v, pre⟩ ds) pre = .ok d (pre ++ st') ∧ inD (pre ++ st') (.bl false) d = some false := by
  cases e : callA r P k f ds [] with
  | none => rw [e] at h; cases h
  | some p =>
    obtain ⟨d, st⟩ := p
    rw [e] at h
    have hq := callA_ok (v := ⟨v, pre⟩) ⟨h1, h2⟩ (by decide +kernel : clos P.cons = true) e
    have e0 : gmS ⟨v, pre⟩ [] = pre := by unfold gmS; simp
    rw [e0] at hq
    unfold okA at h
    dsimp only at h
    split at h
    · rename_i l hl
      split at h
      · rename_i bs hb
        refine ⟨_, _, hq, ?_⟩
        have e1 : lstOf (gmS ⟨v, pre⟩ st) (gm ⟨v, pre⟩ d) = some (gms ⟨v, pre⟩ l) := by rw [lstOf_gm, hl]; rfl
        rw [bools_gm hb] at e1
        exact notin_bools e1 hb h
      · cases h
    · cases h
/-- the number itself -/
def xV : D := .exn 0 [.int 1, .int 0]
theorem xV_gm (v : Int) (pre : Store) : gms ⟨v, pre⟩ [xV] = [.int v] := by simp [gms, gm, xV, asLin]
theorem int_gm (v i : Int) (pre : Store) : gms ⟨v, pre⟩ [.int i] = [.int i] := by simp [gms, gm]
end K21

namespace K21
open AF PySem LF
def okB (q : Option (D × Store)) : Bool := match q with
  | some (d, st) => (match lstOf st d with | some l => decide (l.length ≤ 400) && (match bools l with | some bs => bs.all id | none => false) | none => false)
  | none => false
theorem first_1 : okB (callA ⟨10, 1000000000000000000000000000000⟩ P 29 i_law_first_right [xV] []) = true := by decide +kernel
theorem led_1 : okB (callA ⟨10, 1000000000000000000000000000000⟩ P 29 i_law_led_right [xV] []) = true := by decide +kernel
theorem led_8 : okB (callA ⟨8, 8⟩ P 29 i_law_led_right [.int 8] []) = true := by decide +kernel
end K21

namespace K21
open AF PySem LF
def liftD : D := .tup [.str [115, 99, 97, 110], .int 4, .int 20, .int 5, .tup [.str [98], .int 3], .str [100, 111, 119, 110]]
def nearD : D := .tup [.str [110, 101, 97, 114], .int 4, .int 20, .int 5, .tup [.str [98], .int 3], .str [100, 111, 119, 110]]
def callD (a b : Int) (x y : D) : D := .tup [.int 1000, .tup [x, .int a], .tup [y, .int b]]
def callsD : D := .tup [callD 3 3 (.str [98]) (.str [116]), callD 3 3 (.str [116]) (.str [98]), callD 0 0 (.str [98]) (.str [116]), callD 0 0 (.str [116]) (.str [98])]
def env2 (x2 x3 : Option D) : AF.Env := [some liftD, some callsD, x2, x3, none]
abbrev ρ2 : AF.Env := env2 (some nearD) none
abbrev r00 : Rng := ⟨0, 0⟩
def isT (q : Option (D × Store)) : Bool := match q with
  | some (.bl true, _) => true
  | _ => false
def argS : S → E
  | .expr (.mth _ _ (.cons e .nil)) => e
  | .asg _ (.lst _ (.cons e .nil)) => e
  | .ret (.bin _ _ _ (.lst _ (.cons e .nil))) => e
  | _ => .non
theorem isT_all {e : E} (h : isT (eA r00 (P.knA r00 28) e ρ2 []) = true) (pre : Store) : ∃ s, evE (kn 28) e ρ2 pre = .ok (.bl true) (pre ++ s) := by
  cases q : eA r00 (P.knA r00 28) e ρ2 [] with
  | none => rw [q] at h; cases h
  | some p =>
    obtain ⟨d, st⟩ := p
    rw [q] at h
    have hv : In r00 (⟨0, pre⟩ : Sh).v := ⟨Int.le_refl _, Int.le_refl _⟩
    have hk := callA_ok0 (r := r00) (v := ⟨0, pre⟩) hv (P := P) (clos_gm _ (by decide +kernel : clos P.cons = true)) 28
    have K : KOk ⟨0, pre⟩ (P.knA r00 28) (P.kn 28) := ⟨(clos_gm _ (by decide +kernel : clos P.cons = true)).symm, rfl, hk.1, hk.2⟩
    have h2 := eA_ok hv K e ρ2 [] d st q
    have e0 : gmS ⟨0, pre⟩ [] = pre := by unfold gmS; simp
    have e1 : gmE ⟨0, pre⟩ ρ2 = ρ2 := by rfl
    rw [e0, e1] at h2
    unfold isT at h
    split at h
    · rename_i e3
      cases e3
      exact ⟨_, h2⟩
    · cases h
theorem app_step {e : E} {r : Nat} {l : List D} {st : Store} (h : isT (eA r00 (P.knA r00 28) e ρ2 []) = true) (hf : ∀ s, evE (kn 28) e (env2 (some nearD) (some (.ref r))) s = evE (kn 28) e ρ2 s) (ha : st[r]? = some (.lst l)) (hl : l.length < 64) :
    ∃ st', evS (kn 28) (.expr (.mth .append (.var 3) (.cons e .nil))) (env2 (some nearD) (some (.ref r))) st = .ok .next (env2 (some nearD) (some (.ref r))) st' ∧ st'[r]? = some (.lst (l ++ [.bl true])) := by
  obtain ⟨s, hs⟩ := isT_all h st
  have hb : (st ++ s)[r]? = some (.lst l) := by rw [List.getElem?_append_left (lt_of ha)]; exact ha
  refine ⟨(st ++ s).set r (.lst (l ++ [.bl true])), ss_expr (x := .non) ?_, List.getElem?_set_self (lt_of hb)⟩
  have hv : (env2 (some nearD) (some (.ref r)))[3]? = some (some (.ref r)) := rfl
  have hr : recvOk .append (.ref r) st = true := by simp [recvOk, lstOf, ha]
  simp only [evE, evEs, hv, R.bind_ok, hr, if_true, hf, hs, mth, hb]
  rw [if_pos (by unfold LIM; omega)]
theorem t21_3 : isT (eA r00 (P.knA r00 28) (argS f_law_second_right_s3) ρ2 []) = true := by decide +kernel
theorem g21 : callA r00 P 28 i_law_great [] [] = some (.tup [liftD, callsD], []) := by kernel_rfl
theorem t21_4 : isT (eA r00 (P.knA r00 28) (argS f_law_second_right_s4) ρ2 []) = true := by decide +kernel
theorem t21_5 : isT (eA r00 (P.knA r00 28) (argS f_law_second_right_s5) ρ2 []) = true := by decide +kernel
theorem t21_6 : isT (eA r00 (P.knA r00 28) (argS f_law_second_right_s6) ρ2 []) = true := by decide +kernel
theorem t21_7 : isT (eA r00 (P.knA r00 28) (argS f_law_second_right_s7) ρ2 []) = true := by decide +kernel
theorem t21_8 : isT (eA r00 (P.knA r00 28) (argS f_law_second_right_s8) ρ2 []) = true := by decide +kernel
theorem t21_9 : isT (eA r00 (P.knA r00 28) (argS f_law_second_right_s9) ρ2 []) = true := by decide +kernel
theorem t21_10 : isT (eA r00 (P.knA r00 28) (argS f_law_second_right_s10) ρ2 []) = true := by decide +kernel
theorem t21_11 : isT (eA r00 (P.knA r00 28) (argS f_law_second_right_s11) ρ2 []) = true := by decide +kernel
theorem t21_12 : isT (eA r00 (P.knA r00 28) (argS f_law_second_right_s12) ρ2 []) = true := by decide +kernel
theorem t21_13 : isT (eA r00 (P.knA r00 28) (argS f_law_second_right_s13) ρ2 []) = true := by decide +kernel
theorem t21_14 : isT (eA r00 (P.knA r00 28) (argS f_law_second_right_s14) ρ2 []) = true := by decide +kernel
end K21

namespace K21
open AF PySem LF
/-- a list of which nothing is False -/
def AllT (st : Store) (d : D) : Prop := ∃ l bs, lstOf st d = some l ∧ bools l = some bs ∧ bs.all id = true ∧ l.length ≤ 800
def AllH (st : Store) (d : D) : Prop := ∃ l bs, lstOf st d = some l ∧ bools l = some bs ∧ bs.all id = true ∧ l.length ≤ 400
theorem AllH.t {st : Store} {d : D} (h : AllH st d) : AllT st d := by
  obtain ⟨l, bs, h1, h2, h3, h4⟩ := h
  exact ⟨l, bs, h1, h2, h3, by omega⟩
theorem bools_len : ∀ {l : List D} {bs : List Bool}, bools l = some bs → bs.length = l.length
  | [], _, h => by cases h; rfl
  | d :: l, bs, h => by
    cases d <;> simp only [bools] at h <;> first | (cases h; done) | skip
    split at h
    · rename_i s e
      cases h
      simp [bools_len e]
    · cases h
theorem okB_all {r : Rng} {k f : Nat} {ds : List D} (h : okB (callA r P k f ds []) = true) {v : Int} (h1 : r.lo ≤ v) (h2 : v ≤ r.hi) (pre : Store) :
    ∃ d st', evCall P k f (gms ⟨v, pre⟩ ds) pre = .ok d (pre ++ st') ∧ AllH (pre ++ st') d := by
  cases e : callA r P k f ds [] with
  | none => rw [e] at h; cases h
  | some p =>
    obtain ⟨d, st⟩ := p
    rw [e] at h
    have hq := callA_ok (v := ⟨v, pre⟩) ⟨h1, h2⟩ (by decide +kernel : clos P.cons = true) e
    have e0 : gmS ⟨v, pre⟩ [] = pre := by unfold gmS; simp
    rw [e0] at hq
    unfold okB at h
    dsimp only at h
    split at h
    · rename_i l hll
      simp only [Bool.and_eq_true, decide_eq_true_eq] at h
      obtain ⟨hl, h⟩ := h
      split at h
      · rename_i bs hb
        refine ⟨_, _, hq, l, bs, ?_, hb, h, hl⟩
        have e1 : lstOf (gmS ⟨v, pre⟩ st) (gm ⟨v, pre⟩ d) = some (gms ⟨v, pre⟩ l) := by rw [lstOf_gm, hll]; rfl
        rw [bools_gm hb] at e1
        exact e1
      · cases h
    · cases h
theorem lst_app {st st' : Store} {d : D} {l : List D} (h : lstOf st d = some l) : lstOf (st ++ st') d = some l := by
  cases d <;> simp only [lstOf] at h ⊢ <;> first | exact h | (cases h; done) | skip
  split at h
  · rename_i e
    rw [List.getElem?_append_left (lt_of e), e]
    exact h
  · cases h
theorem bools_app : ∀ {l k : List D} {bs cs : List Bool}, bools l = some bs → bools k = some cs → bools (l ++ k) = some (bs ++ cs)
  | [], k, bs, cs, h1, h2 => by cases h1; exact h2
  | d :: l, k, bs, cs, h1, h2 => by
    cases d <;> simp only [bools] at h1 <;> first | (cases h1; done) | skip
    split at h1
    · rename_i s e
      cases h1
      simp only [List.cons_append, bools, bools_app e h2]
    · cases h1
theorem no_false {st : Store} {d : D} (h : AllT st d) : cmp .isin (.bl false) d st = .ok (.bl false) st := by
  obtain ⟨l, bs, h1, h2, h3, _⟩ := h
  simp only [cmp, notin_bools h1 h2 h3]
theorem src_app {r : Nat} {st st' : Store} (h : Src2 r st) : Src2 r (st ++ st') := by
  obtain ⟨a, b, e, h⟩ := h
  exact ⟨a, b, by rw [List.getElem?_append_left (lt_of e)]; exact e, h⟩
theorem first_all (n : Int) (h1 : 10 ≤ n) (h2 : n ≤ 1000000000000000000000000000000) (pre : Store) : ∃ d st', evCall P 29 i_law_first_right [.int n] pre = .ok d (pre ++ st') ∧ AllH (pre ++ st') d := by
  have := okB_all first_1 (v := n) h1 h2 pre
  rw [xV_gm] at this
  exact this
theorem led_all (n : Int) (h1 : 10 ≤ n) (h2 : n ≤ 1000000000000000000000000000000) (pre : Store) : ∃ d st', evCall P 29 i_law_led_right [.int n] pre = .ok d (pre ++ st') ∧ AllH (pre ++ st') d := by
  have := okB_all led_1 (v := n) h1 h2 pre
  rw [xV_gm] at this
  exact this
theorem led8_all (pre : Store) : ∃ d st', evCall P 29 i_law_led_right [.int 8] pre = .ok d (pre ++ st') ∧ AllH (pre ++ st') d := by
  have := okB_all led_8 (v := 8) (Int.le_refl _) (Int.le_refl _) pre
  rw [int_gm] at this
  exact this
theorem great_all (pre : Store) : ∃ s, evCall P 28 i_law_great [] pre = .ok (.tup [liftD, callsD]) (pre ++ s) := by
  have hq := callA_ok (v := ⟨0, pre⟩) (r := r00) ⟨Int.le_refl _, Int.le_refl _⟩ (by decide +kernel : clos P.cons = true) g21
  have e0 : gmS ⟨0, pre⟩ [] = pre := by unfold gmS; simp
  rw [e0] at hq
  have e1 : gm ⟨0, pre⟩ (.tup [liftD, callsD]) = .tup [liftD, callsD] := by rfl
  have e2 : gms ⟨0, pre⟩ [] = [] := by rfl
  rw [e1, e2] at hq
  exact ⟨[], by rw [List.append_nil]; exact hq⟩
abbrev near2 (r : Nat) : AF.Env := env2 (some nearD) (some (.ref r))
theorem second_all (pre : Store) : ∃ d st', evCall P 29 i_law_second_right [] pre = .ok d st' ∧ AllH st' d := by
  obtain ⟨s0, h0⟩ := great_all pre
  have h1 : evS (kn 28) f_law_second_right_s1 [none, none, none, none, none] pre = .ok .next (env2 none none) (pre ++ s0) :=
    ss_asg (ee_call es_nil h0) rfl
  have h2 : evS (kn 28) f_law_second_right_s2 (env2 none none) (pre ++ s0) = .ok .next ρ2 (pre ++ s0) := by
    have : evE (kn 28) (.bin .add false (.tup (.cons (.str [110, 101, 97, 114]) .nil)) (.slc (.var 0) (.some (.int 1)) .none)) (env2 none none) (pre ++ s0) = .ok nearD (pre ++ s0) := by rfl
    exact ss_asg this rfl
  generalize pre ++ s0 = st0 at *
  obtain ⟨s1, h3'⟩ := isT_all t21_3 st0
  have h3 : evS (kn 28) f_law_second_right_s3 ρ2 st0 = .ok .next (near2 (st0 ++ s1).length) (st0 ++ s1 ++ [Ob.lst [.bl true]]) := by
    have : evE (kn 28) (.lst true (.cons (argS f_law_second_right_s3) .nil)) ρ2 st0 = .ok (.ref (st0 ++ s1).length) (st0 ++ s1 ++ [Ob.lst [.bl true]]) := by
      simp only [evE, evEs, h3', R.bind_ok]; rfl
    exact ss_asg this rfl
  have a3 : (st0 ++ s1 ++ [Ob.lst [.bl true]])[(st0 ++ s1).length]? = some (.lst [.bl true]) := get_last rfl
  generalize (st0 ++ s1).length = r at *
  generalize st0 ++ s1 ++ [Ob.lst [.bl true]] = st3 at *
  obtain ⟨st4, h4, a4⟩ := app_step (r := r) t21_4 (fun s => by rfl) a3 (by decide)
  obtain ⟨st5, h5, a5⟩ := app_step (r := r) t21_5 (fun s => by rfl) a4 (by decide)
  obtain ⟨st6, h6, a6⟩ := app_step (r := r) t21_6 (fun s => by rfl) a5 (by decide)
  obtain ⟨st7, h7, a7⟩ := app_step (r := r) t21_7 (fun s => by rfl) a6 (by decide)
  obtain ⟨st8, h8, a8⟩ := app_step (r := r) t21_8 (fun s => by rfl) a7 (by decide)
  obtain ⟨st9, h9, a9⟩ := app_step (r := r) t21_9 (fun s => by rfl) a8 (by decide)
  obtain ⟨st10, h10, a10⟩ := app_step (r := r) t21_10 (fun s => by rfl) a9 (by decide)
  obtain ⟨st11, h11, a11⟩ := app_step (r := r) t21_11 (fun s => by rfl) a10 (by decide)
  obtain ⟨st12, h12, a12⟩ := app_step (r := r) t21_12 (fun s => by rfl) a11 (by decide)
  obtain ⟨st13, h13, a13⟩ := app_step (r := r) t21_13 (fun s => by rfl) a12 (by decide)
  obtain ⟨s14, h14'⟩ := isT_all t21_14 st13
  have b13 := lst_app (st' := s14) (show lstOf st13 (.ref r) = some _ from by simp only [lstOf, a13]; rfl)
  have hb : evE (kn 28) (.bin .add false (.var 3) (.lst false (.cons (argS f_law_second_right_s14) .nil))) (near2 r) st13 = bin .add false (.ref r) (.lst [.bl true]) (st13 ++ s14) := by
    have hf : evE (kn 28) (argS f_law_second_right_s14) (near2 r) st13 = evE (kn 28) (argS f_law_second_right_s14) ρ2 st13 := by rfl
    have hv : (near2 r)[3]? = some (some (.ref r)) := rfl
    simp only [evE, evEs, hv, hf, h14', R.bind_ok]; rfl
  have hl := bin_lst (m := false) b13 (show lstOf (st13 ++ s14) (.lst [.bl true]) = some _ from rfl)
  rw [if_pos (by decide)] at hl
  have h14 : evS (kn 28) f_law_second_right_s14 (near2 r) st13 = .ok (.ret (.lst (List.replicate 12 (.bl true)))) (near2 r) (st13 ++ s14) := ss_ret' (hb.trans hl)
  refine ⟨.lst (List.replicate 12 (.bl true)), st13 ++ s14, ?_, List.replicate 12 (.bl true), List.replicate 12 true, rfl, rfl, rfl, by decide⟩
  rw [call_of (fn := f_law_second_right) rfl]
  refine body_ret (ρ' := near2 r) rfl ?_
  rw [show f_law_second_right.body = .cons f_law_second_right_s1 (.cons f_law_second_right_s2 (.cons f_law_second_right_s3 (.cons f_law_second_right_s4 (.cons f_law_second_right_s5 (.cons f_law_second_right_s6 (.cons f_law_second_right_s7 (.cons f_law_second_right_s8 (.cons f_law_second_right_s9 (.cons f_law_second_right_s10 (.cons f_law_second_right_s11 (.cons f_law_second_right_s12 (.cons f_law_second_right_s13 (.cons f_law_second_right_s14 .nil))))))))))))) from rfl]
  rw [show AF.envOf f_law_second_right.n [] = [none, none, none, none, none] from rfl, ss_next h1, ss_next h2, ss_next h3]
  rw [ss_next (show evS (kn 28) f_law_second_right_s4 (near2 r) st3 = .ok .next (near2 r) st4 from h4)]
  rw [ss_next (show evS (kn 28) f_law_second_right_s5 (near2 r) st4 = .ok .next (near2 r) st5 from h5)]
  rw [ss_next (show evS (kn 28) f_law_second_right_s6 (near2 r) st5 = .ok .next (near2 r) st6 from h6)]
  rw [ss_next (show evS (kn 28) f_law_second_right_s7 (near2 r) st6 = .ok .next (near2 r) st7 from h7)]
  rw [ss_next (show evS (kn 28) f_law_second_right_s8 (near2 r) st7 = .ok .next (near2 r) st8 from h8)]
  rw [ss_next (show evS (kn 28) f_law_second_right_s9 (near2 r) st8 = .ok .next (near2 r) st9 from h9)]
  rw [ss_next (show evS (kn 28) f_law_second_right_s10 (near2 r) st9 = .ok .next (near2 r) st10 from h10)]
  rw [ss_next (show evS (kn 28) f_law_second_right_s11 (near2 r) st10 = .ok .next (near2 r) st11 from h11)]
  rw [ss_next (show evS (kn 28) f_law_second_right_s12 (near2 r) st11 = .ok .next (near2 r) st12 from h12)]
  rw [ss_next (show evS (kn 28) f_law_second_right_s13 (near2 r) st12 = .ok .next (near2 r) st13 from h13)]
  exact ss_ret h14
/-- both lists together -/
theorem both_all (ρ : AF.Env) (st : Store) : ∃ d u, evE (kn 29) (.bin .add false (.call i_law_second_right .nil) (.call i_law_led_right (.cons (.int 8) .nil))) ρ st = .ok d u ∧ AllT u d := by
  obtain ⟨d1, s1, a1, l1, b1, p1, p2, p3, p4⟩ := second_all st
  obtain ⟨d2, s2, a2, l2, b2, q1, q2, q3, q4⟩ := led8_all s1
  have hb := bin_lst (m := false) (lst_app (st' := s2) p1) q1
  rw [if_pos (by unfold LIM; omega)] at hb
  refine ⟨.lst (l1 ++ l2), s1 ++ s2, ?_, l1 ++ l2, b1 ++ b2, rfl, bools_app p2 q2, by simp [p3, q3], by simp; omega⟩
  exact ee_bin (ee_call es_nil a1) (ee_call (es_cons rfl es_nil) a2) hb
def env21 (ns : List Int) (x1 x2 x3 : Option D) : AF.Env := [some (.scr ns), x1, x2, x3]
theorem round21 (ns : List Int) (i : Nat) (x2 x3 : Option D) (st : Store) : ∃ y2 y3 st', evSs (kn 29) flaw_b1 (env21 ns (some (eN i)) x2 x3) st = .ok .next (env21 ns (some (eN i)) y2 y3) st' := by
  obtain ⟨a, b, q1, q2, q3, q4⟩ := lw_source 28 ns i st
  generalize hr0 : st.length = r at *
  have hr : Src2 r (st ++ [Ob.lst [.int a, .int b]]) := ⟨a, b, get_last hr0, q2, q3, q4⟩
  generalize st ++ [Ob.lst [.int a, .int b]] = s0 at *
  have h1 : evS (kn 29) flaw_s1 (env21 ns (some (eN i)) x2 x3) st = .ok .next (env21 ns (some (eN i)) (some (.ref r)) x3) s0 :=
    ss_asg (ee_call (es_cons (ee_var rfl) (es_cons (ee_var rfl) es_nil)) q1) rfl
  obtain ⟨v, s1, a1, a2, a3, a4, _, _⟩ := lw_draw 28 r 1000000000 s0 hr (by decide) (by decide)
  have p0 : ∀ s, bin .pow false (.int 10) (.int 30) s = .ok (.int 1000000000000000000000000000000) s := fun s => rfl
  have p9 : ∀ s, bin .pow false (.int 10) (.int 9) s = .ok (.int 1000000000) s := fun s => rfl
  obtain ⟨d, s2, b1, b2, _, _, _⟩ := lw_of 27 r [.int 1000000000000000000000000000000, .int 1000000000000000000000000000000, .int (10 + v)] s1 a4 (by simp) (by simp)
  have hd : ∃ n : Int, d = .int n ∧ 10 ≤ n ∧ n ≤ 1000000000000000000000000000000 := by
    simp only [List.mem_cons, List.not_mem_nil, or_false] at b2
    rcases b2 with rfl | rfl | rfl
    · exact ⟨_, rfl, by decide, by decide⟩
    · exact ⟨_, rfl, by decide, by decide⟩
    · exact ⟨_, rfl, by omega, by omega⟩
  obtain ⟨n, rfl, n1, n2⟩ := hd
  have h2 : evS (kn 29) flaw_s2 (env21 ns (some (eN i)) (some (.ref r)) x3) s0 = .ok .next (env21 ns (some (eN i)) (some (.ref r)) (some (.int n))) s2 :=
    ss_asg (ee_call (es_cons (ee_var rfl) (es_cons (ee_lst (es_cons (ee_bin rfl rfl (p0 _)) (es_cons (ee_bin rfl rfl (p0 _)) (es_cons (ee_bin rfl (ee_call (es_cons (ee_var rfl) (es_cons (ee_bin rfl rfl (p9 _)) es_nil)) a1) rfl) es_nil)))) es_nil)) b1) rfl
  obtain ⟨d1, t1, c1, c2⟩ := first_all n n1 n2 s2
  obtain ⟨d2, t2, e1, e2⟩ := led_all n n1 n2 (s2 ++ t1)
  have h3 : evS (kn 29) flaw_s3 (env21 ns (some (eN i)) (some (.ref r)) (some (.int n))) s2 = .ok .next (env21 ns (some (eN i)) (some (.ref r)) (some (.int n))) (s2 ++ t1 ++ t2) :=
    ss_skip (ee_or_f (ee_cmp rfl (ee_call (es_cons (ee_var rfl) es_nil) c1) (no_false c2.t)) (ee_cmp rfl (ee_call (es_cons (ee_var rfl) es_nil) e1) (no_false e2.t)))
  have h4 : ∃ s4, evS (kn 29) flaw_s4 (env21 ns (some (eN i)) (some (.ref r)) (some (.int n))) (s2 ++ t1 ++ t2) = .ok .next (env21 ns (some (eN i)) (some (.ref r)) (some (.int n))) s4 := by
    generalize s2 ++ t1 ++ t2 = s3
    have hc : evE (kn 29) (.cmp .eq (.var 1) (.int 0)) (env21 ns (some (eN i)) (some (.ref r)) (some (.int n))) s3 = .ok (.bl (D.beq (eN i) (.int 0))) s3 := ee_cmp (ee_var rfl) rfl (cmp_eqb (eqD_pl s3 rfl rfl))
    cases hb : D.beq (eN i) (.int 0) with
    | false =>
      rw [hb] at hc
      exact ⟨s3, ss_skip (ee_and_f hc)⟩
    | true =>
      rw [hb] at hc
      obtain ⟨d, u, w1, w2⟩ := both_all (env21 ns (some (eN i)) (some (.ref r)) (some (.int n))) s3
      exact ⟨u, ss_skip (ee_and_t hc (ee_cmp rfl w1 (no_false w2)))⟩
  obtain ⟨s4, h4⟩ := h4
  refine ⟨some (.ref r), some (.int n), s4, ?_⟩
  rw [show flaw_b1 = .cons flaw_s1 (.cons flaw_s2 (.cons flaw_s3 (.cons flaw_s4 .nil))) from rfl, ss_next h1, ss_next h2, ss_next h3]
  exact ss_last h4
theorem rounds21 (ns : List Int) (hn : ns.length ≤ 63) : ∃ y1 y2 y3 st', evS (kn 29) flaw_s5 (env21 ns none none none) [] = .ok .next (env21 ns y1 y2 y3) st' := by
  obtain ⟨ρ', st', q1, y1, y2, y3, q2⟩ := evFor_preS (tg := .name 1) (body := evSs (kn 29) flaw_b1) eN
    (fun p ρ s => ∃ y1 y2 y3, ρ = env21 ns y1 y2 y3)
    (List.range (1 + (if (2 : Int) < ns.length then (2 : Int) else ns.length)).toNat) [] (env21 ns none none none) [] ⟨_, _, _, rfl⟩ (by
      rintro p x q ρ s e ⟨y1, y2, y3, rfl⟩
      obtain ⟨z2, z3, s2, b1⟩ := round21 ns x y2 y3 s
      exact ⟨_, _, s2, rfl, b1, _, _, _, rfl⟩)
  refine ⟨y1, y2, y3, st', ?_⟩
  have hk : okR (1 + (if (2 : Int) < ns.length then (2 : Int) else ns.length)) = true := by
    simp only [okR, Bool.and_eq_true, decide_eq_true_eq]
    split <;> omega
  rw [q2, ← rngD_range] at q1
  simp only [flaw_s5, evS, evIt, evE, evEs]
  simp only [env21, List.getElem?_cons_zero, R.bind_ok, blt, bin, hk, if_true]
  exact q1
theorem pure_ (ns : List Int) (h : ns.length ≤ 63) : ∃ st, evCall P 30 ilaw [.scr ns] [] = .ok (.bl true) st := by
  obtain ⟨y1, y2, y3, st, h5⟩ := rounds21 ns h
  have h6 : evS (kn 29) flaw_s6 (env21 ns y1 y2 y3) st = .ok (.ret (.bl true)) (env21 ns y1 y2 y3) st := ss_ret' rfl
  refine ⟨st, ?_⟩
  rw [call_of (fn := flaw) rfl]
  refine body_ret (ρ' := env21 ns y1 y2 y3) rfl ?_
  rw [show flaw.body = .cons flaw_s5 (.cons flaw_s6 .nil) from rfl, show AF.envOf flaw.n [.scr ns] = env21 ns none none none from rfl, ss_next h5]
  exact ss_ret h6
end K21

open PySem PySem.W PySem.Calls PyProof.Rows
set_option maxHeartbeats 0
theorem PySem.Challenge.cw_anyfloors_k21_houses_at_every_bound_holds : PySem.Challenge.rw_anyfloors_k21_houses_at_every_bound.Holds := by
  w_on; o_law
  refine HandSHeadRun.head_any (r := OpenLaw.row PySem.Challenge.rw_anyfloors_k21_houses_at_every_bound) (q := view (OpenLaw.row PySem.Challenge.rw_anyfloors_k21_houses_at_every_bound).prog [134]) (H := K21.txt.hook 5) (ob := K21.ob) (M := 12000) (loose := K21.loose) (d := HandSHeadRun.topDef (OpenLaw.row PySem.Challenge.rw_anyfloors_k21_houses_at_every_bound).prog 134) (kwd := []) K21.ob_eq
    (by kernel_rfl) (fun s => by kernel_rfl) K21.run (by kernel_rfl) (by kernel_rfl) (by kernel_rfl) (by rfl) (by first | assumption | decide +kernel) (by decide +kernel) ⟨rfl, rfl, rfl, rfl, rfl, by decide +kernel⟩ ?hw ?hc
  case hw => w_witness2
  case hc =>
    exact AF.walk_A (p := K21.txt) (l := PySem.Challenge.rw_anyfloors_k21_houses_at_every_bound) (n := 63) (k := 30) (li := 101) (le := ⟨"law", ["script", "k", "source", "n"], K21.top 134, K21.flaw, none⟩) rfl (by decide) (by kernel_rfl) ⟨rfl, by decide, by decide⟩ (by kernel_rfl) K21.chk (by kernel_rfl) rfl rfl (by kernel_rfl) K21.pure_
